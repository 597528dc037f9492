import PyProof.Rows.All
import Wide.All
import OpenK.AllK
import Wide.FinOn
import HandS.ForMost
import HandS.ForExc
import HandS.Wide
import HandS.Strs
import HandS.SetFor
import HandS.TupSets
import HandS.Slots
import HandS.ExcInit
import KE.KeyNested
import HandS.Lambda
import HandS.Flow
import HandS.TupAny
import HandS.Deep
import HandS.IsInst
import HandS.SortInts
import HandS.Zip
import KE.SortData
import KE.DataMinMax
import KE.DataCmp
import HandS.Zip0
import PyProof.EnumMake
import PyProof.Draws
import HandS.Conv
import KE.KUnpackStar
import PyProof.DictRoadsH
import HandS.TupLen
import PyProof.DictMoreH
import KE.KDictSum
import KE.KDictItemsList
import KE.KDictCopyH
import HandS.DictTup
import HandS.DictComp
import HandS.SlotsOwn
import HandS.Defaults
import HandS.SortKw
import HandS.Star
import OpenK.KMeth
import HandS.Style
import HandS.ExcIs
import HandS.ExcField
import HandS.FStr
import PyProof.StrBlock2
import KE.KDictZip
import KE.KItemsList
import HandS.List
import HandS.Text
import HandS.TupLe
import HandS.ReplaceLit
import HandS.ReplaceDef
import PyProof.MeetsStr3
import KE.LtData
import KE.DataEq
import KE.KDictPairs
import HandS.Iter
import KE.KAssignIn
import PyProof.InstNe
import HandS.Property
import HandS.Codes
import KE.KEqDict
import KE.SortKeyHeap
import PySem.Challenge.RW_staysmet_k04_wrong_texts_of_moves
import HandS.ReplaceList
set_option Elab.async false
set_option linter.all false
set_option maxRecDepth 100000
set_option maxHeartbeats 1000000
namespace Sm
open PySem PySem.Spec PyProof.Rows L2
def lstOb (its : List Value) (n : Nat) : Obj := { cls := .type "list", data := .seq its.toArray n }
def MkO (b : Addr) (its : List Value) (m p : Nat) : HO := .ext fun h => ∃ n, (n = m ∨ n = m + 1 + p) ∧ h.get? b = some (lstOb its n)
def MkBy (x : Option HO) (p : Addr) : Prop := ∃ b its m, x = some (MkO b its m p)
def MkH (o : HO) : Prop := ∃ p, MkBy (some o) p
def oneH (b : Addr) (o : Obj) : Heap := { objs := (Array.replicate b { cls := .none, data := .freed }).push o }
theorem oneH_at {b : Addr} {its : List Value} {n : Nat} : (oneH b (lstOb its n)).get? b = some (lstOb its n) := by
  unfold Heap.get? oneH
  rw [Array.getElem?_push, if_pos (by rw [Array.size_replicate])]
  rfl
theorem oneH_no {b c : Addr} {o : Obj} (h : c ≠ b) : (oneH b o).get? c = none := by
  unfold Heap.get? oneH
  dsimp only
  rw [Array.getElem?_push, if_neg (by rw [Array.size_replicate]; exact h), Array.getElem?_replicate]
  by_cases hc : c < b
  · rw [if_pos hc]
  · rw [if_neg hc]
theorem lstOb_inj {its its' : List Value} {n n' : Nat} (h : lstOb its n = lstOb its' n') : n = n' := by
  unfold lstOb at h
  injection h with _ _ h _
  injection h
theorem mkO_at {b b' : Addr} {its its' : List Value} {m m' p p' n : Nat} (e : MkO b its m p = MkO b' its' m' p') (h : n = m ∨ n = m + 1 + p) : n = m' ∨ n = m' + 1 + p' := by
  injection e with e
  have z : ∃ n', (n' = m' ∨ n' = m' + 1 + p') ∧ (oneH b (lstOb its n)).get? b' = some (lstOb its' n') := by
    rw [← congrFun e (oneH b (lstOb its n))]
    exact ⟨n, h, oneH_at⟩
  obtain ⟨n', h1, h2⟩ := z
  by_cases hb : b' = b
  · subst hb
    rw [oneH_at] at h2
    rw [lstOb_inj (Option.some.inj h2)]
    exact h1
  · rw [oneH_no hb] at h2; cases h2
theorem four {m m' p q : Nat} (a1 : m = m' ∨ m = m' + 1 + q) (a2 : m + 1 + p = m' ∨ m + 1 + p = m' + 1 + q) (a3 : m' = m ∨ m' = m + 1 + p) (a4 : m' + 1 + q = m ∨ m' + 1 + q = m + 1 + p) : p = q := by omega
theorem MkBy.uniq {x : Option HO} {p q : Addr} (h1 : MkBy x p) (h2 : MkBy x q) : p = q := by
  obtain ⟨b, its, m, rfl⟩ := h1
  obtain ⟨b', its', m', e⟩ := h2
  have e := Option.some.inj e
  have a1 := mkO_at e (n := m) (.inl rfl)
  have a2 := mkO_at e (n := m + 1 + p) (.inr rfl)
  have a3 := mkO_at e.symm (n := m') (.inl rfl)
  have a4 := mkO_at e.symm (n := m' + 1 + q) (.inr rfl)
  exact four a1 a2 a3 a4
theorem MkBy.mk {o : HO} {p : Addr} (h : MkBy (some o) p) : MkH o := ⟨p, h⟩
theorem nk_ext {φ : Heap → Prop} (q : ∀ h : Heap, φ h → ∃ a o, h.get? a = some o ∧ ∀ its n, o ≠ lstOb its n) : ¬ MkH (.ext φ) := by
  rintro ⟨p, b, its, m, e⟩
  injection Option.some.inj e with e
  have z : φ (oneH b (lstOb its m)) := by
    rw [e]
    exact ⟨m, .inl rfl, oneH_at⟩
  obtain ⟨a, o, h1, h2⟩ := q _ z
  by_cases hb : a = b
  · subst hb
    rw [oneH_at] at h1
    exact h2 _ _ (Option.some.inj h1).symm
  · rw [oneH_no hb] at h1; cases h1
class NoMk (o : HO) : Prop where
  no : ¬ MkH o
instance {xs : List V} : NoMk (.lst xs) := ⟨fun ⟨_, _, _, _, e⟩ => nomatch (show HO.lst xs = HO.ext _ from Option.some.inj e)⟩
instance {xs : List V} : NoMk (.tup xs) := ⟨fun ⟨_, _, _, _, e⟩ => nomatch (show HO.tup xs = HO.ext _ from Option.some.inj e)⟩
instance {xs : List (Key × V)} : NoMk (.dK xs) := ⟨fun ⟨_, _, _, _, e⟩ => nomatch (show HO.dK xs = HO.ext _ from Option.some.inj e)⟩
instance {xs : List (List Key × V)} : NoMk (.dT xs) := ⟨fun ⟨_, _, _, _, e⟩ => nomatch (show HO.dT xs = HO.ext _ from Option.some.inj e)⟩
instance {S : Int → Bool} {n : Nat} : NoMk (.set S n) := ⟨fun ⟨_, _, _, _, e⟩ => nomatch (show HO.set S n = HO.ext _ from Option.some.inj e)⟩
instance {C dx : Addr} {fs : List (Str × V)} : NoMk (.ins C dx fs) := ⟨fun ⟨_, _, _, _, e⟩ => nomatch (show HO.ins C dx fs = HO.ext _ from Option.some.inj e)⟩
instance {x : Addr} : NoMk (.own x) := ⟨fun ⟨_, _, _, _, e⟩ => nomatch (show HO.own x = HO.ext _ from Option.some.inj e)⟩
instance {fs : List (Str × V)} : NoMk (.xd fs) := ⟨fun ⟨_, _, _, _, e⟩ => nomatch (show HO.xd fs = HO.ext _ from Option.some.inj e)⟩
instance {f x : Addr} : NoMk (.met f x) := ⟨fun ⟨_, _, _, _, e⟩ => nomatch (show HO.met f x = HO.ext _ from Option.some.inj e)⟩
instance {lo hi : Int} : NoMk (.rng lo hi) := ⟨fun ⟨_, _, _, _, e⟩ => nomatch (show HO.rng lo hi = HO.ext _ from Option.some.inj e)⟩
instance {o : Obj} {u : HO} : NoMk (.frz o u) := ⟨fun ⟨_, _, _, _, e⟩ => nomatch (show HO.frz o u = HO.ext _ from Option.some.inj e)⟩
instance {ps : Array Value} : NoMk (.tbl ps) := ⟨fun ⟨_, _, _, _, e⟩ => nomatch (show HO.tbl ps = HO.ext _ from Option.some.inj e)⟩
theorem cls_no {o : Obj} {T : Value} (h : o.cls = T) (hT : T ≠ .type "list") : ∀ its n, o ≠ lstOb its n := fun its n e => hT (by rw [← h, e]; rfl)
instance {a C dx : Addr} {vs : List (Option V)} : NoMk (SlX.SlO a C dx vs) := ⟨nk_ext fun h ⟨sl, e, _⟩ => ⟨a, _, e, cls_no (T := .ref C) rfl (fun z => nomatch z)⟩⟩
instance {a C : Addr} {d : Option Addr} : NoMk (L2.exo a C d) := ⟨nk_ext fun h ⟨t, e⟩ => ⟨a, _, e, cls_no (T := .ref C) rfl (fun z => nomatch z)⟩⟩
instance {dx : Addr} {fs : List (Str × V)} : NoMk (L2.exd dx fs) := ⟨nk_ext fun h ⟨mA, ⟨o, es, ep, e, hd, _⟩, _⟩ => ⟨dx, o, e, fun its n z => by rw [z] at hd; cases hd⟩⟩
instance {w : World} {a : Addr} {S : Int → Bool} {n : Nat} : NoMk (L2.SetO w a S n) := ⟨nk_ext fun h z => by
  obtain ⟨o, ho, hc⟩ : ∃ o, h.get? a = some o ∧ o.cls = .type "set" := by
    obtain ⟨o, es, ep, t, e, c, _⟩ := z
    exact ⟨o, e, c.1⟩
  exact ⟨a, o, ho, cls_no hc (by decide)⟩⟩
instance {P : Program} {w : World} {a : Addr} {L : List (Addr × List Int)} : NoMk (SetTO P w a L) := ⟨nk_ext fun h z => by
  obtain ⟨es, ep, t, ob, _⟩ := z
  obtain ⟨o, e, c, _⟩ := ob
  exact ⟨a, o, e, cls_no c.1 (by decide)⟩⟩
instance {c : Addr} {q : Str} : NoMk (LamX.CodeO c q) := ⟨nk_ext fun h ⟨oc, vs, t, e, d, _⟩ => ⟨c, oc, e, fun its n z => by rw [z] at d; cases d⟩⟩
end Sm
set_option Elab.async false
set_option linter.all false
set_option maxRecDepth 100000
set_option maxHeartbeats 4000000
namespace Sm
open PySem PySem.Spec PyProof.Rows L2

inductive D where
  | non | bl (b : Bool) | int (i : Int) | str (x : Str)
  | tup (xs : List D) | lst (xs : List D)
  | dct (ks vs : List D) | set (xs : List D) | obj (c : Nat) (fs : List D)
  /-- a dict whose keys are numbers or texts -/
  | dki (ks : List Key) (vs : List D)
  /-- a tuple whose object is known to be bare -/
  | ptup (xs : List D)
  /-- the script: a list that is read alone -/
  | scr (xs : List D)
  /-- an exception of the class c: its attributes -/
  | exc (c : Nat) (ns : List Str) (fs : List D)
  /-- an object of the class c that is owned and changes: its fields (a list among them is its own, too) -/
  | obo (c : Nat) (ns : List Str) (fs : List D)
  /-- an object of the class c that stays as it is: its attributes -/
  | ins (c : Nat) (ns : List Str) (fs : List D)
instance : Inhabited D := ⟨.non⟩
mutual
def D.nk : D → Option NestedKey
  | .non => some .none
  | .bl b => some (.num (if b = true then 1 else 0))
  | .int i => some (.num i)
  | .str x => some (.text x)
  | .tup ds => (D.nks ds).map .tup
  | _ => none
def D.nks : List D → Option (List NestedKey)
  | [] => some []
  | d :: ds => (D.nk d).bind fun k => (D.nks ds).map (k :: ·)
end
abbrev Ent := NestedKey × Addr × V
abbrev EntR (e : Ent) (x : NestedKey × Addr × Value) : Prop := e.1 = x.1 ∧ e.2.1 = x.2.1 ∧ RelV e.2.2 x.2.2
def DctP (P : Program) (w : World) (a : Addr) (es : List Ent) (h : Heap) : Prop :=
  ∃ (o : Obj) (ds : Array DictEntry) (ep : Nat) (xs : List (NestedKey × Addr × Value)), h.get? a = some o ∧ o.ExactDict ∧ o.data = .dict ds ep ∧ ds.toList = xs.map (entryOfKey (nestedKind P w)) ∧ (xs.map (·.1)).Nodup ∧ Paired EntR es xs ∧ es.length ≤ sizeLine ∧ (a == sysModules) = false
def DctO (P : Program) (w : World) (a : Addr) (es : List Ent) (o : Obj) : HO := .ext fun h => DctP P w a es h ∧ h.get? a = some o
def DctAt (P : Program) (w : World) (H : Hp) (a : Addr) (es : List Ent) : Prop := ∃ o, H a = some (DctO P w a es o)
theorem DctAt.mono {P : Program} {w : World} {H H' : Hp} {a : Addr} {es : List Ent} (h : DctAt P w H a es) (k : ∀ o, H a = some (DctO P w a es o) → H' a = some (DctO P w a es o)) : DctAt P w H' a es := let ⟨o, e⟩ := h; ⟨o, k _ e⟩
theorem DctAt.upd {P : Program} {w : World} {H : Hp} {a : Addr} {es : List Ent} {o : Obj} : DctAt P w (upd H a (DctO P w a es o)) a es := ⟨o, upd_same⟩
def DkP (P : Program) (w : World) (a : Addr) (kvs : List (Key × V)) (o : Obj) (h : Heap) : Prop :=
  (kvs.length ≤ sizeLine ∧ (a == sysModules) = false ∧ ∃ vs, KV kvs vs ∧ h.DictOf (mixKind P w) a vs) ∧ h.get? a = some o
def DkO (P : Program) (w : World) (a : Addr) (kvs : List (Key × V)) (o : Obj) : HO := .ext (DkP P w a kvs o)
def DkAt (P : Program) (w : World) (H : Hp) (a : Addr) (kvs : List (Key × V)) : Prop := ∃ o, H a = some (DkO P w a kvs o)
theorem DkAt.mono {P : Program} {w : World} {H H' : Hp} {a : Addr} {kvs : List (Key × V)} (h : DkAt P w H a kvs) (k : ∀ o, H a = some (DkO P w a kvs o) → H' a = some (DkO P w a kvs o)) : DkAt P w H' a kvs := let ⟨o, e⟩ := h; ⟨o, k _ e⟩
def TpAt (H : Hp) (a : Addr) (vs : List V) : Prop := ∃ o : Obj, o.dict = none ∧ H a = some (.frz o (.tup vs))
theorem TpAt.same {H H' : Hp} {a : Addr} {vs : List V} (e : Same H H') (h : TpAt H a vs) : TpAt H' a vs := let ⟨o, z, q⟩ := h; ⟨o, z, e _ _ q⟩
instance {P : Program} {w : World} {a : Addr} {es : List Ent} {o : Obj} : NoMk (DctO P w a es o) := ⟨nk_ext fun h ⟨⟨o', _, _, _, e, c, _⟩, _⟩ => ⟨a, o', e, cls_no c.1 (by decide)⟩⟩
instance {P : Program} {w : World} {a : Addr} {kvs : List (Key × V)} {o : Obj} : NoMk (DkO P w a kvs o) := ⟨nk_ext fun h ⟨⟨_, _, _, _, o', _, _, e, c, _⟩, _⟩ => ⟨a, o', e, cls_no c.1 (by decide)⟩⟩
def fewDeep (es : List Ent) : Prop := ∀ e ∈ es, e.1.depth ≤ 8

def exl (a C dx : Addr) : HO := .ext fun h => ∃ (o : Obj) (vs : Array Value), h.get? a = some o ∧ o.cls = .ref C ∧ o.dict = some dx ∧ o.data = .fields vs
theorem exl_ok {P : Program} {w : World} {H : Hp} {h : Heap} {a C dx : Addr} {o : Obj} {vs : Array Value} (e : h.get? a = some o) (h1 : o.cls = .ref C) (h2 : o.dict = some dx) (h3 : o.data = .fields vs) : ObjOk P w H h a (exl a C dx) :=
  ⟨⟨o, vs, e, h1, h2, h3⟩, ⟨o, e⟩, fun _ _ ⟨o, vs, q, r⟩ k => ⟨o, vs, k o q, r⟩⟩
instance {a C dx : Addr} : NoMk (exl a C dx) := ⟨nk_ext fun h ⟨o, _, e, c, _⟩ => ⟨a, o, e, cls_no c (fun z => nomatch z)⟩⟩
def ExoL (H : Hp) (a C dx : Addr) (fs : List (Str × V)) : Prop := (H a = some (L2.exo a C (some dx)) ∨ H a = some (exl a C dx)) ∧ (H dx = some (L2.exd dx fs) ∨ H dx = some (.xd fs))
theorem ExoL.same {H H' : Hp} {a C dx : Addr} {fs : List (Str × V)} (e : Same H H') (h : ExoL H a C dx fs) : ExoL H' a C dx fs := ⟨h.1.imp (e _ _) (e _ _), h.2.imp (e _ _) (e _ _)⟩

structure Lay where
  K : PySem.W.Frag
  w : World
  cls : Nat → Addr
  pr : Program
  /-- the object that an __init__ fills -/
  self : Addr
def Lay.at (L : Lay) (a : Addr) : Lay := { L with self := a }

mutual
def Rp (L : Lay) (F : Hp) : D → V → Prop
  | .non, v => v = .non
  | .bl b, v => v = .bl b
  | .int i, v => v = .int i
  | .str x, v => v = .str x
  | .tup ds, v => ∃ a vs, v = .ref a ∧ SqT L.K F a vs ∧ Rps L F ds vs
  | .lst ds, v => ∃ a vs, v = .ref a ∧ F a = some (.lst vs) ∧ Rps L F ds vs
  | .scr ds, v => ∃ a vs, v = .ref a ∧ SqL L.K F a vs ∧ Rps L F ds vs
  | .dct ks us, v => ∃ (a : Addr) (es : List Ent), v = .ref a ∧ DctAt L.pr L.w F a es ∧ D.nks ks = some (es.map (·.1)) ∧ fewDeep es ∧ Rps L F ks (es.map fun e => V.ref e.2.1) ∧ Rps L F us (es.map fun e => e.2.2)
  | .dki ks us, v => ∃ (a : Addr) (kvs : List (Key × V)), v = .ref a ∧ DkAt L.pr L.w F a kvs ∧ ks = kvs.map (·.1) ∧ Rps L F us (kvs.map (·.2))
  | .ptup ds, v => ∃ a vs, v = .ref a ∧ TpAt F a vs ∧ Rps L F ds vs
  | .set ds, v => (∃ (a : Addr) (ns : List Int), v = .ref a ∧ ds = ns.map D.int ∧ ns.Pairwise (· < ·) ∧ F a = some (SetO L.w a (fun k => decide (k ∈ ns)) ns.length)) ∨
    ∃ (a : Addr) (ks : List (List Int)) (L' : List (Addr × List Int)), v = .ref a ∧ ds = ks.map (fun k => D.tup (k.map D.int)) ∧ ks.Pairwise (· < ·) ∧ F a = some (SetTO L.pr L.w a L') ∧ (∀ p ∈ L', SqT L.K F p.1 (p.2.map V.int)) ∧ ∀ k, k ∈ ks ↔ k ∈ L'.map (·.2)
  | .obj c fs, v => (∃ (a dx : Addr) (vs : List V), v = .ref a ∧ F a = some (SlX.SlO a (L.cls c) dx (vs.map some)) ∧ F dx = some (.xd []) ∧ Rps L F fs vs ∧ c < 1000000) ∨ (v = .ref (if c = 1000000 then L.self else L.cls c) ∧ 1000000 ≤ c ∧ fs = [])
  | .exc c ns fs, v => ∃ (a dx : Addr) (vs : List V), v = .ref a ∧ ExoL F a (L.cls c) dx (ns.zip vs) ∧ ns.length = vs.length ∧ Rps L F fs vs
  | .obo _ _ _, _ => False
  | .ins c ns fs, v => ∃ (a dx : Addr) (vs : List V), v = .ref a ∧ F a = some (.ins (L.cls c) dx (ns.zip vs)) ∧ ns.length = vs.length ∧ Rps L F fs vs
def Rps (L : Lay) (F : Hp) : List D → List V → Prop
  | [], vs => vs = []
  | d :: ds, vs => ∃ v r, vs = v :: r ∧ Rp L F d v ∧ Rps L F ds r
end

theorem SqT.same {K : PySem.W.Frag} {H H' : Hp} {a : Addr} {xs : List V} (e : Same H H') (h : SqT K H a xs) : SqT K H' a xs := by
  rcases h with (h | ⟨o, h⟩) | h
  · exact .inl (.inl (e _ _ h))
  · exact .inl (.inr ⟨o, e _ _ h⟩)
  · exact .inr h

mutual
theorem Rp.same {L : Lay} {F F' : Hp} (e : Same F F') : ∀ {d : D} {v : V}, Rp L F d v → Rp L F' d v
  | .non, _, h => h
  | .bl _, _, h => h
  | .int _, _, h => h
  | .str _, _, h => h
  | .tup ds, _, h => by
    unfold Rp at h ⊢
    obtain ⟨a, vs, e1, q, r⟩ := h
    exact ⟨a, vs, e1, SqT.same e q, Rps.same e r⟩
  | .lst ds, _, h => by
    unfold Rp at h ⊢
    obtain ⟨a, vs, e1, q, r⟩ := h
    exact ⟨a, vs, e1, e _ _ q, Rps.same e r⟩
  | .scr ds, _, h => by
    unfold Rp at h ⊢
    obtain ⟨a, vs, e1, q, r⟩ := h
    exact ⟨a, vs, e1, e.seq q, Rps.same e r⟩
  | .dct _ _, _, h => by
    unfold Rp at h ⊢
    obtain ⟨a, es, e1, q, e2, e3, r1, r2⟩ := h
    exact ⟨a, es, e1, q.mono fun o z => e _ _ z, e2, e3, Rps.same e r1, Rps.same e r2⟩
  | .dki _ _, _, h => by
    unfold Rp at h ⊢
    obtain ⟨a, kvs, e1, q, e2, r⟩ := h
    exact ⟨a, kvs, e1, q.mono fun o z => e _ _ z, e2, Rps.same e r⟩
  | .ptup _, _, h => by
    unfold Rp at h ⊢
    obtain ⟨a, vs, e1, q, r⟩ := h
    exact ⟨a, vs, e1, q.same e, Rps.same e r⟩
  | .set _, _, h => by
    unfold Rp at h ⊢
    rcases h with ⟨a, ns, e1, e2, e3, q⟩ | ⟨a, ks, L', e1, e2, e3, q, q2, q3⟩
    · exact .inl ⟨a, ns, e1, e2, e3, e _ _ q⟩
    · exact .inr ⟨a, ks, L', e1, e2, e3, e _ _ q, fun p hp => SqT.same e (q2 p hp), q3⟩
  | .obj _ _, _, h => by
    unfold Rp at h ⊢
    rcases h with ⟨a, dx, vs, e1, q, q2, r, hc⟩ | h
    · exact .inl ⟨a, dx, vs, e1, e _ _ q, e _ _ q2, Rps.same e r, hc⟩
    · exact .inr h
  | .exc _ _ _, _, h => by
    unfold Rp at h ⊢
    obtain ⟨a, dx, vs, e1, q, l, r⟩ := h
    exact ⟨a, dx, vs, e1, q.same e, l, Rps.same e r⟩
  | .obo _ _ _, _, h => by
    unfold Rp at h
    exact h.elim
  | .ins _ _ _, _, h => by
    unfold Rp at h ⊢
    obtain ⟨a, dx, vs, e1, q, l, r⟩ := h
    exact ⟨a, dx, vs, e1, e _ _ q, l, Rps.same e r⟩
theorem Rps.same {L : Lay} {F F' : Hp} (e : Same F F') : ∀ {ds : List D} {vs : List V}, Rps L F ds vs → Rps L F' ds vs
  | [], _, h => by unfold Rps at h ⊢; exact h
  | _ :: _, _, h => by
    unfold Rps at h ⊢
    obtain ⟨v, r, e1, q, rr⟩ := h
    exact ⟨v, r, e1, Rp.same e q, Rps.same e rr⟩
end

theorem Rps.nil {L : Lay} {F : Hp} : Rps L F [] [] := by unfold Rps; rfl
theorem Rps.cons {L : Lay} {F : Hp} {d : D} {v : V} {ds : List D} {vs : List V} (h : Rp L F d v) (t : Rps L F ds vs) : Rps L F (d :: ds) (v :: vs) := by
  unfold Rps; exact ⟨v, vs, rfl, h, t⟩
theorem Rps.length {L : Lay} {F : Hp} : ∀ {ds : List D} {vs : List V}, Rps L F ds vs → vs.length = ds.length
  | [], _, h => by unfold Rps at h; rw [h]; rfl
  | _ :: ds, _, h => by
    unfold Rps at h
    obtain ⟨v, r, rfl, _, t⟩ := h
    rw [List.length_cons, List.length_cons, Rps.length t]
theorem Rps.app {L : Lay} {F : Hp} : ∀ {ds es : List D} {vs us : List V}, Rps L F ds vs → Rps L F es us → Rps L F (ds ++ es) (vs ++ us)
  | [], _, _, _, h, t => by unfold Rps at h; subst h; exact t
  | _ :: ds, _, _, _, h, t => by
    unfold Rps at h
    obtain ⟨v, r, rfl, q, rr⟩ := h
    exact .cons q (Rps.app rr t)
theorem Rps.get {L : Lay} {F : Hp} : ∀ {ds : List D} {vs : List V} {i : Nat} {d : D}, Rps L F ds vs → ds[i]? = some d → ∃ v, vs[i]? = some v ∧ Rp L F d v
  | [], _, _, _, _, e => by simp at e
  | _ :: _, _, 0, _, h, e => by
    unfold Rps at h
    obtain ⟨v, r, rfl, q, rr⟩ := h
    simp at e; subst e
    exact ⟨v, rfl, q⟩
  | _ :: ds, _, i + 1, _, h, e => by
    unfold Rps at h
    obtain ⟨v, r, rfl, q, rr⟩ := h
    obtain ⟨u, h1, h2⟩ := Rps.get (i := i) rr (by simpa using e)
    exact ⟨u, by simpa using h1, h2⟩
theorem Rps.set {L : Lay} {F : Hp} {d : D} {v : V} (h : Rp L F d v) : ∀ {ds : List D} {vs : List V} (i : Nat), Rps L F ds vs → Rps L F (ds.set i d) (vs.set i v)
  | [], _, _, t => by unfold Rps at t; subst t; exact .nil
  | _ :: _, _, 0, t => by
    unfold Rps at t
    obtain ⟨v, r, rfl, q, rr⟩ := t
    exact .cons h rr
  | _ :: ds, _, i + 1, t => by
    unfold Rps at t
    obtain ⟨v, r, rfl, q, rr⟩ := t
    exact .cons q (Rps.set h i rr)
theorem Rps.take {L : Lay} {F : Hp} : ∀ {ds : List D} {vs : List V} (n : Nat), Rps L F ds vs → Rps L F (ds.take n) (vs.take n)
  | _, _, 0, _ => .nil
  | [], _, n + 1, t => by unfold Rps at t; subst t; exact .nil
  | _ :: _, _, n + 1, t => by
    unfold Rps at t
    obtain ⟨v, r, rfl, q, rr⟩ := t
    exact .cons q (Rps.take n rr)
theorem Rps.drop {L : Lay} {F : Hp} : ∀ {ds : List D} {vs : List V} (n : Nat), Rps L F ds vs → Rps L F (ds.drop n) (vs.drop n)
  | _, _, 0, t => t
  | [], _, n + 1, t => by unfold Rps at t; subst t; exact .nil
  | _ :: _, _, n + 1, t => by
    unfold Rps at t
    obtain ⟨v, r, rfl, q, rr⟩ := t
    exact Rps.drop n rr
theorem Rps.rep {L : Lay} {F : Hp} {ds : List D} {vs : List V} (t : Rps L F ds vs) : ∀ n : Nat, Rps L F (List.replicate n ds).flatten (List.replicate n vs).flatten
  | 0 => .nil
  | n + 1 => by
    rw [List.replicate_succ, List.replicate_succ, List.flatten_cons, List.flatten_cons]
    exact t.app (Rps.rep t n)
theorem Rp.non_iff {L : Lay} {F : Hp} {v : V} : Rp L F .non v ↔ v = .non := by unfold Rp; rfl
theorem Rp.bl_iff {L : Lay} {F : Hp} {v : V} {b : Bool} : Rp L F (.bl b) v ↔ v = .bl b := by unfold Rp; rfl
theorem Rp.int_iff {L : Lay} {F : Hp} {v : V} {b : Int} : Rp L F (.int b) v ↔ v = .int b := by unfold Rp; rfl
theorem Rp.str_iff {L : Lay} {F : Hp} {v : V} {b : Str} : Rp L F (.str b) v ↔ v = .str b := by unfold Rp; rfl
theorem Rp.tup_iff {L : Lay} {F : Hp} {v : V} {ds : List D} : Rp L F (.tup ds) v ↔ ∃ a vs, v = .ref a ∧ SqT L.K F a vs ∧ Rps L F ds vs := by conv => lhs; unfold Rp
theorem Rp.lst_iff {L : Lay} {F : Hp} {v : V} {ds : List D} : Rp L F (.lst ds) v ↔ ∃ a vs, v = .ref a ∧ F a = some (.lst vs) ∧ Rps L F ds vs := by conv => lhs; unfold Rp
theorem Rp.scr_iff {L : Lay} {F : Hp} {v : V} {ds : List D} : Rp L F (.scr ds) v ↔ ∃ a vs, v = .ref a ∧ SqL L.K F a vs ∧ Rps L F ds vs := by conv => lhs; unfold Rp
theorem Rp.obj_iff {L : Lay} {F : Hp} {v : V} {c : Nat} {fs : List D} : Rp L F (.obj c fs) v ↔ (∃ (a dx : Addr) (vs : List V), v = .ref a ∧ F a = some (SlX.SlO a (L.cls c) dx (vs.map some)) ∧ F dx = some (.xd []) ∧ Rps L F fs vs ∧ c < 1000000) ∨ (v = .ref (if c = 1000000 then L.self else L.cls c) ∧ 1000000 ≤ c ∧ fs = []) := by conv => lhs; unfold Rp
theorem Rp.exc_iff {L : Lay} {F : Hp} {v : V} {c : Nat} {ns : List Str} {fs : List D} : Rp L F (.exc c ns fs) v ↔ ∃ (a dx : Addr) (vs : List V), v = .ref a ∧ ExoL F a (L.cls c) dx (ns.zip vs) ∧ ns.length = vs.length ∧ Rps L F fs vs := by conv => lhs; unfold Rp
def DRel (L : Lay) (F : Hp) (ks us : List D) (es : List Ent) : Prop := D.nks ks = some (es.map (·.1)) ∧ fewDeep es ∧ Rps L F ks (es.map fun e => V.ref e.2.1) ∧ Rps L F us (es.map fun e => e.2.2)
theorem DRel.same {L : Lay} {F F' : Hp} (e : Same F F') {ks us : List D} {es : List Ent} (h : DRel L F ks us es) : DRel L F' ks us es := ⟨h.1, h.2.1, Rps.same e h.2.2.1, Rps.same e h.2.2.2⟩
theorem Rp.dct_iff {L : Lay} {F : Hp} {v : V} {ks us : List D} : Rp L F (.dct ks us) v ↔ ∃ (a : Addr) (es : List Ent), v = .ref a ∧ DctAt L.pr L.w F a es ∧ DRel L F ks us es := by
  conv => lhs; unfold Rp
  exact Iff.rfl
theorem Rp.dki_iff {L : Lay} {F : Hp} {v : V} {ks : List Key} {us : List D} : Rp L F (.dki ks us) v ↔ ∃ (a : Addr) (kvs : List (Key × V)), v = .ref a ∧ DkAt L.pr L.w F a kvs ∧ ks = kvs.map (·.1) ∧ Rps L F us (kvs.map (·.2)) := by conv => lhs; unfold Rp
theorem Rp.ptup_iff {L : Lay} {F : Hp} {v : V} {ds : List D} : Rp L F (.ptup ds) v ↔ ∃ a vs, v = .ref a ∧ TpAt F a vs ∧ Rps L F ds vs := by conv => lhs; unfold Rp
theorem Rp.set_iff {L : Lay} {F : Hp} {v : V} {ds : List D} : Rp L F (.set ds) v ↔ (∃ (a : Addr) (ns : List Int), v = .ref a ∧ ds = ns.map D.int ∧ ns.Pairwise (· < ·) ∧ F a = some (SetO L.w a (fun k => decide (k ∈ ns)) ns.length)) ∨
    ∃ (a : Addr) (ks : List (List Int)) (L' : List (Addr × List Int)), v = .ref a ∧ ds = ks.map (fun k => D.tup (k.map D.int)) ∧ ks.Pairwise (· < ·) ∧ F a = some (SetTO L.pr L.w a L') ∧ (∀ p ∈ L', SqT L.K F p.1 (p.2.map V.int)) ∧ ∀ k, k ∈ ks ↔ k ∈ L'.map (·.2) := by conv => lhs; unfold Rp
theorem Rp.obo_no {L : Lay} {F : Hp} {v : V} {c : Nat} {ns : List Str} {fs : List D} (h : Rp L F (.obo c ns fs) v) : False := by unfold Rp at h; exact h
theorem Rp.ins_iff {L : Lay} {F : Hp} {v : V} {c : Nat} {ns : List Str} {fs : List D} : Rp L F (.ins c ns fs) v ↔ ∃ (a dx : Addr) (vs : List V), v = .ref a ∧ F a = some (.ins (L.cls c) dx (ns.zip vs)) ∧ ns.length = vs.length ∧ Rps L F fs vs := by conv => lhs; unfold Rp
theorem Rp.ofInts {L : Lay} {F : Hp} : ∀ ns : List Int, Rps L F (ns.map D.int) (ns.map V.int)
  | [] => .nil
  | n :: r => .cons (Rp.int_iff.mpr rfl) (Rp.ofInts r)

inductive Sl where
  | un | fz (d : D) | ow (d : D) | le (d : D) | io (k : Nat) (d : D) | oo (d : D)
instance : Inhabited Sl := ⟨.un⟩
def Sl.own : Sl → Bool
  | .ow _ => true
  | .le _ => true
  | .io _ _ => true
  | .oo _ => true
  | _ => false
def Sl.get : Sl → Option D
  | .fz d => some d
  | .ow d => some d
  | .le d => some d
  | .io _ d => some d
  | .oo d => some d
  | .un => none
def OwnAt (σ : L2.St) (τ : List Sl) (i : Nat) (a : Addr) : Prop := σ[i]? = some (some (.ref a)) ∧ ∃ t, τ[i]? = some t ∧ t.own = true
def Own (σ : L2.St) (τ : List Sl) (a : Addr) : Prop := ∃ i, OwnAt σ τ i a
structure Pa where
  args : List V
  B : Addr → Prop
def Hd (P : Pa) (σ : L2.St) (τ : List Sl) (a : Addr) : Prop := Own σ τ a ∨ P.B a
theorem MkBy.get {x : Option HO} {p : Addr} (h : MkBy x p) : ∃ o, x = some o ∧ MkH o := by
  obtain ⟨b, its, m, e⟩ := h
  exact ⟨_, e, p, b, its, m, rfl⟩
theorem same_mk {H H' : Hp} (e : Same H H') {b p : Addr} (h : MkBy (H b) p) : H' b = H b := by
  obtain ⟨o, h1, _⟩ := h.get
  rw [h1]; exact e b o h1
open Classical in
noncomputable def hid (H : Hp) (A : Addr → Prop) : Hp := fun a => if A a ∨ (∃ o, H a = some o ∧ MkH o) then none else H a
theorem hid_some {H : Hp} {A : Addr → Prop} {a : Addr} {o : HO} : hid H A a = some o ↔ H a = some o ∧ ¬ A a ∧ ¬ MkH o := by
  unfold hid
  by_cases h : A a ∨ (∃ o, H a = some o ∧ MkH o)
  · rw [if_pos h]
    exact ⟨fun z => (by cases z), fun z => by
      rcases h with h | ⟨u, h1, h2⟩
      · exact absurd h z.2.1
      · rw [z.1] at h1; cases h1; exact absurd h2 z.2.2⟩
  · rw [if_neg h]; exact ⟨fun z => ⟨z, fun y => h (.inl y), fun y => h (.inr ⟨o, z, y⟩)⟩, fun z => z.1⟩
def OwR (L : Lay) (F H : Hp) : D → Addr → Prop
  | .lst ds, a => ∃ vs, H a = some (.lst vs) ∧ Rps L F ds vs
  | .dct ks us, a => ∃ es, DctAt L.pr L.w H a es ∧ DRel L F ks us es
  | .dki ks us, a => ∃ kvs, DkAt L.pr L.w H a kvs ∧ ks = kvs.map (·.1) ∧ Rps L F us (kvs.map (·.2))
  | _, _ => False
def FlR (L : Lay) (F H : Hp) (p : Addr) (d : D) (v : V) : Prop :=
  match d with
  | .lst ds => ∃ (b : Addr) (ws : List V) (its : List Value) (n : Nat), v = .ref b ∧ H b = some (MkO b its n p) ∧ Vals ws its ∧ ws.length ≤ sizeLine ∧ Rps L F ds ws
  | d => Rp L F d v
def FlRs (L : Lay) (F H : Hp) (p : Addr) : List D → List V → Prop
  | [], vs => vs = []
  | d :: ds, vs => ∃ v r, vs = v :: r ∧ FlR L F H p d v ∧ FlRs L F H p ds r
def Apart (fs : List D) (vs : List V) : Prop := ∀ (i j : Nat) (b : Addr) (di dj : List D), fs[i]? = some (.lst di) → fs[j]? = some (.lst dj) → vs[i]? = some (.ref b) → vs[j]? = some (.ref b) → i = j
def ObI (L : Lay) (F H : Hp) (c : Nat) (ns : List Str) (fs : List D) (a : Addr) : Prop :=
  ∃ (dx : Addr) (vs : List V), H a = some (.ins (L.cls c) dx (ns.zip vs)) ∧ ns.length = vs.length ∧ FlRs L F H a fs vs ∧ Apart fs vs
def tbC : Nat := 1000000
def ObT (L : Lay) (F H : Hp) (c : Nat) (ns : List Str) (fs : List D) (a : Addr) : Prop :=
  c = tbC ∧ fs = [.obo 0 [] []] ∧ a = L.cls tbC ∧ ∃ (ps : Array Value) (q : Str), ns = [q] ∧ H a = some (.tbl ps) ∧ TriplesOk ps.toList ∧ ∀ (pos : Pos) (cv : Value), codeAmong pos ps.toList = some cv → ∃ e, cv = .ref e ∧ F e = some (LamX.CodeO e q)
def ObR (L : Lay) (F H : Hp) (c : Nat) (ns : List Str) (fs : List D) (a : Addr) : Prop := ObI L F H c ns fs a ∨ ObT L F H c ns fs a
theorem ObT.step {L : Lay} {F F' H H' : Hp} (e : Same F F') {c : Nat} {ns : List Str} {fs : List D} {a : Addr} (q : H' a = H a) (h : ObT L F H c ns fs a) : ObT L F' H' c ns fs a :=
  let ⟨h1, h2, h0, ps, n, h3, h4, h5, h6⟩ := h
  ⟨h1, h2, h0, ps, n, h3, by rw [q]; exact h4, h5, fun pos cv z => let ⟨e', z1, z2⟩ := h6 pos cv z; ⟨e', z1, e _ _ z2⟩⟩
def OwX (L : Lay) (F H : Hp) (d : D) (a : Addr) : Prop := OwR L F H d a ∨ ∃ c ns fs, d = .obo c ns fs ∧ ObR L F H c ns fs a
theorem FlR.step {L : Lay} {F F' H H' : Hp} {p : Addr} (e : Same F F') (k : ∀ b, MkBy (H b) p → H' b = H b) {d : D} {v : V} (h : FlR L F H p d v) : FlR L F' H' p d v := by
  cases d with
  | lst ds => obtain ⟨b, ws, its, n, e1, e2, e3, e4, e5⟩ := h; exact ⟨b, ws, its, n, e1, by rw [k b ⟨b, its, n, e2⟩]; exact e2, e3, e4, Rps.same e e5⟩
  | _ => exact Rp.same e h
theorem FlRs.step {L : Lay} {F F' H H' : Hp} {p : Addr} (e : Same F F') (k : ∀ b, MkBy (H b) p → H' b = H b) : ∀ {fs : List D} {vs : List V}, FlRs L F H p fs vs → FlRs L F' H' p fs vs
  | [], _, h => h
  | _ :: _, _, ⟨v, r, e1, e2, e3⟩ => ⟨v, r, e1, e2.step e k, e3.step e k⟩
theorem OwR.noMk {L : Lay} {F H : Hp} : ∀ {d : D} {a : Addr}, OwR L F H d a → ∀ o, H a = some o → ¬ MkH o
  | .lst _, _, ⟨_, h, _⟩, o, e => by rw [h] at e; cases e; exact NoMk.no
  | .dct _ _, _, ⟨_, ⟨_, h⟩, _⟩, o, e => by rw [h] at e; cases e; exact NoMk.no
  | .dki _ _, _, ⟨_, ⟨_, h⟩, _⟩, o, e => by rw [h] at e; cases e; exact NoMk.no
theorem OwX.noMk {L : Lay} {F H : Hp} {d : D} {a : Addr} (h : OwX L F H d a) : ∀ o, H a = some o → ¬ MkH o := by
  rcases h with h | ⟨c, ns, fs, rfl, ⟨dx, vs, h, _⟩ | ⟨_, _, _, ps, q, _, h, _⟩⟩
  · exact h.noMk
  · intro o e; rw [h] at e; cases e; exact NoMk.no
  · intro o e; rw [h] at e; cases e; exact NoMk.no
theorem OwR.x {L : Lay} {F H : Hp} {d : D} {a : Addr} (h : OwR L F H d a) : OwX L F H d a := .inl h
def SlR (L : Lay) (P : Pa) (F H : Hp) (s : Option (Option V)) : Sl → Prop
  | .un => True
  | .fz d => ∃ v, s = some (some v) ∧ Rp L F d v
  | .ow d => ∃ a, s = some (some (.ref a)) ∧ OwR L F H d a
  | .le d => ∃ a, s = some (some (.ref a)) ∧ OwR L F H d a
  | .io k d => ∃ a, s = some (some (.ref a)) ∧ P.args[k]? = some (.ref a) ∧ OwX L F H d a
  | .oo d => ∃ a, s = some (some (.ref a)) ∧ OwX L F H d a
structure StR (L : Lay) (P : Pa) (H : Hp) (σ : L2.St) (τ : List Sl) : Prop where
  len : σ.length = τ.length
  inj : ∀ (i j : Nat) (a : Addr), OwnAt σ τ i a → OwnAt σ τ j a → i = j
  dis : ∀ a, Own σ τ a → ¬ P.B a
  bth0 : ∀ a, P.B a → ∃ o, H a = some o ∧ ¬ MkH o
  sl : ∀ (i : Nat) (t : Sl), τ[i]? = some t → SlR L P (hid H (Hd P σ τ)) H σ[i]? t

theorem OwR.there {L : Lay} {F H : Hp} : ∀ {d : D} {a : Addr}, OwR L F H d a → ∃ o, H a = some o
  | .lst _, _, ⟨vs, h, _⟩ => ⟨_, h⟩
  | .dct _ _, _, ⟨es, ⟨_, h⟩, _⟩ => ⟨_, h⟩
  | .dki _ _, _, ⟨es, ⟨_, h⟩, _⟩ => ⟨_, h⟩
theorem OwR.step {L : Lay} {F F' H H' : Hp} (e : Same F F') : ∀ {d : D} {a : Addr}, (H' a = H a) → OwR L F H d a → OwR L F' H' d a
  | .lst _, _, q, ⟨vs, h, r⟩ => ⟨vs, by rw [q]; exact h, Rps.same e r⟩
  | .dct _ _, _, q, ⟨vs, h, r⟩ => ⟨vs, h.mono fun o e => by rw [q]; exact e, r.same e⟩
  | .dki _ _, _, q, ⟨vs, h, e2, r⟩ => ⟨vs, h.mono fun o e => by rw [q]; exact e, e2, Rps.same e r⟩
theorem OwX.there {L : Lay} {F H : Hp} {d : D} {a : Addr} (h : OwX L F H d a) : ∃ o, H a = some o := by
  rcases h with h | ⟨c, ns, fs, rfl, ⟨dx, vs, h, _⟩ | ⟨_, _, _, ps, q, _, h, _⟩⟩
  · exact h.there
  · exact ⟨_, h⟩
  · exact ⟨_, h⟩
theorem ObR.step {L : Lay} {F F' H H' : Hp} (e : Same F F') {c : Nat} {ns : List Str} {fs : List D} {a : Addr} (q : H' a = H a) (h : ObR L F H c ns fs a) (k : ∀ b, MkBy (H b) a → H' b = H b) : ObR L F' H' c ns fs a := by
  rcases h with ⟨dx, vs, h1, h3, h4, h5⟩ | h
  · exact .inl ⟨dx, vs, by rw [q]; exact h1, h3, h4.step e k, h5⟩
  · exact .inr (h.step e q)
theorem OwX.step {L : Lay} {F F' H H' : Hp} (e : Same F F') {d : D} {a : Addr} (h : OwX L F H d a) (q : H' a = H a) (k : ∀ b, MkBy (H b) a → H' b = H b := by first | exact fun _ _ => rfl | assumption) : OwX L F' H' d a := by
  rcases h with h | ⟨c, ns, fs, rfl, h⟩
  · exact .inl (h.step e q)
  · exact .inr ⟨c, ns, fs, rfl, h.step e q k⟩
theorem StR.own_there {L : Lay} {P : Pa} {H : Hp} {σ : L2.St} {τ : List Sl} (R : StR L P H σ τ) {a : Addr} (h : Own σ τ a) : ∃ o, H a = some o := by
  obtain ⟨i, e, t, et, ow⟩ := h
  have q := R.sl i t et
  cases t with
  | un => cases ow
  | fz d => cases ow
  | ow d => obtain ⟨b, e2, r⟩ := q; rw [e] at e2; cases e2; exact r.there
  | le d => obtain ⟨b, e2, r⟩ := q; rw [e] at e2; cases e2; exact r.there
  | io k d => obtain ⟨b, e2, _, r⟩ := q; rw [e] at e2; cases e2; exact r.there
  | oo d => obtain ⟨b, e2, r⟩ := q; rw [e] at e2; cases e2; exact r.there

theorem StR.own_noMk {L : Lay} {P : Pa} {H : Hp} {σ : L2.St} {τ : List Sl} (R : StR L P H σ τ) {a : Addr} (h : Own σ τ a) : ∀ o, H a = some o → ¬ MkH o := by
  obtain ⟨i, e, t, et, ow⟩ := h
  have q := R.sl i t et
  cases t with
  | un => cases ow
  | fz d => cases ow
  | ow d => obtain ⟨b, e2, r⟩ := q; rw [e] at e2; cases e2; exact r.noMk
  | le d => obtain ⟨b, e2, r⟩ := q; rw [e] at e2; cases e2; exact r.noMk
  | io k d => obtain ⟨b, e2, _, r⟩ := q; rw [e] at e2; cases e2; exact r.noMk
  | oo d => obtain ⟨b, e2, r⟩ := q; rw [e] at e2; cases e2; exact r.noMk

def Foot (H : Hp) (A : Addr → Prop) (a : Addr) : Prop := A a ∨ ∃ p, MkBy (H a) p ∧ (A p ∨ H p = none)
theorem foot_no {H : Hp} {A : Addr → Prop} {a : Addr} {o : HO} (h : H a = some o) (n : ¬ A a) (m : ¬ MkH o) : ¬ Foot H A a := fun z => by
  rcases z with z | ⟨p, e, _⟩
  · exact n z
  · rw [h] at e; exact m e.mk
theorem Foot.mono {H : Hp} {A A' : Addr → Prop} {a : Addr} (h : ∀ b, A b → A' b) (z : Foot H A a) : Foot H A' a := z.imp (h a) fun ⟨p, e, q⟩ => ⟨p, e, q.imp (h p) id⟩
structure Tr (H : Hp) (A : Addr → Prop) (H' : Hp) (A' : Addr → Prop) : Prop where
  keep0 : ∀ a o, H a = some o → ¬ Foot H A a → H' a = some o
  new : ∀ a, A' a → A a ∨ H a = none
  there : ∀ a o, H a = some o → ∃ o', H' a = some o'
theorem Tr.keep {H H' : Hp} {A A' : Addr → Prop} (x : Tr H A H' A') (a : Addr) (o : HO) (h : H a = some o) (n : ¬ A a) (m : ¬ MkH o := by first | assumption | exact NoMk.no) : H' a = some o := x.keep0 a o h (foot_no h n m)
theorem Tr.refl {H : Hp} {A : Addr → Prop} : Tr H A H A := ⟨fun _ _ h _ => h, fun _ h => .inl h, fun _ o h => ⟨o, h⟩⟩
theorem Tr.fresh {H H' : Hp} {A A' : Addr → Prop} (x : Tr H A H' A') {a : Addr} (h : H' a = none) : H a = none := by
  cases e : H a with
  | none => rfl
  | some o => obtain ⟨o', q⟩ := x.there a o e; rw [h] at q; cases q
theorem Tr.trans {H H1 H2 : Hp} {A A1 A2 : Addr → Prop} (x : Tr H A H1 A1) (y : Tr H1 A1 H2 A2) : Tr H A H2 A2 := by
  refine ⟨fun a o h n => ?_, fun a h => ?_, fun a o h => let ⟨o1, q⟩ := x.there a o h; y.there a o1 q⟩
  · have h1 := x.keep0 a o h n
    refine y.keep0 a o h1 fun z => ?_
    rcases z with z | ⟨p, e, z⟩
    · rcases x.new a z with q | q
      · exact n (.inl q)
      · rw [q] at h; cases h
    · rw [h1, ← h] at e
      refine n (.inr ⟨p, e, ?_⟩)
      rcases z with z | z
      · exact x.new p z
      · exact .inr (x.fresh z)
  · rcases y.new a h with q | q
    · exact x.new a q
    · exact .inr (x.fresh q)
theorem Tr.of {H H1 : Hp} {A : Addr → Prop} (x : Same H H1) : Tr H A H1 A := ⟨fun a o h _ => x a o h, fun _ h => .inl h, fun a o h => ⟨o, x a o h⟩⟩
theorem StR.bth {L : Lay} {P : Pa} {H : Hp} {σ : L2.St} {τ : List Sl} (R : StR L P H σ τ) (a : Addr) (h : P.B a) : ∃ o, H a = some o := let ⟨o, q, _⟩ := R.bth0 a h; ⟨o, q⟩
theorem StR.hd_there0 {L : Lay} {P : Pa} {H : Hp} {σ : L2.St} {τ : List Sl} (R : StR L P H σ τ) {a : Addr} (h : Hd P σ τ a) : ∃ o, H a = some o ∧ ¬ MkH o := h.elim (fun q => let ⟨o, e⟩ := R.own_there q; ⟨o, e, R.own_noMk q o e⟩) (R.bth0 a)
theorem StR.hd_there {L : Lay} {P : Pa} {H : Hp} {σ : L2.St} {τ : List Sl} (R : StR L P H σ τ) {a : Addr} (h : Hd P σ τ a) : ∃ o, H a = some o := h.elim (fun q => R.own_there q) (R.bth a)
theorem StR.fz {L : Lay} {P : Pa} {H H' : Hp} {σ σ' : L2.St} {τ τ' : List Sl} (R : StR L P H σ τ) (x : Tr H (Own σ τ) H' (Own σ' τ')) : Same (hid H (Hd P σ τ)) (hid H' (Hd P σ' τ')) := fun a o h => by
  obtain ⟨h1, h2, nk_h2⟩ := hid_some.mp h
  refine hid_some.mpr ⟨x.keep a o h1 fun z => h2 (.inl z), fun z => ?_, by first | assumption | exact NoMk.no⟩
  rcases z with z | z
  · rcases x.new a z with q | q
    · exact h2 (.inl q)
    · rw [q] at h1; cases h1
  · exact h2 (.inr z)
theorem hid_le {H : Hp} {A : Addr → Prop} : Same (hid H A) H := fun a o h => (hid_some.mp h).1
theorem hid_mono {H H' : Hp} {A A' : Addr → Prop} (e : Same H H') (h : ∀ a, A' a → A a) : Same (hid H A) (hid H' A') := fun a o q => by
  obtain ⟨h1, h2, nk_h2⟩ := hid_some.mp q
  exact hid_some.mpr ⟨e a o h1, fun z => h2 (h a z), by first | assumption | exact NoMk.no⟩
theorem StR.same {L : Lay} {P : Pa} {H H' : Hp} {σ : L2.St} {τ : List Sl} (R : StR L P H σ τ) (e : Same H H') : StR L P H' σ τ := by
  have f := hid_mono (A := Hd P σ τ) e fun _ z => z
  refine ⟨R.len, R.inj, R.dis, fun a h => let ⟨o, q, m⟩ := R.bth0 a h; ⟨o, e a o q, m⟩, fun i t h => ?_⟩
  have q := R.sl i t h
  cases t with
  | un => trivial
  | fz d => obtain ⟨v, e1, r⟩ := q; exact ⟨v, e1, r.same f⟩
  | ow d =>
    obtain ⟨a, e1, r⟩ := q
    obtain ⟨o, ho⟩ := r.there
    exact ⟨a, e1, r.step f (by rw [ho]; exact e a o ho)⟩
  | le d =>
    obtain ⟨a, e1, r⟩ := q
    obtain ⟨o, ho⟩ := r.there
    exact ⟨a, e1, r.step f (by rw [ho]; exact e a o ho)⟩
  | io k d =>
    obtain ⟨a, e1, e2, r⟩ := q
    obtain ⟨o, ho⟩ := r.there
    exact ⟨a, e1, e2, r.step f (by rw [ho]; exact e a o ho) (fun b z => same_mk e z)⟩
  | oo d =>
    obtain ⟨a, e1, r⟩ := q
    obtain ⟨o, ho⟩ := r.there
    exact ⟨a, e1, r.step f (by rw [ho]; exact e a o ho) (fun b z => same_mk e z)⟩
theorem StR.tr {L : Lay} {P : Pa} {H H' : Hp} {σ : L2.St} {τ : List Sl} {A A' : Addr → Prop} (R : StR L P H σ τ) (t : Tr H A H' A') (no : ∀ a, ¬ A a) : Tr H (Own σ τ) H' (Own σ τ) ∧ StR L P H' σ τ := by
  have tr : Tr H (Own σ τ) H' (Own σ τ) := ⟨fun a o e n => t.keep0 a o e fun z => n (z.mono fun b q => (no b q).elim), fun _ h => .inl h, t.there⟩
  have f := R.fz tr
  have root : ∀ {d : D} {a : Addr}, Own σ τ a → OwX L (hid H (Hd P σ τ)) H d a → OwX L (hid H' (Hd P σ τ)) H' d a := fun {d a} oa r => by
    obtain ⟨o, ho⟩ := r.there
    refine r.step f (by rw [ho]; exact t.keep a o ho (no a) (R.own_noMk oa o ho)) fun b z => ?_
    obtain ⟨u, hu, _⟩ := z.get
    rw [hu]
    refine t.keep0 b _ hu fun y => ?_
    rcases y with y | ⟨p, e, y | y⟩
    · exact no b y
    · exact no p y
    · rw [z.uniq e] at ho; rw [ho] at y; cases y
  have root1 : ∀ {d : D} {a : Addr}, Own σ τ a → OwR L (hid H (Hd P σ τ)) H d a → OwR L (hid H' (Hd P σ τ)) H' d a := fun {d a} oa r => by
    obtain ⟨o, ho⟩ := r.there
    exact r.step f (by rw [ho]; exact t.keep a o ho (no a) (R.own_noMk oa o ho))
  refine ⟨tr, R.len, R.inj, R.dis, fun a h => let ⟨o, q, m⟩ := R.bth0 a h; ⟨o, t.keep a o q (no a), m⟩, fun i t' h => ?_⟩
  have q := R.sl i t' h
  cases t' with
  | un => trivial
  | fz d => obtain ⟨v, e1, r⟩ := q; exact ⟨v, e1, r.same f⟩
  | ow d => obtain ⟨a, e1, r⟩ := q; exact ⟨a, e1, root1 ⟨i, e1, _, h, rfl⟩ r⟩
  | le d => obtain ⟨a, e1, r⟩ := q; exact ⟨a, e1, root1 ⟨i, e1, _, h, rfl⟩ r⟩
  | io k d => obtain ⟨a, e1, e2, r⟩ := q; exact ⟨a, e1, e2, root ⟨i, e1, _, h, rfl⟩ r⟩
  | oo d => obtain ⟨a, e1, r⟩ := q; exact ⟨a, e1, root ⟨i, e1, _, h, rfl⟩ r⟩
structure Kin (H H' : Hp) : Prop where
  tr : Tr H (fun _ => False) H' (fun _ => False)
theorem Kin.of {H H' : Hp} (x : Same H H') : Kin H H' := ⟨.of x⟩
instance {H H' : Hp} : Coe (Same H H') (Kin H H') := ⟨Kin.of⟩
theorem Kin.refl (H : Hp) : Kin H H := ⟨.refl⟩
theorem Kin.trans {H H1 H2 : Hp} (x : Kin H H1) (y : Kin H1 H2) : Kin H H2 := ⟨x.tr.trans y.tr⟩
structure Th (H : Hp) (A : Addr → Prop) : Prop where
  th : ∀ p, A p → ∃ o, H p = some o ∧ ¬ MkH o
theorem Th.at {H : Hp} {A : Addr → Prop} (x : Th H A) (p : Addr) (h : A p) : ∃ o, H p = some o := let ⟨o, e, _⟩ := x.th p h; ⟨o, e⟩
instance {H : Hp} {A : Addr → Prop} : CoeFun (Th H A) (fun _ => ∀ p, A p → ∃ o, H p = some o) := ⟨Th.at⟩
instance {H : Hp} {A : Addr → Prop} : Coe (Th H A) (∀ p, A p → ∃ o, H p = some o) := ⟨Th.at⟩
theorem StR.ths {L : Lay} {P : Pa} {H : Hp} {σ : L2.St} {τ : List Sl} (R : StR L P H σ τ) : Th H (Hd P σ τ) := ⟨fun _ h => R.hd_there0 h⟩
def Bp (L : Lay) (F H : Hp) (d : D) (v : V) : Prop :=
  match d with
  | .lst ds => ∃ a vs, v = .ref a ∧ H a = some (.lst vs) ∧ Rps L F ds vs
  | .dct ks us => ∃ a es, v = .ref a ∧ DctAt L.pr L.w H a es ∧ DRel L F ks us es
  | .dki ks us => ∃ a kvs, v = .ref a ∧ DkAt L.pr L.w H a kvs ∧ ks = kvs.map (·.1) ∧ Rps L F us (kvs.map (·.2))
  | .obo c ns fs => ∃ a, v = .ref a ∧ ObR L F H c ns fs a
  | d => Rp L F d v
theorem Rp.bp {L : Lay} {F H : Hp} (e : Same F H) {d : D} {v : V} (h : Rp L F d v) : Bp L F H d v := by
  cases d with
  | lst ds =>
    obtain ⟨a, vs, e1, q, r⟩ := Rp.lst_iff.mp h
    exact ⟨a, vs, e1, e _ _ q, r⟩
  | dct ks us =>
    obtain ⟨a, es, e1, q, r⟩ := Rp.dct_iff.mp h
    exact ⟨a, es, e1, q.mono fun o z => e _ _ z, r⟩
  | dki ks us =>
    obtain ⟨a, es, e1, q, e2, r⟩ := Rp.dki_iff.mp h
    exact ⟨a, es, e1, q.mono fun o z => e _ _ z, e2, r⟩
  | obo c ns fs => unfold Rp at h; exact h.elim
  | _ => exact h
theorem OwR.bp {L : Lay} {F H : Hp} : ∀ {d : D} {a : Addr}, OwR L F H d a → Bp L F H d (.ref a)
  | .lst _, _, ⟨vs, h, r⟩ => ⟨_, vs, rfl, h, r⟩
  | .dct _ _, _, ⟨vs, h, r⟩ => ⟨_, vs, rfl, h, r⟩
  | .dki _ _, _, ⟨vs, h, r⟩ => ⟨_, vs, rfl, h, r⟩
theorem OwX.bp {L : Lay} {F H : Hp} {d : D} {a : Addr} (h : OwX L F H d a) : Bp L F H d (.ref a) := by
  rcases h with h | ⟨c, ns, fs, rfl, h⟩
  · exact h.bp
  · exact ⟨a, rfl, h⟩
def Bps (L : Lay) (F H : Hp) : List D → List V → Prop
  | [], vs => vs = []
  | d :: ds, vs => ∃ v r, vs = v :: r ∧ Bp L F H d v ∧ Bps L F H ds r
theorem Rps.bps {L : Lay} {F H : Hp} (e : Same F H) : ∀ {ds : List D} {vs : List V}, Rps L F ds vs → Bps L F H ds vs
  | [], _, h => by unfold Rps at h; exact h
  | _ :: _, _, h => by
    unfold Rps at h
    obtain ⟨v, r, e1, q, rr⟩ := h
    exact ⟨v, r, e1, q.bp e, Rps.bps e rr⟩
theorem SlR.bp {L : Lay} {P : Pa} {F H : Hp} {s : Option (Option V)} (e : Same F H) : ∀ {t : Sl} {d : D}, SlR L P F H s t → t.get = some d → ∃ v, s = some (some v) ∧ Bp L F H d v
  | .fz _, _, ⟨v, h, r⟩, z => by cases z; exact ⟨v, h, r.bp e⟩
  | .ow _, _, ⟨a, h, r⟩, z => by cases z; exact ⟨_, h, r.bp⟩
  | .le _, _, ⟨a, h, r⟩, z => by cases z; exact ⟨_, h, r.bp⟩
  | .io _ _, _, ⟨a, h, _, r⟩, z => by cases z; exact ⟨_, h, r.bp⟩
  | .oo _, _, ⟨a, h, r⟩, z => by cases z; exact ⟨_, h, r.bp⟩

inductive Res (α : Type) where
  | ok (a : α) (τ : List Sl) | exc (c : Nat) (xs : List D) (τ : List Sl) | fail
abbrev M (α : Type) := List Sl → Res α
@[simp] def M.pure {α : Type} (a : α) : M α := fun τ => .ok a τ
def Res.bind {α β : Type} (r : Res α) (f : α → M β) : Res β :=
  match r with
  | .ok a τ => f a τ
  | .exc c xs τ => .exc c xs τ
  | .fail => .fail
@[simp] theorem Res.bind_ok {α β : Type} {a : α} {τ : List Sl} {f : α → M β} : (Res.ok a τ).bind f = f a τ := rfl
@[simp] theorem Res.bind_exc {α β : Type} {c : Nat} {xs : List D} {τ : List Sl} {f : α → M β} : (Res.exc c xs τ : Res α).bind f = .exc c xs τ := rfl
@[simp] theorem Res.bind_fail {α β : Type} {f : α → M β} : (Res.fail : Res α).bind f = .fail := rfl
@[simp] def M.bind {α β : Type} (m : M α) (f : α → M β) : M β := fun τ => (m τ).bind f
def Res.lift {α : Type} (o : Option α) (τ : List Sl) : Res α :=
  match o with
  | some a => .ok a τ
  | none => .fail
@[simp] theorem Res.lift_some {α : Type} {a : α} {τ : List Sl} : Res.lift (some a) τ = .ok a τ := rfl
@[simp] theorem Res.lift_none {α : Type} {τ : List Sl} : (Res.lift none τ : Res α) = .fail := rfl
@[simp] def M.lift {α : Type} (o : Option α) : M α := fun τ => Res.lift o τ

def ExR (L : Lay) (F : Hp) (c : Nat) (xs : List D) (cls : Value) (od : Option Addr) : Prop :=
  ∃ (ns : List Str) (fs : List D) (dx : Addr) (vs : List V), xs = [.exc c ns fs] ∧ cls = .ref (L.cls c) ∧ od = some dx ∧ F dx = some (.xd (ns.zip vs)) ∧ ns.length = vs.length ∧ Rps L F fs vs
theorem ExR.same {L : Lay} {F F' : Hp} {c : Nat} {xs : List D} {cls : Value} {od : Option Addr} (e : Same F F') (h : ExR L F c xs cls od) : ExR L F' c xs cls od :=
  let ⟨ns, fs, dx, vs, h1, h2, h3, h4, h5, h6⟩ := h
  ⟨ns, fs, dx, vs, h1, h2, h3, e _ _ h4, h5, Rps.same e h6⟩

def Post {α β : Type} (L : Lay) (P : Pa) (R : Hp → α → β → Prop) (H : Hp) (σ : L2.St) (τ : List Sl) (r : Res α) (Q : β → Hp → Prop) (E : XK) : Prop :=
  match r with
  | .ok a τ' => ∀ v H', Tr H (Own σ τ) H' (Own σ τ') → StR L P H' σ τ' → R (hid H' (Hd P σ τ')) a v → Q v H'
  | .exc c xs τ' => ∀ cls od H', Tr H (Own σ τ) H' (Own σ τ') → StR L P H' σ τ' → ExR L (hid H' (Hd P σ τ')) c xs cls od → E cls od H'
  | .fail => False
section
variable {α β γ δ : Type} {L : Lay} {P : Pa} {R : Hp → α → β → Prop} {R2 : Hp → γ → δ → Prop} {H H1 : Hp} {σ : L2.St} {τ τ1 : List Sl} {Q Q' : β → Hp → Prop} {E : XK}
theorem Post.imp {r : Res α} (h : Post L P R H σ τ r Q E) (f : ∀ v H', Q v H' → Q' v H') : Post L P R H σ τ r Q' E := by
  cases r with
  | ok a τ' => exact fun v H' x y z => f v H' (h v H' x y z)
  | exc c xs τ' => exact h
  | fail => exact h
theorem Post.from {r : Res α} (h : Post L P R H σ τ r Q E) (x : Tr H (Own σ τ) H1 (Own σ τ1)) : Post L P R H1 σ τ1 r Q E := by
  cases r with
  | ok a τ' => exact fun v H' y z w => h v H' (x.trans y) z w
  | exc c xs τ' => exact fun cls od H' y z w => h cls od H' (x.trans y) z w
  | fail => exact h
theorem Post.split {r : Res α} {f : α → M γ} {T : δ → Hp → Prop} (h : Post L P R2 H σ τ (r.bind f) T E) :
    Post L P R H σ τ r (fun v H1 => ∃ a τ1, Tr H (Own σ τ) H1 (Own σ τ1) ∧ StR L P H1 σ τ1 ∧ R (hid H1 (Hd P σ τ1)) a v ∧ Post L P R2 H1 σ τ1 (f a τ1) T E) E := by
  cases r with
  | ok a τ' => exact fun v H' x y z => ⟨a, τ', x, y, z, Post.from h x⟩
  | exc c xs τ' => exact h
  | fail => exact h
theorem StR.kin {L : Lay} {P : Pa} {H H' : Hp} {σ : L2.St} {τ : List Sl} (R : StR L P H σ τ) (s : Kin H H') : StR L P H' σ τ := (R.tr s.tr fun _ y => y).2
theorem StR.kinT {L : Lay} {P : Pa} {H H' : Hp} {σ : L2.St} {τ : List Sl} (R : StR L P H σ τ) (s : Kin H H') : Tr H (Own σ τ) H' (Own σ τ) := (R.tr s.tr fun _ y => y).1
theorem Post.lift {o : Option γ} {T : δ → Hp → Prop} (h : Post L P R2 H σ τ (Res.lift o τ) T E) : ∃ d, o = some d ∧ ∀ v H', Tr H (Own σ τ) H' (Own σ τ) → StR L P H' σ τ → R2 (hid H' (Hd P σ τ)) d v → T v H' := by
  cases o with
  | none => exact h.elim
  | some d => exact ⟨d, rfl, h⟩
end

abbrev RV (L : Lay) : Hp → D → V → Prop := fun F d v => Rp L F d v
abbrev RVs (L : Lay) : Hp → List D → List V → Prop := fun F d v => Rps L F d v
abbrev RB : Hp → Bool → Bool → Prop := fun _ a b => b = a
def tE (L : Lay) (P : Pa) (E : L2.St → XK) (m : M D) : TE := fun σ H Q => ∃ τ, StR L P H σ τ ∧ Post L P (RV L) H σ τ (m τ) Q (E σ)
def tT (L : Lay) (P : Pa) (E : L2.St → XK) (m : M Bool) : TT := fun σ H Q => ∃ τ, StR L P H σ τ ∧ Post L P RB H σ τ (m τ) Q (E σ)
def tA (L : Lay) (P : Pa) (E : L2.St → XK) (m : M (List D)) : TA := fun σ H Q => ∃ τ, StR L P H σ τ ∧ Post L P (RVs L) H σ τ (m τ) Q (E σ)
abbrev SE (L : Lay) (P : Pa) (E : L2.St → XK) (X : Cx) (e : Expr) (m : M D) : Prop := PE X e (tE L P E m)
abbrev ST (L : Lay) (P : Pa) (E : L2.St → XK) (X : Cx) (e : Expr) (m : M Bool) : Prop := PT X e (tT L P E m)
abbrev SA (L : Lay) (P : Pa) (E : L2.St → XK) (X : Cx) (es : List Expr) (m : M (List D)) : Prop := PA X es (tA L P E m)
theorem PE.weak {X : Cx} {e : Expr} {t u : TE} (h : PE X e t) (f : ∀ σ H Q, u σ H Q → t σ H Q) : PE X e u := ⟨fun pins s σ H Q I q => h.run pins s σ H Q I (f σ H Q q)⟩
theorem PT.weak {X : Cx} {e : Expr} {t u : TT} (h : PT X e t) (f : ∀ σ H Q, u σ H Q → t σ H Q) : PT X e u := ⟨fun pins s σ H Q I q => h.run pins s σ H Q I (f σ H Q q)⟩
theorem PW.weak {X : Cx} {e : Expr} {t u : TT} (h : PW X e t) (f : ∀ σ H Q, u σ H Q → t σ H Q) : PW X e u := ⟨fun w pins s σ H Q I q => h.run w pins s σ H Q I (f σ H Q q)⟩
theorem PA.weak {X : Cx} {e : List Expr} {t u : TA} (h : PA X e t) (f : ∀ σ H Q, u σ H Q → t σ H Q) : PA X e u := ⟨fun pos pins s σ H Q I q => h.run pos pins s σ H Q I (f σ H Q q)⟩
theorem PS.weak {X : Cx} {e : Stmt} {t u : TS} (h : PS X e t) (f : ∀ D σ H, u D σ H → t D σ H) : PS X e u := ⟨fun pins s σ H D I q => h.run pins s σ H D I (f D σ H q)⟩
theorem PSs.weak {X : Cx} {e : List Stmt} {t u : TS} (h : PSs X e t) (f : ∀ D σ H, u D σ H → t D σ H) : PSs X e u := ⟨fun pins s σ H D I q => h.run pins s σ H D I (f D σ H q)⟩
theorem PG.weak {X : Cx} {e : Expr} {t u : TG} (h : PG X e t) (f : ∀ v σ H Q, u v σ H Q → t v σ H Q) : PG X e u := ⟨fun pins s σ H v w Q I r q => h.run pins s σ H v w Q I r (f v σ H Q q)⟩

def OpS (L : Lay) (r : R2) (f : D → D → Option D) : Prop :=
  ∀ (a b d : D) (x y : V) (H : Hp) (A : Addr → Prop) (Q : VK), f a b = some d → Bp L (hid H A) H a x → Bp L (hid H A) H b y → Th H A →
    (∀ z H', Kin H H' → Rp L (hid H' A) d z → Q z H') → r x y H Q
def UnS (L : Lay) (r : V → Hp → VK → Prop) (f : D → Option D) : Prop :=
  ∀ (a d : D) (x : V) (H : Hp) (A : Addr → Prop) (Q : VK), f a = some d → Bp L (hid H A) H a x → Th H A →
    (∀ z H', Kin H H' → Rp L (hid H' A) d z → Q z H') → r x H Q
def FnS (L : Lay) (r : List V → Hp → VK → Prop) (f : List D → Option D) : Prop :=
  ∀ (ds : List D) (d : D) (xs : List V) (H : Hp) (A : Addr → Prop) (Q : VK), f ds = some d → Bps L (hid H A) H ds xs → Th H A →
    (∀ z H', Kin H H' → Rp L (hid H' A) d z → Q z H') → r xs H Q

section
variable {L : Lay} {P : Pa} {E : L2.St → XK} {X : Cx} {a b c : Expr} {ma mb mc : M D} {pos : Pos}
theorem Post.done {H : Hp} {σ : L2.St} {τ : List Sl} {o : Option D} {Q : VK} {e : XK} (R : StR L P H σ τ) (h : Post L P (RV L) H σ τ (Res.lift o τ) Q e) :
    ∃ d, o = some d ∧ ∀ z H', Kin H H' → Rp L (hid H' (Hd P σ τ)) d z → Q z H' := by
  obtain ⟨d, e, q⟩ := h.lift
  exact ⟨d, e, fun z H' s r => let x := R.tr s.tr fun _ y => y; q z H' x.1 x.2 r⟩
def mOp (f : D → D → Option D) (ma mb : M D) : M D := fun τ => (ma τ).bind fun x => fun τ => (mb τ).bind fun y => fun τ => Res.lift (f x y) τ
def mUn (f : D → Option D) (ma : M D) : M D := fun τ => (ma τ).bind fun x => fun τ => Res.lift (f x) τ
theorem tOp_of {r : R2} {f : D → D → Option D} (ho : OpS L r f) (σ : L2.St) (H : Hp) (Q : VK) (h : tE L P E (mOp f ma mb) σ H Q) : tOp r (tE L P E ma) (tE L P E mb) σ H Q := by
  obtain ⟨τ, R, h⟩ := h
  refine ⟨τ, R, (Post.split (R := RV L) h).imp fun x H1 ⟨d1, τ1, t1, R1, r1, h1⟩ => ?_⟩
  refine ⟨τ1, R1, (Post.split (R := RV L) h1).imp fun y H2 ⟨d2, τ2, t2, R2, r2, h2⟩ => ?_⟩
  obtain ⟨d, e, q⟩ := h2.done R2
  exact ho d1 d2 d x y H2 (Hd P σ τ2) Q e ((r1.same (R1.fz t2)).bp hid_le) (r2.bp hid_le) R2.ths q
theorem sE_op {op : Operator} {r : R2} {f : D → D → Option D} (hr : OpR X (binaryOp op) r) (ho : OpS L r f) (ha : SE L P E X a ma) (hb : SE L P E X b mb) : SE L P E X (.BinOp a op b pos) (mOp f ma mb) :=
  PE.weak (pe_op hr ha hb) fun σ H Q h => tOp_of ho σ H Q h
theorem sE_cmp {op : CmpOp} {r : R2} {f : D → D → Option D} (hr : OpR X (compareOp op) r) (ho : OpS L r f) (ha : SE L P E X a ma) (hb : SE L P E X b mb) (hm : behindInMarks op b = false) : SE L P E X (.Compare a [op] [b] pos) (mOp f ma mb) :=
  PE.weak (pe_cmpR hr ha hb hm) fun σ H Q h => tOp_of ho σ H Q h
theorem sE_un {op : UnaryOp} {r : V → Hp → VK → Prop} {f : D → Option D} (hr : UnR X (unaryOp op) r) (ho : UnS L r f) (ha : SE L P E X a ma) : SE L P E X (.UnaryOp op a pos) (mUn f ma) :=
  PE.weak (pe_un hr ha) fun σ H Q ⟨τ, R, h⟩ => by
    refine ⟨τ, R, (Post.split (R := RV L) h).imp fun x H1 ⟨d1, τ1, t1, R1, r1, h1⟩ => ?_⟩
    obtain ⟨d, e, q⟩ := h1.done R1
    exact ho d1 d x H1 (Hd P σ τ1) Q e (r1.bp hid_le) R1.ths q
def asB : D → Option Bool
  | .bl b => some b
  | _ => none
@[simp] theorem asB_bl {b : Bool} : asB (.bl b) = some b := rfl
def mB (m : M D) : M Bool := fun τ => (m τ).bind fun x => fun τ => Res.lift (asB x) τ
theorem tB_of {m : M D} (σ : L2.St) (H : Hp) (Q : Bool → Hp → Prop) (h : tT L P E (mB m) σ H Q) : tB (tE L P E m) σ H Q := by
  obtain ⟨τ, R, h⟩ := h
  refine ⟨τ, R, (Post.split (R := RV L) h).imp fun x H1 ⟨d1, τ1, t1, R1, r1, h1⟩ => ?_⟩
  obtain ⟨b, e, q⟩ := h1.lift
  cases d1 with
  | bl k =>
    have e' : b = k := (Option.some.inj e).symm
    subst e'
    exact ⟨b, Rp.bl_iff.mp r1, q b H1 .refl R1 rfl⟩
  | _ => cases e
theorem sT_val {e : Expr} {m : M D} (h : SE L P E X e m) (he : ∀ whole, isTrue e X.env whole = (do let v ← whole; standAt e.pos; holding [v] (truthy v)) := by intro _; rfl) : ST L P E X e (mB m) :=
  PT.weak (pt_val h he) fun σ H Q q => tB_of σ H Q q
theorem sT_cmp {op : CmpOp} {r : R2} {f : D → D → Option D} (hr : OpR X (compareOp op) r) (ho : OpS L r f) (ha : SE L P E X a ma) (hb : SE L P E X b mb) (hm : behindInMarks op b = false) : ST L P E X (.Compare a [op] [b] pos) (mB (mOp f ma mb)) :=
  PT.weak (pt_cmpR hr ha hb hm) fun σ H Q h => by
    obtain ⟨τ, R, h⟩ := h
    have q : tB (tE L P E (mOp f ma mb)) σ H Q := tB_of σ H Q ⟨τ, R, h⟩
    exact tOp_of ho σ H _ q

def mVar (i : Nat) : M D := fun τ =>
  match τ[i]? with
  | some (.fz d) => .ok d τ
  | some (.ow d) => .ok d (τ.set i (.fz d))
  | _ => .fail
def mC (d : D) : M D := fun τ => .ok d τ
theorem sE_int {i : Int} {j} : SE L P E X (.Constant (.int i) j pos) (mC (.int i)) :=
  PE.weak pe_int fun σ H Q ⟨τ, R, h⟩ => h (.int i) H .refl R (Rp.int_iff.mpr rfl)
theorem sE_bl {i : Bool} {j} : SE L P E X (.Constant (.bool i) j pos) (mC (.bl i)) :=
  PE.weak pe_bl fun σ H Q ⟨τ, R, h⟩ => h (.bl i) H .refl R (Rp.bl_iff.mpr rfl)
theorem sE_str {i : Str} {j} : SE L P E X (.Constant (.str i) j pos) (mC (.str i)) :=
  PE.weak pe_str fun σ H Q ⟨τ, R, h⟩ => h (.str i) H .refl R (Rp.str_iff.mpr rfl)
theorem sE_non {j} : SE L P E X (.Constant .none j pos) (mC .non) :=
  PE.weak pe_non fun σ H Q ⟨τ, R, h⟩ => h .non H .refl R (Rp.non_iff.mpr rfl)
theorem StR.freeze {H : Hp} {σ : L2.St} {τ : List Sl} {i : Nat} {d : D} (R : StR L P H σ τ) (h : τ[i]? = some (.ow d)) :
    Tr H (Own σ τ) H (Own σ (τ.set i (.fz d))) ∧ StR L P H σ (τ.set i (.fz d)) ∧ ∃ v, σ[i]? = some (some v) ∧ Rp L (hid H (Hd P σ (τ.set i (.fz d)))) d v := by
  have hi : i < τ.length := (List.getElem?_eq_some_iff.mp h).1
  have sub : ∀ j a, OwnAt σ (τ.set i (.fz d)) j a → OwnAt σ τ j a ∧ j ≠ i := fun j a ⟨e, t, et, ow⟩ => by
    by_cases hj : i = j
    · subst hj
      rw [List.getElem?_set_self hi] at et
      cases et
      cases ow
    · rw [List.getElem?_set_ne hj] at et
      exact ⟨⟨e, t, et, ow⟩, fun z => hj z.symm⟩
  have tr : Tr H (Own σ τ) H (Own σ (τ.set i (.fz d))) := ⟨fun _ _ q _ => q, fun a ⟨j, q⟩ => .inl ⟨j, (sub j a q).1⟩, fun _ o h => ⟨o, h⟩⟩
  obtain ⟨a, e1, r⟩ := R.sl i _ h
  have na : ¬ Hd P σ (τ.set i (.fz d)) a := fun z => by
    rcases z with ⟨j, q⟩ | z
    · obtain ⟨q1, q2⟩ := sub j a q
      exact q2 (R.inj j i a q1 ⟨e1, _, h, rfl⟩)
    · exact R.dis a ⟨i, e1, _, h, rfl⟩ z
  have rv : Rp L (hid H (Hd P σ (τ.set i (.fz d)))) d (.ref a) := by
    cases d with
    | lst ds =>
      obtain ⟨vs, hv, rr⟩ := r
      exact Rp.lst_iff.mpr ⟨a, vs, rfl, hid_some.mpr ⟨hv, na, by first | assumption | exact NoMk.no⟩, Rps.same (R.fz tr) rr⟩
    | dct ks us =>
      obtain ⟨es, hv, rr⟩ := r
      exact Rp.dct_iff.mpr ⟨a, es, rfl, hv.mono fun o z => hid_some.mpr ⟨z, na, by first | assumption | exact NoMk.no⟩, rr.same (R.fz tr)⟩
    | dki ks us =>
      obtain ⟨es, hv, e2, rr⟩ := r
      exact Rp.dki_iff.mpr ⟨a, es, rfl, hv.mono fun o z => hid_some.mpr ⟨z, na, by first | assumption | exact NoMk.no⟩, e2, Rps.same (R.fz tr) rr⟩
    | _ => exact r.elim
  refine ⟨tr, ⟨by rw [List.length_set]; exact R.len, fun j k b x y => R.inj j k b (sub j b x).1 (sub k b y).1, fun b ⟨j, q⟩ => R.dis b ⟨j, (sub j b q).1⟩, R.bth0, fun j t ht => ?_⟩, .ref a, e1, rv⟩
  by_cases hj : i = j
  · subst hj
    rw [List.getElem?_set_self hi] at ht
    cases ht
    exact ⟨.ref a, e1, rv⟩
  · rw [List.getElem?_set_ne hj] at ht
    have q := R.sl j t ht
    cases t with
    | un => trivial
    | fz d' => obtain ⟨v, e2, r2⟩ := q; exact ⟨v, e2, r2.same (R.fz tr)⟩
    | ow d' => obtain ⟨b, e2, r2⟩ := q; exact ⟨b, e2, r2.step (R.fz tr) rfl⟩
    | le d' => obtain ⟨b, e2, r2⟩ := q; exact ⟨b, e2, r2.step (R.fz tr) rfl⟩
    | io k d' => obtain ⟨b, e2, e3, r2⟩ := q; exact ⟨b, e2, e3, r2.step (R.fz tr) rfl⟩
    | oo d' => obtain ⟨b, e2, r2⟩ := q; exact ⟨b, e2, r2.step (R.fz tr) rfl⟩
theorem sE_var (i : Nat) {x : Str} (hN : X.N[i]? = some x := by rfl) (hv : Vis X.env.scope x := by first | exact Or.inl rfl | exact Or.inr (Or.inl rfl) | exact Or.inr (Or.inr rfl)) (hd : (x == ("__debug__" : Str)) = false := by decide)
    (hcd : (x == ("__classdict__" : Str)) = false := by decide) : SE L P E X (.Name x pos) (mVar i) :=
  PE.weak (pe_var hN hv hd hcd) fun σ H Q ⟨τ, R, h⟩ => by
    unfold mVar at h
    split at h
    · rename_i d e
      obtain ⟨v, e1, r⟩ := R.sl i _ e
      exact ⟨v, e1, h v H .refl R r⟩
    · rename_i d e
      obtain ⟨tr, R', v, e1, r⟩ := R.freeze e
      exact ⟨v, e1, h v H tr R' r⟩
    · exact h.elim

def mNil : M (List D) := fun τ => .ok [] τ
def mCons (m : M D) (ms : M (List D)) : M (List D) := fun τ => (m τ).bind fun x => fun τ => (ms τ).bind fun xs => fun τ => .ok (x :: xs) τ
variable {e : Expr} {es : List Expr} {m : M D} {ms : M (List D)}
theorem sA_nil : SA L P E X [] mNil := PA.weak pa_nil fun σ H Q ⟨τ, R, h⟩ => h [] H .refl R .nil
theorem sA_cons (ha : SE L P E X e m) (hr : SA L P E X es ms) (hs : starEach (e :: es) X.env = (false, eval e X.env) :: starEach es X.env := by rfl) : SA L P E X (e :: es) (mCons m ms) :=
  PA.weak (pa_cons ha hr hs) fun σ H Q ⟨τ, R, h⟩ => by
    refine ⟨τ, R, (Post.split (R := RV L) h).imp fun x H1 ⟨d1, τ1, t1, R1, r1, h1⟩ => ?_⟩
    refine ⟨τ1, R1, (Post.split (R := RVs L) h1).imp fun y H2 ⟨d2, τ2, t2, R2, r2, h2⟩ => ?_⟩
    exact h2 (x :: y) H2 .refl R2 (.cons (r1.same (R1.fz t2)) r2)
theorem same_upd {H : Hp} {p : Addr} {o : HO} (h : H p = none) : Same H (upd H p o) := fun b x e => by
  rw [upd_ne (ne_of_none e h)]
  exact e
theorem new_hid {H : Hp} {A : Addr → Prop} {p : Addr} {o : HO} (hA : ∀ q, A q → ∃ o, H q = some o) (h : H p = none) (m : ¬ MkH o := by first | assumption | exact NoMk.no) : hid (upd H p o) A p = some o :=
  hid_some.mpr ⟨upd_same, fun z => (by obtain ⟨o, q⟩ := hA p z; rw [h] at q; cases q), m⟩
def small (xs : List D) : Option (List D) := if xs.length ≤ 16000000 then some xs else none
theorem small_some {xs ys : List D} (h : small xs = some ys) : ys = xs ∧ xs.length ≤ sizeLine := by
  unfold small at h
  split at h
  · rename_i q
    cases h
    exact ⟨rfl, Nat.le_trans q (by decide)⟩
  · cases h
def mTup (ms : M (List D)) : M D := fun τ => (ms τ).bind fun xs => fun τ => Res.lift ((small xs).map D.tup) τ
def mLst (ms : M (List D)) : M D := fun τ => (ms τ).bind fun xs => fun τ => Res.lift ((small xs).map D.lst) τ
theorem new_tup {H : Hp} {A : Addr → Prop} {p : Addr} {ds : List D} {vs : List V} (hA : ∀ q, A q → ∃ o, H q = some o) (h : H p = none) (r : Rps L (hid H A) ds vs) : Rp L (hid (upd H p (.tup vs)) A) (.tup ds) (.ref p) :=
  Rp.tup_iff.mpr ⟨p, vs, rfl, .inl (.inl (new_hid hA h)), Rps.same (hid_mono (same_upd h) fun _ z => z) r⟩
theorem new_lst {H : Hp} {A : Addr → Prop} {p : Addr} {ds : List D} {vs : List V} (hA : ∀ q, A q → ∃ o, H q = some o) (h : H p = none) (r : Rps L (hid H A) ds vs) : Rp L (hid (upd H p (.lst vs)) A) (.lst ds) (.ref p) :=
  Rp.lst_iff.mpr ⟨p, vs, rfl, new_hid hA h, Rps.same (hid_mono (same_upd h) fun _ z => z) r⟩
theorem sE_tup {x1} (h : SA L P E X es ms) : SE L P E X (.Tuple es x1 pos) (mTup ms) :=
  PE.weak (pe_tup h) fun σ H Q ⟨τ, R, h⟩ => by
    refine ⟨τ, R, (Post.split (R := RVs L) h).imp fun xs H1 ⟨ds, τ1, t1, R1, r1, h1⟩ => ?_⟩
    obtain ⟨d, e, q⟩ := h1.done R1
    obtain ⟨ds', e1, rfl⟩ := Option.map_eq_some_iff.mp e
    obtain ⟨rfl, hz⟩ := small_some e1
    refine ⟨by rw [r1.length]; exact hz, fun p hp => q (.ref p) _ (.of (same_upd hp)) (new_tup (fun a ha => R1.hd_there ha) hp r1)⟩
theorem sE_lst (h : SA L P E X es ms) : SE L P E X (.List es pos) (mLst ms) :=
  PE.weak (pe_lst h) fun σ H Q ⟨τ, R, h⟩ => by
    refine ⟨τ, R, (Post.split (R := RVs L) h).imp fun xs H1 ⟨ds, τ1, t1, R1, r1, h1⟩ => ?_⟩
    obtain ⟨d, e, q⟩ := h1.done R1
    obtain ⟨ds', e1, rfl⟩ := Option.map_eq_some_iff.mp e
    obtain ⟨rfl, hz⟩ := small_some e1
    refine ⟨by rw [r1.length]; exact hz, fun p hp => q (.ref p) _ (.of (same_upd hp)) (new_lst (fun a ha => R1.hd_there ha) hp r1)⟩

def mAnd (a b : M Bool) : M Bool := fun τ => (a τ).bind fun k => fun τ => if k = true then b τ else .ok false τ
def mOr (a b : M Bool) : M Bool := fun τ => (a τ).bind fun k => fun τ => if k = true then .ok true τ else b τ
def mNot (a : M Bool) : M Bool := fun τ => (a τ).bind fun k => fun τ => .ok (!k) τ
abbrev SW (L : Lay) (P : Pa) (E : L2.St → XK) (X : Cx) (e : Expr) (m : M Bool) : Prop := PW X e (tT L P E m)
variable {na nb : M Bool} {rest : List Expr}
theorem sW_and1 (ha : ST L P E X a na) : SW L P E X (.BoolOp .And [a] pos) na := pw_and1 ha
theorem sW_or1 (ha : ST L P E X a na) : SW L P E X (.BoolOp .Or [a] pos) na := pw_or1 ha
theorem sW_and (ha : ST L P E X a na) (hb : SW L P E X (.BoolOp .And (b :: rest) pos) nb) : SW L P E X (.BoolOp .And (a :: b :: rest) pos) (mAnd na nb) :=
  PW.weak (pw_and ha hb) fun σ H Q ⟨τ, R, h⟩ => by
    refine ⟨τ, R, (Post.split (R := RB) h).imp fun k H1 ⟨k', τ1, t1, R1, r1, h1⟩ => ?_⟩
    cases r1
    cases k with
    | true => exact (if_pos rfl).mpr ⟨τ1, R1, h1⟩
    | false => exact h1 false H1 .refl R1 rfl
theorem sW_or (ha : ST L P E X a na) (hb : SW L P E X (.BoolOp .Or (b :: rest) pos) nb) : SW L P E X (.BoolOp .Or (a :: b :: rest) pos) (mOr na nb) :=
  PW.weak (pw_or ha hb) fun σ H Q ⟨τ, R, h⟩ => by
    refine ⟨τ, R, (Post.split (R := RB) h).imp fun k H1 ⟨k', τ1, t1, R1, r1, h1⟩ => ?_⟩
    cases r1
    cases k with
    | false => exact (if_neg Bool.false_ne_true).mpr ⟨τ1, R1, h1⟩
    | true => exact h1 true H1 .refl R1 rfl
theorem sT_w (h : SW L P E X e na) : ST L P E X e na := h.pt
theorem sT_not (ha : ST L P E X a na) : ST L P E X (.UnaryOp .Not a pos) (mNot na) :=
  PT.weak (pt_not ha) fun σ H Q ⟨τ, R, h⟩ => by
    refine ⟨τ, R, (Post.split (R := RB) h).imp fun k H1 ⟨k', τ1, t1, R1, r1, h1⟩ => ?_⟩
    cases r1
    exact h1 (!k) H1 .refl R1 rfl
def mIf {α : Type} (t : M Bool) (a b : M α) : M α := fun τ => (t τ).bind fun k => fun τ => if k = true then a τ else b τ
theorem sE_if (hc : ST L P E X c na) (ha : SE L P E X a ma) (hb : SE L P E X b mb) : SE L P E X (.IfExp c a b pos) (mIf na ma mb) :=
  PE.weak (pe_ifExp hc ha hb) fun σ H Q ⟨τ, R, h⟩ => by
    refine ⟨τ, R, (Post.split (R := RB) h).imp fun k H1 ⟨k', τ1, t1, R1, r1, h1⟩ => ?_⟩
    cases r1
    cases k with
    | false => exact (if_neg Bool.false_ne_true).mpr ⟨τ1, R1, h1⟩
    | true => exact (if_pos rfl).mpr ⟨τ1, R1, h1⟩
end
end Sm
set_option Elab.async false
set_option linter.all false
set_option maxRecDepth 100000
set_option maxHeartbeats 4000000
namespace Sm
open PySem PySem.Spec PyProof.Rows L2

inductive SR where
  | nx (τ : List Sl) | rt (d : D) (τ : List Sl) | ro (d : D) (τ : List Sl) | bk (τ : List Sl) | ct (τ : List Sl) | exc (c : Nat) (xs : List D) (τ : List Sl) | fail
abbrev MS := List Sl → SR

def rid (H : Hp) (a : Addr) : Hp := fun b => if b = a then none else H b
theorem rid_ne {H : Hp} {a b : Addr} (h : b ≠ a) : rid H a b = H b := if_neg h
theorem rid_same {H : Hp} {a : Addr} : rid H a a = none := if_pos rfl
theorem rid_le {H : Hp} {a : Addr} : Same (rid H a) H := fun b o h => by
  by_cases e : b = a
  · rw [e, rid_same] at h; cases h
  · rw [rid_ne e] at h; exact h
theorem rid_upd {H : Hp} {a : Addr} {o : HO} (h : H a = none) : rid (upd H a o) a = H := by
  funext b
  by_cases e : b = a
  · rw [e, rid_same, h]
  · rw [rid_ne e, upd_ne e]

theorem rid_mk {H : Hp} {a b p : Addr} (n : ∀ o, H a = some o → ¬ MkH o) (h : MkBy (H b) p) : rid H a b = H b := by
  obtain ⟨o, h1, h2⟩ := h.get
  exact rid_ne fun z => n o (by rw [← z]; exact h1) h2
theorem mk_rid {H : Hp} {a b p : Addr} (h : MkBy (rid H a b) p) : H b = rid H a b := same_mk rid_le h
structure TrO (H : Hp) (A : Addr → Prop) (H' : Hp) (A' : Addr → Prop) (a : Addr) : Prop where
  keep0 : ∀ b o, H b = some o → ¬ Foot H A b → rid H' a b = some o
  new : ∀ b, A' b → A b ∨ H b = none
  there : ∀ b o, b ≠ a → H b = some o → ∃ o', rid H' a b = some o'
  src : A a ∨ H a = none
theorem TrO.keep {H H' : Hp} {A A' : Addr → Prop} {a : Addr} (x : TrO H A H' A' a) (b : Addr) (o : HO) (h : H b = some o) (n : ¬ A b) (m : ¬ MkH o := by first | assumption | exact NoMk.no) : rid H' a b = some o := x.keep0 b o h (foot_no h n m)
theorem TrO.of {H H' : Hp} {A A' : Addr → Prop} {a : Addr} (x : Tr H A (rid H' a) A') : TrO H A H' A' a := ⟨x.keep0, x.new, fun b o _ h => x.there b o h, .inr (x.fresh rid_same)⟩
theorem TrO.after {H H1 H' : Hp} {A A1 A' : Addr → Prop} {a : Addr} (x : Tr H A H1 A1) (y : TrO H1 A1 H' A' a) : TrO H A H' A' a where
  keep0 := fun b o h n => by
    have h1 := x.keep0 b o h n
    refine y.keep0 b o h1 fun z => ?_
    rcases z with z | ⟨p, e, z⟩
    · rcases x.new b z with q | q
      · exact n (.inl q)
      · rw [q] at h; cases h
    · rw [h1, ← h] at e
      refine n (.inr ⟨p, e, ?_⟩)
      rcases z with z | z
      · exact x.new p z
      · exact .inr (x.fresh z)
  new := fun b z => by
    rcases y.new b z with z | z
    · exact x.new b z
    · exact .inr (x.fresh z)
  there := fun b o n h => by
    obtain ⟨o1, h1⟩ := x.there b o h
    exact y.there b o1 n h1
  src := by
    rcases y.src with z | z
    · exact x.new a z
    · exact .inr (x.fresh z)
def SPost (L : Lay) (P : Pa) (W : WX) (H : Hp) (σ : L2.St) (τ : List Sl) (r : SR) (D : Ends) : Prop :=
  match r with
  | .nx τ' => ∀ σ' H', Tr H (Own σ τ) H' (Own σ' τ') → StR L P H' σ' τ' → D.nx σ' H'
  | .bk τ' => ∀ σ' H', Tr H (Own σ τ) H' (Own σ' τ') → StR L P H' σ' τ' → D.bk σ' H'
  | .ct τ' => ∀ σ' H', Tr H (Own σ τ) H' (Own σ' τ') → StR L P H' σ' τ' → D.ct σ' H'
  | .rt d τ' => ∀ v σ' H', Tr H (Own σ τ) H' (Own σ' τ') → StR L P H' σ' τ' → Rp L (hid H' (Hd P σ' τ')) d v → D.rt v H'
  | .ro d τ' => ∀ a σ' H', TrO H (Own σ τ) H' (Own σ' τ') a → StR L P (rid H' a) σ' τ' → OwX L (hid (rid H' a) (Hd P σ' τ')) H' d a → D.rt (.ref a) H'
  | .exc c xs τ' => ∀ cls od σ' H', Tr H (Own σ τ) H' (Own σ' τ') → StR L P H' σ' τ' → ExR L (hid H' (Hd P σ' τ')) c xs cls od → W cls od σ' H'
  | .fail => False
section
variable {L : Lay} {P : Pa} {W : WX} {H H1 : Hp} {σ σ1 : L2.St} {τ τ1 : List Sl} {D : Ends}
theorem SPost.from {r : SR} (h : SPost L P W H σ τ r D) (x : Tr H (Own σ τ) H1 (Own σ1 τ1)) : SPost L P W H1 σ1 τ1 r D := by
  cases r with
  | nx τ' => exact fun σ' H' y z => h σ' H' (x.trans y) z
  | bk τ' => exact fun σ' H' y z => h σ' H' (x.trans y) z
  | ct τ' => exact fun σ' H' y z => h σ' H' (x.trans y) z
  | rt d τ' => exact fun v σ' H' y z w => h v σ' H' (x.trans y) z w
  | ro d τ' => exact fun v σ' H' y z w => h v σ' H' (TrO.after x y) z w
  | exc c xs τ' => exact fun cls od σ' H' y z w => h cls od σ' H' (x.trans y) z w
  | fail => exact h
end
def tS (L : Lay) (P : Pa) (W : WX) (m : MS) : TS := fun D σ H => ∃ τ, StR L P H σ τ ∧ SPost L P W H σ τ (m τ) D
abbrev SS (L : Lay) (P : Pa) (W : WX) (X : Cx) (st : Stmt) (m : MS) : Prop := PS X st (tS L P W m)
abbrev SSs (L : Lay) (P : Pa) (W : WX) (X : Cx) (st : List Stmt) (m : MS) : Prop := PSs X st (tS L P W m)

def Res.st {α : Type} (r : Res α) (f : α → MS) : SR :=
  match r with
  | .ok a τ => f a τ
  | .exc c xs τ => .exc c xs τ
  | .fail => .fail
@[simp] theorem Res.st_ok {α : Type} {a : α} {τ : List Sl} {f : α → MS} : (Res.ok a τ).st f = f a τ := rfl
@[simp] theorem Res.st_exc {α : Type} {c : Nat} {xs : List D} {τ : List Sl} {f : α → MS} : (Res.exc c xs τ : Res α).st f = .exc c xs τ := rfl
@[simp] theorem Res.st_fail {α : Type} {f : α → MS} : (Res.fail : Res α).st f = .fail := rfl
def SR.then (r : SR) (m : MS) : SR :=
  match r with
  | .nx τ => m τ
  | r => r
@[simp] theorem SR.then_nx {τ : List Sl} {m : MS} : (SR.nx τ).then m = m τ := rfl
@[simp] theorem SR.then_rt {d : D} {τ : List Sl} {m : MS} : (SR.rt d τ).then m = .rt d τ := rfl
@[simp] theorem SR.then_ro {d : D} {τ : List Sl} {m : MS} : (SR.ro d τ).then m = .ro d τ := rfl
@[simp] theorem SR.then_bk {τ : List Sl} {m : MS} : (SR.bk τ).then m = .bk τ := rfl
@[simp] theorem SR.then_ct {τ : List Sl} {m : MS} : (SR.ct τ).then m = .ct τ := rfl
@[simp] theorem SR.then_exc {c : Nat} {xs : List Sm.D} {τ : List Sl} {m : MS} : (SR.exc c xs τ).then m = .exc c xs τ := rfl
@[simp] theorem SR.then_fail {m : MS} : SR.fail.then m = .fail := rfl

section
variable {L : Lay} {P : Pa} {W : WX} {X : Cx} {e : Expr} {pos : Pos} {m : M D} {st : Stmt} {rest : List Stmt} {ms ns : MS}
theorem Post.sta {α β : Type} {R : Hp → α → β → Prop} {H : Hp} {σ : L2.St} {τ : List Sl} {r : Res α} {f : α → MS} {D : Ends} (h : SPost L P W H σ τ (r.st f) D) :
    Post L P R H σ τ r (fun v H1 => ∃ a τ1, Tr H (Own σ τ) H1 (Own σ τ1) ∧ StR L P H1 σ τ1 ∧ R (hid H1 (Hd P σ τ1)) a v ∧ SPost L P W H1 σ τ1 (f a τ1) D) (WE W σ) := by
  cases r with
  | ok a τ' => exact fun v H' x y z => ⟨a, τ', x, y, z, SPost.from h x⟩
  | exc c xs τ' => exact fun cls od H' x y z => h cls od σ H' x y z
  | fail => exact h
def mNx : MS := fun τ => .nx τ
theorem sS_nil : SSs L P W X [] mNx := PSs.weak pss_nil fun D σ H ⟨τ, R, h⟩ => h σ H .refl R
def mSeq (a b : MS) : MS := fun τ => (a τ).then b
theorem SPost.then {H : Hp} {σ : L2.St} {τ : List Sl} {r : SR} {D : Ends} (h : SPost L P W H σ τ (r.then ns) D) : SPost L P W H σ τ r { D with nx := tS L P W ns D } := by
  cases r with
  | nx τ' => exact fun σ' H' x y => ⟨τ', y, SPost.from h x⟩
  | _ => exact h
theorem sS_cons (h1 : SS L P W X st ms) (h2 : SSs L P W X rest ns) : SSs L P W X (st :: rest) (mSeq ms ns) :=
  PSs.weak (pss_cons h1 h2) fun D σ H ⟨τ, R, h⟩ => ⟨τ, R, h.then⟩
theorem sS_one (h1 : SS L P W X st ms) : SSs L P W X [st] ms := pss_one h1
def mBk : MS := fun τ => .bk τ
def mCt : MS := fun τ => .ct τ
def mRet (m : M D) : MS := fun τ => (m τ).st fun d τ => .rt d τ
theorem sS_ret (he : SE L P (WE W) X e m) : SS L P W X (.Return (some e) pos) (mRet m) :=
  PS.weak (ps_ret he) fun D σ H ⟨τ, R, h⟩ => ⟨τ, R, (Post.sta (R := RV L) h).imp fun v H1 ⟨d, τ1, t1, R1, r1, h1⟩ => h1 v σ H1 .refl R1 r1⟩
def mRetN : MS := fun τ => .rt .non τ
def mIfS (c : M Bool) (a b : MS) : MS := fun τ => (c τ).st fun k τ => if k = true then a τ else b τ
theorem sS_if {c : Expr} {a b : List Stmt} {mc : M Bool} (hc : ST L P (WE W) X c mc) (ha : SSs L P W X a ms) (hb : SSs L P W X b ns) : SS L P W X (.If c a b pos) (mIfS mc ms ns) :=
  PS.weak (ps_if hc ha hb) fun D σ H ⟨τ, R, h⟩ => by
    refine ⟨τ, R, (Post.sta (R := RB) h).imp fun k H1 ⟨k', τ1, t1, R1, r1, h1⟩ => ?_⟩
    cases r1
    cases k with
    | true => exact (if_pos rfl).mpr ⟨τ1, R1, h1⟩
    | false => exact (if_neg Bool.false_ne_true).mpr ⟨τ1, R1, h1⟩
def mDrop (m : M D) : MS := fun τ => (m τ).st fun _ τ => .nx τ
theorem sS_expr (he : SE L P (WE W) X e m) (hs : swapsWith e none pos.line X.env = pure false := by rfl) : SS L P W X (.Expr e pos) (mDrop m) :=
  PS.weak (ps_expr he hs) fun D σ H ⟨τ, R, h⟩ => ⟨τ, R, (Post.sta (R := RV L) h).imp fun v H1 ⟨d, τ1, t1, R1, r1, h1⟩ => h1 σ H1 .refl R1⟩
def Sl.free : Sl → Bool
  | .io _ _ => false
  | .le _ => false
  | _ => true
def setFz (i : Nat) (d : D) (τ : List Sl) : Option (List Sl) :=
  match τ[i]? with
  | some t => if t.free = true then some (τ.set i (.fz d)) else none
  | none => none
def setOw (i : Nat) (d : D) (τ : List Sl) : Option (List Sl) :=
  match τ[i]? with
  | some t => if t.free = true then some (τ.set i (.ow d)) else none
  | none => none
theorem setFz_some {i : Nat} {d : D} {τ τ' : List Sl} (h : setFz i d τ = some τ') : i < τ.length ∧ τ' = τ.set i (.fz d) := by
  unfold setFz at h
  split at h
  · rename_i t e
    split at h
    · cases h; exact ⟨(List.getElem?_eq_some_iff.mp e).1, rfl⟩
    · cases h
  · cases h
theorem setOw_some {i : Nat} {d : D} {τ τ' : List Sl} (h : setOw i d τ = some τ') : i < τ.length ∧ τ' = τ.set i (.ow d) := by
  unfold setOw at h
  split at h
  · rename_i t e
    split at h
    · cases h; exact ⟨(List.getElem?_eq_some_iff.mp e).1, rfl⟩
    · cases h
  · cases h
theorem StR.setFz {H : Hp} {σ : L2.St} {τ : List Sl} {i : Nat} {d : D} {v : V} (R : StR L P H σ τ) (hi : i < τ.length) (r : Rp L (hid H (Hd P σ τ)) d v) :
    Tr H (Own σ τ) H (Own (σ.set i (some v)) (τ.set i (.fz d))) ∧ StR L P H (σ.set i (some v)) (τ.set i (.fz d)) := by
  have hi' : i < σ.length := by rw [R.len]; exact hi
  have sub : ∀ j a, OwnAt (σ.set i (some v)) (τ.set i (.fz d)) j a → OwnAt σ τ j a := fun j a ⟨e, t, et, ow⟩ => by
    by_cases hj : i = j
    · subst hj
      rw [List.getElem?_set_self hi] at et
      cases et
      cases ow
    · rw [List.getElem?_set_ne hj] at et e
      exact ⟨e, t, et, ow⟩
  have tr : Tr H (Own σ τ) H (Own (σ.set i (some v)) (τ.set i (.fz d))) := ⟨fun _ _ q _ => q, fun a ⟨j, q⟩ => .inl ⟨j, sub j a q⟩, fun _ o h => ⟨o, h⟩⟩
  refine ⟨tr, by rw [List.length_set, List.length_set]; exact R.len, fun j k b x y => R.inj j k b (sub j b x) (sub k b y), fun b ⟨j, q⟩ => R.dis b ⟨j, sub j b q⟩, R.bth0, fun j t ht => ?_⟩
  by_cases hj : i = j
  · subst hj
    rw [List.getElem?_set_self hi] at ht
    cases ht
    exact ⟨v, List.getElem?_set_self hi', r.same (R.fz tr)⟩
  · rw [List.getElem?_set_ne hj] at ht
    rw [List.getElem?_set_ne hj]
    have q := R.sl j t ht
    cases t with
    | un => trivial
    | fz d' => obtain ⟨v, e2, r2⟩ := q; exact ⟨v, e2, r2.same (R.fz tr)⟩
    | ow d' => obtain ⟨b, e2, r2⟩ := q; exact ⟨b, e2, r2.step (R.fz tr) rfl⟩
    | le d' => obtain ⟨b, e2, r2⟩ := q; exact ⟨b, e2, r2.step (R.fz tr) rfl⟩
    | io k d' => obtain ⟨b, e2, e3, r2⟩ := q; exact ⟨b, e2, e3, r2.step (R.fz tr) rfl⟩
    | oo d' => obtain ⟨b, e2, r2⟩ := q; exact ⟨b, e2, r2.step (R.fz tr) rfl⟩
theorem StR.setOw {H' : Hp} {σ : L2.St} {τ : List Sl} {i : Nat} {d : D} {a : Addr} (R : StR L P (rid H' a) σ τ) (hi : i < τ.length) (r : OwR L (hid (rid H' a) (Hd P σ τ)) H' d a) :
    Tr (rid H' a) (Own σ τ) H' (Own (σ.set i (some (.ref a))) (τ.set i (.ow d))) ∧ StR L P H' (σ.set i (some (.ref a))) (τ.set i (.ow d)) := by
  have hi' : i < σ.length := by rw [R.len]; exact hi
  have old : ∀ j b, j ≠ i → OwnAt (σ.set i (some (.ref a))) (τ.set i (.ow d)) j b → OwnAt σ τ j b := fun j b hj ⟨e, t, et, ow⟩ => by
    rw [List.getElem?_set_ne (Ne.symm hj)] at et e
    exact ⟨e, t, et, ow⟩
  have new : ∀ b, OwnAt (σ.set i (some (.ref a))) (τ.set i (.ow d)) i b → b = a := fun b ⟨e, _⟩ => by
    rw [List.getElem?_set_self hi'] at e
    cases e; rfl
  have notA : ∀ j b, OwnAt σ τ j b → b ≠ a := fun j b q z => by
    obtain ⟨o, h⟩ := R.own_there ⟨j, q⟩
    rw [z, rid_same] at h; cases h
  have tr : Tr (rid H' a) (Own σ τ) H' (Own (σ.set i (some (.ref a))) (τ.set i (.ow d))) := by
    refine ⟨fun b o q _ => rid_le b o q, fun b ⟨j, q⟩ => ?_, fun b o q => ⟨o, rid_le b o q⟩⟩
    by_cases hj : j = i
    · subst hj; rw [new b q]; exact .inr rid_same
    · exact .inl ⟨j, old j b hj q⟩
  refine ⟨tr, by rw [List.length_set, List.length_set]; exact R.len, fun j k b x y => ?_, fun b ⟨j, q⟩ z => ?_, fun b z => let ⟨o, q, m⟩ := R.bth0 b z; ⟨o, rid_le b o q, m⟩, fun j t ht => ?_⟩
  · by_cases hj : j = i
    · by_cases hk : k = i
      · rw [hj, hk]
      · subst hj
        exact absurd (new b x) (notA k b (old k b hk y))
    · by_cases hk : k = i
      · subst hk
        exact absurd (new b y) (notA j b (old j b hj x))
      · exact R.inj j k b (old j b hj x) (old k b hk y)
  · by_cases hj : j = i
    · subst hj
      rw [new b q] at z
      obtain ⟨o, h⟩ := R.bth a z
      rw [rid_same] at h; cases h
    · exact R.dis b ⟨j, old j b hj q⟩ z
  · by_cases hj : i = j
    · subst hj
      rw [List.getElem?_set_self hi] at ht
      cases ht
      exact ⟨a, List.getElem?_set_self hi', r.step (R.fz tr) rfl⟩
    · rw [List.getElem?_set_ne hj] at ht
      rw [List.getElem?_set_ne hj]
      have q := R.sl j t ht
      have st : ∀ {d' : Sm.D} {b : Addr}, OwR L (hid (rid H' a) (Hd P σ τ)) (rid H' a) d' b → OwR L (hid H' (Hd P (σ.set i (some (.ref a))) (τ.set i (.ow d)))) H' d' b := fun {d' b} q => by
        obtain ⟨o, ho⟩ := q.there
        exact q.step (R.fz tr) (by rw [ho]; exact rid_le b o ho)
      have stx : ∀ {d' : Sm.D} {b : Addr}, OwX L (hid (rid H' a) (Hd P σ τ)) (rid H' a) d' b → OwX L (hid H' (Hd P (σ.set i (some (.ref a))) (τ.set i (.ow d)))) H' d' b := fun {d' b} q => by
        obtain ⟨o, ho⟩ := q.there
        exact q.step (R.fz tr) (by rw [ho]; exact rid_le b o ho) (fun b z => mk_rid z)
      cases t with
      | un => trivial
      | fz d' => obtain ⟨v, e2, r2⟩ := q; exact ⟨v, e2, r2.same (R.fz tr)⟩
      | ow d' => obtain ⟨b, e2, r2⟩ := q; exact ⟨b, e2, st r2⟩
      | le d' => obtain ⟨b, e2, r2⟩ := q; exact ⟨b, e2, st r2⟩
      | io k d' => obtain ⟨b, e2, e3, r2⟩ := q; exact ⟨b, e2, e3, stx r2⟩
      | oo d' => obtain ⟨b, e2, r2⟩ := q; exact ⟨b, e2, stx r2⟩

def SR.opt (o : Option (List Sl)) : SR :=
  match o with
  | some τ => .nx τ
  | none => .fail
@[simp] theorem SR.opt_some {τ : List Sl} : SR.opt (some τ) = .nx τ := rfl
@[simp] theorem SR.opt_none : SR.opt none = .fail := rfl
theorem SPost.opt {H : Hp} {σ : L2.St} {τ : List Sl} {o : Option (List Sl)} {D : Ends} (h : SPost L P W H σ τ (SR.opt o) D) : ∃ τ', o = some τ' ∧ ∀ σ' H', Tr H (Own σ τ) H' (Own σ' τ') → StR L P H' σ' τ' → D.nx σ' H' := by
  cases o with
  | none => exact h.elim
  | some τ' => exact ⟨τ', rfl, h⟩
def mSet (i : Nat) (m : M D) : MS := fun τ => (m τ).st fun d τ => SR.opt (setFz i d τ)
theorem sS_set {i : Nat} {x : Str} {pos' : Pos} (hN : X.N.Nodup) (hi : X.N[i]? = some x) (hx : Loc X.env.scope x) (he : SE L P (WE W) X e m) (hs : swapsWith e (some (.Name x pos')) pos.line X.env = pure false := by rfl) (hf : X.fn x = true ∨ X.env.scope.names.lookup x = some .local := by first | exact .inl rfl | exact .inr rfl | assumption) :
    SS L P W X (.Assign [.Name x pos'] e pos) (mSet i m) :=
  PS.weak (ps_set hN hi hx he hs hf) fun D σ H ⟨τ, R, h⟩ => by
    refine ⟨τ, R, (Post.sta (R := RV L) h).imp fun v H1 ⟨d, τ1, t1, R1, r1, h1⟩ => ?_⟩
    obtain ⟨τ', e, q⟩ := h1.opt
    obtain ⟨hi, rfl⟩ := setFz_some e
    obtain ⟨tr, R2⟩ := R1.setFz hi r1
    exact q _ H1 tr R2

def PostF (L : Lay) (P : Pa) (H : Hp) (σ : L2.St) (τ : List Sl) (r : Res D) (Q : VK) (E : XK) : Prop :=
  match r with
  | .ok d τ' => ∀ a H', Tr H (Own σ τ) (rid H' a) (Own σ τ') → StR L P (rid H' a) σ τ' → OwR L (hid (rid H' a) (Hd P σ τ')) H' d a → Q (.ref a) H'
  | .exc c xs τ' => ∀ cls od H', Tr H (Own σ τ) H' (Own σ τ') → StR L P H' σ τ' → ExR L (hid H' (Hd P σ τ')) c xs cls od → E cls od H'
  | .fail => False
def tF (L : Lay) (P : Pa) (E : L2.St → XK) (m : M D) : TE := fun σ H Q => ∃ τ, StR L P H σ τ ∧ PostF L P H σ τ (m τ) Q (E σ)
abbrev SF (L : Lay) (P : Pa) (E : L2.St → XK) (X : Cx) (e : Expr) (m : M D) : Prop := PE X e (tF L P E m)
theorem fresh_rp {H' : Hp} {σ : L2.St} {τ : List Sl} {d : D} {a : Addr} (R : StR L P (rid H' a) σ τ) (r : OwR L (hid (rid H' a) (Hd P σ τ)) H' d a) : Rp L (hid H' (Hd P σ τ)) d (.ref a) := by
  have na : ¬ Hd P σ τ a := fun z => by
    obtain ⟨o, h⟩ := R.hd_there z
    rw [rid_same] at h; cases h
  cases d with
  | lst ds =>
    obtain ⟨vs, h, rr⟩ := r
    exact Rp.lst_iff.mpr ⟨a, vs, rfl, hid_some.mpr ⟨h, na, by first | assumption | exact NoMk.no⟩, Rps.same (hid_mono rid_le fun _ z => z) rr⟩
  | dct ks us =>
    obtain ⟨es, h, rr⟩ := r
    exact Rp.dct_iff.mpr ⟨a, es, rfl, h.mono fun o z => hid_some.mpr ⟨z, na, by first | assumption | exact NoMk.no⟩, rr.same (hid_mono rid_le fun _ z => z)⟩
  | dki ks us =>
    obtain ⟨es, h, e2, rr⟩ := r
    exact Rp.dki_iff.mpr ⟨a, es, rfl, h.mono fun o z => hid_some.mpr ⟨z, na, by first | assumption | exact NoMk.no⟩, e2, Rps.same (hid_mono rid_le fun _ z => z) rr⟩
  | _ => exact r.elim
theorem SE.of {E : L2.St → XK} (h : SF L P E X e m) : SE L P E X e m :=
  PE.weak h fun σ H Q ⟨τ, R, h⟩ => by
    refine ⟨τ, R, ?_⟩
    revert h
    cases m τ with
    | ok d τ' => exact fun h a H' t R' o => h (.ref a) H' (t.trans (.of rid_le)) (R'.same rid_le) (fresh_rp R' o)
    | exc c xs τ' => exact fun h => h
    | fail => exact fun h => h
theorem tLst_fresh {es : List Expr} {E : L2.St → XK} {k : M (List D)} (h : SA L P E X es k) : SF L P E X (.List es pos) (mLst k) :=
  PE.weak (pe_lst h) fun σ H Q ⟨τ, R, h⟩ => by
    have h : PostF L P H σ τ ((k τ).bind fun xs τ => Res.lift ((small xs).map D.lst) τ) Q (E σ) := h
    refine ⟨τ, R, ?_⟩
    revert h
    cases k τ with
    | ok ds τ1 =>
      intro h vs H1 t1 R1 r1
      cases e : small ds with
      | none => rw [Res.bind_ok, e] at h; exact h.elim
      | some ds' =>
        rw [Res.bind_ok, e] at h
        obtain ⟨rfl, hz⟩ := small_some e
        refine ⟨by rw [r1.length]; exact hz, fun p hp => h p _ ?_ ?_ ?_⟩
        · rw [rid_upd hp]; exact t1
        · rw [rid_upd hp]; exact R1
        · rw [rid_upd hp]; exact ⟨vs, upd_same, r1⟩
    | exc c xs τ' => exact fun h => h
    | fail => exact fun h => h
def mSetO (i : Nat) (m : M D) : MS := fun τ => (m τ).st fun d τ => SR.opt (setOw i d τ)
theorem sS_setO {i : Nat} {x : Str} {pos' : Pos} (hN : X.N.Nodup) (hi : X.N[i]? = some x) (hx : Loc X.env.scope x) (he : SF L P (WE W) X e m) (hs : swapsWith e (some (.Name x pos')) pos.line X.env = pure false := by rfl) (hf : X.fn x = true ∨ X.env.scope.names.lookup x = some .local := by first | exact .inl rfl | exact .inr rfl | assumption) :
    SS L P W X (.Assign [.Name x pos'] e pos) (mSetO i m) :=
  PS.weak (ps_set hN hi hx he hs hf) fun D σ H ⟨τ, R, h⟩ => by
    refine ⟨τ, R, ?_⟩
    have h : SPost L P W H σ τ ((m τ).st fun d τ => SR.opt (setOw i d τ)) D := h
    revert h
    cases m τ with
    | ok d τ1 =>
      intro h a H1 t1 R1 r1
      obtain ⟨τ', e, q⟩ := SPost.opt h
      obtain ⟨hi, rfl⟩ := setOw_some e
      obtain ⟨tr, R2⟩ := R1.setOw hi r1
      exact q _ H1 (t1.trans tr) R2
    | exc c xs τ' => exact fun h cls od H' x y z => h cls od σ H' x y z
    | fail => exact fun h => h
def mRetO (m : M D) : MS := fun τ => (m τ).st fun d τ => .ro d τ
theorem sS_retO (he : SF L P (WE W) X e m) : SS L P W X (.Return (some e) pos) (mRetO m) :=
  PS.weak (ps_ret he) fun D σ H ⟨τ, R, h⟩ => by
    refine ⟨τ, R, ?_⟩
    have h : SPost L P W H σ τ ((m τ).st fun d τ => .ro d τ) D := h
    revert h
    cases m τ with
    | ok d τ1 => exact fun h a H1 t1 R1 r1 => h a σ H1 (.of t1) R1 r1.x
    | exc c xs τ' => exact fun h cls od H' x y z => h cls od σ H' x y z
    | fail => exact fun h => h

theorem StR.give {L : Lay} {P : Pa} {H : Hp} {σ : L2.St} {τ : List Sl} {i : Nat} {d : D} (R : StR L P H σ τ) (h : τ[i]? = some (.ow d) ∨ τ[i]? = some (.oo d)) :
    ∃ a, σ[i]? = some (some (.ref a)) ∧ TrO H (Own σ τ) H (Own σ (τ.set i .un)) a ∧ StR L P (rid H a) σ (τ.set i .un) ∧ OwX L (hid (rid H a) (Hd P σ (τ.set i .un))) H d a := by
  obtain ⟨t0, h, ow0, r0⟩ : ∃ t, τ[i]? = some t ∧ t.own = true ∧ ∃ a, σ[i]? = some (some (.ref a)) ∧ OwX L (hid H (Hd P σ τ)) H d a := by
    rcases h with h | h
    · obtain ⟨a, e, r⟩ := R.sl i _ h
      exact ⟨_, h, rfl, a, e, r.x⟩
    · obtain ⟨a, e, r⟩ := R.sl i _ h
      exact ⟨_, h, rfl, a, e, r⟩
  have hi : i < τ.length := (List.getElem?_eq_some_iff.mp h).1
  have sub : ∀ j a, OwnAt σ (τ.set i .un) j a → OwnAt σ τ j a ∧ j ≠ i := fun j a ⟨e, t, et, ow⟩ => by
    by_cases hj : i = j
    · subst hj
      rw [List.getElem?_set_self hi] at et
      cases et
      cases ow
    · rw [List.getElem?_set_ne hj] at et
      exact ⟨⟨e, t, et, ow⟩, fun z => hj z.symm⟩
  obtain ⟨a, e1, r⟩ := r0
  have oa : OwnAt σ τ i a := ⟨e1, _, h, ow0⟩
  have mono : Same (hid H (Hd P σ τ)) (hid (rid H a) (Hd P σ (τ.set i .un))) := fun b o q => by
    obtain ⟨q1, q2, nk_q2⟩ := hid_some.mp q
    have nb : b ≠ a := fun z => q2 (.inl ⟨i, by rw [z]; exact oa⟩)
    refine hid_some.mpr ⟨by rw [rid_ne nb]; exact q1, fun z => q2 ?_, by first | assumption | exact NoMk.no⟩
    rcases z with ⟨j, z⟩ | z
    · exact .inl ⟨j, (sub j b z).1⟩
    · exact .inr z
  have far : ∀ j b, OwnAt σ (τ.set i .un) j b → b ≠ a := fun j b z e => by
    obtain ⟨z1, z2⟩ := sub j b z
    rw [e] at z1
    exact z2 (R.inj j i a z1 oa)
  refine ⟨a, e1, ⟨fun b o q n => ?_, fun b ⟨j, q⟩ => .inl ⟨j, (sub j b q).1⟩, fun b o n q => ⟨o, by rw [rid_ne n]; exact q⟩, .inl ⟨i, oa⟩⟩,
    ⟨by rw [List.length_set]; exact R.len, fun j k b x y => R.inj j k b (sub j b x).1 (sub k b y).1, fun b ⟨j, q⟩ => R.dis b ⟨j, (sub j b q).1⟩, fun b hb => ?_, fun j t ht => ?_⟩, r.step mono rfl⟩
  · rw [rid_ne fun z => n (.inl ⟨i, by rw [z]; exact oa⟩)]; exact q
  · obtain ⟨o, q, m⟩ := R.bth0 b hb
    exact ⟨o, by rw [rid_ne fun z => R.dis a ⟨i, oa⟩ (by rw [← z]; exact hb)]; exact q, m⟩
  · by_cases hj : i = j
    · subst hj
      rw [List.getElem?_set_self hi] at ht
      cases ht
      trivial
    · have ht2 := ht
      rw [List.getElem?_set_ne hj] at ht
      have q := R.sl j t ht
      cases t with
      | un => trivial
      | fz d' => obtain ⟨v, e2, r2⟩ := q; exact ⟨v, e2, r2.same mono⟩
      | ow d' => obtain ⟨b, e2, r2⟩ := q; exact ⟨b, e2, r2.step mono (rid_ne (far j b ⟨e2, _, ht2, rfl⟩))⟩
      | le d' => obtain ⟨b, e2, r2⟩ := q; exact ⟨b, e2, r2.step mono (rid_ne (far j b ⟨e2, _, ht2, rfl⟩))⟩
      | io k d' => obtain ⟨b, e2, e3, r2⟩ := q; exact ⟨b, e2, e3, r2.step mono (rid_ne (far j b ⟨e2, _, ht2, rfl⟩)) fun b z => rid_mk r.noMk z⟩
      | oo d' => obtain ⟨b, e2, r2⟩ := q; exact ⟨b, e2, r2.step mono (rid_ne (far j b ⟨e2, _, ht2, rfl⟩)) fun b z => rid_mk r.noMk z⟩
abbrev MG := D → List Sl → Option (List Sl)
def tG (L : Lay) (P : Pa) (g : MG) : TG := fun v σ H Q => ∃ τ d τ', StR L P H σ τ ∧ Rp L (hid H (Hd P σ τ)) d v ∧ g d τ = some τ' ∧ ∀ σ' H', Tr H (Own σ τ) H' (Own σ' τ') → StR L P H' σ' τ' → Q σ' H'
abbrev SG (L : Lay) (P : Pa) (X : Cx) (tg : Expr) (g : MG) : Prop := PG X tg (tG L P g)
def gN (i : Nat) : MG := fun d τ => setFz i d τ
theorem sG_name {i : Nat} {x : Str} (hN : X.N.Nodup) (hi : X.N[i]? = some x) (hx : Loc X.env.scope x) (hf : X.fn x = true ∨ X.env.scope.names.lookup x = some .local := by first | exact .inl rfl | exact .inr rfl | assumption) : SG L P X (.Name x pos) (gN i) :=
  PG.weak (pg_name hN hi hx hf) fun v σ H Q ⟨τ, d, τ', R, r, e, q⟩ => by
    obtain ⟨hi, rfl⟩ := setFz_some e
    obtain ⟨tr, R2⟩ := R.setFz hi r
    exact q _ H tr R2
abbrev MGs := List D → List Sl → Option (List Sl)
def tGs (L : Lay) (P : Pa) (g : MGs) : TGs := fun vs σ H Q => ∃ τ ds τ', StR L P H σ τ ∧ Rps L (hid H (Hd P σ τ)) ds vs ∧ g ds τ = some τ' ∧ ∀ σ' H', Tr H (Own σ τ) H' (Own σ' τ') → StR L P H' σ' τ' → Q σ' H'
abbrev SGs (L : Lay) (P : Pa) (X : Cx) (tg : List Expr) (g : MGs) : Prop := PGs X tg (tGs L P g)
def gNil : MGs := fun ds τ =>
  match ds with
  | [] => some τ
  | _ => none
def gCons (g : MG) (gs : MGs) : MGs := fun ds τ =>
  match ds with
  | d :: r => (g d τ).bind (gs r)
  | [] => none
theorem PGs.weak {X : Cx} {e : List Expr} {t u : TGs} (h : PGs X e t) (f : ∀ v σ H Q, u v σ H Q → t v σ H Q) : PGs X e u := ⟨fun pins s σ H v w Q I r q => h.run pins s σ H v w Q I r (f v σ H Q q)⟩
theorem sGs_nil : SGs L P X [] Sm.gNil :=
  PGs.weak pgs_nil fun vs σ H Q ⟨τ, ds, τ', R, r, e, q⟩ => by
    cases ds with
    | nil => cases e; unfold Rps at r; exact ⟨r, q σ H .refl R⟩
    | cons d r => cases e
theorem sGs_cons {e : Expr} {es : List Expr} {g : MG} {gs : MGs} (h1 : SG L P X e g) (h2 : SGs L P X es gs) (hs : (assignEach (e :: es) X.env).map (·.2) = assign e X.env :: (assignEach es X.env).map (·.2) := by rfl) : SGs L P X (e :: es) (Sm.gCons g gs) :=
  PGs.weak (pgs_cons h1 h2 hs) fun vs σ H Q ⟨τ, ds, τ', R, r, e, q⟩ => by
    cases ds with
    | nil => cases e
    | cons d ds =>
      unfold Rps at r
      obtain ⟨v, vr, rfl, rd, rr⟩ := r
      obtain ⟨τ1, e1, e2⟩ := Option.bind_eq_some_iff.mp e
      refine ⟨v, vr, rfl, τ, d, τ1, R, rd, e1, fun σ1 H1 t1 R1 => ?_⟩
      exact ⟨τ1, ds, τ', R1, Rps.same (R.fz t1) rr, e2, fun σ' H' t2 R2 => q σ' H' (t1.trans t2) R2⟩
def gT (n : Nat) (gs : MGs) : MG := fun d τ =>
  match d with
  | .tup ds => if ds.length = n then gs ds τ else none
  | .lst ds => if ds.length = n then gs ds τ else none
  | _ => none
theorem PG.or {X : Cx} {tg : Expr} {g g' : TG} (h : PG X tg g) (h' : PG X tg g') : PG X tg (fun v σ H Q => g v σ H Q ∨ g' v σ H Q) :=
  ⟨fun pins s σ H v w Q I r q => q.elim (fun q => h.run pins s σ H v w Q I r q) fun q => h'.run pins s σ H v w Q I r q⟩
theorem sG_tup {es : List Expr} {k : Nat} {gs : MGs} {n : Nat} (hK : X.K = L.K) (hc : X.calm = true) (h : SGs L P X es gs)
    (hn : (assignEach es X.env).length = n := by rfl) (hst : (assignEach es X.env).findIdx? (·.1) = none := by rfl) : SG L P X (.Tuple es k pos) (gT n gs) :=
  PG.weak (Sm.PG.or (pg_tup hc h hn hst) (pg_lst hc h hn hst)) fun v σ H Q ⟨τ, d, τ', R, r, e, q⟩ => by
    cases d with
    | tup ds =>
      obtain ⟨a, vs, rfl, s, rr⟩ := Rp.tup_iff.mp r
      have e : (if ds.length = n then gs ds τ else none) = some τ' := e
      by_cases hl : ds.length = n
      · rw [if_pos hl] at e
        refine .inl ⟨a, vs, rfl, by rw [hK]; exact SqT.same hid_le s, by rw [rr.length]; exact hl, τ, ds, τ', R, rr, e, q⟩
      · rw [if_neg hl] at e; cases e
    | lst ds =>
      obtain ⟨a, vs, rfl, s, rr⟩ := Rp.lst_iff.mp r
      have e : (if ds.length = n then gs ds τ else none) = some τ' := e
      by_cases hl : ds.length = n
      · rw [if_pos hl] at e
        refine .inr ⟨a, vs, rfl, .inl (.inl (hid_le _ _ s)), by rw [rr.length]; exact hl, τ, ds, τ', R, rr, e, q⟩
      · rw [if_neg hl] at e; cases e
    | _ => cases e
def mAsg (g : MG) (m : M D) : MS := fun τ => (m τ).st fun d τ => SR.opt (g d τ)
theorem sS_asg {tg : Expr} {g : MG} (he : SE L P (WE W) X e m) (hg : SG L P X tg g) (hs : swapsWithSole [tg] e pos.line X.env = pure false := by rfl) (hw : swappedStores [tg] e X.env = pure none := by rfl)
    (h1 : (assignEach [tg] X.env).map (·.2) = [assign tg X.env] := by rfl) : SS L P W X (.Assign [tg] e pos) (mAsg g m) :=
  PS.weak (ps_asg he hg hs hw h1) fun D σ H ⟨τ, R, h⟩ => by
    refine ⟨τ, R, (Post.sta (R := RV L) h).imp fun v H1 ⟨d, τ1, t1, R1, r1, h1⟩ => ?_⟩
    obtain ⟨τ', e, q⟩ := h1.opt
    exact ⟨τ1, d, τ', R1, r1, e, q⟩
def mPar (i j : Nat) (ma mb : M D) : MS := fun τ => (ma τ).st fun a τ => (mb τ).st fun b τ => SR.opt ((setFz i a τ).bind (setFz j b))
theorem sS_par {i j : Nat} {x y : Str} {a b : Expr} {ma mb : M D} {px py pt : Pos} {kt k2 pt2} (hc : X.calm = true) (hN : X.N.Nodup) (hi : X.N[i]? = some x) (hj : X.N[j]? = some y) (hij : i ≠ j)
    (hx : X.env.scope.names.lookup x = some .local) (hy : X.env.scope.names.lookup y = some .local) (ha : SE L P (WE W) X a ma) (hb : SE L P (WE W) X b mb)
    (hw : swappedStores [.Tuple [.Name x px, .Name y py] kt pt] (.Tuple [a, b] k2 pt2) X.env = pure (some [x, y]))
    (hs : swapsWithSole [.Tuple [.Name x px, .Name y py] kt pt] (.Tuple [a, b] k2 pt2) pos.line X.env = pure false := by rfl)
    (hs1 : starEach [a, b] X.env = (false, eval a X.env) :: starEach [b] X.env := by rfl) (hs2 : starEach [b] X.env = (false, eval b X.env) :: starEach [] X.env := by rfl) :
    SS L P W X (.Assign [.Tuple [.Name x px, .Name y py] kt pt] (.Tuple [a, b] k2 pt2) pos) (mPar i j ma mb) :=
  PS.weak (ps_par hc hN hi hj hij hx hy (pa_cons ha (pa_cons hb pa_nil hs2) hs1) hw hs) fun D σ H ⟨τ, R, h⟩ => by
    refine ⟨τ, R, (Post.sta (R := RV L) h).imp fun v H1 ⟨d, τ1, t1, R1, r1, h1⟩ => ?_⟩
    refine ⟨τ1, R1, (Post.sta (R := RV L) h1).imp fun u H2 ⟨d2, τ2, t2, R2, r2, h2⟩ => ?_⟩
    obtain ⟨τ', e, q⟩ := h2.opt
    obtain ⟨τ3, e1, e2⟩ := Option.bind_eq_some_iff.mp e
    obtain ⟨hi, rfl⟩ := setFz_some e1
    obtain ⟨tr, R3⟩ := R2.setFz hi (r1.same (R1.fz t2))
    obtain ⟨hj, rfl⟩ := setFz_some e2
    obtain ⟨tr2, R4⟩ := R3.setFz hj (r2.same (R2.fz tr))
    exact ⟨v, u, rfl, q _ H2 (tr.trans tr2) R4⟩

def ItR (L : Lay) (J : It) (G : Hp → (Addr → Prop) → Prop) (ds : List D) : Prop :=
  ∀ (i : Nat) (H : Hp) (A : Addr → Prop), G H A → Th H A →
    (∀ d, ds[i]? = some d → J.go i H ∧ ∀ x H', J.yld i H x H' → Same H H' ∧ Rp L (hid H' A) d x) ∧ (ds[i]? = none → J.stop i H)
def tI (L : Lay) (P : Pa) (E : L2.St → XK) (m : M (List D)) : TI := fun σ H R => ∃ τ, StR L P H σ τ ∧
  match m τ with
  | .ok ds τ' => ∀ J H', Tr H (Own σ τ) H' (Own σ τ') → StR L P H' σ τ' → ItR L J (fun H2 A2 => Same (hid H' (Hd P σ τ')) (hid H2 A2)) ds → R J H'
  | .exc c xs τ' => ∀ cls od H', Tr H (Own σ τ) H' (Own σ τ') → StR L P H' σ τ' → ExR L (hid H' (Hd P σ τ')) c xs cls od → E σ cls od H'
  | .fail => False
abbrev SI (L : Lay) (P : Pa) (E : L2.St → XK) (X : Cx) (tg iter : Expr) (m : M (List D)) : Prop := PI X tg iter (tI L P E m)
theorem PI.weak {tg iter : Expr} {t u : TI} (h : PI X tg iter t) (f : ∀ σ H R, u σ H R → t σ H R) : PI X tg iter u := ⟨fun pins s σ H R I q => h.run pins s σ H R I (f σ H R q)⟩
def asL : D → Option (List D)
  | .lst ds => some ds
  | _ => none
def asT : D → Option (List D)
  | .tup ds => some ds
  | _ => none
@[simp] theorem asL_lst {ds : List D} : asL (.lst ds) = some ds := rfl
@[simp] theorem asT_tup {ds : List D} : asT (.tup ds) = some ds := rfl
def mOn {α β : Type} (f : α → Option β) (m : M α) : M β := fun τ => (m τ).bind fun d => fun τ => Res.lift (f d) τ
theorem itl_ok {a : Addr} {vs : List V} {ds : List D} {F : Hp} (s : F a = some (.lst vs)) (r : Rps L F ds vs) : ItR L (Itl L.K a) (fun H2 A2 => Same F (hid H2 A2)) ds := by
  intro i H A g hA
  have s2 : SqL L.K H a vs := .inl (.inl ((g.trans hid_le) _ _ s))
  refine ⟨fun d e => ?_, fun e => ⟨vs, s2, ?_⟩⟩
  · obtain ⟨v, hv, rv⟩ := r.get e
    refine ⟨⟨vs, v, s2, hv⟩, fun x H' y => ?_⟩
    obtain ⟨rfl, y⟩ := y
    have e2 : v = x := Option.some.inj (hv.symm.trans (y vs s2))
    subst e2
    exact ⟨.refl _, rv.same g⟩
  · rw [r.length]
    exact List.getElem?_eq_none_iff.mp e
theorem itt_ok {a : Addr} {vs : List V} {ds : List D} {F : Hp} (s : SqT L.K F a vs) (r : Rps L F ds vs) : ItR L (Itt L.K a) (fun H2 A2 => Same F (hid H2 A2)) ds := by
  intro i H A g hA
  have s2 : SqT L.K H a vs := SqT.same (g.trans hid_le) s
  refine ⟨fun d e => ?_, fun e => ⟨vs, s2, ?_⟩⟩
  · obtain ⟨v, hv, rv⟩ := r.get e
    refine ⟨⟨vs, v, s2, hv⟩, fun x H' y => ?_⟩
    obtain ⟨rfl, y⟩ := y
    have e2 : v = x := Option.some.inj (hv.symm.trans (y vs s2))
    subst e2
    exact ⟨.refl _, rv.same g⟩
  · rw [r.length]
    exact List.getElem?_eq_none_iff.mp e
theorem tI_on {E : L2.St → XK} {f : D → Option (List D)} {R : It → Hp → Prop} {σ : L2.St} {H : Hp} (h : tI L P E (mOn f m) σ H R) :
    ∃ τ, StR L P H σ τ ∧ Post L P (RV L) H σ τ (m τ) (fun v H1 => ∃ d ds τ1, StR L P H1 σ τ1 ∧ Rp L (hid H1 (Hd P σ τ1)) d v ∧ f d = some ds ∧
      ∀ J H', Tr H1 (Own σ τ1) H' (Own σ τ1) → StR L P H' σ τ1 → ItR L J (fun H2 A2 => Same (hid H' (Hd P σ τ1)) (hid H2 A2)) ds → R J H') (E σ) := by
  obtain ⟨τ, R0, h⟩ := h
  refine ⟨τ, R0, ?_⟩
  revert h
  show (match (m τ).bind fun d => fun τ => Res.lift (f d) τ with | .ok ds τ' => _ | .exc c xs τ' => _ | .fail => _) → _
  cases m τ with
  | ok d τ1 =>
    intro h v H1 t1 R1 r1
    rw [Res.bind_ok] at h
    cases e : f d with
    | none => rw [e] at h; exact h.elim
    | some ds =>
      rw [e] at h
      exact ⟨d, ds, τ1, R1, r1, e, fun J H' t R' it => h J H' (t1.trans t) R' it⟩
  | exc c xs τ' => exact fun h => h
  | fail => exact fun h => h
def upFrom (lo : Int) : Nat → List D
  | 0 => []
  | n + 1 => .int lo :: upFrom (lo + 1) n
theorem upFrom_get : ∀ (n : Nat) (lo : Int) (i : Nat), (upFrom lo n)[i]? = if i < n then some (.int (lo + i)) else none
  | 0, lo, i => by simp [upFrom]
  | n + 1, lo, 0 => by simp [upFrom]
  | n + 1, lo, i + 1 => by
    show (upFrom (lo + 1) n)[i]? = _
    rw [upFrom_get n (lo + 1) i]
    by_cases h : i < n
    · rw [if_pos h, if_pos (by omega)]
      congr 2
      omega
    · rw [if_neg h, if_neg (by omega)]
theorem itr_ok {lo : Int} {n : Nat} {G : Hp → (Addr → Prop) → Prop} : ItR L (Itr lo n) G (upFrom lo n) := by
  intro i H A g hA
  rw [upFrom_get]
  by_cases h : i < n
  · rw [if_pos h]
    refine ⟨fun d e => ⟨h, fun x H' y => ?_⟩, fun e => (by cases e)⟩
    obtain ⟨rfl, rfl⟩ := y
    cases e
    exact ⟨.refl _, Rp.int_iff.mpr rfl⟩
  · rw [if_neg h]
    exact ⟨fun d e => (by cases e), fun _ => (show n ≤ i by omega)⟩
def rng1 : List D → Option (List D)
  | [.int n] => if n < 16000000 ∧ n.natAbs < 2 ^ 60 then some (upFrom 0 n.toNat) else none
  | _ => none
end
end Sm
set_option Elab.async false
set_option linter.all false
set_option maxRecDepth 100000
set_option maxHeartbeats 400000
namespace Sm
open PySem PySem.Spec PyProof.Rows L2

section
variable {L : Lay} {P : Pa} {W : WX} {X : Cx} {E : L2.St → XK}
theorem StR.upd1x {H H' : Hp} {σ : L2.St} {τ : List Sl} {i : Nat} {a : Addr} {t' : Sl} (R : StR L P H σ τ) (ha : OwnAt σ τ i a) (keep : ∀ b o, H b = some o → ¬ Foot H (fun x => x = a) b → H' b = some o) (there : ∀ b o, H b = some o → ∃ o', H' b = some o')
    (hn : t' = .un ∨ (t'.own = true ∧ (Tr H (Own σ τ) H' (Own σ (τ.set i t')) → SlR L P (hid H' (Hd P σ (τ.set i t'))) H' σ[i]? t'))) : Tr H (Own σ τ) H' (Own σ (τ.set i t')) ∧ StR L P H' σ (τ.set i t') := by
  have ks : ∀ b, ¬ MkBy (H a) b := fun b z => by
    obtain ⟨o, h1, h2⟩ := z.get
    exact R.own_noMk ⟨i, ha⟩ o h1 h2
  obtain ⟨e0, t0, et0, ow0⟩ := ha
  have hi : i < τ.length := (List.getElem?_eq_some_iff.mp et0).1
  have sub : ∀ j b, OwnAt σ (τ.set i t') j b → OwnAt σ τ j b := fun j b ⟨e, t, et, ow⟩ => by
    by_cases hj : i = j
    · subst hj
      rw [e0] at e
      cases e
      exact ⟨e0, t0, et0, ow0⟩
    · rw [List.getElem?_set_ne hj] at et
      exact ⟨e, t, et, ow⟩
  have tr : Tr H (Own σ τ) H' (Own σ (τ.set i t')) := by
    exact ⟨fun b o h n => keep b o h fun z => n (z.mono fun x e => by rw [e]; exact ⟨i, e0, t0, et0, ow0⟩), fun b ⟨j, q⟩ => .inl ⟨j, sub j b q⟩, there⟩
  refine ⟨tr, by rw [List.length_set]; exact R.len, fun j k b x y => R.inj j k b (sub j b x) (sub k b y), fun b ⟨j, q⟩ => R.dis b ⟨j, sub j b q⟩, fun b z => ?_, fun j t ht => ?_⟩
  · obtain ⟨o, q, m⟩ := R.bth0 b z
    exact ⟨o, tr.keep b o q (fun y => R.dis b y z), m⟩
  · by_cases hj : i = j
    · subst hj
      rw [List.getElem?_set_self hi] at ht
      cases ht
      rcases hn with rfl | ⟨_, q⟩
      · trivial
      · exact q tr
    · rw [List.getElem?_set_ne hj] at ht
      have q := R.sl j t ht
      have st : ∀ {d' : Sm.D} {b : Addr}, σ[j]? = some (some (.ref b)) → t.own = true → OwR L (hid H (Hd P σ τ)) H d' b → OwR L (hid H' (Hd P σ (τ.set i t'))) H' d' b := fun {d' b} e ow q => by
        obtain ⟨o, ho⟩ := q.there
        have hb : b ≠ a := fun z => hj (R.inj i j a ⟨e0, t0, et0, ow0⟩ ⟨by rw [← z]; exact e, t, ht, ow⟩)
        exact q.step (R.fz tr) (by rw [ho]; exact keep b o ho (foot_no ho hb (q.noMk o ho)))
      have stx : ∀ {d' : Sm.D} {b : Addr}, σ[j]? = some (some (.ref b)) → t.own = true → OwX L (hid H (Hd P σ τ)) H d' b → OwX L (hid H' (Hd P σ (τ.set i t'))) H' d' b := fun {d' b} e ow q => by
        obtain ⟨o, ho⟩ := q.there
        have hb : b ≠ a := fun z => hj (R.inj i j a ⟨e0, t0, et0, ow0⟩ ⟨by rw [← z]; exact e, t, ht, ow⟩)
        refine q.step (R.fz tr) (by rw [ho]; exact keep b o ho (foot_no ho hb (q.noMk o ho))) fun b' z => ?_
        obtain ⟨u, hu, _⟩ := z.get
        rw [hu]
        refine keep b' _ hu fun y => ?_
        rcases y with y | ⟨p, e, y | y⟩
        · exact ks b (by rw [← y]; exact z)
        · exact hb ((z.uniq e).trans y)
        · rw [z.uniq e] at ho; rw [ho] at y; cases y
      cases t with
      | un => trivial
      | fz d' => obtain ⟨v, e2, r2⟩ := q; exact ⟨v, e2, r2.same (R.fz tr)⟩
      | ow d' => obtain ⟨b, e2, r2⟩ := q; exact ⟨b, e2, st e2 rfl r2⟩
      | le d' => obtain ⟨b, e2, r2⟩ := q; exact ⟨b, e2, st e2 rfl r2⟩
      | io k d' => obtain ⟨b, e2, e3, r2⟩ := q; exact ⟨b, e2, e3, stx e2 rfl r2⟩
      | oo d' => obtain ⟨b, e2, r2⟩ := q; exact ⟨b, e2, stx e2 rfl r2⟩

theorem StR.upd1 {H H' : Hp} {σ : L2.St} {τ : List Sl} {i : Nat} {a : Addr} {t' : Sl} (R : StR L P H σ τ) (ha : OwnAt σ τ i a) (keep : ∀ b o, H b = some o → b ≠ a → H' b = some o) (there : ∃ o, H' a = some o)
    (hn : t' = .un ∨ (t'.own = true ∧ (Tr H (Own σ τ) H' (Own σ (τ.set i t')) → SlR L P (hid H' (Hd P σ (τ.set i t'))) H' σ[i]? t'))) : Tr H (Own σ τ) H' (Own σ (τ.set i t')) ∧ StR L P H' σ (τ.set i t') :=
  R.upd1x ha (fun b o h n => keep b o h fun z => n (.inl z)) (fun b o h => by
    by_cases hb : b = a
    · rw [hb]; exact there
    · exact ⟨o, keep b o h hb⟩) hn
inductive RF where
  | ok (d : D) (outs : List (Option D)) | own (d : D) | exc (c : Nat) (xs : List D) | fail
  /-- raised; what is left of the owned arguments -/
  | exo (c : Nat) (xs : List D) (outs : List (Option D))
def argS : Nat → List Bool → List D → List Sl
  | k, b :: io, d :: ds => (if b = true then .io k d else .fz d) :: argS (k + 1) io ds
  | _, _, _ => []
def outS : Nat → List (Option D) → List Sl
  | k, o :: os => (match o with | some d => .io k d | none => .un) :: outS (k + 1) os
  | _, [] => []
def outE (k : Nat) (b : Bool) (t : Option Sl) : Option D :=
  match t with
  | some (.io j d) => if b = true ∧ j = k then some d else none
  | _ => none
theorem outE_some {k : Nat} {b : Bool} {t : Option Sl} {d : D} (h : outE k b t = some d) : t = some (.io k d) := by
  unfold outE at h
  split at h
  · split at h
    · rename_i e
      cases h
      rw [e.2]
    · cases h
  · cases h
def outD : Nat → List Bool → List Sl → List (Option D)
  | k, b :: io, τ => outE k b τ[k]? :: outD (k + 1) io τ
  | _, [], _ => []
def mkF (n : Nat) (io : List Bool) (b : MS) : List D → RF := fun ds =>
  if ds.length = io.length then
    match b (argS 0 io ds ++ List.replicate (n - io.length) .un) with
    | .nx τ => .ok .non (outD 0 io τ)
    | .rt d τ => .ok d (outD 0 io τ)
    | .ro d _ => if io.any id = true then .fail else .own d
    | .exc c xs τ => if io.any id = true then .exo c xs (outD 0 io τ) else .exc c xs
    | _ => .fail
  else .fail
def FPost (L : Lay) (P : Pa) (H : Hp) (τ : List Sl) (r : RF) (Q : VK) (E : XK) : Prop :=
  match r with
  | .ok d outs => ∀ v H', Tr H (Own (P.args.map some) τ) H' (Own (P.args.map some) (outS 0 outs)) → StR L P H' (P.args.map some) (outS 0 outs) → Rp L (hid H' (Hd P (P.args.map some) (outS 0 outs))) d v → Q v H'
  | .own d => ∀ a H', Tr H (Own (P.args.map some) τ) (rid H' a) (fun _ => False) → OwX L (hid (rid H' a) P.B) H' d a → Q (.ref a) H'
  | .exc c xs => ∀ cls od H', Tr H (Own (P.args.map some) τ) H' (fun _ => False) → ExR L (hid H' P.B) c xs cls od → E cls od H'
  | .exo c xs outs => ∀ cls od H', Tr H (Own (P.args.map some) τ) H' (Own (P.args.map some) (outS 0 outs)) → StR L P H' (P.args.map some) (outS 0 outs) → ExR L (hid H' (Hd P (P.args.map some) (outS 0 outs))) c xs cls od → E cls od H'
  | .fail => False
def spF (L : Lay) (io : List Bool) (f : List D → RF) : Sp := fun vs H Q E => ∃ (ds : List D) (B : Addr → Prop), ds.length = io.length ∧ StR L ⟨vs, B⟩ H (vs.map some) (argS 0 io ds) ∧ FPost L ⟨vs, B⟩ H (argS 0 io ds) (f ds) Q E
theorem argS_own : ∀ (k : Nat) (io : List Bool) (ds : List D), io.any id = false → ∀ t ∈ argS k io ds, t.own = false
  | _, [], ds, _ => fun t ht => by cases ds <;> cases ht
  | _, _ :: _, [], _ => fun t ht => by cases ht
  | k, b :: io, d :: ds, h => fun t ht => by
    rw [List.any_cons, Bool.or_eq_false_iff] at h
    have hb : b = false := h.1
    subst hb
    rcases List.mem_cons.mp ht with rfl | ht
    · rfl
    · exact argS_own (k + 1) io ds h.2 t ht
theorem argS_length : ∀ (k : Nat) (io : List Bool) (ds : List D), ds.length = io.length → (argS k io ds).length = io.length
  | _, [], [], _ => rfl
  | k, b :: io, d :: ds, h => by
    show (argS (k + 1) io ds).length + 1 = io.length + 1
    rw [argS_length (k + 1) io ds (by simpa using h)]
  | _, [], _ :: _, h => by simp at h
  | _, _ :: _, [], h => by simp at h
theorem outS_length : ∀ (k : Nat) (os : List (Option D)), (outS k os).length = os.length
  | _, [] => rfl
  | k, o :: os => by
    show (outS (k + 1) os).length + 1 = os.length + 1
    rw [outS_length]
theorem outS_get : ∀ (k : Nat) (os : List (Option D)) (i : Nat), (outS k os)[i]? = (os[i]?).map fun o => match o with | some d => Sl.io (k + i) d | none => Sl.un
  | _, [], i => by simp [outS]
  | k, o :: os, 0 => by simp [outS]
  | k, o :: os, i + 1 => by
    show (outS (k + 1) os)[i]? = (os[i]?).map _
    rw [outS_get (k + 1) os i]
    have e : k + 1 + i = k + (i + 1) := by omega
    rw [e]
theorem outD_length : ∀ (k : Nat) (io : List Bool) (τ : List Sl), (outD k io τ).length = io.length
  | _, [], _ => rfl
  | k, b :: io, τ => by
    show (outD (k + 1) io τ).length + 1 = io.length + 1
    rw [outD_length]
theorem outD_get : ∀ (k : Nat) (io : List Bool) (τ : List Sl) (i : Nat) (d : D), (outD k io τ)[i]? = some (some d) → τ[k + i]? = some (.io (k + i) d)
  | _, [], _, i, d, h => by cases h
  | k, b :: io, τ, 0, d, h => by
    have h : some (outE k b τ[k]?) = some (some d) := h
    exact outE_some (Option.some.inj h)
  | k, b :: io, τ, i + 1, d, h => by
    have h : (outD (k + 1) io τ)[i]? = some (some d) := h
    have q := outD_get (k + 1) io τ i d h
    have e : k + 1 + i = k + (i + 1) := Nat.add_right_comm k 1 i
    rw [e] at q
    exact q

theorem out_ok {H H' : Hp} {σ' : L2.St} {τ' : List Sl} {io : List Bool} {vs : List V} {B A : Addr → Prop} (hl : vs.length = io.length) (t : Tr H A H' (Own σ' τ')) (R : StR L ⟨vs, B⟩ H' σ' τ') :
    Tr H A H' (Own (vs.map some) (outS 0 (outD 0 io τ'))) ∧ StR L ⟨vs, B⟩ H' (vs.map some) (outS 0 (outD 0 io τ')) ∧ Same (hid H' (Hd ⟨vs, B⟩ σ' τ')) (hid H' (Hd ⟨vs, B⟩ (vs.map some) (outS 0 (outD 0 io τ')))) := by
  have at1 : ∀ (i : Nat) (t : Sl), (outS 0 (outD 0 io τ'))[i]? = some t → t.own = true → ∃ d, t = .io i d ∧ τ'[i]? = some (.io i d) := fun i t h ow => by
    rw [outS_get] at h
    cases e : (outD 0 io τ')[i]? with
    | none => rw [e] at h; cases h
    | some o =>
      rw [e] at h
      cases o with
      | none => cases h; cases ow
      | some d =>
        have q := outD_get 0 io τ' i d e
        rw [Nat.zero_add] at q
        refine ⟨d, ?_, q⟩
        have h : some (Sl.io (0 + i) d) = some t := h
        rw [Nat.zero_add] at h
        exact (Option.some.inj h).symm
  have at2 : ∀ (i : Nat) (d : D), τ'[i]? = some (.io i d) → ∃ a, vs[i]? = some (.ref a) ∧ σ'[i]? = some (some (.ref a)) ∧ OwX L (hid H' (Hd ⟨vs, B⟩ σ' τ')) H' d a := fun i d h => by
    obtain ⟨a, e1, e2, r⟩ := R.sl i _ h
    exact ⟨a, e2, e1, r⟩
  have sub : ∀ (i : Nat) (a : Addr), OwnAt (vs.map some) (outS 0 (outD 0 io τ')) i a → OwnAt σ' τ' i a := fun i a ⟨e, t, et, ow⟩ => by
    obtain ⟨d, rfl, h⟩ := at1 i t et ow
    obtain ⟨b, e1, e2, _⟩ := at2 i d h
    rw [List.getElem?_map, e1] at e
    cases e
    exact ⟨e2, _, h, rfl⟩
  have subO : ∀ a, Own (vs.map some) (outS 0 (outD 0 io τ')) a → Own σ' τ' a := fun a ⟨i, q⟩ => ⟨i, sub i a q⟩
  have mono : Same (hid H' (Hd ⟨vs, B⟩ σ' τ')) (hid H' (Hd ⟨vs, B⟩ (vs.map some) (outS 0 (outD 0 io τ')))) := hid_mono (.refl _) fun a z => z.elim (fun q => .inl (subO a q)) .inr
  refine ⟨⟨t.keep0, fun a q => t.new a (subO a q), t.there⟩, ⟨?_, fun i j a x y => R.inj i j a (sub i a x) (sub j a y), fun a q => R.dis a (subO a q), R.bth0, fun i t h => ?_⟩, mono⟩
  · rw [List.length_map, outS_length, outD_length 0 io τ', hl]
  · cases ow : t.own with
    | true =>
      obtain ⟨d, rfl, h2⟩ := at1 i t h ow
      obtain ⟨a, e1, e2, r⟩ := at2 i d h2
      exact ⟨a, by rw [List.getElem?_map, e1]; rfl, e1, r.step mono rfl⟩
    | false =>
      cases t with
      | un => trivial
      | fz d =>
        rw [outS_get] at h
        cases e : (outD 0 io τ')[i]? with
        | none => rw [e] at h; cases h
        | some o => rw [e] at h; cases o <;> cases h
      | _ => cases ow
theorem start_ok {H : Hp} {N : List Str} {io : List Bool} {vs : List V} {B : Addr → Prop} {ds : List D} (hd : ds.length = io.length) (hn : io.length ≤ N.length) (R : StR L ⟨vs, B⟩ H (vs.map some) (argS 0 io ds)) :
    StR L ⟨vs, B⟩ H (L2.start N vs) (argS 0 io ds ++ List.replicate (N.length - io.length) Sl.un) ∧ ∀ a, Own (L2.start N vs) (argS 0 io ds ++ List.replicate (N.length - io.length) Sl.un) a ↔ Own (vs.map some) (argS 0 io ds) a := by
  have hl := R.len
  rw [List.length_map, argS_length 0 io ds hd] at hl
  have la := argS_length 0 io ds hd
  have get : ∀ (i : Nat) (t : Sl), (argS 0 io ds ++ List.replicate (N.length - io.length) Sl.un)[i]? = some t → (t = .un) ∨ ((argS 0 io ds)[i]? = some t ∧ (L2.start N vs)[i]? = (vs.map some)[i]?) := fun i t h => by
    by_cases hi : i < io.length
    · rw [List.getElem?_append_left (by rw [la]; exact hi)] at h
      refine .inr ⟨h, ?_⟩
      unfold L2.start
      rw [List.getElem?_append_left (by rw [List.length_map, hl]; exact hi)]
    · rw [List.getElem?_append_right (by rw [la]; omega), List.getElem?_replicate] at h
      split at h
      · exact .inl (Option.some.inj h).symm
      · cases h
  have o1 : ∀ (i : Nat) (a : Addr), OwnAt (L2.start N vs) (argS 0 io ds ++ List.replicate (N.length - io.length) Sl.un) i a → OwnAt (vs.map some) (argS 0 io ds) i a := fun i a ⟨e, t, et, ow⟩ => by
    rcases get i t et with rfl | ⟨h1, h2⟩
    · cases ow
    · exact ⟨by rw [← h2]; exact e, t, h1, ow⟩
  have o2 : ∀ (i : Nat) (a : Addr), OwnAt (vs.map some) (argS 0 io ds) i a → OwnAt (L2.start N vs) (argS 0 io ds ++ List.replicate (N.length - io.length) Sl.un) i a := fun i a ⟨e, t, et, ow⟩ => by
    have hi : i < (argS 0 io ds).length := (List.getElem?_eq_some_iff.mp et).1
    have hv : i < (vs.map some).length := (List.getElem?_eq_some_iff.mp e).1
    refine ⟨?_, t, by rw [List.getElem?_append_left hi]; exact et, ow⟩
    unfold L2.start
    rw [List.getElem?_append_left hv]
    exact e
  have oo : ∀ a, Own (L2.start N vs) (argS 0 io ds ++ List.replicate (N.length - io.length) Sl.un) a ↔ Own (vs.map some) (argS 0 io ds) a := fun a => ⟨fun ⟨i, q⟩ => ⟨i, o1 i a q⟩, fun ⟨i, q⟩ => ⟨i, o2 i a q⟩⟩
  have mono : Same (hid H (Hd ⟨vs, B⟩ (vs.map some) (argS 0 io ds))) (hid H (Hd ⟨vs, B⟩ (L2.start N vs) (argS 0 io ds ++ List.replicate (N.length - io.length) Sl.un))) := hid_mono (.refl _) fun a z => z.elim (fun q => .inl ((oo a).mp q)) .inr
  refine ⟨⟨?_, fun i j a x y => R.inj i j a (o1 i a x) (o1 j a y), fun a q => R.dis a ((oo a).mp q), R.bth0, fun i t h => ?_⟩, oo⟩
  · unfold L2.start
    rw [List.length_append, List.length_append, List.length_map, List.length_replicate, List.length_replicate, la, hl]
  · rcases get i t h with rfl | ⟨h1, h2⟩
    · trivial
    · have q := R.sl i t h1
      rw [h2]
      cases t with
      | un => trivial
      | fz d' => obtain ⟨v, e2, r2⟩ := q; exact ⟨v, e2, r2.same mono⟩
      | ow d' => obtain ⟨b, e2, r2⟩ := q; exact ⟨b, e2, r2.step mono rfl⟩
      | le d' => obtain ⟨b, e2, r2⟩ := q; exact ⟨b, e2, r2.step mono rfl⟩
      | io k d' => obtain ⟨b, e2, e3, r2⟩ := q; exact ⟨b, e2, e3, r2.step mono rfl⟩
      | oo d' => obtain ⟨b, e2, r2⟩ := q; exact ⟨b, e2, r2.step mono rfl⟩
abbrev Wof (E : XK) : WX := fun cls od _ H => E cls od H
abbrev cxB (Pr : Program) (w : World) (K : PySem.W.Frag) (mg : Str → Option Value) (base : Heap) (N : List Str) (qual : Str) (sc : Scope) (f : Addr) (cdv : Value) (A : Around) (outer : List Env) (s : Shared) (H : Hp) (E : XK) : Cx := cxOf (L2.CX Pr w) Pr w K mg base N qual sc f cdv A outer s H E
theorem fn_ok {Pr : Program} {w : World} {mg : Str → Option Value} {base : Heap} {x qual : Str} {st : Stmt} {f : Addr} {fd : FuncData} {N ps : List Str} {k : Nat} {io : List Bool} {b : MS} (F : Fun L.K x qual st f fd) (S : FnScope N ps (defScope st))
    (hio : io.length = ps.length) (hN : io.length ≤ N.length)
    (body : ∀ (cdv : Value) (A : Around) (outer : List Env) (s : Shared) (H : Hp) (E : XK) (P : Pa), Room k (A.deeper (envOfC qual (defScope st) s.heap.objs.size f cdv)) →
      SSs L P (Wof E) (cxB Pr w L.K mg base N qual (defScope st) f cdv A outer s H E) (defBody st) b) : FnOk Pr w L.K mg base (L2.CX Pr w) (k + 1) f fd ps (spF L io (mkF N.length io b)) := by
  refine F.okX S (fun vs H Q E ⟨ds, B, hd, R, _⟩ => ?_) (fun cdv A outer s H vs Q E hr ⟨ds, B, hd, R, h⟩ => ⟨_, body cdv A outer s H E ⟨vs, B⟩ hr, ?_⟩)
  · have hl := R.len
    rw [List.length_map, argS_length 0 io ds hd] at hl
    rw [hl, hio]
  · have hl : vs.length = io.length := by
      have hl := R.len
      rw [List.length_map, argS_length 0 io ds hd] at hl
      exact hl
    obtain ⟨R0, oo⟩ := start_ok (N := N) hd hN R
    refine ⟨_, R0, ?_⟩
    unfold mkF at h
    rw [if_pos hd] at h
    have tr : ∀ {H' : Hp} {A' : Addr → Prop}, Tr H (Own (L2.start N vs) (argS 0 io ds ++ List.replicate (N.length - io.length) Sl.un)) H' A' → Tr H (Own (vs.map some) (argS 0 io ds)) H' A' := fun {H' A'} t =>
      ⟨fun a o e n => t.keep0 a o e fun z => n (z.mono fun b q => (oo b).mp q), fun a q => (t.new a q).elim (fun z => .inl ((oo a).mp z)) .inr, t.there⟩
    revert h
    cases b (argS 0 io ds ++ List.replicate (N.length - io.length) Sl.un) with
    | nx τ' =>
      intro h σ' H' t R'
      obtain ⟨t2, R2, mono⟩ := out_ok hl (tr t) R'
      exact h .non H' t2 R2 (Rp.non_iff.mpr rfl)
    | rt d τ' =>
      intro h v σ' H' t R' r
      obtain ⟨t2, R2, mono⟩ := out_ok hl (tr t) R'
      exact h v H' t2 R2 (r.same mono)
    | ro d τ' =>
      intro h a σ' H' t R' r
      by_cases hany : io.any id = true
      · replace h : FPost L ⟨vs, B⟩ H (argS 0 io ds) (if io.any id = true then RF.fail else .own d) Q E := h
        rw [if_pos hany] at h
        exact h.elim
      · replace h : FPost L ⟨vs, B⟩ H (argS 0 io ds) (if io.any id = true then RF.fail else .own d) Q E := h
        rw [if_neg hany] at h
        have no : ∀ b, ¬ Own (vs.map some) (argS 0 io ds) b := fun b ⟨j, _, t, et, ow⟩ => by
          rw [argS_own 0 io ds (by simpa using hany) t (List.mem_of_getElem? et)] at ow
          cases ow
        have fr : H a = none := t.src.resolve_left fun z => no a ((oo a).mp z)
        exact h a H' ⟨fun b o e n => t.keep0 b o e fun z => n (z.mono fun b q => (oo b).mp q), fun _ z => z.elim, fun b o e => by
          by_cases hb : b = a
          · rw [hb, fr] at e; cases e
          · exact t.there b o hb e⟩ (r.step (hid_mono (.refl _) fun b z => .inr z) rfl)
    | exc c xs τ' =>
      intro h cls od σ' H' t R' ex
      have h : FPost L ⟨vs, B⟩ H (argS 0 io ds) (if io.any id = true then RF.exo c xs (outD 0 io τ') else .exc c xs) Q E := h
      by_cases hany : io.any id = true
      · rw [if_pos hany] at h
        obtain ⟨t2, R2, mono⟩ := out_ok hl (tr t) R'
        exact h cls od H' t2 R2 (ex.same mono)
      · rw [if_neg hany] at h
        exact h cls od H' ⟨(tr t).keep0, fun _ z => z.elim, (tr t).there⟩ (ex.same (hid_mono (.refl _) fun b z => .inr z))
    | bk τ' => exact fun h => h.elim
    | ct τ' => exact fun h => h.elim
    | fail => exact fun h => h.elim
end
end Sm
set_option Elab.async false
set_option linter.all false
set_option maxRecDepth 100000
set_option maxHeartbeats 400000
namespace Sm
open PySem PySem.Spec PyProof.Rows L2

inductive Ar where
  | v (d : D) | io (i : Nat)
instance : Inhabited Ar := ⟨.v .non⟩
def Ar.Rel (L : Lay) (σ : L2.St) (F : Hp) : Ar → V → Prop
  | .v d, x => Rp L F d x
  | .io i, x => σ[i]? = some (some x)
def Ars (L : Lay) (σ : L2.St) (F : Hp) : List Ar → List V → Prop
  | [], vs => vs = []
  | a :: as, vs => ∃ x r, vs = x :: r ∧ a.Rel L σ F x ∧ Ars L σ F as r
theorem Ar.Rel.same {L : Lay} {σ : L2.St} {F F' : Hp} (e : Same F F') : ∀ {a : Ar} {x : V}, a.Rel L σ F x → a.Rel L σ F' x
  | .v _, _, h => Rp.same e h
  | .io _, _, h => h
theorem Ars.same {L : Lay} {σ : L2.St} {F F' : Hp} (e : Same F F') : ∀ {as : List Ar} {vs : List V}, Ars L σ F as vs → Ars L σ F' as vs
  | [], _, h => h
  | _ :: _, _, ⟨x, r, e1, h, t⟩ => ⟨x, r, e1, Ar.Rel.same e h, Ars.same e t⟩
theorem Ars.length {L : Lay} {σ : L2.St} {F : Hp} : ∀ {as : List Ar} {vs : List V}, Ars L σ F as vs → vs.length = as.length
  | [], _, h => by rw [show _ = [] from h]; rfl
  | _ :: _, _, ⟨x, r, e1, _, t⟩ => by rw [e1, List.length_cons, List.length_cons, Ars.length t]
theorem Ars.app {L : Lay} {σ : L2.St} {F : Hp} : ∀ {as bs : List Ar} {vs us : List V}, Ars L σ F as vs → Ars L σ F bs us → Ars L σ F (as ++ bs) (vs ++ us)
  | [], _, _, _, h, t => by rw [show _ = [] from h]; exact t
  | _ :: _, _, _, _, ⟨x, r, e1, h, t⟩, u => by rw [e1]; exact ⟨x, _, rfl, h, Ars.app t u⟩
theorem Ars.get {L : Lay} {σ : L2.St} {F : Hp} : ∀ {as : List Ar} {vs : List V} {i : Nat} {a : Ar}, Ars L σ F as vs → as[i]? = some a → ∃ x, vs[i]? = some x ∧ a.Rel L σ F x
  | [], _, _, _, _, e => by simp at e
  | _ :: _, _, 0, _, ⟨x, r, e1, h, t⟩, e => by
    rw [List.getElem?_cons_zero] at e; cases e; rw [e1]; exact ⟨x, rfl, h⟩
  | _ :: _, _, i + 1, _, ⟨x, r, e1, h, t⟩, e => by
    rw [List.getElem?_cons_succ] at e
    obtain ⟨y, h1, h2⟩ := Ars.get t e
    rw [e1]
    exact ⟨y, by rw [List.getElem?_cons_succ]; exact h1, h2⟩
theorem Rps.ars {L : Lay} {σ : L2.St} {F : Hp} : ∀ {ds : List D} {vs : List V}, Rps L F ds vs → Ars L σ F (ds.map Ar.v) vs
  | [], _, h => by unfold Rps at h; exact h
  | _ :: _, _, h => by
    unfold Rps at h
    obtain ⟨v, r, e1, q, rr⟩ := h
    exact ⟨v, r, e1, q, Rps.ars rr⟩
def ownD : Option Sl → Option D
  | some (.ow d) => some d
  | some (.io _ d) => some d
  | some (.oo d) => some d
  | _ => none
def D.isObo : D → Bool
  | .obo _ _ _ => true
  | _ => false
theorem OwX.list {L : Lay} {F H : Hp} {d : D} {a : Addr} (h : OwX L F H d a) (n : d.isObo = false) : OwR L F H d a := by
  rcases h with h | ⟨c, ns, fs, rfl, _⟩
  · exact h
  · cases n
def Ar.get (τ : List Sl) : Ar → Option D
  | .v d => some d
  | .io i => ownD τ[i]?
def Ar.isIo : Ar → Bool
  | .v _ => false
  | .io _ => true
def Ar.ix : Ar → Option Nat
  | .v _ => none
  | .io i => some i
def getAll (τ : List Sl) : List Ar → Option (List D)
  | [] => some []
  | a :: as => (a.get τ).bind fun d => (getAll τ as).map (d :: ·)
def give (τ : List Sl) (i : Nat) (o : Option D) : List Sl :=
  match o, τ[i]? with
  | some d, some (.ow _) => if d.isObo = true then τ.set i .un else τ.set i (.ow d)
  | some d, some (.io k _) => τ.set i (.io k d)
  | some d, some (.oo _) => τ.set i (.oo d)
  | _, _ => τ.set i .un
def ioAt : List Ar → Option (Nat × Nat)
  | [] => none
  | .io i :: _ => some (0, i)
  | .v _ :: as => (ioAt as).map fun p => (p.1 + 1, p.2)
def noIo (as : List Ar) : Bool := as.all fun a => !a.isIo
def oneIo : List Ar → Bool
  | [] => true
  | .io _ :: as => noIo as
  | .v _ :: as => oneIo as
def callB (p : Option (Nat × Nat)) (r : RF) : M D := fun τ =>
  match p with
  | none =>
    match r with
    | .ok d _ => .ok d τ
    | .exc c xs => .exc c xs τ
    | _ => .fail
  | some (k, i) =>
    match r with
    | .ok d outs => .ok d (give τ i (outs.getD k none))
    | .exc c xs => .exc c xs (τ.set i .un)
    | .exo c xs outs => .exc c xs (give τ i (outs.getD k none))
    | _ => .fail
def callR (io : List Bool) (f : List D → RF) (as : List Ar) : M D := fun τ =>
  if as.map Ar.isIo = io ∧ oneIo as = true then
    match getAll τ as with
    | none => .fail
    | some ds => callB (ioAt as) (f ds) τ
  else .fail

section
variable {L : Lay} {P : Pa} {W : WX} {X : Cx} {E : L2.St → XK} {H : Hp} {σ : L2.St} {τ : List Sl}
theorem noIo_get : ∀ {as : List Ar} {i j : Nat}, noIo as = true → as[j]? = some (.io i) → False
  | [], _, _, _, e => by simp at e
  | .v _ :: as, i, 0, h, e => by rw [List.getElem?_cons_zero] at e; cases e
  | .v _ :: as, i, j + 1, h, e => by
    rw [List.getElem?_cons_succ] at e
    exact noIo_get (as := as) (by simpa [noIo, Ar.isIo] using h) e
  | .io _ :: as, i, j, h, e => by simp [noIo, Ar.isIo] at h
theorem ioAt_none : ∀ {as : List Ar}, ioAt as = none → noIo as = true
  | [], _ => rfl
  | .io _ :: _, h => by cases h
  | .v _ :: as, h => by
    have h2 : ioAt as = none := by
      cases e : ioAt as with
      | none => rfl
      | some p => simp [ioAt, e] at h
    have := ioAt_none h2
    simpa [noIo, Ar.isIo] using this
theorem ioAt_some : ∀ {as : List Ar} {k i : Nat}, ioAt as = some (k, i) → oneIo as = true → as[k]? = some (.io i) ∧ ∀ j i', as[j]? = some (.io i') → j = k ∧ i' = i
  | [], _, _, h, _ => by cases h
  | .io i0 :: as, k, i, h, o => by
    cases h
    refine ⟨rfl, fun j i' e => ?_⟩
    cases j with
    | zero => rw [List.getElem?_cons_zero] at e; cases e; exact ⟨rfl, rfl⟩
    | succ j => rw [List.getElem?_cons_succ] at e; exact (noIo_get (as := as) o e).elim
  | .v d :: as, k, i, h, o => by
    cases e : ioAt as with
    | none => simp [ioAt, e] at h
    | some p =>
      obtain ⟨k0, i0⟩ := p
      have h : (k0 + 1, i0) = (k, i) := by simpa [ioAt, e] using h
      cases h
      obtain ⟨h1, h2⟩ := ioAt_some (as := as) e o
      refine ⟨by rw [List.getElem?_cons_succ]; exact h1, fun j i' e' => ?_⟩
      cases j with
      | zero => rw [List.getElem?_cons_zero] at e'; cases e'
      | succ j =>
        rw [List.getElem?_cons_succ] at e'
        obtain ⟨q1, q2⟩ := h2 j i' e'
        exact ⟨by rw [q1], q2⟩
theorem getAll_length : ∀ {as : List Ar} {ds : List D}, getAll τ as = some ds → ds.length = as.length
  | [], _, h => by cases h; rfl
  | a :: as, ds, h => by
    obtain ⟨d, e1, h⟩ := Option.bind_eq_some_iff.mp h
    obtain ⟨r, e2, rfl⟩ := Option.map_eq_some_iff.mp h
    rw [List.length_cons, List.length_cons, getAll_length e2]
theorem getAll_get : ∀ {as : List Ar} {ds : List D} {j : Nat} {a : Ar}, getAll τ as = some ds → as[j]? = some a → ∃ d, ds[j]? = some d ∧ a.get τ = some d
  | [], _, _, _, _, e => by simp at e
  | a :: as, ds, j, b, h, e => by
    obtain ⟨d, e1, h⟩ := Option.bind_eq_some_iff.mp h
    obtain ⟨r, e2, rfl⟩ := Option.map_eq_some_iff.mp h
    cases j with
    | zero => rw [List.getElem?_cons_zero] at e; cases e; exact ⟨d, rfl, e1⟩
    | succ j =>
      rw [List.getElem?_cons_succ] at e
      obtain ⟨d', h1, h2⟩ := getAll_get e2 e
      exact ⟨d', by rw [List.getElem?_cons_succ]; exact h1, h2⟩
theorem argS_get : ∀ (k : Nat) (io : List Bool) (ds : List D) (j : Nat) (t : Sl), (argS k io ds)[j]? = some t → ∃ b d, io[j]? = some b ∧ ds[j]? = some d ∧ t = if b = true then .io (k + j) d else .fz d
  | _, [], ds, j, t, h => by simp [argS] at h
  | _, _ :: _, [], j, t, h => by simp [argS] at h
  | k, b :: io, d :: ds, 0, t, h => by
    have h : some (if b = true then Sl.io k d else Sl.fz d) = some t := h
    exact ⟨b, d, rfl, rfl, (Option.some.inj h).symm⟩
  | k, b :: io, d :: ds, j + 1, t, h => by
    have h : (argS (k + 1) io ds)[j]? = some t := h
    obtain ⟨b', d', h1, h2, h3⟩ := argS_get (k + 1) io ds j t h
    refine ⟨b', d', by rw [List.getElem?_cons_succ]; exact h1, by rw [List.getElem?_cons_succ]; exact h2, ?_⟩
    rw [h3, Nat.add_right_comm k 1 j]
    rfl
theorem io_get {as : List Ar} {io : List Bool} {j : Nat} {b : Bool} (h : as.map Ar.isIo = io) (e : io[j]? = some b) : ∃ a, as[j]? = some a ∧ a.isIo = b := by
  rw [← h, List.getElem?_map] at e
  cases q : as[j]? with
  | none => rw [q] at e; cases e
  | some a => rw [q] at e; exact ⟨a, rfl, Option.some.inj e⟩

def Post0 (L : Lay) (P : Pa) (H : Hp) (σ : L2.St) (τ : List Sl) (r : RF) (Q : VK) (E : XK) : Prop :=
  match r with
  | .ok d _ => ∀ v H', Tr H (Own σ τ) H' (Own σ τ) → StR L P H' σ τ → Rp L (hid H' (Hd P σ τ)) d v → Q v H'
  | .own d => ∀ a H', Tr H (Own σ τ) (rid H' a) (Own σ τ) → StR L P (rid H' a) σ τ → OwX L (hid (rid H' a) (Hd P σ τ)) H' d a → Q (.ref a) H'
  | .exc c xs => ∀ cls od H', Tr H (Own σ τ) H' (Own σ τ) → StR L P H' σ τ → ExR L (hid H' (Hd P σ τ)) c xs cls od → E cls od H'
  | _ => False
def Post1 (L : Lay) (P : Pa) (H : Hp) (σ : L2.St) (τ : List Sl) (k i : Nat) (r : RF) (Q : VK) (E : XK) : Prop :=
  match r with
  | .ok d outs => ∀ v H', Tr H (Own σ τ) H' (Own σ (give τ i (outs.getD k none))) → StR L P H' σ (give τ i (outs.getD k none)) → Rp L (hid H' (Hd P σ (give τ i (outs.getD k none)))) d v → Q v H'
  | .exc c xs => ∀ cls od H', Tr H (Own σ τ) H' (Own σ (τ.set i .un)) → StR L P H' σ (τ.set i .un) → ExR L (hid H' (Hd P σ (τ.set i .un))) c xs cls od → E cls od H'
  | .exo c xs outs => ∀ cls od H', Tr H (Own σ τ) H' (Own σ (give τ i (outs.getD k none))) → StR L P H' σ (give τ i (outs.getD k none)) → ExR L (hid H' (Hd P σ (give τ i (outs.getD k none)))) c xs cls od → E cls od H'
  | _ => False
theorem call_0 {io : List Bool} {f : List D → RF} {as : List Ar} {ds : List D} {vs : List V} {Q : VK} (R : StR L P H σ τ) (ra : Ars L σ (hid H (Hd P σ τ)) as vs) (hio : as.map Ar.isIo = io) (hn : noIo as = true) (hg : getAll τ as = some ds)
    (h : Post0 L P H σ τ (f ds) Q (E σ)) : spF L io f vs H Q (E σ) := by
  have hl : ds.length = io.length := by rw [getAll_length hg, ← hio, List.length_map]
  have at0 : ∀ (i : Nat) (t : Sl), (argS 0 io ds)[i]? = some t → ∃ d x, t = .fz d ∧ vs[i]? = some x ∧ Rp L (hid H (Hd P σ τ)) d x := fun i t e => by
    obtain ⟨b, d, e1, e2, e3⟩ := argS_get 0 io ds i t e
    obtain ⟨a, ea, eb⟩ := io_get hio e1
    cases a with
    | io j => exact (noIo_get hn ea).elim
    | v d' =>
      have eb : false = b := eb
      subst eb
      obtain ⟨d'', h1, h2⟩ := getAll_get hg ea
      rw [e2] at h1; cases h1
      have h2 : some d' = some d := h2
      cases h2
      obtain ⟨x, hx, rx⟩ := ra.get ea
      exact ⟨_, x, e3, hx, rx⟩
  have no : ∀ (i : Nat) (a : Addr), ¬ OwnAt (vs.map some) (argS 0 io ds) i a := fun i a ⟨_, t, et, ow⟩ => by
    obtain ⟨d, x, rfl, _⟩ := at0 i t et
    cases ow
  have noO : ∀ (a : Addr), ¬ Own (vs.map some) (argS 0 io ds) a := fun a ⟨i, q⟩ => no i a q
  refine ⟨ds, Hd P σ τ, hl, ⟨by rw [List.length_map, ra.length, argS_length 0 io ds hl, ← hio, List.length_map], fun i j a x _ => (no i a x).elim, fun a q => (noO a q).elim, fun a q => R.hd_there0 q, fun i t e => ?_⟩, ?_⟩
  · obtain ⟨d, x, rfl, hx, rx⟩ := at0 i t e
    exact ⟨x, by rw [List.getElem?_map, hx]; rfl, rx.same (hid_mono (.refl _) fun a z => z.elim (fun q => (noO a q).elim) id)⟩
  · revert h
    cases f ds with
    | ok d outs =>
      intro h v H' t R' r
      have s := R.tr t noO
      refine h v H' s.1 s.2 (r.same (hid_mono (.refl _) fun a z => .inr z))
    | own d =>
      intro h a H' t r
      have s := R.tr t noO
      exact h a H' s.1 s.2 r
    | exc c xs =>
      intro h cls od H' t ex
      have s := R.tr t noO
      exact h cls od H' s.1 s.2 ex
    | exo c xs outs => exact fun h => h.elim
    | fail => exact fun h => h
theorem ownD_at (R : StR L P H σ τ) {i : Nat} {d : D} (h : ownD τ[i]? = some d) : ∃ a, OwnAt σ τ i a ∧ OwX L (hid H (Hd P σ τ)) H d a := by
  cases e : τ[i]? with
  | none => rw [e] at h; cases h
  | some t =>
    have q := R.sl i t e
    rw [e] at h
    cases t with
    | ow d' =>
      have h : some d' = some d := h
      cases h
      obtain ⟨a, e1, r⟩ := q
      exact ⟨a, ⟨e1, _, e, rfl⟩, r.x⟩
    | oo d' =>
      have h : some d' = some d := h
      cases h
      obtain ⟨a, e1, r⟩ := q
      exact ⟨a, ⟨e1, _, e, rfl⟩, r⟩
    | io k d' =>
      have h : some d' = some d := h
      cases h
      obtain ⟨a, e1, _, r⟩ := q
      exact ⟨a, ⟨e1, _, e, rfl⟩, r⟩
    | _ => cases h
theorem call_1 {io : List Bool} {f : List D → RF} {as : List Ar} {ds : List D} {vs : List V} {Q : VK} {k i : Nat} (R : StR L P H σ τ) (ra : Ars L σ (hid H (Hd P σ τ)) as vs) (hio : as.map Ar.isIo = io) (h1 : oneIo as = true) (hk : ioAt as = some (k, i)) (hg : getAll τ as = some ds)
    (h : Post1 L P H σ τ k i (f ds) Q (E σ)) : spF L io f vs H Q (E σ) := by
  have hl : ds.length = io.length := by rw [getAll_length hg, ← hio, List.length_map]
  obtain ⟨hk1, hk2⟩ := ioAt_some hk h1
  obtain ⟨dk, ek, gk⟩ := getAll_get hg hk1
  obtain ⟨a, oa, rw0⟩ := ownD_at R (show ownD τ[i]? = some dk from gk)
  obtain ⟨xk, hxk, rxk⟩ := ra.get hk1
  have exk : xk = .ref a := by
    have rxk : σ[i]? = some (some xk) := rxk
    rw [oa.1] at rxk
    cases rxk; rfl
  subst exk
  have iok : io[k]? = some true := by rw [← hio, List.getElem?_map, hk1]; rfl
  have at0 : ∀ (j : Nat) (t : Sl), (argS 0 io ds)[j]? = some t → (j = k ∧ t = .io k dk) ∨ ∃ d x, t = .fz d ∧ vs[j]? = some x ∧ Rp L (hid H (Hd P σ τ)) d x := fun j t e => by
    obtain ⟨b, d, e1, e2, e3⟩ := argS_get 0 io ds j t e
    obtain ⟨ar, ea, eb⟩ := io_get hio e1
    cases ar with
    | io i' =>
      obtain ⟨q1, q2⟩ := hk2 j i' ea
      subst q1
      have eb : true = b := eb
      subst eb
      rw [e2] at ek; cases ek
      refine .inl ⟨rfl, ?_⟩
      rw [e3, Nat.zero_add]
      rfl
    | v d' =>
      have eb : false = b := eb
      subst eb
      obtain ⟨d'', h1, h2⟩ := getAll_get hg ea
      rw [e2] at h1; cases h1
      have h2 : some d' = some d := h2
      cases h2
      obtain ⟨x, hx, rx⟩ := ra.get ea
      exact .inr ⟨_, x, e3, hx, rx⟩
  have ow1 : ∀ (j : Nat) (b : Addr), OwnAt (vs.map some) (argS 0 io ds) j b → j = k ∧ b = a := fun j b ⟨e, t, et, ow⟩ => by
    rcases at0 j t et with ⟨rfl, _⟩ | ⟨d, x, rfl, _⟩
    · rw [List.getElem?_map, hxk] at e
      cases e
      exact ⟨rfl, rfl⟩
    · cases ow
  have B0 : ∀ b, Own (vs.map some) (argS 0 io ds) b → b = a := fun b ⟨j, q⟩ => (ow1 j b q).2
  have la : (argS 0 io ds).length = io.length := argS_length 0 io ds hl
  have kl : k < (argS 0 io ds).length := by rw [la]; exact (List.getElem?_eq_some_iff.mp iok).1
  have there : ∃ o, H a = some o := rw0.there
  have hidE : Same (hid H (Hd P σ τ)) (hid H (Hd ⟨vs, fun b => Hd P σ τ b ∧ b ≠ a⟩ (vs.map some) (argS 0 io ds))) := hid_mono (.refl _) fun b z => by
    rcases z with q | q
    · rw [B0 b q]; exact .inl ⟨i, oa⟩
    · exact q.1
  refine ⟨ds, fun b => Hd P σ τ b ∧ b ≠ a, hl, ⟨by rw [List.length_map, ra.length, la, ← hio, List.length_map], fun j j' b x y => by rw [(ow1 j b x).1, (ow1 j' b y).1], fun b q z => z.2 (B0 b q), fun b q => R.hd_there0 q.1, fun j t e => ?_⟩, ?_⟩
  · rcases at0 j t e with ⟨rfl, rfl⟩ | ⟨d, x, rfl, hx, rx⟩
    · exact ⟨a, by rw [List.getElem?_map, hxk]; rfl, hxk, rw0.step hidE rfl⟩
    · exact ⟨x, by rw [List.getElem?_map, hx]; rfl, rx.same hidE⟩
  · -- behind the call
    have lose : ∀ {H' : Hp} {A' : Addr → Prop}, Tr H (Own (vs.map some) (argS 0 io ds)) H' A' → Tr H (Own σ τ) H' (Own σ (τ.set i .un)) ∧ StR L P H' σ (τ.set i .un) := fun {H' A'} t => by
      exact R.upd1x oa (fun b o e n => t.keep0 b o e fun z => n (z.mono fun b q => B0 b q)) t.there (.inl rfl)
    have offI : ∀ (t' : Sl) (b : Addr), t'.own = false → OwnAt σ (τ.set i t') i b → False := fun t' b hf ⟨_, t, et, ow⟩ => by
      rw [List.getElem?_set_self (List.getElem?_eq_some_iff.mp oa.2.choose_spec.1).1] at et
      cases et
      rw [hf] at ow; cases ow
    have go : ∀ (outs : List (Option Sm.D)) (H' : Hp), Tr H (Own (vs.map some) (argS 0 io ds)) H' (Own (vs.map some) (outS 0 outs)) → StR L ⟨vs, fun b => Hd P σ τ b ∧ b ≠ a⟩ H' (vs.map some) (outS 0 outs) → ∀ K : Prop,
        (Tr H (Own σ τ) H' (Own σ (give τ i (outs.getD k none))) → StR L P H' σ (give τ i (outs.getD k none)) → Same (hid H' (Hd ⟨vs, fun b => Hd P σ τ b ∧ b ≠ a⟩ (vs.map some) (outS 0 outs))) (hid H' (Hd P σ (give τ i (outs.getD k none)))) → K) → K := by
      intro outs H' t R' K h
      have keep : ∀ b o, H b = some o → ¬ Foot H (fun x => x = a) b → H' b = some o := fun b o e n => t.keep0 b o e fun z => n (z.mono fun b q => B0 b q)
      obtain ⟨o, ho⟩ := there
      have ath := t.there a o ho
      have subset : ∀ (t' : Sl) (b : Addr), (b ≠ a → Hd P σ (τ.set i t') b → Hd P σ τ b) := fun t' b n z => by
        rcases z with ⟨j, q⟩ | z
        · refine .inl ⟨j, ?_⟩
          obtain ⟨e, t, et, ow⟩ := q
          by_cases hj : i = j
          · subst hj
            rw [oa.1] at e
            exact absurd (by cases e; rfl) n
          · rw [List.getElem?_set_ne hj] at et
            exact ⟨e, t, et, ow⟩
        · exact .inr z
      -- the changed argument
      cases eo : outs.getD k none with
      | none =>
        rw [eo] at h
        have eg : give τ i none = τ.set i .un := rfl
        rw [eg] at h
        obtain ⟨t2, R2⟩ := lose t
        refine h t2 R2 (hid_mono (.refl _) fun b z => .inr ⟨subset _ b ?_ z, ?_⟩) <;>
        · intro e
          subst e
          rcases z with ⟨j, q⟩ | z
          · by_cases hj : j = i
            · subst hj
              exact offI _ _ rfl q
            · obtain ⟨e, t, et, ow⟩ := q
              rw [List.getElem?_set_ne (Ne.symm hj)] at et
              exact hj (R.inj j i _ ⟨e, t, et, ow⟩ oa)
          · exact R.dis _ ⟨i, oa⟩ z
      | some d' =>
        rw [eo] at h
        have eo2 : outs[k]? = some (some d') := by
          rw [List.getD_eq_getElem?_getD] at eo
          cases q : outs[k]? with
          | none => rw [q] at eo; cases eo
          | some o => rw [q] at eo; exact congrArg some eo
        have es : (outS 0 outs)[k]? = some (.io k d') := by rw [outS_get, eo2, Nat.zero_add]; rfl
        obtain ⟨a', e1, e2, r'⟩ := R'.sl k _ es
        have ea : a' = a := by
          have e2 : vs[k]? = some (.ref a') := e2
          rw [hxk] at e2
          cases e2; rfl
        subst ea
        have aOwn : Own (vs.map some) (outS 0 outs) a' := ⟨k, e1, _, es, rfl⟩
        -- the slot's kind
        obtain ⟨t0, et0, ow0⟩ := oa.2
        have fin : ∀ (t' : Sl), t'.own = true → (SlR L P (hid H' (Hd P σ (τ.set i t'))) H' σ[i]? t' ↔ True ∧ SlR L P (hid H' (Hd P σ (τ.set i t'))) H' σ[i]? t') := fun t' _ => ⟨fun z => ⟨trivial, z⟩, fun z => z.2⟩
        have sm : ∀ (t' : Sl), Same (hid H' (Hd ⟨vs, fun b => Hd P σ τ b ∧ b ≠ a'⟩ (vs.map some) (outS 0 outs))) (hid H' (Hd P σ (τ.set i t'))) := fun t' => hid_mono (.refl _) fun b z => by
          by_cases hb : b = a'
          · rw [hb]; exact .inl aOwn
          · exact .inr ⟨subset t' b hb z, hb⟩
        cases t0 with
        | ow d0 =>
          cases hb : d'.isObo with
          | true =>
            have eg : give τ i (some d') = τ.set i .un := by unfold give; rw [et0]; exact if_pos hb
            rw [eg] at h
            obtain ⟨t2, R2⟩ := lose t
            exact h t2 R2 (sm _)
          | false =>
            have eg : give τ i (some d') = τ.set i (.ow d') := by unfold give; rw [et0]; exact if_neg (by rw [hb]; exact Bool.false_ne_true)
            rw [eg] at h
            obtain ⟨t2, R2⟩ := R.upd1x (t' := .ow d') oa keep t.there (.inr ⟨rfl, fun _ => ⟨a', oa.1, (r'.step (sm _) rfl).list hb⟩⟩)
            exact h t2 R2 (sm _)
        | io k0 d0 =>
          have eg : give τ i (some d') = τ.set i (.io k0 d') := by unfold give; rw [et0]
          rw [eg] at h
          obtain ⟨a0, q1, q2, _⟩ := R.sl i _ et0
          have ea0 : a0 = a' := by rw [oa.1] at q1; cases q1; rfl
          subst ea0
          obtain ⟨t2, R2⟩ := R.upd1x (t' := .io k0 d') oa keep t.there (.inr ⟨rfl, fun _ => ⟨a0, oa.1, q2, r'.step (sm _) rfl⟩⟩)
          exact h t2 R2 (sm _)
        | oo d0 =>
          have eg : give τ i (some d') = τ.set i (.oo d') := by unfold give; rw [et0]
          rw [eg] at h
          obtain ⟨t2, R2⟩ := R.upd1x (t' := .oo d') oa keep t.there (.inr ⟨rfl, fun _ => ⟨a', oa.1, r'.step (sm _) rfl⟩⟩)
          exact h t2 R2 (sm _)
        | le d0 =>
          have gk : ownD τ[i]? = some dk := gk
          rw [et0] at gk; cases gk
        | un => cases ow0
        | fz d0 => cases ow0
    revert h
    cases f ds with
    | ok d outs =>
      intro h v H' t R' r
      exact go outs H' t R' _ fun x y z => h v H' x y (r.same z)
    | exo c xs outs =>
      intro h cls od H' t R' ex
      exact go outs H' t R' _ fun x y z => h cls od H' x y (ex.same z)
    | own d => exact fun h => h.elim
    | exc c xs =>
      intro h cls od H' t ex
      obtain ⟨t2, R2⟩ := lose t
      have sub1 : ∀ b, Hd P σ (τ.set i .un) b → Hd P σ τ b ∧ b ≠ a := fun b z => by
        rcases z with ⟨j, q⟩ | z
        · by_cases hj : j = i
          · subst hj
            exact (offI _ _ rfl q).elim
          · obtain ⟨e, t, et, ow⟩ := q
            rw [List.getElem?_set_ne (Ne.symm hj)] at et
            exact ⟨.inl ⟨j, e, t, et, ow⟩, fun z => hj (R.inj j i _ ⟨by rw [← z]; exact e, t, et, ow⟩ oa)⟩
        · exact ⟨.inr z, fun e => R.dis _ ⟨i, oa⟩ (by rw [← e]; exact z)⟩
      exact h cls od H' t2 R2 (ex.same (hid_mono (.refl _) sub1))
    | fail => exact fun h => h.elim
theorem call_ok {io : List Bool} {f : List D → RF} {as : List Ar} {vs : List V} {Q : VK} (R : StR L P H σ τ) (ra : Ars L σ (hid H (Hd P σ τ)) as vs) (h : Post L P (RV L) H σ τ (callR io f as τ) Q (E σ)) : spF L io f vs H Q (E σ) := by
  unfold callR at h
  split at h
  · rename_i hc
    obtain ⟨hio, h1⟩ := hc
    cases hg : getAll τ as with
    | none => rw [hg] at h; exact h.elim
    | some ds =>
      rw [hg] at h
      have h : Post L P (RV L) H σ τ (callB (ioAt as) (f ds) τ) Q (E σ) := h
      cases hk : ioAt as with
      | none =>
        rw [hk] at h
        refine call_0 R ra hio (ioAt_none hk) hg ?_
        generalize f ds = r at h ⊢
        cases r with
        | ok d outs => exact h
        | own d => exact h.elim
        | exo c xs outs => exact h.elim
        | exc c xs => exact h
        | fail => exact h.elim
      | some p =>
        obtain ⟨k, i⟩ := p
        rw [hk] at h
        refine call_1 R ra hio h1 hk hg ?_
        generalize f ds = r at h ⊢
        cases r with
        | ok d outs => exact h
        | own d => exact h.elim
        | exo c xs outs => exact h
        | exc c xs => exact h
        | fail => exact h.elim
  · exact h.elim
end
end Sm
set_option Elab.async false
set_option linter.all false
set_option maxRecDepth 100000
set_option maxHeartbeats 400000
namespace Sm
open PySem PySem.Spec PyProof.Rows L2

section
variable {L : Lay} {P : Pa} {W : WX} {X : Cx} {E : L2.St → XK} {pos : Pos}
def tAr (L : Lay) (P : Pa) (E : L2.St → XK) (m : M (List Ar)) : TA := fun σ H Q => ∃ τ, StR L P H σ τ ∧ Post L P (fun F a v => Ars L σ F a v) H σ τ (m τ) Q (E σ)
abbrev SAr (L : Lay) (P : Pa) (E : L2.St → XK) (X : Cx) (es : List Expr) (m : M (List Ar)) : Prop := PA X es (tAr L P E m)
def aNil : M (List Ar) := fun τ => .ok [] τ
def aV (m : M D) (ms : M (List Ar)) : M (List Ar) := fun τ => (m τ).bind fun x => fun τ => (ms τ).bind fun xs => fun τ => .ok (.v x :: xs) τ
def aIo (i : Nat) (ms : M (List Ar)) : M (List Ar) := fun τ =>
  match ownD τ[i]? with
  | some _ => (ms τ).bind fun xs => fun τ => .ok (.io i :: xs) τ
  | none => .fail
variable {e : Expr} {es : List Expr} {m : M D} {ms : M (List Ar)}
theorem sAr_nil : SAr L P E X [] aNil := PA.weak pa_nil fun σ H Q ⟨τ, R, h⟩ => h [] H .refl R rfl
theorem sAr_v (ha : SE L P E X e m) (hr : SAr L P E X es ms) (hs : starEach (e :: es) X.env = (false, eval e X.env) :: starEach es X.env := by rfl) : SAr L P E X (e :: es) (aV m ms) :=
  PA.weak (pa_cons ha hr hs) fun σ H Q ⟨τ, R, h⟩ => by
    refine ⟨τ, R, (Post.split (R := RV L) h).imp fun x H1 ⟨d1, τ1, t1, R1, r1, h1⟩ => ?_⟩
    refine ⟨τ1, R1, (Post.split (R := fun F a v => Ars L σ F a v) h1).imp fun y H2 ⟨d2, τ2, t2, R2, r2, h2⟩ => ?_⟩
    exact h2 (x :: y) H2 .refl R2 ⟨x, y, rfl, r1.same (R1.fz t2), r2⟩
theorem sAr_io {x : Str} {p : Pos} (i : Nat) (hr : SAr L P E X es ms) (hN : X.N[i]? = some x := by rfl) (hv : Vis X.env.scope x := by first | exact Or.inl rfl | exact Or.inr (Or.inl rfl) | exact Or.inr (Or.inr rfl)) (hd : (x == ("__debug__" : Str)) = false := by decide)
    (hcd : (x == ("__classdict__" : Str)) = false := by decide) (hs : starEach (.Name x p :: es) X.env = (false, eval (.Name x p) X.env) :: starEach es X.env := by rfl) : SAr L P E X (.Name x p :: es) (aIo i ms) :=
  PA.weak (pa_cons (pe_var hN hv hd hcd) hr hs) fun σ H Q ⟨τ, R, h⟩ => by
    unfold aIo at h
    split at h
    · rename_i d e
      obtain ⟨a, oa, _⟩ := ownD_at R e
      refine ⟨.ref a, oa.1, τ, R, (Post.split (R := fun F a v => Ars L σ F a v) h).imp fun y H2 ⟨d2, τ2, t2, R2, r2, h2⟩ => ?_⟩
      exact h2 (.ref a :: y) H2 .refl R2 ⟨.ref a, y, rfl, oa.1, r2⟩
    · exact h.elim
theorem PK.weak {X : Cx} {e : List Keyword} {t u : TA} (h : PK X e t) (f : ∀ σ H Q, u σ H Q → t σ H Q) : PK X e u := ⟨fun pos pins s σ H Q I q => h.run pos pins s σ H Q I (f σ H Q q)⟩
variable {nm : Option Str} {kpos : Pos} {kws : List Keyword} {mk : M (List D)}
structure Bd (L : Lay) (fd : FuncData) (ps : List Str) (n : Nat) (ks : List Str) (ix : List Nat) (dds : List D) : Prop where
  ex : ∃ (dvs : List V) (dws : List Value), Vals dvs dws ∧ (∀ F, Rps L F dds dvs) ∧
    ∀ (s : Shared) (us ws : List Value), L.K.In s.heap → us.length = n → ws.length = ks.length → BindsTo s fd ⟨us, ks.zip ws⟩ (ps.zip (ix.map fun i => (us ++ ws ++ dws).getD i Value.none))
def pick (ix : List Nat) (l : List Ar) : List Ar := ix.map fun i => l.getD i (.v .non)
theorem vals_pick {vs : List V} {us : List Value} (r : Vals vs us) : ∀ ix : List Nat, Vals (ix.map fun i => vs.getD i .non) (ix.map fun i => us.getD i Value.none)
  | [] => .nil
  | i :: ix => by
    refine .cons ?_ (vals_pick r ix)
    show RelV (vs.getD i .non) (us.getD i Value.none)
    rw [List.getD_eq_getElem?_getD, List.getD_eq_getElem?_getD]
    cases e : vs[i]? with
    | none => rw [r.none_of e]; rfl
    | some v =>
      obtain ⟨u, h1, h2⟩ := r.get e
      rw [h1]; exact h2
theorem ars_none {σ : L2.St} {F : Hp} {as : List Ar} {vs : List V} {i : Nat} (r : Ars L σ F as vs) (h : as[i]? = none) : vs[i]? = none := by
  rw [List.getElem?_eq_none_iff] at h ⊢
  rw [r.length]; exact h
theorem ars_pick {σ : L2.St} {F : Hp} {as : List Ar} {vs : List V} (r : Ars L σ F as vs) : ∀ ix : List Nat, Ars L σ F (pick ix as) (ix.map fun i => vs.getD i .non)
  | [] => rfl
  | i :: ix => by
    refine ⟨_, _, rfl, ?_, ars_pick r ix⟩
    show (as.getD i (.v .non)).Rel L σ F (vs.getD i .non)
    rw [List.getD_eq_getElem?_getD, List.getD_eq_getElem?_getD]
    cases e : as[i]? with
    | none => rw [ars_none r e]; exact (Rp.non_iff (L := L) (F := F)).mpr rfl
    | some a =>
      obtain ⟨x, h1, h2⟩ := r.get e
      rw [h1]; exact h2
def mCall (io : List Bool) (fn : List D → RF) (n k : Nat) (ix : List Nat) (dds : List D) (m : M (List Ar)) (mk : M (List D)) : M D := fun τ =>
  (m τ).bind fun as => fun τ => (mk τ).bind fun es => fun τ =>
    if as.length = n ∧ es.length = k then callR io fn (pick ix (as ++ es.map Ar.v ++ dds.map Ar.v)) τ else .fail
variable {k n : Nat} {f : Addr} {fd : FuncData} {ps ks : List Str} {io : List Bool} {fn : List D → RF} {ix : List Nat} {dds : List D} {x : Str} {p : Pos} {ma : M (List Ar)}
theorem run_call {pins : List (Addr × Obj)} {σ : L2.St} {τ : List Sl} {H : Hp} {s : Shared} {Q : VK} {us ws : List Value} {vs zs : List V} {as : List Ar} {ds : List D} (hK : X.K = L.K) (F : FnOk X.prog X.w X.K X.mg X.base (L2.CX X.prog X.w) k f fd ps (spF L io fn)) (hr : Room k X.A)
    (hb : Bd L fd ps n ks ix dds) (hx : PassesAt (L2.CX X.prog X.w) X σ (E σ)) (I : Inv X pins σ H s) (R : StR L P H σ τ) (r1 : Vals vs us) (r2 : Vals zs ws) (q1 : Ars L σ (hid H (Hd P σ τ)) as vs) (q2 : Rps L (hid H (Hd P σ τ)) ds zs)
    (h : Post L P (RV L) H σ τ (if as.length = n ∧ ds.length = ks.length then callR io fn (pick ix (as ++ ds.map Ar.v ++ dds.map Ar.v)) τ else .fail) Q (E σ)) :
    wpAny (model X.prog X.w) X.A (call (.ref f) us (ks.zip ws)) (EP X pins σ Q) X.xe s := by
  split at h
  · rename_i hl
    obtain ⟨dvs, dws, dv, dd, to⟩ := hb.ex
    have ra : Ars L σ (hid H (Hd P σ τ)) (as ++ ds.map Ar.v ++ dds.map Ar.v) (vs ++ zs ++ dvs) := (q1.app q2.ars).app (dd _).ars
    have rv : Vals (vs ++ zs ++ dvs) (us ++ ws ++ dws) := (r1.append r2).append dv
    have sp : spF L io fn (ix.map fun i => (vs ++ zs ++ dvs).getD i .non) H Q (E σ) := call_ok R (ars_pick ra ix) h
    refine wpAny_call (codeAny_mono (F.run X.A X.stack s H ⟨us, ks.zip ws⟩ _ _ Q (E σ) hr I.env0 (to s us ws (by rw [← hK]; exact I.kIn) (by rw [← r1.length, q1.length]; exact hl.1) (by rw [← r2.length, q2.length]; exact hl.2)) (vals_pick rv ix) sp) fun r s' hq => ?_)
    cases r with
    | error e => exact hx pins H s e s' I hq
    | ok fl =>
      cases fl with
      | ret u => exact I.after hq
      | next => exact False.elim hq
      | brk => exact False.elim hq
      | cont => exact False.elim hq
  · exact h.elim
theorem sE_call (hK : X.K = L.K) (F : FnOk X.prog X.w X.K X.mg X.base (L2.CX X.prog X.w) k f fd ps (spF L io fn)) (hr : Room k X.A) (hg : Gl X x) (hm : X.mg x = some (.ref f)) (hk : PySem.W.keepIn X.K (.ref f) = true) (hb : Bd L fd ps n [] ix dds)
    (hx : ∀ σ, PassesAt (L2.CX X.prog X.w) X σ (E σ)) (ha : SAr L P E X (e :: es) ma) (hdb : (x == ("__debug__" : Str)) = false := by decide) (he : starEach (e :: es) X.env = (false, eval e X.env) :: starEach es X.env := by rfl) (hpl : (backTo pos (starEach es X.env)).any (·.1) = false := by rfl) :
    SE L P E X (.Call (.Name x p) (e :: es) [] pos) (mCall io fn n 0 ix dds ma mNil) := by
  refine ⟨fun pins s σ H Q I ⟨τ, R, h⟩ => ?_⟩
  refine wpAny_Call_Name_kw (ld_glob I hg hm ?_ hdb)
  refine PySem.W.callWith_K (h₀ := X.base) I.ok.mod.kin hk (thn (ha.run pos pins s σ H _ I ⟨τ, R, Post.split (R := fun F a v => Ars L σ F a v) h⟩) fun us s1 ⟨vs, H1, I1, r, as, τ1, t1, R1, q1, h1⟩ => ⟨I1.kIn, ?_⟩) he hpl
  exact run_call (ks := []) (ws := []) hK F hr hb (hx σ) I1 R1 r .nil q1 .nil h1
theorem sE_call0 (hK : X.K = L.K) (F : FnOk X.prog X.w X.K X.mg X.base (L2.CX X.prog X.w) k f fd ps (spF L io fn)) (hr : Room k X.A) (hg : Gl X x) (hm : X.mg x = some (.ref f)) (hk : PySem.W.keepIn X.K (.ref f) = true) (hb : Bd L fd ps 0 [] ix dds)
    (hx : ∀ σ, PassesAt (L2.CX X.prog X.w) X σ (E σ)) (hdb : (x == ("__debug__" : Str)) = false := by decide) :
    SE L P E X (.Call (.Name x p) [] [] pos) (mCall io fn 0 0 ix dds aNil mNil) := by
  refine ⟨fun pins s σ H Q I ⟨τ, R, h⟩ => ?_⟩
  refine wpAny_Call_Name_kw (ld_glob I hg hm ?_ hdb)
  exact PySem.W.callWith_K0 I.kIn hk (run_call (ks := []) (ws := []) (us := []) (as := []) hK F hr hb (hx σ) I R .nil .nil rfl .nil h)
def callF (io : List Bool) (fn : List D → RF) (as : List Ar) : M D := fun τ =>
  if as.map Ar.isIo = io ∧ noIo as = true then
    match getAll τ as with
    | none => .fail
    | some ds =>
      match fn ds with
      | .own d => if d.isObo = true then .fail else .ok d τ
      | .exc c xs => .exc c xs τ
      | _ => .fail
  else .fail
def mCallF (io : List Bool) (fn : List D → RF) (n : Nat) (ix : List Nat) (dds : List D) (m : M (List Ar)) : M D := fun τ =>
  (m τ).bind fun as => fun τ => if as.length = n then callF io fn (pick ix (as ++ dds.map Ar.v)) τ else .fail
theorem callF_ok {σ : L2.St} {τ : List Sl} {H : Hp} {as : List Ar} {vs : List V} {Q : VK} (R : StR L P H σ τ) (ra : Ars L σ (hid H (Hd P σ τ)) as vs) (h : PostF L P H σ τ (callF io fn as τ) Q (E σ)) : spF L io fn vs H Q (E σ) := by
  unfold callF at h
  split at h
  · rename_i hc
    obtain ⟨hio, h1⟩ := hc
    cases hg : getAll τ as with
    | none => rw [hg] at h; exact h.elim
    | some ds =>
      rw [hg] at h
      refine call_0 R ra hio h1 hg ?_
      revert h
      dsimp only
      cases fn ds with
      | ok d outs => exact fun h => h.elim
      | own d =>
        intro h
        replace h : PostF L P H σ τ (if d.isObo = true then Res.fail else Res.ok d τ) Q (E σ) := h
        cases hb : d.isObo with
        | true => rw [if_pos hb] at h; exact h.elim
        | false => rw [if_neg (by rw [hb]; exact Bool.false_ne_true)] at h; exact fun a H' t R' o => h a H' t R' (o.list hb)
      | exo c xs outs => exact fun h => h.elim
      | exc c xs => exact fun h => h
      | fail => exact fun h => h
  · exact h.elim
theorem sF_call (hK : X.K = L.K) (F : FnOk X.prog X.w X.K X.mg X.base (L2.CX X.prog X.w) k f fd ps (spF L io fn)) (hr : Room k X.A) (hg : Gl X x) (hm : X.mg x = some (.ref f)) (hk : PySem.W.keepIn X.K (.ref f) = true) (hb : Bd L fd ps n [] ix dds)
    (hx : ∀ σ, PassesAt (L2.CX X.prog X.w) X σ (E σ)) (ha : SAr L P E X (e :: es) ma) (hdb : (x == ("__debug__" : Str)) = false := by decide) (he : starEach (e :: es) X.env = (false, eval e X.env) :: starEach es X.env := by rfl) (hpl : (backTo pos (starEach es X.env)).any (·.1) = false := by rfl) :
    SF L P E X (.Call (.Name x p) (e :: es) [] pos) (mCallF io fn n ix dds ma) := by
  refine ⟨fun pins s σ H Q I ⟨τ, R, h⟩ => ?_⟩
  refine wpAny_Call_Name_kw (ld_glob I hg hm ?_ hdb)
  have h : PostF L P H σ τ ((ma τ).bind fun as => fun τ => if as.length = n then callF io fn (pick ix (as ++ dds.map Ar.v)) τ else .fail) Q (E σ) := h
  have h2 : Post L P (fun F a v => Ars L σ F a v) H σ τ (ma τ) (fun vs H1 => ∃ as τ1, StR L P H1 σ τ1 ∧ Ars L σ (hid H1 (Hd P σ τ1)) as vs ∧ PostF L P H1 σ τ1 (if as.length = n then callF io fn (pick ix (as ++ dds.map Ar.v)) τ1 else .fail) Q (E σ)) (E σ) := by
    revert h
    cases ma τ with
    | ok as τ1 =>
      intro h vs H1 t1 R1 q1
      refine ⟨as, τ1, R1, q1, ?_⟩
      rw [Res.bind_ok] at h
      revert h
      cases (if as.length = n then callF io fn (pick ix (as ++ dds.map Ar.v)) τ1 else .fail) with
      | ok d τ2 => exact fun h a H' t R' o => h a H' (t1.trans t) R' o
      | exc c xs τ2 => exact fun h cls od H' t R' ex => h cls od H' (t1.trans t) R' ex
      | fail => exact fun h => h
    | exc c xs τ1 => exact fun h => h
    | fail => exact fun h => h
  refine PySem.W.callWith_K (h₀ := X.base) I.ok.mod.kin hk (thn (ha.run pos pins s σ H _ I ⟨τ, R, h2⟩) fun us s1 ⟨vs, H1, I1, r, as, τ1, R1, q1, h1⟩ => ⟨I1.kIn, ?_⟩) he hpl
  split at h1
  · rename_i hl
    obtain ⟨dvs, dws, dv, dd, to⟩ := hb.ex
    have ra : Ars L σ (hid H1 (Hd P σ τ1)) (as ++ dds.map Ar.v) (vs ++ dvs) := q1.app (dd _).ars
    have rv : Vals (vs ++ dvs) (us ++ dws) := r.append dv
    have sp := callF_ok R1 (ars_pick ra ix) h1
    have b := to s1 us [] (by rw [← hK]; exact I1.kIn) (by rw [← r.length, q1.length]; exact hl) rfl
    rw [List.append_nil] at b
    refine wpAny_call (codeAny_mono (F.run X.A X.stack s1 H1 ⟨us, []⟩ _ _ Q (E σ) hr I1.env0 b (vals_pick rv ix) sp) fun r s' hq => ?_)
    cases r with
    | error e => exact hx σ pins H1 s1 e s' I1 hq
    | ok fl =>
      cases fl with
      | ret u => exact I1.after hq
      | next => exact False.elim hq
      | brk => exact False.elim hq
      | cont => exact False.elim hq
  · exact h1.elim

def mLoop (g : MG) (b : MS) : List D → MS
  | [] => fun τ => .nx τ
  | d :: ds => fun τ =>
    match g d τ with
    | none => .fail
    | some τ =>
      match b τ with
      | .nx τ => mLoop g b ds τ
      | .ct τ => mLoop g b ds τ
      | .bk τ => .nx τ
      | r => r
def mFor (mi : M (List D)) (g : MG) (b : MS) : MS := fun τ => (mi τ).st fun ds τ => mLoop g b ds τ
theorem sS_for {tg iter : Expr} {body : List Stmt} {mi : M (List D)} {g : MG} {b : MS} (hp : PassesOwn (model X.prog X.w) X.A X.env X.xe) (hc : X.calm = true) (hi : SI L P (WE W) X tg iter mi) (hg : SG L P X tg g) (hb : SSs L P W X body b)
    (hs : ∀ x, foldedSetIterable iter X.env x = pure x := by intro _; rfl) : SS L P W X (.For tg iter body [] pos) (mFor mi g b) :=
  PS.weak (ps_for hp hc hi hg hb hs) fun D σ H ⟨τ, R, h⟩ => by
    refine ⟨τ, R, ?_⟩
    have h : SPost L P W H σ τ ((mi τ).st fun ds τ => mLoop g b ds τ) D := h
    revert h
    cases mi τ with
    | exc c xs τ' => exact fun h cls od H' x y z => h cls od σ H' x y z
    | fail => exact fun h => h
    | ok ds τ1 =>
      intro h J H1 t1 R1 it
      have h : SPost L P W H σ τ (mLoop g b ds τ1) D := h
      refine ⟨fun i k σ2 H2 => i + k = ds.length ∧ ∃ τ2, Tr H1 (Own σ τ1) H2 (Own σ2 τ2) ∧ StR L P H2 σ2 τ2 ∧ SPost L P W H2 σ2 τ2 (mLoop g b (ds.drop i) τ2) D, ⟨ds.length, Nat.zero_add _, τ1, .refl, R1, SPost.from h t1⟩, ?_⟩
      rintro i k σ2 H2 ⟨hik, τ2, t2, R2, h2⟩
      have gg : Same (hid H1 (Hd P σ τ1)) (hid H2 (Hd P σ2 τ2)) := R1.fz t2
      obtain ⟨go, stop⟩ := it i H2 (Hd P σ2 τ2) gg R2.ths
      cases e : ds[i]? with
      | none =>
        refine .inl ⟨stop e, ?_⟩
        rw [List.drop_eq_nil_of_le (List.getElem?_eq_none_iff.mp e)] at h2
        exact h2 σ2 H2 .refl R2
      | some d =>
        obtain ⟨g1, g2⟩ := go d e
        have hi : i < ds.length := (List.getElem?_eq_some_iff.mp e).1
        have ed : ds.drop i = d :: ds.drop (i + 1) := by
          rw [List.drop_eq_getElem_cons hi]
          rw [List.getElem?_eq_getElem hi] at e
          cases e; rfl
        rw [ed] at h2
        refine .inr ⟨g1, fun σ3 H3 => ∃ τ3, Tr H1 (Own σ τ1) H3 (Own σ3 τ3) ∧ StR L P H3 σ3 τ3 ∧ SPost L P W H3 σ3 τ3 (mLoop g b (ds.drop (i + 1)) τ3) D, fun σ3 H3 ⟨τ3, q1, q2, q3⟩ => ⟨k - 1, by omega, by omega, τ3, q1, q2, q3⟩, fun x H3 y => ?_⟩
        obtain ⟨sm, rx⟩ := g2 x H3 y
        unfold mLoop at h2
        cases eg : g d τ2 with
        | none => rw [eg] at h2; exact h2.elim
        | some τ4 =>
          rw [eg] at h2
          refine ⟨τ2, d, τ4, R2.same sm, rx, eg, fun σ4 H4 t4 R4 => ⟨τ4, R4, ?_⟩⟩
          have t24 : Tr H2 (Own σ2 τ2) H4 (Own σ4 τ4) := (Tr.of sm).trans t4
          have t14 := t2.trans t24
          revert h2
          dsimp only
          cases b τ4 with
          | nx τ5 => exact fun h2 σ5 H5 t5 R5 => ⟨τ5, t14.trans t5, R5, SPost.from h2 (t24.trans t5)⟩
          | ct τ5 => exact fun h2 σ5 H5 t5 R5 => ⟨τ5, t14.trans t5, R5, SPost.from h2 (t24.trans t5)⟩
          | bk τ5 => exact fun h2 σ5 H5 t5 R5 => h2 σ5 H5 (t24.trans t5) R5
          | rt d τ5 => exact fun h2 v σ5 H5 t5 R5 r => h2 v σ5 H5 (t24.trans t5) R5 r
          | ro d τ5 => exact fun h2 v σ5 H5 t5 R5 r => h2 v σ5 H5 (TrO.after t24 t5) R5 r
          | exc c xs τ5 => exact fun h2 cls od σ5 H5 t5 R5 r => h2 cls od σ5 H5 (t24.trans t5) R5 r
          | fail => exact fun h2 => h2
end
end Sm
set_option Elab.async false
set_option linter.all false
set_option maxRecDepth 100000
set_option maxHeartbeats 400000
namespace Sm
open PySem PySem.Spec PyProof.Rows L2

def mulOk (i j : Int) : Bool := decide (i.natAbs < 2 ^ 63) || decide (j.natAbs < 2 ^ 63) || (decide (i.natAbs < 2 ^ 20000) && decide (j.natAbs < 2 ^ 20000))
def dAdd : D → D → Option D
  | .int i, .int j => some (.int (i + j))
  | .str a, .str b => if a.length + b.length ≤ 16000000 then some (.str (a ++ b)) else none
  | .lst xs, .lst ys => (small (xs ++ ys)).map .lst
  | .tup xs, .tup ys => (small (xs ++ ys)).map .tup
  | _, _ => none
def dSub : D → D → Option D
  | .int i, .int j => some (.int (i - j))
  | _, _ => none
def dMul : D → D → Option D
  | .int i, .int j => if mulOk i j = true then some (.int (i * j)) else none
  | .lst xs, .int k => if k.natAbs < 2 ^ 62 ∧ xs.length * k.toNat ≤ 16000000 then some (.lst (List.replicate k.toNat xs).flatten) else none
  | _, _ => none
def dFdiv : D → D → Option D
  | .int i, .int j => if 0 < j ∧ j.natAbs < 2 ^ 8000 then some (.int (i / j)) else none
  | _, _ => none
def dMod : D → D → Option D
  | .int i, .int j => if 0 < j then some (.int (i % j)) else none
  | _, _ => none
def dPow : D → D → Option D
  | .int i, .int j => if 0 ≤ j ∧ j ≤ 1000000 ∧ i.natAbs < 2 ^ 64 then some (.int (i ^ j.toNat)) else none
  | _, _ => none
def dNeg : D → Option D
  | .int i => some (.int (-i))
  | _ => none
section
variable {L : Lay} {X : Cx}
theorem Bp.int {F H : Hp} {i : Int} {v : V} (h : Bp L F H (.int i) v) : v = .int i := (Rp.int_iff (L := L) (F := F)).mp h
theorem Bp.bl {F H : Hp} {i : Bool} {v : V} (h : Bp L F H (.bl i) v) : v = .bl i := (Rp.bl_iff (L := L) (F := F)).mp h
theorem Bp.str {F H : Hp} {i : Str} {v : V} (h : Bp L F H (.str i) v) : v = .str i := (Rp.str_iff (L := L) (F := F)).mp h
theorem Bp.non {F H : Hp} {v : V} (h : Bp L F H .non v) : v = .non := (Rp.non_iff (L := L) (F := F)).mp h
theorem Bp.tup {F H : Hp} {ds : List D} {v : V} (h : Bp L F H (.tup ds) v) : ∃ a vs, v = .ref a ∧ SqT L.K F a vs ∧ Rps L F ds vs := (Rp.tup_iff (L := L) (F := F)).mp h
theorem Bp.dct {F H : Hp} {ks us : List D} {v : V} (h : Bp L F H (.dct ks us) v) : ∃ a es, v = .ref a ∧ DctAt L.pr L.w H a es ∧ DRel L F ks us es := h
theorem Bp.obj {F H : Hp} {c : Nat} {fs : List D} {v : V} (h : Bp L F H (.obj c fs) v) : (∃ (a dx : Addr) (vs : List V), v = .ref a ∧ F a = some (SlX.SlO a (L.cls c) dx (vs.map some)) ∧ F dx = some (.xd []) ∧ Rps L F fs vs ∧ c < 1000000) ∨ (v = .ref (if c = 1000000 then L.self else L.cls c) ∧ 1000000 ≤ c ∧ fs = []) := (Rp.obj_iff (L := L) (F := F)).mp h
theorem Bp.exc {F H : Hp} {c : Nat} {ns : List Str} {fs : List D} {v : V} (h : Bp L F H (.exc c ns fs) v) : ∃ (a dx : Addr) (vs : List V), v = .ref a ∧ ExoL F a (L.cls c) dx (ns.zip vs) ∧ ns.length = vs.length ∧ Rps L F fs vs := (Rp.exc_iff (L := L) (F := F)).mp h
theorem Bp.scr {F H : Hp} {ds : List D} {v : V} (h : Bp L F H (.scr ds) v) : ∃ a vs, v = .ref a ∧ SqL L.K F a vs ∧ Rps L F ds vs := (Rp.scr_iff (L := L) (F := F)).mp h
theorem Bp.lst {F H : Hp} {ds : List D} {v : V} (h : Bp L F H (.lst ds) v) : ∃ a vs, v = .ref a ∧ H a = some (.lst vs) ∧ Rps L F ds vs := h
theorem small16 {n : Nat} (h : n ≤ 16000000) : n ≤ sizeLine := Nat.le_trans h (by decide)
theorem Rp.mk_int {F : Hp} {i : Int} : Rp L F (.int i) (.int i) := Rp.int_iff.mpr rfl
theorem Rp.mk_bl {F : Hp} {i : Bool} : Rp L F (.bl i) (.bl i) := Rp.bl_iff.mpr rfl
theorem Rp.mk_str {F : Hp} {i : Str} : Rp L F (.str i) (.str i) := Rp.str_iff.mpr rfl
abbrev rAddA (K : PySem.W.Frag) : R2 := fun x y H Q => rI0 (fun i j => .int (i + j)) x y H Q ∨ (∃ i j, x = .str i ∧ y = .str j ∧ i.length + j.length ≤ sizeLine ∧ Q (.str (i ++ j)) H) ∨ rCat x y H Q ∨ rCatA K x y H Q
theorem or_add : OpR X (binaryOp .Add) (rAddA X.K) := op_add.or (op_add_str.or (op_cat.or op_catA))
theorem os_add : OpS L (rAddA L.K) dAdd := by
  intro a b d x y H A Q e ra rb hA q
  cases a with
  | int i =>
    cases b with
    | int j =>
      cases e
      exact .inl ⟨i, j, ra.int, rb.int, q _ H (.refl _) .mk_int⟩
    | _ => cases e
  | str i =>
    cases b with
    | str j =>
      have e : (if i.length + j.length ≤ 16000000 then some (D.str (i ++ j)) else none) = some d := e
      split at e
      · rename_i hz
        cases e
        exact .inr (.inl ⟨i, j, ra.str, rb.str, small16 hz, q _ H (.refl _) .mk_str⟩)
      · cases e
    | _ => cases e
  | lst xs =>
    cases b with
    | lst ys =>
      obtain ⟨zs, e1, rfl⟩ := Option.map_eq_some_iff.mp e
      obtain ⟨rfl, hz⟩ := small_some e1
      obtain ⟨p, vs, rfl, hp, r1⟩ := ra.lst
      obtain ⟨p', vs', rfl, hp', r2⟩ := rb.lst
      refine .inr (.inr (.inl ⟨p, p', vs, vs', rfl, rfl, hp, hp', ?_, fun n hn => q _ _ (.of (same_upd hn)) (new_lst hA hn (r1.app r2))⟩))
      rw [List.length_append] at hz
      rw [r1.length, r2.length]; exact hz
    | _ => cases e
  | tup xs =>
    cases b with
    | tup ys =>
      obtain ⟨zs, e1, rfl⟩ := Option.map_eq_some_iff.mp e
      obtain ⟨rfl, hz⟩ := small_some e1
      obtain ⟨p, vs, rfl, hp, r1⟩ := ra.tup
      obtain ⟨p', vs', rfl, hp', r2⟩ := rb.tup
      have l1 := r1.length
      have l2 := r2.length
      rw [List.length_append] at hz
      have nil : ∀ {ds : List D} {us : List V}, us.length = ds.length → us = [] → ds = [] := fun h e => by subst e; exact List.length_eq_zero_iff.mp h.symm
      refine .inr (.inr (.inr ⟨p, p', vs, vs', rfl, rfl, SqT.same hid_le hp, SqT.same hid_le hp', by omega, fun e => ?_, fun _ e => ?_, fun _ _ n hn => q _ _ (.of (same_upd hn)) (new_tup hA hn (r1.app r2))⟩))
      · rw [nil l1 e, List.nil_append] at q
        exact q _ H (.refl _) (Rp.tup_iff.mpr ⟨p', vs', rfl, hp', r2⟩)
      · rw [nil l2 e, List.append_nil] at q
        exact q _ H (.refl _) (Rp.tup_iff.mpr ⟨p, vs, rfl, hp, r1⟩)
    | _ => cases e
  | _ => cases e
theorem os_sub : OpS L (rI0 fun i j => .int (i - j)) dSub := by
  intro a b d x y H A Q e ra rb hA q
  cases a with
  | int i =>
    cases b with
    | int j =>
      cases e
      exact ⟨i, j, ra.int, rb.int, q _ H (.refl _) .mk_int⟩
    | _ => cases e
  | _ => cases e
def CMulA (i j : Int) : Prop := mulOk i j = true
theorem natAbs_lt63 {i : Int} (h : i.natAbs < 2 ^ 63) : -(2 ^ 64) < i ∧ i < 2 ^ 64 := by omega
theorem op_mulA : OpR X (binaryOp .Mult) (rI CMulA fun i j => .int (i * j)) := opI fun i j _ _ _ _ _ hc q => mul_int q (by
  have hc : (decide (i.natAbs < 2 ^ 63) || decide (j.natAbs < 2 ^ 63) || (decide (i.natAbs < 2 ^ 20000) && decide (j.natAbs < 2 ^ 20000))) = true := hc
  rw [Bool.or_eq_true, Bool.or_eq_true, Bool.and_eq_true] at hc
  rcases hc with (h | h) | ⟨h1, h2⟩
  · exact CMul.ok (.inl (natAbs_lt63 (of_decide_eq_true h)))
  · exact CMul.ok (.inr (natAbs_lt63 (of_decide_eq_true h)))
  · exact CMulW.ok (wide_mul (of_decide_eq_true h1) (of_decide_eq_true h2) (by decide) (by decide) (by decide)))
abbrev rMulA : R2 := fun x y H Q => rI CMulA (fun i j => .int (i * j)) x y H Q ∨ rRep x y H Q
theorem or_mul : OpR X (binaryOp .Mult) rMulA := op_mulA.or op_rep
theorem os_mul : OpS L rMulA dMul := by
  intro a b d x y H A Q e ra rb hA q
  cases a with
  | int i =>
    cases b with
    | int j =>
      have e : (if mulOk i j = true then some (D.int (i * j)) else none) = some d := e
      split at e
      · rename_i hz
        cases e
        exact .inl ⟨i, j, ra.int, rb.int, hz, q _ H (.refl _) .mk_int⟩
      · cases e
    | _ => cases e
  | lst xs =>
    cases b with
    | int k =>
      have e : (if k.natAbs < 2 ^ 62 ∧ xs.length * k.toNat ≤ 16000000 then some (D.lst (List.replicate k.toNat xs).flatten) else none) = some d := e
      split at e
      · rename_i hz
        cases e
        obtain ⟨p, vs, rfl, hp, r1⟩ := ra.lst
        refine .inr ⟨p, k, vs, rfl, rb.int, hp, by omega, by omega, by rw [r1.length]; exact small16 hz.2, fun n hn => q _ _ (.of (same_upd hn)) (new_lst hA hn (r1.rep _))⟩
      · cases e
    | _ => cases e
  | _ => cases e
theorem os_fdiv : OpS L (rI CDivW fun i j => .int (i / j)) dFdiv := by
  intro a b d x y H A Q e ra rb hA q
  cases a with
  | int i =>
    cases b with
    | int j =>
      have e : (if 0 < j ∧ j.natAbs < 2 ^ 8000 then some (D.int (i / j)) else none) = some d := e
      split at e
      · rename_i hz
        cases e
        exact ⟨i, j, ra.int, rb.int, wide_div hz.1 hz.2 (by decide) (by decide), q _ H (.refl _) .mk_int⟩
      · cases e
    | _ => cases e
  | _ => cases e
theorem os_mod : OpS L (rI (fun _ j => 0 < j) fun i j => .int (i % j)) dMod := by
  intro a b d x y H A Q e ra rb hA q
  cases a with
  | int i =>
    cases b with
    | int j =>
      have e : (if 0 < j then some (D.int (i % j)) else none) = some d := e
      split at e
      · rename_i hz
        cases e
        exact ⟨i, j, ra.int, rb.int, hz, q _ H (.refl _) .mk_int⟩
      · cases e
    | _ => cases e
  | _ => cases e
theorem os_pow : OpS L (rI CPow fun i j => .int (i ^ j.toNat)) dPow := by
  intro a b d x y H A Q e ra rb hA q
  cases a with
  | int i =>
    cases b with
    | int j =>
      have e : (if 0 ≤ j ∧ j ≤ 1000000 ∧ i.natAbs < 2 ^ 64 then some (D.int (i ^ j.toNat)) else none) = some d := e
      split at e
      · rename_i hz
        cases e
        exact ⟨i, j, ra.int, rb.int, hz, q _ H (.refl _) .mk_int⟩
      · cases e
    | _ => cases e
  | _ => cases e
theorem us_neg : UnS L (rU fun i => .int (-i)) dNeg := by
  intro a d x H A Q e ra hA q
  cases a with
  | int i => cases e; exact ⟨i, ra.int, q _ H (.refl _) .mk_int⟩
  | _ => cases e

def dLt : D → D → Option D
  | .int i, .int j => some (.bl (decide (i < j)))
  | _, _ => none
def dLe : D → D → Option D
  | .int i, .int j => some (.bl (decide (i ≤ j)))
  | _, _ => none
def dGt : D → D → Option D
  | .int i, .int j => some (.bl (decide (j < i)))
  | _, _ => none
def dGe : D → D → Option D
  | .int i, .int j => some (.bl (decide (j ≤ i)))
  | _, _ => none
theorem os_int {g : Int → Int → Bool} {f : D → D → Option D} (h : ∀ i j, f (.int i) (.int j) = some (.bl (g i j))) (h2 : ∀ a b d, f a b = some d → ∃ i j, a = .int i ∧ b = .int j) : OpS L (rI0 fun i j => .bl (g i j)) f := by
  intro a b d x y H A Q e ra rb hA q
  obtain ⟨i, j, rfl, rfl⟩ := h2 a b d e
  rw [h] at e
  cases e
  exact ⟨i, j, ra.int, rb.int, q _ H (.refl _) .mk_bl⟩
theorem os_lt : OpS L (rI0 fun i j => .bl (decide (i < j))) dLt := os_int (g := fun i j => decide (i < j)) (fun _ _ => rfl) fun a b d e => by cases a <;> cases b <;> first | exact ⟨_, _, rfl, rfl⟩ | cases e
theorem os_le : OpS L (rI0 fun i j => .bl (decide (i ≤ j))) dLe := os_int (g := fun i j => decide (i ≤ j)) (fun _ _ => rfl) fun a b d e => by cases a <;> cases b <;> first | exact ⟨_, _, rfl, rfl⟩ | cases e
theorem os_gt : OpS L (rI0 fun i j => .bl (decide (j < i))) dGt := os_int (g := fun i j => decide (j < i)) (fun _ _ => rfl) fun a b d e => by cases a <;> cases b <;> first | exact ⟨_, _, rfl, rfl⟩ | cases e
theorem os_ge : OpS L (rI0 fun i j => .bl (decide (j ≤ i))) dGe := os_int (g := fun i j => decide (j ≤ i)) (fun _ _ => rfl) fun a b d e => by cases a <;> cases b <;> first | exact ⟨_, _, rfl, rfl⟩ | cases e

mutual
def D.py : D → Option PyData
  | .non => some .none
  | .bl b => some (.bool b)
  | .int i => some (.int i)
  | .str x => some (.str x)
  | .tup xs => (D.pys xs).map .tuple
  | .lst xs => (D.pys xs).map .list
  | _ => none
def D.pys : List D → Option (List PyData)
  | [] => some []
  | d :: ds => (D.py d).bind fun p => (D.pys ds).map (p :: ·)
end
mutual
theorem dp_of {F : Hp} : ∀ {d : D} {v : V} {p : PyData}, Rp L F d v → d.py = some p → Dp L.K F v p
  | .non, v, p, r, e => by cases e; rw [Rp.non_iff.mp r]; exact .non
  | .bl b, v, p, r, e => by cases e; rw [Rp.bl_iff.mp r]; exact .bl b
  | .int b, v, p, r, e => by cases e; rw [Rp.int_iff.mp r]; exact .int b
  | .str b, v, p, r, e => by cases e; rw [Rp.str_iff.mp r]; exact .str b
  | .tup ds, v, p, r, e => by
    unfold D.py at e
    obtain ⟨ps, e1, rfl⟩ := Option.map_eq_some_iff.mp e
    obtain ⟨a, vs, rfl, h, rr⟩ := Rp.tup_iff.mp r
    exact .tup h (dps_of rr e1)
  | .lst ds, v, p, r, e => by
    unfold D.py at e
    obtain ⟨ps, e1, rfl⟩ := Option.map_eq_some_iff.mp e
    obtain ⟨a, vs, rfl, h, rr⟩ := Rp.lst_iff.mp r
    exact .lst (.inl (.inl h)) (dps_of rr e1)
  | .dct _ _, _, _, _, e => by unfold D.py at e; cases e
  | .set _, _, _, _, e => by unfold D.py at e; cases e
  | .obj _ _, _, _, _, e => by unfold D.py at e; cases e
  | .scr _, _, _, _, e => by unfold D.py at e; cases e
  | .exc _ _ _, _, _, _, e => by unfold D.py at e; cases e
  | .ins _ _ _, _, _, _, e => by unfold D.py at e; cases e
  | .dki _ _, _, _, _, e => by unfold D.py at e; cases e
  | .ptup _, _, _, _, e => by unfold D.py at e; cases e
theorem dps_of {F : Hp} : ∀ {ds : List D} {vs : List V} {ps : List PyData}, Rps L F ds vs → D.pys ds = some ps → DpAll L.K F vs ps
  | [], vs, ps, r, e => by unfold Rps at r; unfold D.pys at e; cases e; subst r; exact .nil
  | d :: ds, vs, ps, r, e => by
    unfold Rps at r
    unfold D.pys at e
    obtain ⟨p, e1, e2⟩ := Option.bind_eq_some_iff.mp e
    obtain ⟨qs, e3, rfl⟩ := Option.map_eq_some_iff.mp e2
    obtain ⟨v, vr, rfl, r1, r2⟩ := r
    exact .cons (dp_of r1 e1) (dps_of r2 e3)
end
mutual
theorem Dp.up {K : PySem.W.Frag} {F H : Hp} (e : Same F H) : ∀ {p : PyData} {v : V}, Dp K F v p → Dp K H v p
  | .none, _, h => by cases h; exact .non
  | .bool _, _, h => by cases h; exact .bl _
  | .int _, _, h => by cases h; exact .int _
  | .str _, _, h => by cases h; exact .str _
  | .list _, _, h => by cases h with | lst a b => exact .lst (e.seq a) (Dp.ups e b)
  | .tuple _, _, h => by cases h with | tup a b => exact .tup (SqT.same e a) (Dp.ups e b)
  | .dict _, _, h => by cases h
theorem Dp.ups {K : PySem.W.Frag} {F H : Hp} (e : Same F H) : ∀ {ps : List PyData} {vs : List V}, DpAll K F vs ps → DpAll K H vs ps
  | [], _, h => by cases h; exact .nil
  | _ :: _, _, h => by cases h with | cons a b => exact .cons (Dp.up e a) (Dp.ups e b)
end
theorem dp_bp {F H : Hp} (s : Same F H) {d : D} {v : V} {p : PyData} (r : Bp L F H d v) (e : d.py = some p) : Dp L.K H v p := by
  cases d with
  | lst ds =>
    unfold D.py at e
    obtain ⟨ps, e1, rfl⟩ := Option.map_eq_some_iff.mp e
    obtain ⟨a, vs, rfl, h, rr⟩ := r.lst
    exact .lst (.inl (.inl h)) (Dp.ups s (dps_of rr e1))
  | dct _ _ => unfold D.py at e; cases e
  | dki _ _ => unfold D.py at e; cases e
  | obo _ _ _ => unfold D.py at e; cases e
  | _ => exact Dp.up s (dp_of r e)
def eqD (a b : D) : Option Bool :=
  match a.py, b.py with
  | some p, some q => if SeqAt.shaped p = true ∧ SeqAt.shaped q = true then some (PyData.eqv p q) else none
  | _, _ => none
def dEq (a b : D) : Option D := (eqD a b).map .bl
def dNe (a b : D) : Option D := (eqD a b).map fun k => .bl (!k)
theorem eqD_some {a b : D} {k : Bool} (h : eqD a b = some k) : ∃ p q, a.py = some p ∧ b.py = some q ∧ SeqAt.shaped p = true ∧ SeqAt.shaped q = true ∧ k = PyData.eqv p q := by
  unfold eqD at h
  split at h
  · rename_i p q e1 e2
    split at h
    · rename_i hz
      cases h
      exact ⟨p, q, e1, e2, hz.1, hz.2, rfl⟩
    · cases h
  · cases h
theorem os_eq : OpS L (rEqD L.K) dEq := by
  intro a b d x y H A Q e ra rb hA q
  obtain ⟨k, e1, rfl⟩ := Option.map_eq_some_iff.mp e
  obtain ⟨p, p', e2, e3, s1, s2, rfl⟩ := eqD_some e1
  exact ⟨p, p', dp_bp hid_le ra e2, dp_bp hid_le rb e3, s1, s2, q _ H (.refl _) .mk_bl⟩
theorem os_ne : OpS L (rNeD L.K) dNe := by
  intro a b d x y H A Q e ra rb hA q
  obtain ⟨k, e1, rfl⟩ := Option.map_eq_some_iff.mp e
  obtain ⟨p, p', e2, e3, s1, s2, rfl⟩ := eqD_some e1
  exact ⟨p, p', dp_bp hid_le ra e2, dp_bp hid_le rb e3, s1, s2, q _ H (.refl _) .mk_bl⟩
def inDs (a : Option PyData) (b : Option (List PyData)) : Option Bool :=
  match a, b with
  | some p, some ps => if SeqAt.shaped p = true ∧ SeqAt.shaped (.list ps) = true then some (ps.any fun z => PyData.eqv z p) else none
  | _, _ => none
def inD (a b : D) : Option Bool :=
  match b with
  | .lst ys => inDs a.py (D.pys ys)
  | _ => none
def dIn (a b : D) : Option D := (inD a b).map .bl
def dNotIn (a b : D) : Option D := (inD a b).map fun k => .bl (!k)
theorem inD_some {a b : D} {k : Bool} (h : inD a b = some k) : ∃ ys p ps, b = .lst ys ∧ a.py = some p ∧ b.py = some (.list ps) ∧ SeqAt.shaped p = true ∧ SeqAt.shaped (.list ps) = true ∧ k = ps.any fun z => PyData.eqv z p := by
  cases b with
  | lst ys =>
    have h : inDs a.py (D.pys ys) = some k := h
    unfold inDs at h
    split at h
    · rename_i p ps e1 e2
      split at h
      · rename_i hz
        cases h
        exact ⟨ys, p, ps, rfl, e1, by unfold D.py; rw [e2]; rfl, hz.1, hz.2, rfl⟩
      · cases h
    · cases h
  | _ => cases h
theorem os_in : OpS L (rInD L.K) dIn := by
  intro a b d x y H A Q e ra rb hA q
  obtain ⟨k, e1, rfl⟩ := Option.map_eq_some_iff.mp e
  obtain ⟨ys, p, ps, rfl, e2, e3, s1, s2, rfl⟩ := inD_some e1
  exact ⟨p, ps, dp_bp hid_le ra e2, dp_bp hid_le rb e3, s1, s2, q _ H (.refl _) .mk_bl⟩
theorem os_notIn : OpS L (rNotInD L.K) dNotIn := by
  intro a b d x y H A Q e ra rb hA q
  obtain ⟨k, e1, rfl⟩ := Option.map_eq_some_iff.mp e
  obtain ⟨ys, p, ps, rfl, e2, e3, s1, s2, rfl⟩ := inD_some e1
  exact ⟨p, ps, dp_bp hid_le ra e2, dp_bp hid_le rb e3, s1, s2, q _ H (.refl _) .mk_bl⟩
def isNon : D → Bool
  | .non => true
  | _ => false
theorem Rp.dec_non {F : Hp} {d : D} {v : V} (r : Rp L F d v) : decide (v = .non) = Sm.isNon d := by
  cases d with
  | non => rw [Rp.non_iff.mp r]; rfl
  | bl b => rw [Rp.bl_iff.mp r]; rfl
  | int b => rw [Rp.int_iff.mp r]; rfl
  | str b => rw [Rp.str_iff.mp r]; rfl
  | tup ds => obtain ⟨a, vs, rfl, _⟩ := Rp.tup_iff.mp r; rfl
  | lst ds => obtain ⟨a, vs, rfl, _⟩ := Rp.lst_iff.mp r; rfl
  | scr ds => obtain ⟨a, vs, rfl, _⟩ := Rp.scr_iff.mp r; rfl
  | dct _ _ => obtain ⟨a, es, rfl, _⟩ := Rp.dct_iff.mp r; rfl
  | dki _ _ => obtain ⟨a, es, rfl, _⟩ := Rp.dki_iff.mp r; rfl
  | ptup _ => obtain ⟨a, es, rfl, _⟩ := Rp.ptup_iff.mp r; rfl
  | set _ => rcases Rp.set_iff.mp r with ⟨a, ns, rfl, _⟩ | ⟨a, ks, L', rfl, _⟩ <;> rfl
  | obj _ _ => rcases Rp.obj_iff.mp r with ⟨a, dx, vs, rfl, _⟩ | ⟨rfl, _⟩ <;> rfl
  | exc _ _ _ => obtain ⟨a, dx, vs, rfl, _⟩ := Rp.exc_iff.mp r; rfl
  | ins _ _ _ => obtain ⟨a, dx, vs, rfl, _⟩ := Rp.ins_iff.mp r; rfl
  | obo _ _ _ => exact r.obo_no.elim
theorem Bp.dec_non {F H : Hp} {d : D} {v : V} (r : Bp L F H d v) : decide (v = .non) = Sm.isNon d := by
  cases d with
  | lst ds => obtain ⟨a, vs, rfl, _⟩ := r.lst; rfl
  | dct ks us => obtain ⟨a, vs, rfl, _⟩ := r; rfl
  | dki ks us => obtain ⟨a, vs, rfl, _⟩ := r; rfl
  | obo c ns fs => obtain ⟨a, rfl, _⟩ := r; rfl
  | _ => exact Rp.dec_non (L := L) (F := F) r
def dIs (a b : D) : Option D := if isNon b = true then some (.bl (isNon a)) else none
theorem os_is : OpS L (fun x y H Q => y = .non ∧ Q (.bl (decide (x = .non))) H) dIs := by
  intro a b d x y H A Q e ra rb hA q
  unfold dIs at e
  split at e
  · rename_i hz
    cases e
    have hb : b = .non := by cases b <;> first | rfl | cases hz
    subst hb
    refine ⟨rb.non, ?_⟩
    rw [ra.dec_non]
    exact q _ H (.refl _) .mk_bl
  · cases e
def dIx : D → D → Option D
  | .lst xs, .int i => HT_at xs i
  | .tup xs, .int i => HT_at xs i
  | .scr xs, .int i => HT_at xs i
  | .str z, .int i => if z.length ≤ 16000000 then (HT_atN z.cps.toList i).map fun c => .str ⟨#[c]⟩ else none
  | _, _ => none
where
  HT_at (xs : List D) (i : Int) : Option D := atI xs i
  HT_atN (xs : List Nat) (i : Int) : Option Nat := atI xs i
theorem Rps.atI {F : Hp} {ds : List D} {vs : List V} {i : Int} {d : D} (r : Rps L F ds vs) (h : L2.atI ds i = some d) : ∃ v, L2.atI vs i = some v ∧ Rp L F d v := by
  unfold L2.atI at h ⊢
  rw [r.length]
  obtain ⟨j, e1, e2⟩ := Option.bind_eq_some_iff.mp h
  obtain ⟨v, h1, h2⟩ := r.get e2
  exact ⟨v, by rw [e1]; exact h1, h2⟩
theorem os_ix : OpS L (rIx L.K) dIx := by
  intro a b d x y H A Q e ra rb hA q
  cases b with
  | int i =>
    cases a with
    | lst ds =>
      obtain ⟨p, vs, rfl, h, rr⟩ := ra.lst
      obtain ⟨v, h1, h2⟩ := rr.atI (show L2.atI ds i = some d from e)
      exact .inl ⟨p, vs, i, v, rfl, rb.int, .inl (.inl h), h1, q _ H (.refl _) h2⟩
    | scr ds =>
      obtain ⟨p, vs, rfl, h, rr⟩ := ra.scr
      obtain ⟨v, h1, h2⟩ := rr.atI (show L2.atI ds i = some d from e)
      exact .inl ⟨p, vs, i, v, rfl, rb.int, hid_le.seq h, h1, q _ H (.refl _) h2⟩
    | tup ds =>
      obtain ⟨p, vs, rfl, h, rr⟩ := ra.tup
      obtain ⟨v, h1, h2⟩ := rr.atI (show L2.atI ds i = some d from e)
      exact .inr (.inl ⟨p, vs, i, v, rfl, rb.int, SqT.same hid_le h, h1, q _ H (.refl _) h2⟩)
    | str z =>
      have e : (if z.length ≤ 16000000 then (L2.atI z.cps.toList i).map fun c => D.str ⟨#[c]⟩ else none) = some d := e
      split at e
      · rename_i hz
        obtain ⟨c, e1, rfl⟩ := Option.map_eq_some_iff.mp e
        exact .inr (.inr ⟨z, i, c, ra.str, rb.int, small16 hz, e1, q _ H (.refl _) .mk_str⟩)
      · cases e
    | _ => cases e
  | _ => cases a <;> cases e
end
end Sm
set_option Elab.async false
set_option linter.all false
set_option maxRecDepth 100000
set_option maxHeartbeats 400000
namespace Sm
open PySem PySem.Spec PyProof.Rows L2

def wipeS (τ : List Sl) : List Nat → List Sl
  | [] => τ
  | v :: vs => (wipeS τ vs).set v .un
def allUn (τ : List Sl) (vs : List Nat) : Bool := vs.all fun i => match τ[i]? with | some .un => true | _ => false
theorem allUn_get {τ : List Sl} {vs : List Nat} {i : Nat} (h : allUn τ vs = true) (hi : i ∈ vs) : τ[i]? = some .un := by
  have q := List.all_eq_true.mp h i hi
  revert q
  cases e : τ[i]? with
  | none => intro q; cases q
  | some t => cases t <;> intro q <;> first | rfl | cases q
theorem wipe_get {σ : L2.St} {i : Nat} : ∀ {vs : List Nat}, i ∉ vs → (wipe σ vs)[i]? = σ[i]?
  | [], _ => rfl
  | v :: vs, h => by
    have h1 : v ≠ i := fun e => h (by rw [e]; exact List.mem_cons_self)
    have h2 : i ∉ vs := fun e => h (List.mem_cons_of_mem _ e)
    show ((wipe σ vs).set v none)[i]? = σ[i]?
    rw [List.getElem?_set_ne h1]
    exact wipe_get h2
theorem wipeS_get {τ : List Sl} {i : Nat} : ∀ {vs : List Nat}, i ∉ vs → (wipeS τ vs)[i]? = τ[i]?
  | [], _ => rfl
  | v :: vs, h => by
    have h1 : v ≠ i := fun e => h (by rw [e]; exact List.mem_cons_self)
    have h2 : i ∉ vs := fun e => h (List.mem_cons_of_mem _ e)
    show ((wipeS τ vs).set v .un)[i]? = τ[i]?
    rw [List.getElem?_set_ne h1]
    exact wipeS_get h2
theorem wipeS_length (τ : List Sl) : ∀ vs : List Nat, (wipeS τ vs).length = τ.length
  | [] => rfl
  | v :: vs => by
    show ((wipeS τ vs).set v .un).length = _
    rw [List.length_set, wipeS_length]
theorem wipeS_un {τ : List Sl} {i : Nat} {t : Sl} : ∀ {vs : List Nat}, i ∈ vs → (wipeS τ vs)[i]? = some t → t = .un
  | [], h, _ => by cases h
  | v :: vs, h, e => by
    have e : ((wipeS τ vs).set v .un)[i]? = some t := e
    by_cases hv : v = i
    · subst hv
      by_cases hl : v < (wipeS τ vs).length
      · rw [List.getElem?_set_self hl] at e; cases e; rfl
      · rw [List.getElem?_eq_none (by rw [List.length_set]; omega)] at e; cases e
    · rw [List.getElem?_set_ne hv] at e
      rcases List.mem_cons.mp h with z | z
      · exact absurd z.symm hv
      · exact wipeS_un z e
theorem wipeS_all {τ : List Sl} {vs : List Nat} (h : ∀ i ∈ vs, i < τ.length) : allUn (wipeS τ vs) vs = true := by
  refine List.all_eq_true.mpr fun i hi => ?_
  have hl : i < (wipeS τ vs).length := by rw [wipeS_length]; exact h i hi
  have e := wipeS_un hi (List.getElem?_eq_getElem hl)
  rw [List.getElem?_eq_getElem hl, e]
theorem wipe_set2 {σ : L2.St} {i : Nat} {x y : Option V} : ∀ vs : List Nat, (wipe (σ.set i x) vs).set i y = (wipe σ vs).set i y
  | [] => by
    show (σ.set i x).set i y = σ.set i y
    rw [List.set_set]
  | v :: vs => by
    show ((wipe (σ.set i x) vs).set v none).set i y = ((wipe σ vs).set v none).set i y
    by_cases h : v = i
    · subst h
      rw [List.set_set, List.set_set]
      exact wipe_set2 vs
    · rw [List.set_comm _ _ h, List.set_comm _ _ h, wipe_set2 vs]
theorem wipe_set {σ : L2.St} {i : Nat} {x : Option V} : ∀ {vs : List Nat}, i ∈ vs → wipe (σ.set i x) vs = wipe σ vs
  | [], h => by cases h
  | v :: vs, h => by
    show (wipe (σ.set i x) vs).set v none = (wipe σ vs).set v none
    by_cases hv : v = i
    · subst hv; exact wipe_set2 vs
    · rcases List.mem_cons.mp h with z | z
      · exact absurd z.symm hv
      · rw [wipe_set z]

section
variable {L : Lay} {P : Pa} {W : WX} {X : Cx} {E : L2.St → XK} {pos : Pos} {H H' : Hp} {σ : L2.St} {τ : List Sl} {vs : List Nat}
theorem ownAt_wipe (h : allUn τ vs = true) (i : Nat) (a : Addr) : OwnAt (wipe σ vs) τ i a ↔ OwnAt σ τ i a := by
  by_cases hi : i ∈ vs
  · have e := allUn_get h hi
    constructor <;> · rintro ⟨_, t, et, ow⟩; rw [e] at et; cases et; cases ow
  · unfold OwnAt
    rw [wipe_get hi]
theorem own_wipe (h : allUn τ vs = true) (a : Addr) : Own (wipe σ vs) τ a ↔ Own σ τ a := ⟨fun ⟨i, q⟩ => ⟨i, (ownAt_wipe h i a).mp q⟩, fun ⟨i, q⟩ => ⟨i, (ownAt_wipe h i a).mpr q⟩⟩
theorem Tr.iff {A A' B B' : Addr → Prop} (x : Tr H A H' A') (h : ∀ a, A a ↔ B a) (h' : ∀ a, A' a ↔ B' a) : Tr H B H' B' :=
  ⟨fun a o e n => x.keep0 a o e fun z => n (z.mono fun b q => (h b).mp q), fun a q => (x.new a ((h' a).mpr q)).elim (fun z => .inl ((h a).mp z)) .inr, x.there⟩
theorem StR.slots {σ' : L2.St} (R : StR L P H σ τ) (hl : σ'.length = σ.length) (h : ∀ (i : Nat) (t : Sl), τ[i]? = some t → t = Sl.un ∨ σ'[i]? = σ[i]?) : StR L P H σ' τ ∧ ∀ a, Own σ' τ a ↔ Own σ τ a := by
  have at1 : ∀ (i : Nat) (a : Addr), OwnAt σ' τ i a ↔ OwnAt σ τ i a := fun i a => by
    unfold OwnAt
    constructor
    · rintro ⟨e, t, et, ow⟩
      rcases h i t et with rfl | q
      · cases ow
      · exact ⟨by rw [← q]; exact e, t, et, ow⟩
    · rintro ⟨e, t, et, ow⟩
      rcases h i t et with rfl | q
      · cases ow
      · exact ⟨by rw [q]; exact e, t, et, ow⟩
  have oo : ∀ a, Own σ' τ a ↔ Own σ τ a := fun a => ⟨fun ⟨i, q⟩ => ⟨i, (at1 i a).mp q⟩, fun ⟨i, q⟩ => ⟨i, (at1 i a).mpr q⟩⟩
  have mono : Same (hid H (Hd P σ τ)) (hid H (Hd P σ' τ)) := hid_mono (.refl _) fun a z => z.elim (fun q => .inl ((oo a).mp q)) .inr
  refine ⟨⟨hl.trans R.len, fun i j a x y => R.inj i j a ((at1 i a).mp x) ((at1 j a).mp y), fun a q => R.dis a ((oo a).mp q), R.bth0, fun i t e => ?_⟩, oo⟩
  have q := R.sl i t e
  rcases h i t e with rfl | hs
  · trivial
  · rw [hs]
    cases t with
    | un => trivial
    | fz d' => obtain ⟨v, e2, r2⟩ := q; exact ⟨v, e2, r2.same mono⟩
    | ow d' => obtain ⟨b, e2, r2⟩ := q; exact ⟨b, e2, r2.step mono rfl⟩
    | le d' => obtain ⟨b, e2, r2⟩ := q; exact ⟨b, e2, r2.step mono rfl⟩
    | io k d' => obtain ⟨b, e2, e3, r2⟩ := q; exact ⟨b, e2, e3, r2.step mono rfl⟩
    | oo d' => obtain ⟨b, e2, r2⟩ := q; exact ⟨b, e2, r2.step mono rfl⟩
theorem StR.wipe (R : StR L P H σ τ) (h : allUn τ vs = true) : StR L P H (L2.wipe σ vs) τ :=
  (R.slots (L2.wipe_length σ vs) fun i t e => by
    by_cases hi : i ∈ vs
    · rw [allUn_get h hi] at e; cases e; exact .inl rfl
    · exact .inr (wipe_get hi)).1
theorem StR.unwipe (R : StR L P H (L2.wipe σ vs) τ) (h : allUn τ vs = true) : StR L P H σ τ :=
  (R.slots (L2.wipe_length σ vs).symm fun i t e => by
    by_cases hi : i ∈ vs
    · rw [allUn_get h hi] at e; cases e; exact .inl rfl
    · exact .inr (wipe_get hi).symm).1
theorem StR.wipeS (R : StR L P H σ τ) : Tr H (Own σ τ) H (Own σ (wipeS τ vs)) ∧ StR L P H σ (wipeS τ vs) := by
  have get : ∀ (i : Nat) (t : Sl), (Sm.wipeS τ vs)[i]? = some t → t = Sl.un ∨ τ[i]? = some t := fun i t e => by
    by_cases hi : i ∈ vs
    · exact .inl (wipeS_un hi e)
    · rw [wipeS_get hi] at e; exact .inr e
  have sub : ∀ (i : Nat) (a : Addr), OwnAt σ (Sm.wipeS τ vs) i a → OwnAt σ τ i a := fun i a ⟨e, t, et, ow⟩ => by
    rcases get i t et with rfl | q
    · cases ow
    · exact ⟨e, t, q, ow⟩
  have tr : Tr H (Own σ τ) H (Own σ (Sm.wipeS τ vs)) := ⟨fun _ _ q _ => q, fun a ⟨i, q⟩ => .inl ⟨i, sub i a q⟩, fun _ o h => ⟨o, h⟩⟩
  refine ⟨tr, by rw [wipeS_length]; exact R.len, fun i j a x y => R.inj i j a (sub i a x) (sub j a y), fun a ⟨i, q⟩ => R.dis a ⟨i, sub i a q⟩, R.bth0, fun i t e => ?_⟩
  rcases get i t e with rfl | q
  · trivial
  · have q := R.sl i t q
    cases t with
    | un => trivial
    | fz d' => obtain ⟨v, e2, r2⟩ := q; exact ⟨v, e2, r2.same (R.fz tr)⟩
    | ow d' => obtain ⟨b, e2, r2⟩ := q; exact ⟨b, e2, r2.step (R.fz tr) rfl⟩
    | le d' => obtain ⟨b, e2, r2⟩ := q; exact ⟨b, e2, r2.step (R.fz tr) rfl⟩
    | io k d' => obtain ⟨b, e2, e3, r2⟩ := q; exact ⟨b, e2, e3, r2.step (R.fz tr) rfl⟩
    | oo d' => obtain ⟨b, e2, r2⟩ := q; exact ⟨b, e2, r2.step (R.fz tr) rfl⟩

def tC (L : Lay) (P : Pa) (vs : List Nat) (g : MG) : TG := fun v σ H Q => ∃ τ d τ', StR L P H σ τ ∧ Rp L (hid H (Hd P σ τ)) d v ∧ g d τ = some τ' ∧ ∀ σ' H', Tr H (Own σ τ) H' (Own σ' τ') → StR L P H' σ' τ' → L2.wipe σ' vs = L2.wipe σ vs → Q σ' H'
abbrev SC (L : Lay) (P : Pa) (vs : List Nat) (X : Cx) (tg : Expr) (g : MG) : Prop := PG X tg (tC L P vs g)
theorem sC_name {i : Nat} {x : Str} (hN : X.N.Nodup) (hi : X.N[i]? = some x) (hx : Loc X.env.scope x) (hv : i ∈ vs) (hf : X.fn x = true ∨ X.env.scope.names.lookup x = some .local := by first | exact .inl rfl | exact .inr rfl | assumption) : SC L P vs X (.Name x pos) (gN i) :=
  PG.weak (pg_name hN hi hx hf) fun v σ H Q ⟨τ, d, τ', R, r, e, q⟩ => by
    obtain ⟨hi, rfl⟩ := setFz_some e
    obtain ⟨tr, R2⟩ := R.setFz hi r
    exact q _ H tr R2 (wipe_set hv)
def tCs (L : Lay) (P : Pa) (vs : List Nat) (g : MGs) : TGs := fun us σ H Q => ∃ τ ds τ', StR L P H σ τ ∧ Rps L (hid H (Hd P σ τ)) ds us ∧ g ds τ = some τ' ∧ ∀ σ' H', Tr H (Own σ τ) H' (Own σ' τ') → StR L P H' σ' τ' → L2.wipe σ' vs = L2.wipe σ vs → Q σ' H'
abbrev SCs (L : Lay) (P : Pa) (vs : List Nat) (X : Cx) (tg : List Expr) (g : MGs) : Prop := PGs X tg (tCs L P vs g)
theorem sCs_nil : SCs L P vs X [] Sm.gNil :=
  PGs.weak pgs_nil fun us σ H Q ⟨τ, ds, τ', R, r, e, q⟩ => by
    cases ds with
    | nil => cases e; unfold Rps at r; exact ⟨r, q σ H .refl R rfl⟩
    | cons d r => cases e
theorem sCs_cons {e : Expr} {es : List Expr} {g : MG} {gs : MGs} (h1 : SC L P vs X e g) (h2 : SCs L P vs X es gs) (hs : (assignEach (e :: es) X.env).map (·.2) = assign e X.env :: (assignEach es X.env).map (·.2) := by rfl) : SCs L P vs X (e :: es) (Sm.gCons g gs) :=
  PGs.weak (pgs_cons h1 h2 hs) fun us σ H Q ⟨τ, ds, τ', R, r, e, q⟩ => by
    cases ds with
    | nil => cases e
    | cons d ds =>
      unfold Rps at r
      obtain ⟨v, vr, rfl, rd, rr⟩ := r
      obtain ⟨τ1, e1, e2⟩ := Option.bind_eq_some_iff.mp e
      refine ⟨v, vr, rfl, τ, d, τ1, R, rd, e1, fun σ1 H1 t1 R1 w1 => ?_⟩
      exact ⟨τ1, ds, τ', R1, Rps.same (R.fz t1) rr, e2, fun σ' H' t2 R2 w2 => q σ' H' (t1.trans t2) R2 (w2.trans w1)⟩
theorem sC_tup {es : List Expr} {k : Nat} {gs : MGs} {n : Nat} (hK : X.K = L.K) (hc : X.calm = true) (h : SCs L P vs X es gs)
    (hn : (assignEach es X.env).length = n := by rfl) (hst : (assignEach es X.env).findIdx? (·.1) = none := by rfl) : SC L P vs X (.Tuple es k pos) (gT n gs) :=
  PG.weak (Sm.PG.or (pg_tup hc h hn hst) (pg_lst hc h hn hst)) fun v σ H Q ⟨τ, d, τ', R, r, e, q⟩ => by
    cases d with
    | tup ds =>
      obtain ⟨a, us, rfl, s, rr⟩ := Rp.tup_iff.mp r
      have e : (if ds.length = n then gs ds τ else none) = some τ' := e
      by_cases hl : ds.length = n
      · rw [if_pos hl] at e
        refine .inl ⟨a, us, rfl, by rw [hK]; exact SqT.same hid_le s, by rw [rr.length]; exact hl, τ, ds, τ', R, rr, e, q⟩
      · rw [if_neg hl] at e; cases e
    | lst ds =>
      obtain ⟨a, us, rfl, s, rr⟩ := Rp.lst_iff.mp r
      have e : (if ds.length = n then gs ds τ else none) = some τ' := e
      by_cases hl : ds.length = n
      · rw [if_pos hl] at e
        refine .inr ⟨a, us, rfl, .inl (.inl (hid_le _ _ s)), by rw [rr.length]; exact hl, τ, ds, τ', R, rr, e, q⟩
      · rw [if_neg hl] at e; cases e
    | _ => cases e

abbrev STs (L : Lay) (P : Pa) (E : L2.St → XK) (X : Cx) (ifs : List Expr) (m : M Bool) : Prop := PTs X ifs (tT L P E m)
theorem PTs.weak {X : Cx} {e : List Expr} {t u : TT} (h : PTs X e t) (f : ∀ σ H Q, u σ H Q → t σ H Q) : PTs X e u := ⟨fun pins s σ H Q I q => h.run pins s σ H Q I (f σ H Q q)⟩
def mYes : M Bool := fun τ => .ok true τ
theorem sTs_nil : STs L P E X [] mYes := PTs.weak pts_nil fun σ H Q ⟨τ, R, h⟩ => h true H .refl R rfl
abbrev Eno : L2.St → XK := fun _ _ _ _ => False
def Res.nox {α : Type} (r : Res α) : Res α :=
  match r with
  | .exc _ _ _ => .fail
  | r => r
@[simp] theorem Res.nox_ok {α : Type} {a : α} {τ : List Sl} : (Res.ok a τ).nox = .ok a τ := rfl
@[simp] theorem Res.nox_exc {α : Type} {c : Nat} {xs : List D} {τ : List Sl} : (Res.exc c xs τ : Res α).nox = .fail := rfl
@[simp] theorem Res.nox_fail {α : Type} : (Res.fail : Res α).nox = .fail := rfl
def mLcGo (g : MG) (tt : M Bool) (m : M D) (vs : List Nat) : List D → M (List D)
  | [] => fun τ => .ok [] τ
  | d :: ds => fun τ =>
    match g d τ with
    | none => .fail
    | some τ => (tt τ).nox.bind fun k => fun τ =>
      if k = true then (m τ).nox.bind fun y => fun τ => (mLcGo g tt m vs ds (Sm.wipeS τ vs)).bind fun ys => fun τ => .ok (y :: ys) τ
      else mLcGo g tt m vs ds (Sm.wipeS τ vs)
def lcEnd (g : MG) (tt : M Bool) (m : M D) (vs : List Nat) (ds : List D) : M D := fun τ =>
  if ds.length ≤ 16000000 ∧ allUn τ vs = true then (mLcGo g tt m vs ds τ).nox.bind fun ys => fun τ => .ok (.lst ys) τ else .fail
def mLc (mi : M (List D)) (g : MG) (tt : M Bool) (m : M D) (vs : List Nat) : M D := fun τ => (mi τ).bind fun ds => lcEnd g tt m vs ds
theorem hide_D {D : Addr} (h : ∀ a, Own σ τ a → a ≠ D) (hb : ∀ a, P.B a → a ≠ D) : Same (hid (rid H D) (Hd P σ τ)) (hid H (Hd ⟨P.args, fun a => P.B a ∨ a = D⟩ σ τ)) ∧ Same (hid H (Hd ⟨P.args, fun a => P.B a ∨ a = D⟩ σ τ)) (hid (rid H D) (Hd P σ τ)) := by
  refine ⟨fun a o e => ?_, fun a o e => ?_⟩
  · obtain ⟨h1, h2, nk_h2⟩ := hid_some.mp e
    refine hid_some.mpr ⟨rid_le a o h1, fun z => ?_, by first | assumption | exact NoMk.no⟩
    rcases z with z | z | z
    · exact h2 (.inl z)
    · exact h2 (.inr z)
    · rw [z, rid_same] at h1; cases h1
  · obtain ⟨h1, h2, nk_h2⟩ := hid_some.mp e
    have hD : a ≠ D := fun z => h2 (.inr (.inr z))
    exact hid_some.mpr ⟨by rw [rid_ne hD]; exact h1, fun z => h2 (z.elim .inl fun z => .inr (.inl z)), by first | assumption | exact NoMk.no⟩
theorem StR.hideD {D : Addr} {o : HO} (R : StR L P (rid H D) σ τ) (hD : H D = some o) (mD : ¬ MkH o := by first | assumption | exact NoMk.no) : StR L ⟨P.args, fun a => P.B a ∨ a = D⟩ H σ τ := by
  have no : ∀ a, Own σ τ a → a ≠ D := fun a q z => by obtain ⟨o, e⟩ := R.own_there q; rw [z, rid_same] at e; cases e
  have nb : ∀ a, P.B a → a ≠ D := fun a q z => by obtain ⟨o, e⟩ := R.bth a q; rw [z, rid_same] at e; cases e
  have s := (hide_D (H := H) no nb).1
  refine ⟨R.len, R.inj, fun a q z => z.elim (R.dis a q) (no a q), fun a z => z.elim (fun q => let ⟨o, e, m⟩ := R.bth0 a q; ⟨o, rid_le a o e, m⟩) fun e => ⟨o, by rw [e]; exact hD, mD⟩, fun i t e => ?_⟩
  have st : ∀ {d' : Sm.D} {b : Addr}, OwR L (hid (rid H D) (Hd P σ τ)) (rid H D) d' b → OwR L (hid H (Hd ⟨P.args, fun a => P.B a ∨ a = D⟩ σ τ)) H d' b := fun {d' b} q => by
    obtain ⟨o, ho⟩ := q.there
    exact q.step s (by rw [ho]; exact rid_le b o ho)
  have stx : ∀ {d' : Sm.D} {b : Addr}, OwX L (hid (rid H D) (Hd P σ τ)) (rid H D) d' b → OwX L (hid H (Hd ⟨P.args, fun a => P.B a ∨ a = D⟩ σ τ)) H d' b := fun {d' b} q => by
    obtain ⟨o, ho⟩ := q.there
    exact q.step s (by rw [ho]; exact rid_le b o ho) fun b z => mk_rid z
  have q := R.sl i t e
  cases t with
  | un => trivial
  | fz d' => obtain ⟨v, e2, r2⟩ := q; exact ⟨v, e2, r2.same s⟩
  | ow d' => obtain ⟨b, e2, r2⟩ := q; exact ⟨b, e2, st r2⟩
  | le d' => obtain ⟨b, e2, r2⟩ := q; exact ⟨b, e2, st r2⟩
  | io k d' => obtain ⟨b, e2, e3, r2⟩ := q; exact ⟨b, e2, e3, stx r2⟩
  | oo d' => obtain ⟨b, e2, r2⟩ := q; exact ⟨b, e2, stx r2⟩
theorem StR.showD {D : Addr} (R : StR L ⟨P.args, fun a => P.B a ∨ a = D⟩ H σ τ) (hb : ¬ P.B D) : StR L P (rid H D) σ τ := by
  have no : ∀ a, Own σ τ a → a ≠ D := fun a q z => R.dis a q (.inr z)
  have nb : ∀ a, P.B a → a ≠ D := fun a q z => hb (by rw [← z]; exact q)
  have s := (hide_D (H := H) no nb).2
  refine ⟨R.len, R.inj, fun a q z => R.dis a q (.inl z), fun a z => let ⟨o, e, m⟩ := R.bth0 a (.inl z); ⟨o, by rw [rid_ne (nb a z)]; exact e, m⟩, fun i t e => ?_⟩
  have st : ∀ {d' : Sm.D} {b : Addr}, OwnAt σ τ i b → OwR L (hid H (Hd ⟨P.args, fun a => P.B a ∨ a = D⟩ σ τ)) H d' b → OwR L (hid (rid H D) (Hd P σ τ)) (rid H D) d' b := fun {d' b} oa q => q.step s (rid_ne (no b ⟨i, oa⟩))
  have nm : ∀ o, H D = some o → ¬ MkH o := fun o e => by
    obtain ⟨u, e2, m⟩ := R.bth0 D (.inr rfl)
    rw [e] at e2; cases e2; exact m
  have stx : ∀ {d' : Sm.D} {b : Addr}, OwnAt σ τ i b → OwX L (hid H (Hd ⟨P.args, fun a => P.B a ∨ a = D⟩ σ τ)) H d' b → OwX L (hid (rid H D) (Hd P σ τ)) (rid H D) d' b := fun {d' b} oa q => q.step s (rid_ne (no b ⟨i, oa⟩)) fun b z => rid_mk nm z
  have q := R.sl i t e
  cases t with
  | un => trivial
  | fz d' => obtain ⟨v, e2, r2⟩ := q; exact ⟨v, e2, r2.same s⟩
  | ow d' => obtain ⟨b, e2, r2⟩ := q; exact ⟨b, e2, st ⟨e2, _, e, rfl⟩ r2⟩
  | le d' => obtain ⟨b, e2, r2⟩ := q; exact ⟨b, e2, st ⟨e2, _, e, rfl⟩ r2⟩
  | io k d' => obtain ⟨b, e2, e3, r2⟩ := q; exact ⟨b, e2, e3, stx ⟨e2, _, e, rfl⟩ r2⟩
  | oo d' => obtain ⟨b, e2, r2⟩ := q; exact ⟨b, e2, stx ⟨e2, _, e, rfl⟩ r2⟩
theorem Tr.rid {A A' : Addr → Prop} {D : Addr} (t : Tr H A H' A') (hn : ∀ a, A' a → a ≠ D) : Tr (rid H D) A (rid H' D) A' :=
  ⟨fun a o e n => by
    have hD : a ≠ D := fun z => by rw [z, rid_same] at e; cases e
    rw [rid_ne hD] at e ⊢
    exact t.keep0 a o e fun z => n (z.imp id fun ⟨p, e, q⟩ => ⟨p, by rw [rid_ne hD]; exact e, q.imp id fun e => by
      by_cases hp : p = D
      · rw [hp, rid_same]
      · rw [rid_ne hp]; exact e⟩), fun a q => (t.new a q).elim .inl fun e => .inr (by rw [rid_ne (hn a q)]; exact e), fun a o e => by
    have hD : a ≠ D := fun z => by rw [z, rid_same] at e; cases e
    rw [rid_ne hD] at e ⊢
    exact t.there a o e⟩
theorem wipe_idem {σ : L2.St} : ∀ (us vs : List Nat), (∀ i ∈ us, i ∈ vs) → L2.wipe (L2.wipe σ us) vs = L2.wipe σ vs
  | [], _, _ => rfl
  | v :: us, vs, h => by
    show L2.wipe ((L2.wipe σ us).set v none) vs = L2.wipe σ vs
    rw [wipe_set (h v List.mem_cons_self)]
    exact wipe_idem us vs fun i hi => h i (List.mem_cons_of_mem _ hi)
theorem rid_upd2 {D : Addr} {o : HO} : rid (upd H D o) D = rid H D := by
  funext b
  by_cases e : b = D
  · rw [e, rid_same, rid_same]
  · rw [rid_ne e, rid_ne e, upd_ne e]
theorem turn_end {D : Addr} {H2 H6 : Hp} {σ4 : L2.St} {τ2 τ6 : List Sl} (hb : ¬ P.B D) (u2 : allUn τ2 vs = true) (hl : σ4.length = σ.length) (R2 : StR L ⟨P.args, fun a => P.B a ∨ a = D⟩ H2 (L2.wipe σ vs) τ2) (t : Tr H2 (Own (L2.wipe σ vs) τ2) H6 (Own σ4 τ6)) (R6 : StR L ⟨P.args, fun a => P.B a ∨ a = D⟩ H6 σ4 τ6) (w : L2.wipe σ4 vs = L2.wipe (L2.wipe σ vs) vs) :
    StR L P (rid H6 D) (L2.wipe σ vs) (Sm.wipeS τ6 vs) ∧ Tr (rid H2 D) (Own σ τ2) (rid H6 D) (Own σ (Sm.wipeS τ6 vs)) ∧ allUn (Sm.wipeS τ6 vs) vs = true := by
  have w : L2.wipe σ4 vs = L2.wipe σ vs := w.trans (wipe_idem vs vs fun _ h => h)
  have u : allUn (Sm.wipeS τ6 vs) vs = true := wipeS_all fun i hi => by
    have h2 := allUn_get u2 hi
    have := (List.getElem?_eq_some_iff.mp h2).1
    have l2 := R2.len
    have l6 := R6.len
    rw [L2.wipe_length] at l2
    omega
  have S6 := R6.showD hb
  obtain ⟨tw, S7⟩ := S6.wipeS (vs := vs)
  have S8 := S7.wipe u
  rw [w] at S8
  have t2 : Tr (rid H2 D) (Own (L2.wipe σ vs) τ2) (rid H6 D) (Own σ4 τ6) := Tr.rid t fun a q z => R6.dis a q (.inr z)
  refine ⟨S8, (t2.trans tw).iff (own_wipe u2) (fun a => ?_), u⟩
  rw [← own_wipe u a, w, own_wipe u a]
def LcEnd (L : Lay) (P : Pa) (Q : VK) (H1 : Hp) (σ : L2.St) (τ1 : List Sl) (D : Addr) (accd : List Sm.D) (r : Res (List Sm.D)) : Prop :=
  match r with
  | .ok ys τe => ∀ H', Tr H1 (Own σ τ1) (rid H' D) (Own σ τe) → StR L P (rid H' D) σ τe → OwR L (hid (rid H' D) (Hd P σ τe)) H' (.lst (accd ++ ys)) D → Q (.ref D) H'
  | _ => False
theorem PE.exB {X : Cx} {e : Expr} {m : M D} {A : List V} (h : ∀ P : Pa, PE X e (tE L P E m)) : PE X e (fun σ H Q => ∃ B, tE L ⟨A, B⟩ E m σ H Q) := ⟨fun pins s σ H Q I ⟨B, q⟩ => (h ⟨A, B⟩).run pins s σ H Q I q⟩
theorem PTs.exB {X : Cx} {e : List Expr} {m : M Bool} {A : List V} (h : ∀ P : Pa, PTs X e (tT L P E m)) : PTs X e (fun σ H Q => ∃ B, tT L ⟨A, B⟩ E m σ H Q) := ⟨fun pins s σ H Q I ⟨B, q⟩ => (h ⟨A, B⟩).run pins s σ H Q I q⟩
theorem PG.exB {X : Cx} {e : Expr} {g : MG} {A : List V} (h : ∀ P : Pa, PG X e (tC L P vs g)) : PG X e (fun v σ H Q => ∃ B, tC L ⟨A, B⟩ vs g v σ H Q) := ⟨fun pins s σ H v u Q I r ⟨B, q⟩ => (h ⟨A, B⟩).run pins s σ H v u Q I r q⟩
theorem tLc_of {mi : M (List D)} {g : MG} {tt : M Bool} {m : M D} {H : Hp} {Q : VK} (h : tF L P E (mLc mi g tt m vs) σ H Q) :
    tLc (tI L P E mi) (fun v σ H Q => ∃ B, tC L ⟨P.args, B⟩ vs g v σ H Q) (fun σ H Q => ∃ B, tT L ⟨P.args, B⟩ Eno tt σ H Q) (fun σ H Q => ∃ B, tE L ⟨P.args, B⟩ Eno m σ H Q) vs σ H Q := by
  obtain ⟨τ, R, h⟩ := h
  have h : PostF L P H σ τ ((mi τ).bind fun ds => lcEnd g tt m vs ds) Q (E σ) := h
  refine ⟨τ, R, ?_⟩
  revert h
  cases mi τ with
  | exc c xs τ' => exact fun h => h
  | fail => exact fun h => h
  | ok ds τ1 =>
    intro h J H1 t1 R1 it D hD
    have h : PostF L P H σ τ (lcEnd g tt m vs ds τ1) Q (E σ) := h
    unfold lcEnd at h
    split at h
    case isFalse => exact h.elim
    rename_i hcond
    obtain ⟨hz, hu⟩ := hcond
    have hb : ¬ P.B D := fun z => by obtain ⟨o, e⟩ := R1.bth D z; rw [hD] at e; cases e
    have go0 : LcEnd L P Q H1 σ τ1 D [] (mLcGo g tt m vs ds τ1) := by
      revert h
      cases mLcGo g tt m vs ds τ1 with
      | ok ys τe => exact fun h H' t R' o => h D H' (t1.trans t) R' o
      | exc c xs τe => exact fun h => h.elim
      | fail => exact fun h => h.elim
    clear h
    refine ⟨fun i k H2 => i + k = ds.length ∧ ∃ τ2 acc accd, StR L P (rid H2 D) (L2.wipe σ vs) τ2 ∧ Tr H1 (Own σ τ1) (rid H2 D) (Own σ τ2) ∧ allUn τ2 vs = true ∧ H2 D = some (.lst acc) ∧ Rps L (hid (rid H2 D) (Hd P σ τ2)) accd acc ∧ acc.length ≤ i ∧ LcEnd L P Q H1 σ τ1 D accd (mLcGo g tt m vs (ds.drop i) τ2), ⟨ds.length, Nat.zero_add _, τ1, [], [], ?_, ?_, hu, upd_same, .nil, Nat.le_refl _, go0⟩, ?_⟩
    · rw [rid_upd hD]; exact R1.wipe hu
    · rw [rid_upd hD]; exact .refl
    rintro i k H2 ⟨hik, τ2, acc, accd, R2, t2, u2, hD2, rr, hl, go⟩
    have R2' := R2.hideD hD2
    have noW : ∀ a, Own (L2.wipe σ vs) τ2 a → a ≠ D := fun a q z => R2'.dis a q (.inr z)
    have noS : ∀ a, Own σ τ2 a → a ≠ D := fun a q => noW a ((own_wipe u2 a).mpr q)
    have nb : ∀ a, P.B a → a ≠ D := fun a q z => hb (by rw [← z]; exact q)
    have hdW : ∀ a, Hd ⟨P.args, fun a => P.B a ∨ a = D⟩ (L2.wipe σ vs) τ2 a ↔ Hd ⟨P.args, fun a => P.B a ∨ a = D⟩ σ τ2 a := fun a => ⟨fun z => z.elim (fun q => .inl ((own_wipe u2 a).mp q)) .inr, fun z => z.elim (fun q => .inl ((own_wipe u2 a).mpr q)) .inr⟩
    have gg : Same (hid H1 (Hd P σ τ1)) (hid H2 (Hd ⟨P.args, fun a => P.B a ∨ a = D⟩ (L2.wipe σ vs) τ2)) :=
      ((R1.fz t2).trans (hide_D noS nb).1).trans (hid_mono (.refl _) fun a z => (hdW a).mp z)
    obtain ⟨gof, stop⟩ := it i H2 _ gg R2'.ths
    cases e : ds[i]? with
    | none =>
      refine .inl ⟨stop e, ?_⟩
      rw [List.drop_eq_nil_of_le (List.getElem?_eq_none_iff.mp e)] at go
      refine go H2 t2 (R2.unwipe u2) ⟨acc, hD2, ?_⟩
      rw [List.append_nil]; exact rr
    | some d =>
      obtain ⟨g1, g2⟩ := gof d e
      have hi : i < ds.length := (List.getElem?_eq_some_iff.mp e).1
      have ed : ds.drop i = d :: ds.drop (i + 1) := by
        rw [List.drop_eq_getElem_cons hi]
        rw [List.getElem?_eq_getElem hi] at e
        cases e; rfl
      rw [ed] at go
      refine .inr ⟨g1, fun H3 => ∃ τ2 acc accd, StR L P (rid H3 D) (L2.wipe σ vs) τ2 ∧ Tr H1 (Own σ τ1) (rid H3 D) (Own σ τ2) ∧ allUn τ2 vs = true ∧ H3 D = some (.lst acc) ∧ Rps L (hid (rid H3 D) (Hd P σ τ2)) accd acc ∧ acc.length ≤ i + 1 ∧ LcEnd L P Q H1 σ τ1 D accd (mLcGo g tt m vs (ds.drop (i + 1)) τ2), fun H3 q => ⟨k - 1, by omega, by omega, q⟩, fun x H3 y => ?_⟩
      obtain ⟨sm, rx⟩ := g2 x H3 y
      unfold mLcGo at go
      cases eg : g d τ2 with
      | none => rw [eg] at go; exact go.elim
      | some τ4 =>
        rw [eg] at go
        refine ⟨fun a => P.B a ∨ a = D, τ2, d, τ4, R2'.same sm, rx, eg, fun σ4 H4 t4 R4 w4 => ⟨w4.trans (wipe_idem vs vs fun _ h => h), fun a => P.B a ∨ a = D, τ4, R4, ?_⟩⟩
        have t24 : Tr H2 (Own (L2.wipe σ vs) τ2) H4 (Own σ4 τ4) := (Tr.of sm).trans t4
        have D4 : H4 D = some (.lst acc) := t24.keep D _ hD2 fun z => noW D z rfl
        have hl4 : σ4.length = σ.length := by
          have q := congrArg List.length w4
          rw [L2.wipe_length, L2.wipe_length, L2.wipe_length] at q
          exact q
        have go : LcEnd L P Q H1 σ τ1 D accd ((tt τ4).nox.bind fun k => fun τ => if k = true then (m τ).nox.bind fun y => fun τ => (mLcGo g tt m vs (ds.drop (i + 1)) (Sm.wipeS τ vs)).bind fun ys => fun τ => .ok (y :: ys) τ else mLcGo g tt m vs (ds.drop (i + 1)) (Sm.wipeS τ vs)) := go
        revert go
        cases tt τ4 with
        | exc c xs τ' => exact fun go => go.elim
        | fail => exact fun go => go.elim
        | ok kk τ5 =>
          intro go b H5 t5 R5 rb
          cases rb
          have t25 := t24.trans t5
          have D5 : H5 D = some (.lst acc) := t25.keep D _ hD2 fun z => noW D z rfl
          cases kk with
          | false =>
            refine (if_neg Bool.false_ne_true).mpr ?_
            obtain ⟨S, t, u⟩ := turn_end hb u2 hl4 R2' t25 R5 w4
            exact ⟨_, acc, accd, S, t2.trans t, u, D5, Rps.same (R2.unwipe u2 |>.fz t) rr, Nat.le_succ_of_le hl, go⟩
          | true =>
            refine (if_pos rfl).mpr ⟨fun a => P.B a ∨ a = D, τ5, R5, ?_⟩
            have go : LcEnd L P Q H1 σ τ1 D accd ((m τ5).nox.bind fun y => fun τ => (mLcGo g tt m vs (ds.drop (i + 1)) (Sm.wipeS τ vs)).bind fun ys => fun τ => .ok (y :: ys) τ) := go
            revert go
            cases m τ5 with
            | exc c xs τ' => exact fun go => go.elim
            | fail => exact fun go => go.elim
            | ok yd τ6 =>
              intro go v H6 t6 R6 r6
              have t26 := t25.trans t6
              have D6 : H6 D = some (.lst acc) := t26.keep D _ hD2 fun z => noW D z rfl
              obtain ⟨S, t, u⟩ := turn_end hb u2 hl4 R2' t26 R6 w4
              refine ⟨acc, D6, Nat.lt_of_le_of_lt hl (Nat.lt_of_lt_of_le hi (Nat.le_trans hz (by decide))), Sm.wipeS τ6 vs, acc ++ [v], accd ++ [yd], ?_, ?_, u, upd_same, ?_, by rw [List.length_append]; exact Nat.succ_le_succ hl, ?_⟩
              · rw [rid_upd2]; exact S
              · rw [rid_upd2]; exact t2.trans t
              · rw [rid_upd2]
                refine (Rps.same (R2.unwipe u2 |>.fz t) rr).app (.cons ?_ .nil)
                have S6 := R6.showD hb
                obtain ⟨tw, S7⟩ := S6.wipeS (vs := vs)
                have no6 : ∀ a, Own σ4 τ6 a → a ≠ D := fun a q z => R6.dis a q (.inr z)
                refine ((r6.same (hide_D no6 nb).2).same (S6.fz tw)).same (hid_mono (.refl _) fun a z => ?_)
                rcases z with z | z
                · refine .inl ?_
                  have w : L2.wipe σ4 vs = L2.wipe σ vs := w4.trans (wipe_idem vs vs fun _ h => h)
                  rw [← own_wipe u a, w, own_wipe u a]
                  exact z
                · exact .inr z
              · have go : LcEnd L P Q H1 σ τ1 D accd ((mLcGo g tt m vs (ds.drop (i + 1)) (Sm.wipeS τ6 vs)).bind fun ys => fun τ => .ok (yd :: ys) τ) := go
                revert go
                cases mLcGo g tt m vs (ds.drop (i + 1)) (Sm.wipeS τ6 vs) with
                | exc c xs τ' => exact fun go => go.elim
                | fail => exact fun go => go.elim
                | ok ys τe =>
                  intro go H' a1 a2 a3
                  refine go H' a1 a2 ?_
                  rw [List.append_assoc] at a3
                  exact a3
theorem sF_lc {elt tg iter : Expr} {ifs : List Expr} {scope : Scope} {own : List (Str × Nat)} {mi : M (List D)} {g : MG} {tt : M Bool} {m : M D} (hc : X.calm = true) (hN : X.N.Nodup) (hi : SI L P E X tg iter mi) (ok : BlkOk X.N X.env.scope scope own)
    (hg : ∀ (P : Pa) (s : Shared) (H : Hp) (C : Addr) (cl : List (Str × Addr)) (fp : List Addr), SC L P (own.map (·.2)) (X.blk s H scope (compEnvC scope cl C X.env) fp) tg g)
    (ht : ∀ (P : Pa) (s : Shared) (H : Hp) (C : Addr) (cl : List (Str × Addr)) (fp : List Addr), STs L P Eno (X.blk s H scope (compEnvC scope cl C X.env) fp) ifs tt)
    (he : ∀ (P : Pa) (s : Shared) (H : Hp) (C : Addr) (cl : List (Str × Addr)) (fp : List Addr), SE L P Eno (X.blk s H scope (compEnvC scope cl C X.env) fp) elt m) (hs : ∀ x, foldedSetIterable iter X.env x = pure x := by intro _; rfl) :
    SF L P E X (.ListComp elt [⟨tg, iter, ifs, 0⟩] scope pos) (mLc mi g tt m (own.map (·.2))) :=
  PE.weak (pe_lc hc hN hi ok (fun s H C cl fp => PG.exB (A := P.args) fun P => hg P s H C cl fp) (fun s H C cl fp => PTs.exB (A := P.args) fun P => ht P s H C cl fp) (fun s H C cl fp => PE.exB (A := P.args) fun P => he P s H C cl fp) hs) fun σ H Q h => tLc_of h
theorem sS_setLcO {i : Nat} {y : Str} {py spos : Pos} {elt tg iter : Expr} {ifs : List Expr} {scope : Scope} {own : List (Str × Nat)} {mi : M (List D)} {g : MG} {tt : M Bool} {m : M D} {W : WX} (hc : X.calm = true) (hN : X.N.Nodup) (hy : X.N[i]? = some y) (hyl : X.env.scope.names.lookup y = some .local) (hi : SI L P (WE W) X tg iter mi) (ok : BlkOk X.N X.env.scope scope own)
    (hg : ∀ (P : Pa) (s : Shared) (H : Hp) (C : Addr) (cl : List (Str × Addr)) (fp : List Addr), SC L P (own.map (·.2)) (X.blk s H scope (compEnvC scope cl C X.env) fp) tg g)
    (ht : ∀ (P : Pa) (s : Shared) (H : Hp) (C : Addr) (cl : List (Str × Addr)) (fp : List Addr), STs L P Eno (X.blk s H scope (compEnvC scope cl C X.env) fp) ifs tt)
    (he : ∀ (P : Pa) (s : Shared) (H : Hp) (C : Addr) (cl : List (Str × Addr)) (fp : List Addr), SE L P Eno (X.blk s H scope (compEnvC scope cl C X.env) fp) elt m)
    (hsw : swapsWith (.ListComp elt [⟨tg, iter, ifs, 0⟩] scope pos) (some (.Name y py)) spos.line X.env = pure true) (hs : ∀ x, foldedSetIterable iter X.env x = pure x := by intro _; rfl) :
    SS L P W X (.Assign [.Name y py] (.ListComp elt [⟨tg, iter, ifs, 0⟩] scope pos) spos) (mSetO i (mLc mi g tt m (own.map (·.2)))) :=
  PS.weak (ps_setLc hc hN hy hyl hsw hi ok (fun s H C cl fp => PG.exB (A := P.args) fun P => hg P s H C cl fp) (fun s H C cl fp => PTs.exB (A := P.args) fun P => ht P s H C cl fp) (fun s H C cl fp => PE.exB (A := P.args) fun P => he P s H C cl fp) hs) fun D σ H ⟨τ, R, h⟩ => by
    refine tLc_of ⟨τ, R, ?_⟩
    have h : SPost L P W H σ τ ((mLc mi g tt m (own.map (·.2)) τ).st fun d τ => SR.opt (setOw i d τ)) D := h
    revert h
    cases mLc mi g tt m (own.map (·.2)) τ with
    | ok d τ1 =>
      intro h a H1 t1 R1 r1
      obtain ⟨τ', e, q⟩ := SPost.opt h
      obtain ⟨hi, rfl⟩ := setOw_some e
      obtain ⟨tr, R2⟩ := R1.setOw hi r1
      exact q _ H1 (t1.trans tr) R2
    | exc c xs τ' => exact fun h cls od H' x y z => h cls od σ H' x y z
    | fail => exact fun h => h
end
end Sm
set_option Elab.async false
set_option linter.all false
set_option maxRecDepth 100000
set_option maxHeartbeats 400000
namespace Sm
open PySem PySem.Spec PyProof.Rows L2 RZ
section
variable {L : Lay} {P : Pa} {W : WX} {X : Cx} {E : L2.St → XK} {pos : Pos} {e tg : Expr} {es : List Expr} {m : M D} {ms : M (List D)}

def iSeq (K : PySem.W.Frag) (tl : TE) : TI := fun σ H R => tl σ H fun x H1 => ∃ a, x = .ref a ∧ (((∃ xs, SqL K H1 a xs) ∧ R (Itl K a) H1) ∨ ((∃ xs, SqT K H1 a xs) ∧ R (Itt K a) H1))
theorem pi_seq {l : Expr} {tl : TE} (hl : PE X l tl) : PI X tg l (iSeq X.K tl) := by
  refine ⟨fun pins s σ H R I h => ?_⟩
  refine thn (hl.run pins s σ H _ I h) fun v s1 ⟨x, H1, I1, r1, q1⟩ => ?_
  obtain ⟨a, e, q⟩ := q1
  subst e
  cases r1
  rcases q with ⟨⟨xs, hq⟩, q⟩ | ⟨⟨xs, hq⟩, q⟩
  · obtain ⟨its, rv, p, hz⟩ := I1.list hq
    refine wpAny_pyIter_list p.isList ?_
    refine ⟨s1.heap.objs.size, [s1.heap.objs.size], _, _, H1, rfl, I1.kept (t' := s1.toks) fun b o e => Heap.get?_push_of_some _ e, turn_list a _, ⟨_, Heap.get?_push_size _ rfl, rfl, rfl⟩, fun b hb => ?_, q⟩
    have e : b = s1.heap.objs.size := by simpa using hb
    subst e
    exact I1.fpOk (Nat.le_refl _) (I1.hok.fresh (Nat.le_refl _))
  · obtain ⟨its, rv, p, hz⟩ := I1.tuple hq
    refine wpAny_pyIter_tuple (show s1.heap.IsTuple a its.toArray from p) ?_
    refine ⟨s1.heap.objs.size, [s1.heap.objs.size], _, _, H1, rfl, I1.kept (t' := s1.toks) fun b o e => Heap.get?_push_of_some _ e, turn_tuple a _, ⟨_, Heap.get?_push_size _ rfl, rfl, rfl⟩, fun b hb => ?_, q⟩
    have e : b = s1.heap.objs.size := by simpa using hb
    subst e
    exact I1.fpOk (Nat.le_refl _) (I1.hok.fresh (Nat.le_refl _))
def asS : D → Option (List D)
  | .lst ds => some ds
  | .tup ds => some ds
  | _ => none
@[simp] theorem asS_lst {ds : List D} : asS (.lst ds) = some ds := rfl
@[simp] theorem asS_tup {ds : List D} : asS (.tup ds) = some ds := rfl
theorem sI_seq {l : Expr} (hK : X.K = L.K) (hl : SE L P E X l m) : SI L P E X tg l (mOn asS m) :=
  PI.weak (pi_seq hl) fun σ H R h => by
    obtain ⟨τ, R0, h⟩ := tI_on h
    refine ⟨τ, R0, h.imp fun v H1 ⟨d, ds, τ1, R1, r1, e, q⟩ => ?_⟩
    rw [hK]
    cases d with
    | tup xs =>
      cases e
      obtain ⟨a, vs, rfl, s, rr⟩ := Rp.tup_iff.mp r1
      exact ⟨a, rfl, .inr ⟨⟨vs, SqT.same hid_le s⟩, q _ H1 .refl R1 (itt_ok s rr)⟩⟩
    | lst xs =>
      cases e
      obtain ⟨a, vs, rfl, s, rr⟩ := Rp.lst_iff.mp r1
      exact ⟨a, rfl, .inl ⟨⟨vs, .inl (.inl (hid_le _ _ s))⟩, q _ H1 .refl R1 (itl_ok s rr)⟩⟩
    | _ => cases e
theorem tI_args {f : List D → Option (List D)} {R : It → Hp → Prop} {σ : L2.St} {H : Hp} (h : tI L P E (fun τ => (ms τ).bind fun xs => fun τ => Res.lift (f xs) τ) σ H R) :
    ∃ τ, StR L P H σ τ ∧ Post L P (RVs L) H σ τ (ms τ) (fun vs H1 => ∃ d ds τ1, StR L P H1 σ τ1 ∧ Rps L (hid H1 (Hd P σ τ1)) d vs ∧ f d = some ds ∧
      ∀ J H', Tr H1 (Own σ τ1) H' (Own σ τ1) → StR L P H' σ τ1 → ItR L J (fun H2 A2 => Same (hid H' (Hd P σ τ1)) (hid H2 A2)) ds → R J H') (E σ) := by
  obtain ⟨τ, R0, h⟩ := h
  refine ⟨τ, R0, ?_⟩
  revert h
  show (match (ms τ).bind fun d => fun τ => Res.lift (f d) τ with | .ok ds τ' => _ | .exc c xs τ' => _ | .fail => _) → _
  cases ms τ with
  | ok d τ1 =>
    intro h v H1 t1 R1 r1
    rw [Res.bind_ok] at h
    cases e : f d with
    | none => rw [e] at h; exact h.elim
    | some ds =>
      rw [e] at h
      exact ⟨d, ds, τ1, R1, r1, e, fun J H' t R' it => h J H' (t1.trans t) R' it⟩
  | exc c xs τ' => exact fun h => h
  | fail => exact fun h => h
def mOns (f : List D → Option (List D)) (ms : M (List D)) : M (List D) := fun τ => (ms τ).bind fun xs => fun τ => Res.lift (f xs) τ
theorem Rps.one {F : Hp} {d : D} {vs : List V} (h : Rps L F [d] vs) : ∃ v, vs = [v] ∧ Rp L F d v := by
  unfold Rps at h
  obtain ⟨v, r, rfl, h1, h2⟩ := h
  unfold Rps at h2
  exact ⟨v, by rw [h2], h1⟩
theorem Rps.two {F : Hp} {d d' : D} {vs : List V} (h : Rps L F [d, d'] vs) : ∃ v v', vs = [v, v'] ∧ Rp L F d v ∧ Rp L F d' v' := by
  unfold Rps at h
  obtain ⟨v, r, rfl, h1, h2⟩ := h
  obtain ⟨v', rfl, h3⟩ := Rps.one h2
  exact ⟨v, v', rfl, h1, h3⟩
theorem sI_range1 {a : Expr} {p : Pos} (hg : Gl X "range") (hm : X.mg "range" = none) (ha : SA L P E X [a] ms) (hs : starEach [a] X.env = [(false, eval a X.env)] := by rfl) : SI L P E X tg (.Call (.Name "range" p) [a] [] pos) (mOns rng1 ms) :=
  PI.weak (pi_range1 hg hm ha hs) fun σ H R h => by
    obtain ⟨τ, R0, h⟩ := tI_args h
    refine ⟨τ, R0, h.imp fun vs H1 ⟨d, ds, τ1, R1, r1, e, q⟩ => ?_⟩
    unfold rng1 at e
    split at e
    · rename_i n
      split at e
      · rename_i hn
        cases e
        obtain ⟨v, rfl, rv⟩ := r1.one
        rw [Rp.int_iff.mp rv]
        exact ⟨n, rfl, by omega, by omega, q _ H1 .refl R1 itr_ok⟩
      · cases e
    · cases e
def zipD : List D → List D → List D
  | x :: xs, y :: ys => .tup [x, y] :: zipD xs ys
  | _, _ => []
theorem zipD_get : ∀ (xs ys : List D) (i : Nat), (∀ d, (zipD xs ys)[i]? = some d → ∃ x y, xs[i]? = some x ∧ ys[i]? = some y ∧ d = .tup [x, y]) ∧ ((zipD xs ys)[i]? = none → xs.length ≤ i ∨ ys.length ≤ i)
  | [], _, i => by simp [zipD]
  | _ :: _, [], i => by simp [zipD]
  | x :: xs, y :: ys, 0 => ⟨fun d e => ⟨x, y, rfl, rfl, (Option.some.inj e).symm⟩, fun e => (by simp [zipD] at e)⟩
  | x :: xs, y :: ys, i + 1 => by
    obtain ⟨h1, h2⟩ := zipD_get xs ys i
    refine ⟨fun d e => ?_, fun e => ?_⟩
    · obtain ⟨x', y', e1, e2, e3⟩ := h1 d e
      exact ⟨x', y', e1, e2, e3⟩
    · rcases h2 e with q | q
      · exact .inl (Nat.succ_le_succ q)
      · exact .inr (Nat.succ_le_succ q)
theorem new_tup2 {H : Hp} {A : Addr → Prop} {T : Addr} {x y : V} {d d' : D} (hA : ∀ q, A q → ∃ o, H q = some o) (hT : H T = none) (r1 : Rp L (hid H A) d x) (r2 : Rp L (hid H A) d' y) : Rp L (hid (upd H T (.tup [x, y])) A) (.tup [d, d']) (.ref T) :=
  new_tup hA hT (.cons r1 (.cons r2 .nil))
theorem itz_ok {a b : Addr} {vs us : List V} {xs ys : List D} {F : Hp} (s : F a = some (.lst vs)) (s' : F b = some (.lst us)) (r : Rps L F xs vs) (r' : Rps L F ys us) : ItR L (Itz L.K a b) (fun H2 A2 => Same F (hid H2 A2)) (zipD xs ys) := by
  intro i H A g hA
  have q : SqL L.K H a vs := .inl (.inl ((g.trans hid_le) _ _ s))
  have q' : SqL L.K H b us := .inl (.inl ((g.trans hid_le) _ _ s'))
  obtain ⟨z1, z2⟩ := zipD_get xs ys i
  refine ⟨fun d e => ?_, fun e => ?_⟩
  · obtain ⟨x, y, e1, e2, rfl⟩ := z1 d e
    obtain ⟨v, hv, rv⟩ := r.get e1
    obtain ⟨u, hu, ru⟩ := r'.get e2
    refine ⟨⟨vs, us, v, u, q, q', hv, hu⟩, fun t H' yy => ?_⟩
    obtain ⟨T, x1, y1, rfl, hT, rfl, f1, f2⟩ := yy
    have ev : v = x1 := Option.some.inj (hv.symm.trans (f1 vs q))
    have eu : u = y1 := Option.some.inj (hu.symm.trans (f2 us q'))
    subst ev eu
    exact ⟨same_upd hT, new_tup2 hA hT (rv.same g) (ru.same g)⟩
  · refine ⟨vs, us, q, q', ?_⟩
    rw [r.length, r'.length]
    exact z2 e
theorem itzt_ok {a b : Addr} {vs us : List V} {xs ys : List D} {F : Hp} (s : SqT L.K F a vs) (s' : SqT L.K F b us) (r : Rps L F xs vs) (r' : Rps L F ys us) : ItR L (ItzT L.K a b) (fun H2 A2 => Same F (hid H2 A2)) (zipD xs ys) := by
  intro i H A g hA
  have q : SqT L.K H a vs := SqT.same (g.trans hid_le) s
  have q' : SqT L.K H b us := SqT.same (g.trans hid_le) s'
  obtain ⟨z1, z2⟩ := zipD_get xs ys i
  refine ⟨fun d e => ?_, fun e => ?_⟩
  · obtain ⟨x, y, e1, e2, rfl⟩ := z1 d e
    obtain ⟨v, hv, rv⟩ := r.get e1
    obtain ⟨u, hu, ru⟩ := r'.get e2
    refine ⟨⟨vs, us, v, u, q, q', hv, hu⟩, fun t H' yy => ?_⟩
    obtain ⟨T, x1, y1, rfl, hT, rfl, f1, f2⟩ := yy
    have ev : v = x1 := Option.some.inj (hv.symm.trans (f1 vs q))
    have eu : u = y1 := Option.some.inj (hu.symm.trans (f2 us q'))
    subst ev eu
    exact ⟨same_upd hT, new_tup2 hA hT (rv.same g) (ru.same g)⟩
  · refine ⟨vs, us, q, q', ?_⟩
    rw [r.length, r'.length]
    exact z2 e
def zip2 : List D → Option (List D)
  | [.lst xs, .lst ys] => some (zipD xs ys)
  | [.tup xs, .tup ys] => some (zipD xs ys)
  | _ => none
theorem sI_zip {a b : Expr} {p tpos : Pos} {elts : List Expr} {kk : Nat} (hK : X.K = L.K) (hg : Gl X "zip") (hm : X.mg "zip" = none) (ha : SA L P E X [a, b] ms) (hs : starEach [a, b] X.env = (false, eval a X.env) :: starEach [b] X.env := by rfl) (hpl : (backTo pos (starEach [b] X.env)).any (·.1) = false := by rfl) :
    SI L P E X (.Tuple elts kk tpos) (.Call (.Name "zip" p) [a, b] [] pos) (mOns zip2 ms) :=
  PI.weak (pi_zipA hg hm ha hs hpl) fun σ H R h => by
    obtain ⟨τ, R0, h⟩ := tI_args h
    refine ⟨τ, R0, h.imp fun vs H1 ⟨d, ds, τ1, R1, r1, e, q⟩ => ?_⟩
    rw [hK]
    unfold zip2 at e
    split at e
    · rename_i xs ys
      cases e
      obtain ⟨v, v', rfl, rv, rv'⟩ := r1.two
      obtain ⟨a1, us, rfl, s1, q1⟩ := Rp.lst_iff.mp rv
      obtain ⟨a2, us2, rfl, s2, q2⟩ := Rp.lst_iff.mp rv'
      exact ⟨a1, a2, us, us2, rfl, .inl ⟨.inl (.inl (hid_le _ _ s1)), .inl (.inl (hid_le _ _ s2)), q _ H1 .refl R1 (itz_ok s1 s2 q1 q2)⟩⟩
    · rename_i xs ys
      cases e
      obtain ⟨v, v', rfl, rv, rv'⟩ := r1.two
      obtain ⟨a1, us, rfl, s1, q1⟩ := Rp.tup_iff.mp rv
      obtain ⟨a2, us2, rfl, s2, q2⟩ := Rp.tup_iff.mp rv'
      exact ⟨a1, a2, us, us2, rfl, .inr ⟨SqT.same hid_le s1, SqT.same hid_le s2, q _ H1 .refl R1 (itzt_ok s1 s2 q1 q2)⟩⟩
    · cases e
def enumD : Int → List D → List D
  | _, [] => []
  | k, x :: xs => .tup [.int k, x] :: enumD (k + 1) xs
theorem enumD_get : ∀ (xs : List D) (k : Int) (i : Nat), (enumD k xs)[i]? = (xs[i]?).map fun x => .tup [.int (k + (i : Nat)), x]
  | [], k, i => by simp [enumD]
  | x :: xs, k, 0 => by simp [enumD]
  | x :: xs, k, i + 1 => by
    show (enumD (k + 1) xs)[i]? = _
    rw [enumD_get xs (k + 1) i, List.getElem?_cons_succ]
    have e : k + 1 + (i : Nat) = k + ((i + 1 : Nat) : Int) := by omega
    rw [e]
theorem ite_ok {a : Addr} {vs : List V} {xs : List D} {F : Hp} (s : F a = some (.lst vs)) (r : Rps L F xs vs) : ItR L (Ite L.K a) (fun H2 A2 => Same F (hid H2 A2)) (enumD 0 xs) := by
  intro i H A g hA
  have q : SqL L.K H a vs := .inl (.inl ((g.trans hid_le) _ _ s))
  rw [enumD_get]
  cases e : xs[i]? with
  | none =>
    refine ⟨fun d e => (by cases e), fun _ => ⟨vs, q, ?_⟩⟩
    rw [r.length]
    exact List.getElem?_eq_none_iff.mp e
  | some x =>
    refine ⟨fun d ed => ?_, fun e => (by cases e)⟩
    cases ed
    obtain ⟨v, hv, rv⟩ := r.get e
    refine ⟨⟨vs, v, q, hv⟩, fun t H' yy => ?_⟩
    obtain ⟨T, x1, rfl, hT, rfl, f1⟩ := yy
    have ev : v = x1 := Option.some.inj (hv.symm.trans (f1 vs q))
    subst ev
    have e0 : (0 : Int) + (i : Nat) = (i : Nat) := Int.zero_add _
    rw [e0]
    exact ⟨same_upd hT, new_tup2 hA hT .mk_int (rv.same g)⟩
def mFn (f : List D → Option D) (ms : M (List D)) : M D := fun τ => (ms τ).bind fun xs => fun τ => Res.lift (f xs) τ
theorem tCB_of {r : List V → Hp → VK → Prop} {f : List D → Option D} (hf : FnS L r f) (σ : L2.St) (H : Hp) (Q : VK) (h : tE L P E (mFn f ms) σ H Q) : tCB r (tA L P E ms) σ H Q := by
  obtain ⟨τ, R, h⟩ := h
  refine ⟨τ, R, (Post.split (R := RVs L) h).imp fun xs H1 ⟨ds, τ1, t1, R1, r1, h1⟩ => ?_⟩
  obtain ⟨d, e, q⟩ := h1.done R1
  exact hf ds d xs H1 (Hd P σ τ1) Q e (r1.bps hid_le) R1.ths q
theorem sE_callB {r : List V → Hp → VK → Prop} {f : List D → Option D} {id : String} {x : Str} {p : Pos} (hc : CallR X (.builtin id) r) (hf : FnS L r f) (hg : Gl X x) (hm : X.mg x = none) (hv : bootBuiltins x = some (.builtin id)) (ha : SA L P E X (e :: es) ms) (hn : x ≠ "__name__" := by decide) (hdb : (x == ("__debug__" : Str)) = false := by decide)
    (he : starEach (e :: es) X.env = (false, eval e X.env) :: starEach es X.env := by rfl) (hpl : (backTo pos (starEach es X.env)).any (·.1) = false := by rfl) : SE L P E X (.Call (.Name x p) (e :: es) [] pos) (mFn f ms) :=
  PE.weak (pe_callB hc hg hm hv ha hn hdb he hpl) fun σ H Q h => tCB_of hf σ H Q h
theorem sE_callTy {r : List V → Hp → VK → Prop} {f : List D → Option D} {T : String} {x : Str} {p : Pos} (hc : CallR X (.type T) r) (hf : FnS L r f) (hg : Gl X x) (hm : X.mg x = none) (hv : bootBuiltins x = some (.type T)) (ha : SA L P E X (e :: es) ms) (hn : x ≠ "__name__" := by decide) (hdb : (x == ("__debug__" : Str)) = false := by decide)
    (he : starEach (e :: es) X.env = (false, eval e X.env) :: starEach es X.env := by rfl) (hpl : (backTo pos (starEach es X.env)).any (·.1) = false := by rfl) : SE L P E X (.Call (.Name x p) (e :: es) [] pos) (mFn f ms) :=
  PE.weak (pe_callTy hc hg hm hv ha hn hdb he hpl) fun σ H Q h => tCB_of hf σ H Q h
def peek (i : Nat) (τ : List Sl) : Option D := (τ[i]?).bind Sl.get
theorem peek_ok {H : Hp} {σ : L2.St} {τ : List Sl} (R : StR L P H σ τ) {i : Nat} {d : D} (h : peek i τ = some d) : ∃ v, σ[i]? = some (some v) ∧ Bp L (hid H (Hd P σ τ)) H d v := by
  obtain ⟨t, e, g⟩ := Option.bind_eq_some_iff.mp h
  exact (R.sl i t e).bp hid_le g
def mFnP (f : List D → Option D) (i : Nat) : M D := fun τ => Res.lift ((peek i τ).bind fun d => f [d]) τ
theorem sE_callBP {r : List V → Hp → VK → Prop} {f : List D → Option D} {id : String} {x y : Str} {p p' : Pos} (i : Nat) (hc : CallR X (.builtin id) r) (hf : FnS L r f) (hg : Gl X x) (hm : X.mg x = none) (hv : bootBuiltins x = some (.builtin id)) (ha : PE X (.Name y p') (tVar i)) (hn : x ≠ "__name__" := by decide) (hdb : (x == ("__debug__" : Str)) = false := by decide)
    (he : starEach [.Name y p'] X.env = (false, eval (.Name y p') X.env) :: starEach [] X.env := by rfl) : SE L P E X (.Call (.Name x p) [.Name y p'] [] pos) (mFnP f i) :=
  PE.weak (pe_callB hc hg hm hv (pa_cons ha pa_nil he) hn hdb he) fun σ H Q ⟨τ, R, h⟩ => by
    obtain ⟨d, e, q⟩ := h.done R
    obtain ⟨d0, e0, e1⟩ := Option.bind_eq_some_iff.mp e
    obtain ⟨v, hv, rb⟩ := peek_ok R e0
    exact ⟨v, hv, hf [d0] d [v] H (Hd P σ τ) Q e1 ⟨v, [], rfl, rb, rfl⟩ R.ths q⟩
theorem sE_callTyP {r : List V → Hp → VK → Prop} {f : List D → Option D} {T : String} {x y : Str} {p p' : Pos} (i : Nat) (hc : CallR X (.type T) r) (hf : FnS L r f) (hg : Gl X x) (hm : X.mg x = none) (hv : bootBuiltins x = some (.type T)) (ha : PE X (.Name y p') (tVar i)) (hn : x ≠ "__name__" := by decide) (hdb : (x == ("__debug__" : Str)) = false := by decide)
    (he : starEach [.Name y p'] X.env = (false, eval (.Name y p') X.env) :: starEach [] X.env := by rfl) : SE L P E X (.Call (.Name x p) [.Name y p'] [] pos) (mFnP f i) :=
  PE.weak (pe_callTy hc hg hm hv (pa_cons ha pa_nil he) hn hdb he) fun σ H Q ⟨τ, R, h⟩ => by
    obtain ⟨d, e, q⟩ := h.done R
    obtain ⟨d0, e0, e1⟩ := Option.bind_eq_some_iff.mp e
    obtain ⟨v, hv, rb⟩ := peek_ok R e0
    exact ⟨v, hv, hf [d0] d [v] H (Hd P σ τ) Q e1 ⟨v, [], rfl, rb, rfl⟩ R.ths q⟩
end
end Sm
set_option Elab.async false
set_option linter.all false
set_option maxRecDepth 100000
set_option maxHeartbeats 400000
namespace Sm
open PySem PySem.Spec PyProof.Rows L2
section
variable {L : Lay} {P : Pa} {W : WX} {X : Cx} {E : L2.St → XK} {pos : Pos} {e tg : Expr} {es : List Expr} {m : M D} {ms : M (List D)}

theorem Bps.one {F H : Hp} {d : D} {vs : List V} (h : Bps L F H [d] vs) : ∃ v, vs = [v] ∧ Bp L F H d v := by
  obtain ⟨v, r, rfl, h1, h2⟩ := h
  have h2 : r = [] := h2
  exact ⟨v, by rw [h2], h1⟩
theorem Bps.two {F H : Hp} {d d' : D} {vs : List V} (h : Bps L F H [d, d'] vs) : ∃ v v', vs = [v, v'] ∧ Bp L F H d v ∧ Bp L F H d' v' := by
  obtain ⟨v, r, rfl, h1, h2⟩ := h
  obtain ⟨v', rfl, h3⟩ := Bps.one h2
  exact ⟨v, v', rfl, h1, h3⟩
def dLen : List D → Option D
  | [.lst xs] => some (.int xs.length)
  | [.tup xs] => some (.int xs.length)
  | [.scr xs] => some (.int xs.length)
  | [.str z] => if z.length ≤ 16000000 then some (.int z.length) else none
  | _ => none
theorem fs_len : FnS L (fun xs H Q => ∃ x n, xs = [x] ∧ LenV L.K x H n ∧ Q (.int n) H) dLen := by
  intro ds d xs H A Q e r hA q
  unfold dLen at e
  split at e
  · cases e
    obtain ⟨v, rfl, rv⟩ := r.one
    obtain ⟨a, vs, rfl, h, rr⟩ := rv.lst
    refine ⟨_, _, rfl, .inl ⟨vs, .inl (.inl h), rfl⟩, ?_⟩
    rw [rr.length]
    exact q _ H (.refl _) .mk_int
  · cases e
    obtain ⟨v, rfl, rv⟩ := r.one
    obtain ⟨a, vs, rfl, h, rr⟩ := rv.tup
    refine ⟨_, _, rfl, .inr ⟨vs, SqT.same hid_le h, rfl⟩, ?_⟩
    rw [rr.length]
    exact q _ H (.refl _) .mk_int
  · cases e
    obtain ⟨v, rfl, rv⟩ := r.one
    obtain ⟨a, vs, rfl, h, rr⟩ := rv.scr
    refine ⟨_, _, rfl, .inl ⟨vs, hid_le.seq h, rfl⟩, ?_⟩
    rw [rr.length]
    exact q _ H (.refl _) .mk_int
  · split at e
    · rename_i hz
      cases e
      obtain ⟨v, rfl, rv⟩ := r.one
      rw [rv.str]
      exact ⟨_, _, rfl, ⟨small16 hz, rfl⟩, q _ H (.refl _) .mk_int⟩
    · cases e
  · cases e
def dAbs : List D → Option D
  | [.int i] => some (.int (if i < 0 then -i else i))
  | _ => none
theorem fs_abs : FnS L (fun xs H Q => ∃ i, xs = [.int i] ∧ Q (.int (if i < 0 then -i else i)) H) dAbs := by
  intro ds d xs H A Q e r hA q
  unfold dAbs at e
  split at e
  · cases e
    obtain ⟨v, rfl, rv⟩ := r.one
    rw [rv.int]
    exact ⟨_, rfl, q _ H (.refl _) .mk_int⟩
  · cases e
def dInt : List D → Option D
  | [.int i] => some (.int i)
  | [.bl k] => some (.int (if k = true then 1 else 0))
  | _ => none
theorem fs_int : FnS L (fun xs H Q => (∃ i, xs = [V.int i] ∧ Q (.int i) H) ∨ ∃ k, xs = [V.bl k] ∧ Q (.int (if k then 1 else 0)) H) dInt := by
  intro ds d xs H A Q e r hA q
  unfold dInt at e
  split at e
  · cases e
    obtain ⟨v, rfl, rv⟩ := r.one
    rw [rv.int]
    exact .inl ⟨_, rfl, q _ H (.refl _) .mk_int⟩
  · cases e
    obtain ⟨v, rfl, rv⟩ := r.one
    rw [rv.bl]
    exact .inr ⟨_, rfl, q _ H (.refl _) .mk_int⟩
  · cases e
def intsD : List D → Option (List Int)
  | [] => some []
  | .int i :: ds => (intsD ds).map (i :: ·)
  | _ :: _ => none
theorem intsD_vals : ∀ {ds : List D} {ns : List Int} {vs : List V} {F : Hp}, intsD ds = some ns → Rps L F ds vs → vs = ns.map V.int
  | [], ns, vs, F, e, r => by cases e; unfold Rps at r; exact r
  | .int i :: ds, ns, vs, F, e, r => by
    obtain ⟨ns', e1, rfl⟩ := Option.map_eq_some_iff.mp e
    unfold Rps at r
    obtain ⟨v, vr, rfl, r1, r2⟩ := r
    rw [intsD_vals e1 r2, Rp.int_iff.mp r1]
    rfl
  | .non :: _, _, _, _, e, _ => by cases e
  | .bl _ :: _, _, _, _, e, _ => by cases e
  | .str _ :: _, _, _, _, e, _ => by cases e
  | .tup _ :: _, _, _, _, e, _ => by cases e
  | .lst _ :: _, _, _, _, e, _ => by cases e
  | .dct _ _ :: _, _, _, _, e, _ => by cases e
  | .set _ :: _, _, _, _, e, _ => by cases e
  | .obj _ _ :: _, _, _, _, e, _ => by cases e
  | .scr _ :: _, _, _, _, e, _ => by cases e
  | .exc _ _ _ :: _, _, _, _, e, _ => by cases e
  | .ins _ _ _ :: _, _, _, _, e, _ => by cases e
  | .dki _ _ :: _, _, _, _, e, _ => by cases e
  | .ptup _ :: _, _, _, _, e, _ => by cases e
@[simp] theorem intsD_map : ∀ ns : List Int, intsD (ns.map D.int) = some ns
  | [] => rfl
  | n :: r => by
    show (intsD (r.map D.int)).map (n :: ·) = _
    rw [intsD_map r]
    rfl
def bools : List D → Option (List Bool)
  | [] => some []
  | .bl i :: ds => (bools ds).map (i :: ·)
  | _ :: _ => none
theorem bools_vals : ∀ {ds : List D} {ns : List Bool} {vs : List V} {F : Hp}, bools ds = some ns → Rps L F ds vs → vs = ns.map V.bl
  | [], ns, vs, F, e, r => by cases e; unfold Rps at r; exact r
  | .bl i :: ds, ns, vs, F, e, r => by
    obtain ⟨ns', e1, rfl⟩ := Option.map_eq_some_iff.mp e
    unfold Rps at r
    obtain ⟨v, vr, rfl, r1, r2⟩ := r
    rw [bools_vals e1 r2, Rp.bl_iff.mp r1]
    rfl
  | .non :: _, _, _, _, e, _ => by cases e
  | .int _ :: _, _, _, _, e, _ => by cases e
  | .str _ :: _, _, _, _, e, _ => by cases e
  | .tup _ :: _, _, _, _, e, _ => by cases e
  | .lst _ :: _, _, _, _, e, _ => by cases e
  | .dct _ _ :: _, _, _, _, e, _ => by cases e
  | .set _ :: _, _, _, _, e, _ => by cases e
  | .obj _ _ :: _, _, _, _, e, _ => by cases e
  | .scr _ :: _, _, _, _, e, _ => by cases e
  | .exc _ _ _ :: _, _, _, _, e, _ => by cases e
  | .ins _ _ _ :: _, _, _, _, e, _ => by cases e
  | .dki _ _ :: _, _, _, _, e, _ => by cases e
  | .ptup _ :: _, _, _, _, e, _ => by cases e
@[simp] theorem bools_map : ∀ ns : List Bool, bools (ns.map D.bl) = some ns
  | [] => rfl
  | n :: r => by
    show (bools (r.map D.bl)).map (n :: ·) = _
    rw [bools_map r]
    rfl
def onInts (f : List Int → Option D) : List D → Option D
  | [.lst xs] => (intsD xs).bind f
  | _ => none
def onBools (f : List Bool → D) : List D → Option D
  | [.lst xs] => (bools xs).map f
  | _ => none
theorem onInts_some {f : List Int → Option D} {ds : List D} {d : D} {xs : List V} {H : Hp} {A : Addr → Prop} (e : onInts f ds = some d) (r : Bps L (hid H A) H ds xs) : ∃ a ns, xs = [.ref a] ∧ H a = some (.lst (ns.map V.int)) ∧ f ns = some d := by
  unfold onInts at e
  split at e
  · obtain ⟨ns, e1, e2⟩ := Option.bind_eq_some_iff.mp e
    obtain ⟨v, rfl, rv⟩ := r.one
    obtain ⟨a, vs, rfl, h, rr⟩ := rv.lst
    rw [intsD_vals e1 rr] at h
    exact ⟨a, ns, rfl, h, e2⟩
  · cases e
theorem onBools_some {f : List Bool → D} {ds : List D} {d : D} {xs : List V} {H : Hp} {A : Addr → Prop} (e : onBools f ds = some d) (r : Bps L (hid H A) H ds xs) : ∃ a ns, xs = [.ref a] ∧ H a = some (.lst (ns.map V.bl)) ∧ f ns = d := by
  unfold onBools at e
  split at e
  · obtain ⟨ns, e1, e2⟩ := Option.map_eq_some_iff.mp e
    obtain ⟨v, rfl, rv⟩ := r.one
    obtain ⟨a, vs, rfl, h, rr⟩ := rv.lst
    rw [bools_vals e1 rr] at h
    exact ⟨a, ns, rfl, h, e2⟩
  · cases e
def dSum : List D → Option D := onInts fun ns => some (.int ns.sum)
theorem fs_sum : FnS L (rSum L.K) dSum := by
  intro ds d xs H A Q e r hA q
  obtain ⟨a, ns, rfl, h, e2⟩ := onInts_some e r
  cases e2
  exact ⟨a, ns, rfl, .inl (.inl h), q _ H (.refl _) .mk_int⟩
def dAll : List D → Option D := onBools fun bs => .bl (bs.all id)
theorem fs_all : FnS L (rAll L.K) dAll := by
  intro ds d xs H A Q e r hA q
  obtain ⟨a, ns, rfl, h, e2⟩ := onBools_some e r
  cases e2
  exact ⟨a, ns, rfl, .inl (.inl h), q _ H (.refl _) .mk_bl⟩
def dTuple : List D → Option D
  | [.lst xs] => some (.tup xs)
  | [.tup xs] => some (.tup xs)
  | _ => none
theorem fs_tuple : FnS L (fun xs H Q => ∃ p ys, xs = [.ref p] ∧ ((SqL L.K H p ys ∧ ∀ l, H l = none → Q (.ref l) (upd H l (.tup ys))) ∨ (SqT L.K H p ys ∧ Q (.ref p) H))) dTuple := by
  intro ds d xs H A Q e r hA q
  unfold dTuple at e
  split at e
  · cases e
    obtain ⟨v, rfl, rv⟩ := r.one
    obtain ⟨a, vs, rfl, h, rr⟩ := rv.lst
    exact ⟨a, vs, rfl, .inl ⟨.inl (.inl h), fun l hl => q _ _ (.of (same_upd hl)) (new_tup hA hl rr)⟩⟩
  · cases e
    obtain ⟨v, rfl, rv⟩ := r.one
    obtain ⟨a, vs, rfl, h, rr⟩ := rv.tup
    exact ⟨a, vs, rfl, .inr ⟨SqT.same hid_le h, q _ H (.refl _) (Rp.tup_iff.mpr ⟨a, vs, rfl, h, rr⟩)⟩⟩
  · cases e
def tyD : D → Option String
  | .non => some "NoneType"
  | .bl _ => some "bool"
  | .int _ => some "int"
  | .str _ => some "str"
  | .lst _ => some "list"
  | .tup _ => some "tuple"
  | _ => none
theorem tyD_ok {F H : Hp} (s : Same F H) {d : D} {v : V} {t : String} (r : Bp L F H d v) (e : tyD d = some t) : TyX L.K H v (.type t) := by
  cases d with
  | non => cases e; rw [r.non]; exact .base .non
  | bl b => cases e; rw [r.bl]; exact .base (.bl b)
  | int b => cases e; rw [r.int]; exact .base (.int b)
  | str b => cases e; rw [r.str]; exact .base (.str b)
  | lst ds => cases e; obtain ⟨a, vs, rfl, h, _⟩ := r.lst; exact .base (.lst h)
  | tup ds =>
    cases e
    obtain ⟨a, vs, rfl, h, _⟩ := r.tup
    rcases h with (h | ⟨o, h⟩) | ⟨o, its, n, h, hc, _⟩
    · exact .base (.tup (s _ _ h))
    · exact .fTuple (s _ _ h)
    · exact .kTuple h hc
  | _ => cases e
def isK (t : String) (d : D) : Option Bool :=
  match tyD d with
  | some u => kitB u t
  | none => none
def dIsi (t : String) : List D → Option D
  | [d] => (isK t d).map .bl
  | _ => none
def dIsi2 (t t' : String) : List D → Option D
  | [d] => (isK t d).bind fun a => (isK t' d).map fun b => .bl (a || b)
  | _ => none
theorem isK_some {t : String} {d : D} {b : Bool} (h : isK t d = some b) : ∃ u, tyD d = some u ∧ kitB u t = some b := by
  unfold isK at h
  split at h
  · rename_i u e; exact ⟨u, e, h⟩
  · cases h
theorem sE_isi {t : String} {x : Str} {p p2 : Pos} (hK : X.K = L.K) (hg : Gl X "isinstance") (hm : X.mg "isinstance" = none) (ht : PE X (.Name x p2) (L2.tC (V.ty t))) (ha : SE L P E X e m) (hv : bootBuiltins "isinstance" = some (.builtin "isinstance") := by decide +kernel)
    (he : starEach [e, .Name x p2] X.env = (false, eval e X.env) :: starEach [.Name x p2] X.env := by rfl) (he2 : starEach [.Name x p2] X.env = (false, eval (.Name x p2) X.env) :: starEach [] X.env := by rfl) (hpl : (backTo pos (starEach [.Name x p2] X.env)).any (·.1) = false := by rfl) :
    SE L P E X (.Call (.Name "isinstance" p) [e, .Name x p2] [] pos) (mFn (dIsi t) (mCons m mNil)) :=
  PE.weak (pe_callB call_isi hg hm hv (pa_cons ha (pa_cons ht pa_nil he2) he) (by decide) (by decide) he hpl) fun σ H Q ⟨τ, R, h⟩ => by
    have h : Post L P (RV L) H σ τ ((m τ).bind fun d => fun τ => Res.lift (dIsi t [d]) τ) Q (E σ) := by
      revert h
      show Post L P (RV L) H σ τ (((m τ).bind fun d => fun τ => (Res.ok [] τ).bind fun xs => fun τ => .ok (d :: xs) τ).bind fun xs => fun τ => Res.lift (dIsi t xs) τ) Q (E σ) → _
      cases m τ with
      | ok d τ1 => exact fun h => h
      | exc c xs τ1 => exact fun h => h
      | fail => exact fun h => h
    refine ⟨τ, R, (Post.split (R := RV L) h).imp fun v H1 ⟨d, τ1, t1, R1, r1, h1⟩ => ?_⟩
    obtain ⟨d', e1, q⟩ := h1.done R1
    obtain ⟨b, e2, rfl⟩ := Option.map_eq_some_iff.mp e1
    obtain ⟨u, e3, e4⟩ := isK_some e2
    refine ⟨v, .ty t, .type u, .type t, b, rfl, .ty t, ?_, kit_ty e4, q _ H1 (.refl _) .mk_bl⟩
    rw [hK]
    exact tyD_ok hid_le (r1.bp hid_le) e3
theorem sE_isi2 {t t' : String} {x x' : Str} {p p2 p3 pt : Pos} {kt : Nat} (hK : X.K = L.K) (hg : Gl X "isinstance") (hm : X.mg "isinstance" = none) (ht : PE X (.Name x p2) (L2.tC (V.ty t))) (ht' : PE X (.Name x' p3) (L2.tC (V.ty t'))) (ha : SE L P E X e m) (hv : bootBuiltins "isinstance" = some (.builtin "isinstance") := by decide +kernel)
    (he : starEach [e, .Tuple [.Name x p2, .Name x' p3] kt pt] X.env = (false, eval e X.env) :: starEach [.Tuple [.Name x p2, .Name x' p3] kt pt] X.env := by rfl) (he2 : starEach [.Tuple [.Name x p2, .Name x' p3] kt pt] X.env = (false, eval (.Tuple [.Name x p2, .Name x' p3] kt pt) X.env) :: starEach [] X.env := by rfl)
    (he3 : starEach [.Name x p2, .Name x' p3] X.env = (false, eval (.Name x p2) X.env) :: starEach [.Name x' p3] X.env := by rfl) (he4 : starEach [.Name x' p3] X.env = (false, eval (.Name x' p3) X.env) :: starEach [] X.env := by rfl)
    (hpl : (backTo pos (starEach [.Tuple [.Name x p2, .Name x' p3] kt pt] X.env)).any (·.1) = false := by rfl) :
    SE L P E X (.Call (.Name "isinstance" p) [e, .Tuple [.Name x p2, .Name x' p3] kt pt] [] pos) (mFn (dIsi2 t t') (mCons m mNil)) :=
  PE.weak (pe_callB call_isiT hg hm hv (pa_cons ha (pa_cons (pe_tup (pa_cons ht (pa_cons ht' pa_nil he4) he3)) pa_nil he2) he) (by decide) (by decide) he hpl) fun σ H Q ⟨τ, R, h⟩ => by
    have h : Post L P (RV L) H σ τ ((m τ).bind fun d => fun τ => Res.lift (dIsi2 t t' [d]) τ) Q (E σ) := by
      revert h
      show Post L P (RV L) H σ τ (((m τ).bind fun d => fun τ => (Res.ok [] τ).bind fun xs => fun τ => .ok (d :: xs) τ).bind fun xs => fun τ => Res.lift (dIsi2 t t' xs) τ) Q (E σ) → _
      cases m τ with
      | ok d τ1 => exact fun h => h
      | exc c xs τ1 => exact fun h => h
      | fail => exact fun h => h
    refine ⟨τ, R, (Post.split (R := RV L) h).imp fun v H1 ⟨d, τ1, t1, R1, r1, h1⟩ => ?_⟩
    obtain ⟨d', e1, q⟩ := h1.done R1
    obtain ⟨b, e2, e5⟩ := Option.bind_eq_some_iff.mp e1
    obtain ⟨b', e6, rfl⟩ := Option.map_eq_some_iff.mp e5
    obtain ⟨u, e3, e4⟩ := isK_some e2
    obtain ⟨u', e7, e8⟩ := isK_some e6
    rw [e3] at e7
    cases e7
    refine ⟨by show 2 ≤ sizeLine; decide, fun tp htp => ⟨v, tp, [.ty t, .ty t'], .type u, [.type t, .type t'], b || b', rfl, upd_same, .cons (.ty t) (.cons (.ty t') .nil), ?_, ?_, q _ _ (.of (same_upd htp)) .mk_bl⟩⟩
    · rw [hK]
      exact tyD_ok (hid_le.trans (same_upd htp)) ((r1.same (hid_mono (A := Hd P σ τ1) (.refl _) fun _ z => z)).bp (hid_le.trans (same_upd htp))) e3
    · refine kitAny_cons (kit_ty e4) (fun hb => ?_) (fun hb => by rw [hb]; rfl)
      subst hb
      refine kitAny_cons (kit_ty e8) (fun hb => ?_) (fun hb => by rw [hb]; rfl)
      subst hb
      exact kitAny_nil
end
end Sm
set_option Elab.async false
set_option linter.all false
set_option maxRecDepth 100000
set_option maxHeartbeats 400000
namespace Sm
open PySem PySem.Spec PyProof.Rows L2
section
variable {L : Lay} {P : Pa} {W : WX} {X : Cx} {E : L2.St → XK} {pos : Pos} {e a b c : Expr} {es : List Expr} {m ma mb mc : M D} {ms : M (List D)}

def mPk (i : Nat) (f : D → D → Option D) (mb : M D) : M D := fun τ =>
  match peek i τ with
  | none => .fail
  | some _ => (mb τ).bind fun y => fun τ => Res.lift ((peek i τ).bind fun x => f x y) τ
theorem tPk_of {r : R2} {f : D → D → Option D} {i : Nat} (ho : OpS L r f) (σ : L2.St) (H : Hp) (Q : VK) (h : tE L P E (mPk i f mb) σ H Q) : tOp r (tVar i) (tE L P E mb) σ H Q := by
  obtain ⟨τ, R, h⟩ := h
  unfold mPk at h
  split at h
  · exact h.elim
  · rename_i d0 e0
    obtain ⟨v, hv, _⟩ := peek_ok R e0
    refine ⟨v, hv, τ, R, (Post.split (R := RV L) h).imp fun y H2 ⟨d2, τ2, t2, R2, r2, h2⟩ => ?_⟩
    obtain ⟨d, e1, q⟩ := h2.done R2
    obtain ⟨d1, e2, e3⟩ := Option.bind_eq_some_iff.mp e1
    obtain ⟨v', hv', rb⟩ := peek_ok R2 e2
    rw [hv] at hv'
    cases hv'
    exact ho d1 d2 d v y H2 (Hd P σ τ2) Q e3 rb (r2.bp hid_le) R2.ths q
theorem sE_ixP {x : Str} {p : Pos} (i : Nat) (hK : X.K = L.K) (hb : SE L P E X b mb) (hN : X.N[i]? = some x := by rfl) (hv : Vis X.env.scope x := by first | exact Or.inl rfl | exact Or.inr (Or.inl rfl) | exact Or.inr (Or.inr rfl)) (hd : (x == ("__debug__" : Str)) = false := by decide)
    (hcd : (x == ("__classdict__" : Str)) = false := by decide) (hs : PlainIx b := by intro _ _; rfl) : SE L P E X (.Subscript (.Name x p) b pos) (mPk i dIx mb) :=
  PE.weak (pe_ix ix_seq (pe_var hN hv hd hcd) hb hs) fun σ H Q h => by rw [hK]; exact tPk_of os_ix σ H Q h
def mCh (f f' : D → D → Option D) (ma mb mc : M D) : M D := fun τ => (ma τ).bind fun x => fun τ => (mb τ).bind fun y => fun τ =>
  (Res.lift ((f x y).bind asB) τ).bind fun k => fun τ => if k = true then (mc τ).bind fun z => fun τ => Res.lift (f' y z) τ else .ok (.bl false) τ
theorem tCh_of {r r' : R2} {f f' : D → D → Option D} (ho : OpS L r f) (ho' : OpS L r' f') (σ : L2.St) (H : Hp) (Q : VK) (h : tE L P E (mCh f f' ma mb mc) σ H Q) : tChain r r' (tE L P E ma) (tE L P E mb) (tE L P E mc) σ H Q := by
  obtain ⟨τ, R, h⟩ := h
  refine ⟨τ, R, (Post.split (R := RV L) h).imp fun x H1 ⟨d1, τ1, t1, R1, r1, h1⟩ => ?_⟩
  refine ⟨τ1, R1, (Post.split (R := RV L) h1).imp fun y H2 ⟨d2, τ2, t2, R2, r2, h2⟩ => ?_⟩
  obtain ⟨k, e, q⟩ := (Post.split (R := RB) h2).lift
  obtain ⟨d, e1, e2⟩ := Option.bind_eq_some_iff.mp e
  refine ho d1 d2 d x y H2 (Hd P σ τ2) _ e1 ((r1.same (R1.fz t2)).bp hid_le) (r2.bp hid_le) R2.ths fun z H3 s3 r3 => ?_
  cases d with
  | bl b =>
    have eb : k = b := (Option.some.inj e2).symm
    subst eb
    refine ⟨k, Rp.bl_iff.mp r3, ?_⟩
    obtain ⟨b', τ3, t3, R3, rb, h3⟩ := q k H3 (R2.kinT s3) (R2.kin s3) rfl
    cases rb
    cases k with
    | false =>
      rw [if_neg Bool.false_ne_true] at h3 ⊢
      exact h3 _ H3 .refl R3 .mk_bl
    | true =>
      rw [if_pos rfl] at h3 ⊢
      refine ⟨τ3, R3, (Post.split (R := RV L) h3).imp fun w H4 ⟨d4, τ4, t4, R4, r4, h4⟩ => ?_⟩
      obtain ⟨d', e5, q5⟩ := h4.done R4
      exact ho' d2 d4 d' y w H4 (Hd P σ τ4) Q e5 ((r2.same (R2.fz (Tr.trans t3 t4))).bp hid_le) (r4.bp hid_le) R4.ths q5
  | _ => cases e2
theorem sE_chain {op op' : CmpOp} {r r' : R2} {f f' : D → D → Option D} (hr : OpR X (compareOp op) r) (hr' : OpR X (compareOp op') r') (ho : OpS L r f) (ho' : OpS L r' f') (ha : SE L P E X a ma) (hb : SE L P E X b mb) (hc : SE L P E X c mc)
    (hm : lastMarks [op, op'] [b, c] = false := by with_unfolding_all rfl) : SE L P E X (.Compare a [op, op'] [b, c] pos) (mCh f f' ma mb mc) :=
  PE.weak (pe_chain hr hr' ha hb hc hm) fun σ H Q h => tCh_of ho ho' σ H Q h
theorem sT_chain {op op' : CmpOp} {r r' : R2} {f f' : D → D → Option D} (hr : OpR X (compareOp op) r) (hr' : OpR X (compareOp op') r') (ho : OpS L r f) (ho' : OpS L r' f') (ha : SE L P E X a ma) (hb : SE L P E X b mb) (hc : SE L P E X c mc)
    (hm : lastMarks [op, op'] [b, c] = false := by with_unfolding_all rfl) : ST L P E X (.Compare a [op, op'] [b, c] pos) (mB (mCh f f' ma mb mc)) :=
  PT.weak (pt_chain hr hr' ha hb hc hm) fun σ H Q h => by
    have q : tB (tE L P E (mCh f f' ma mb mc)) σ H Q := tB_of σ H Q h
    exact tCh_of ho ho' σ H _ q

abbrev SO (L : Lay) (P : Pa) (E : L2.St → XK) (X : Cx) (e : Option Expr) (m : M (Option Int)) : Prop := PO X e (fun σ H Q => ∃ τ, StR L P H σ τ ∧ Post L P (fun _ a b => b = a) H σ τ (m τ) Q (E σ))
theorem PO.weak {e : Option Expr} {t u : TO} (h : PO X e t) (f : ∀ σ H Q, u σ H Q → t σ H Q) : PO X e u := ⟨fun pins s σ H Q I q => h.run pins s σ H Q I (f σ H Q q)⟩
def oNone : M (Option Int) := fun τ => .ok none τ
def asI : D → Option Int
  | .int i => some i
  | _ => none
@[simp] theorem asI_int {i : Int} : asI (.int i) = some i := rfl
def oSome (m : M D) : M (Option Int) := fun τ => (m τ).bind fun x => fun τ => Res.lift ((asI x).map some) τ
theorem sO_none : SO L P E X none oNone := PO.weak po_none fun σ H Q ⟨τ, R, h⟩ => h none H .refl R rfl
theorem sO_some (h : SE L P E X e m) : SO L P E X (some e) (oSome m) :=
  PO.weak (po_some h) fun σ H Q ⟨τ, R, h⟩ => by
    refine ⟨τ, R, (Post.split (R := RV L) h).imp fun x H1 ⟨d1, τ1, t1, R1, r1, h1⟩ => ?_⟩
    obtain ⟨o, e, q⟩ := h1.lift
    obtain ⟨i, e1, rfl⟩ := Option.map_eq_some_iff.mp e
    cases d1 with
    | int j =>
      cases e1
      exact ⟨i, Rp.int_iff.mp r1, q _ H1 .refl R1 rfl⟩
    | _ => cases e1
def cutD (xs : List D) (lo hi : Option Int) : List D := (xs.drop (HT.sIx xs.length 0 lo)).take (HT.sIx xs.length xs.length hi - HT.sIx xs.length 0 lo)
theorem Rps.cut {F : Hp} {xs : List D} {vs : List V} (r : Rps L F xs vs) (lo hi : Option Int) : Rps L F (cutD xs lo hi) (cutV vs lo hi) := by
  unfold cutD cutV
  rw [r.length]
  exact (r.drop _).take _
def dSl (lo hi : Option Int) : D → Option D
  | .lst xs => some (.lst (cutD xs lo hi))
  | .scr xs => some (.lst (cutD xs lo hi))
  | .tup xs => some (.tup (cutD xs lo hi))
  | .str z => if z.length ≤ 16000000 then some (.str (cutS z lo hi)) else none
  | _ => none
def rSl (K : PySem.W.Frag) : V → Option Int → Option Int → Hp → VK → Prop := fun x lo hi H Q => rSlL K x lo hi H Q ∨ rSlA K x lo hi H Q ∨ rSlS x lo hi H Q
theorem sl_seq : L2.SlR X (rSl X.K) := L2.SlR.or sl_list (L2.SlR.or sl_tupA sl_str)
theorem os_sl {lo hi : Option Int} {a d : D} {x : V} {H : Hp} {A : Addr → Prop} {Q : VK} (e : dSl lo hi a = some d) (ra : Bp L (hid H A) H a x) (hA : Th H A) (q : ∀ z H', Kin H H' → Rp L (hid H' A) d z → Q z H') : rSl L.K x lo hi H Q := by
  cases a with
  | lst xs =>
    cases e
    obtain ⟨p, vs, rfl, h, rr⟩ := ra.lst
    exact .inl ⟨p, vs, rfl, .inl (.inl h), fun l hl => q _ _ (.of (same_upd hl)) (new_lst hA hl (rr.cut lo hi))⟩
  | scr xs =>
    cases e
    obtain ⟨p, vs, rfl, h, rr⟩ := ra.scr
    exact .inl ⟨p, vs, rfl, hid_le.seq h, fun l hl => q _ _ (.of (same_upd hl)) (new_lst hA hl (rr.cut lo hi))⟩
  | tup xs =>
    cases e
    obtain ⟨p, vs, rfl, h, rr⟩ := ra.tup
    refine .inr (.inl ⟨p, vs, rfl, SqT.same hid_le h, fun hw => ?_, fun _ l hl => q _ _ (.of (same_upd hl)) (new_tup hA hl (rr.cut lo hi))⟩)
    refine q _ H (.refl _) (Rp.tup_iff.mpr ⟨p, vs, rfl, h, ?_⟩)
    have hw' : cutD xs lo hi = xs := by
      unfold cutD
      rw [← rr.length, hw.1, hw.2, List.drop_zero, Nat.sub_zero, rr.length, List.take_length]
    rw [hw']
    exact rr
  | str z =>
    have e : (if z.length ≤ 16000000 then some (D.str (cutS z lo hi)) else none) = some d := e
    split at e
    · rename_i hz
      cases e
      exact .inr (.inr ⟨z, ra.str, small16 hz, q _ H (.refl _) .mk_str⟩)
    · cases e
  | _ => cases e
def mSlP (i : Nat) (lo hi : M (Option Int)) : M D := fun τ =>
  match peek i τ with
  | none => .fail
  | some _ => (lo τ).bind fun l => fun τ => (hi τ).bind fun h => fun τ => Res.lift ((peek i τ).bind (dSl l h)) τ
theorem sE_slP {lo hi : Option Expr} {ml mh : M (Option Int)} {p2 p : Pos} {x : Str} (i : Nat) (hK : X.K = L.K) (hl : SO L P E X lo ml) (hh : SO L P E X hi mh) (hN : X.N[i]? = some x := by rfl) (hv : Vis X.env.scope x := by first | exact Or.inl rfl | exact Or.inr (Or.inl rfl) | exact Or.inr (Or.inr rfl)) (hd : (x == ("__debug__" : Str)) = false := by decide)
    (hcd : (x == ("__classdict__" : Str)) = false := by decide) : SE L P E X (.Subscript (.Name x p) (.Slice lo hi none p2) pos) (mSlP i ml mh) :=
  PE.weak (pe_slice sl_seq (pe_var hN hv hd hcd) hl hh) fun σ H Q ⟨τ, R, h⟩ => by
    unfold mSlP at h
    split at h
    · exact h.elim
    · rename_i d0 e0
      obtain ⟨v, hv, _⟩ := peek_ok R e0
      refine ⟨v, hv, τ, R, (Post.split (R := fun _ a b => b = a) h).imp fun l H2 ⟨l', τ2, t2, R2, e2, h2⟩ => ?_⟩
      cases e2
      refine ⟨τ2, R2, (Post.split (R := fun _ a b => b = a) h2).imp fun u H3 ⟨u', τ3, t3, R3, e3, h3⟩ => ?_⟩
      cases e3
      obtain ⟨d, e4, q⟩ := h3.done R3
      obtain ⟨d1, e5, e6⟩ := Option.bind_eq_some_iff.mp e4
      obtain ⟨v', hv', rb⟩ := peek_ok R3 e5
      rw [hv] at hv'
      cases hv'
      rw [hK]
      exact os_sl e6 rb R3.ths q

def FnF (L : Lay) (r : List V → Hp → VK → Prop) (f : List D → Option (List D)) : Prop :=
  ∀ (ds ns : List D) (xs : List V) (H : Hp) (A : Addr → Prop) (Q : VK), f ds = some ns → Bps L (hid H A) H ds xs → Th H A →
    (∀ p vs, H p = none → Rps L (hid H A) ns vs → Q (.ref p) (upd H p (.lst vs))) → r xs H Q
def mFnF (f : List D → Option (List D)) (ms : M (List D)) : M D := fun τ => (ms τ).bind fun xs => fun τ => Res.lift ((f xs).map D.lst) τ
theorem Post.toF {γ : Type} {R : Hp → γ → List V → Prop} {H : Hp} {σ : L2.St} {τ : List Sl} {r : Res γ} {f : γ → M D} {Q : VK} {e : XK} (h : PostF L P H σ τ (r.bind f) Q e) :
    Post L P R H σ τ r (fun v H1 => ∃ a τ1, Tr H (Own σ τ) H1 (Own σ τ1) ∧ StR L P H1 σ τ1 ∧ R (hid H1 (Hd P σ τ1)) a v ∧ PostF L P H1 σ τ1 (f a τ1) Q e) e := by
  cases r with
  | ok a τ1 =>
    intro v H1 t1 R1 r1
    refine ⟨a, τ1, t1, R1, r1, ?_⟩
    have h : PostF L P H σ τ (f a τ1) Q e := h
    revert h
    cases f a τ1 with
    | ok d τ2 => exact fun h a H' x y z => h a H' (t1.trans x) y z
    | exc c xs τ2 => exact fun h a b H' x y z => h a b H' (t1.trans x) y z
    | fail => exact fun h => h
  | exc c xs τ2 => exact h
  | fail => exact h
theorem PostF.new {H : Hp} {σ : L2.St} {τ : List Sl} {ns : List D} {Q : VK} {e : XK} (R : StR L P H σ τ) (h : PostF L P H σ τ (.ok (.lst ns) τ) Q e) {p : Addr} {vs : List V} (hp : H p = none) (r : Rps L (hid H (Hd P σ τ)) ns vs) : Q (.ref p) (upd H p (.lst vs)) := by
  refine h p _ ?_ ?_ ?_
  · rw [rid_upd hp]; exact .refl
  · rw [rid_upd hp]; exact R
  · rw [rid_upd hp]; exact ⟨vs, upd_same, r⟩
theorem tCB_ofF {r : List V → Hp → VK → Prop} {f : List D → Option (List D)} (hf : FnF L r f) (σ : L2.St) (H : Hp) (Q : VK) (h : tF L P E (mFnF f ms) σ H Q) : tCB r (tA L P E ms) σ H Q := by
  obtain ⟨τ, R, h⟩ := h
  refine ⟨τ, R, (Post.toF (R := RVs L) h).imp fun xs H1 ⟨ds, τ1, t1, R1, r1, h1⟩ => ?_⟩
  cases e : f ds with
  | none => rw [e] at h1; exact h1.elim
  | some ns =>
    rw [e] at h1
    exact hf ds ns xs H1 (Hd P σ τ1) Q e (r1.bps hid_le) R1.ths fun p vs hp rr => PostF.new R1 h1 hp rr
theorem sF_callTy {r : List V → Hp → VK → Prop} {f : List D → Option (List D)} {T : String} {x : Str} {p : Pos} (hc : CallR X (.type T) r) (hf : FnF L r f) (hg : Gl X x) (hm : X.mg x = none) (hv : bootBuiltins x = some (.type T)) (ha : SA L P E X (e :: es) ms) (hn : x ≠ "__name__" := by decide) (hdb : (x == ("__debug__" : Str)) = false := by decide)
    (he : starEach (e :: es) X.env = (false, eval e X.env) :: starEach es X.env := by rfl) (hpl : (backTo pos (starEach es X.env)).any (·.1) = false := by rfl) : SF L P E X (.Call (.Name x p) (e :: es) [] pos) (mFnF f ms) :=
  PE.weak (pe_callTy hc hg hm hv ha hn hdb he hpl) fun σ H Q h => tCB_ofF hf σ H Q h
def nList : List D → Option (List D)
  | [.lst xs] => some xs
  | [.tup xs] => some xs
  | [.scr xs] => some xs
  | _ => none
theorem ff_list : FnF L (fun xs H Q => ∃ p ys, xs = [.ref p] ∧ (SqL L.K H p ys ∨ SqT L.K H p ys) ∧ ∀ l, H l = none → Q (.ref l) (upd H l (.lst ys))) nList := by
  intro ds d xs H A Q e r hA q
  unfold nList at e
  split at e
  · cases e
    obtain ⟨v, rfl, rv⟩ := r.one
    obtain ⟨a, vs, rfl, h, rr⟩ := rv.lst
    exact ⟨a, vs, rfl, .inl (.inl (.inl h)), fun l hl => q _ _ hl rr⟩
  · cases e
    obtain ⟨v, rfl, rv⟩ := r.one
    obtain ⟨a, vs, rfl, h, rr⟩ := rv.tup
    exact ⟨a, vs, rfl, .inr (SqT.same hid_le h), fun l hl => q _ _ hl rr⟩
  · cases e
    obtain ⟨v, rfl, rv⟩ := r.one
    obtain ⟨a, vs, rfl, h, rr⟩ := rv.scr
    exact ⟨a, vs, rfl, .inl (hid_le.seq h), fun l hl => q _ _ hl rr⟩
  · cases e

def truD : D → Option Bool
  | .non => some false
  | .bl b => some b
  | .int i => some (i != 0)
  | .lst xs => some (!xs.isEmpty)
  | .tup xs => some (!xs.isEmpty)
  | _ => none
theorem truV_ok {F H : Hp} (s : Same F H) {d : D} {v : V} {k : Bool} (r : Bp L F H d v) (e : truD d = some k) : TruV L.K v H k := by
  have em : ∀ {xs : List D} {vs : List V}, Rps L F xs vs → (!vs.isEmpty) = !xs.isEmpty := fun {xs vs} r => by
    cases xs with
    | nil => unfold Rps at r; rw [r]; rfl
    | cons x xs => unfold Rps at r; obtain ⟨v, t, rfl, _⟩ := r; rfl
  cases d with
  | non => cases e; rw [r.non]; exact rfl
  | bl b => cases e; rw [r.bl]; exact rfl
  | int b => cases e; rw [r.int]; exact rfl
  | lst ds => cases e; obtain ⟨a, vs, rfl, h, rr⟩ := r.lst; exact .inl ⟨vs, .inl (.inl h), (em rr).symm⟩
  | tup ds => cases e; obtain ⟨a, vs, rfl, h, rr⟩ := r.tup; exact .inr (.inl ⟨vs, SqT.same s h, (em rr).symm⟩)
  | _ => cases e
def mOrV (a b : M D) : M D := fun τ => (a τ).bind fun x => fun τ => (Res.lift (truD x) τ).bind fun k => fun τ => if k = true then .ok x τ else b τ
theorem sF_or (hK : X.K = L.K) (ha : SF L P E X a ma) (hb : SF L P E X b mb) : SF L P E X (.BoolOp .Or [a, b] pos) (mOrV ma mb) :=
  PE.weak (pe_orT ha (pe_one hb)) fun σ H Q ⟨τ, R, h⟩ => by
    refine ⟨τ, R, ?_⟩
    have h : PostF L P H σ τ ((ma τ).bind fun x => fun τ => (Res.lift (truD x) τ).bind fun k => fun τ => if k = true then .ok x τ else mb τ) Q (E σ) := h
    revert h
    cases ma τ with
    | ok d τ1 =>
      intro h a H1 t1 R1 r1
      rw [Res.bind_ok] at h
      cases e : truD d with
      | none => rw [e] at h; exact h.elim
      | some k =>
        rw [e, Res.lift_some, Res.bind_ok] at h
        refine ⟨k, by rw [hK]; exact truV_ok (F := hid H1 (Hd P σ τ1)) hid_le ((fresh_rp R1 r1).bp hid_le) e, ?_⟩
        cases k with
        | true => rw [if_pos rfl] at h ⊢; exact h a H1 t1 R1 r1
        | false =>
          rw [if_neg Bool.false_ne_true] at h ⊢
          refine ⟨τ1, R1.same rid_le, ?_⟩
          revert h
          have t2 : Tr H (Own σ τ) H1 (Own σ τ1) := t1.trans (.of rid_le)
          cases mb τ1 with
          | ok d τ2 => exact fun h a H' x y z => h a H' (t2.trans x) y z
          | exc c xs τ2 => exact fun h a b H' x y z => h a b H' (t2.trans x) y z
          | fail => exact fun h => h
    | exc c xs τ' => exact fun h => h
    | fail => exact fun h => h
end
end Sm
set_option Elab.async false
set_option linter.all false
set_option maxRecDepth 100000
set_option maxHeartbeats 400000
namespace Sm
open PySem PySem.Spec PyProof.Rows L2
section
variable {L : Lay} {P : Pa} {W : WX} {X : Cx} {E : L2.St → XK} {pos : Pos} {e a b c : Expr} {es : List Expr} {m ma mb mc : M D} {ms : M (List D)}
def Sl.chg (f : List D → Option (List D)) : Sl → Option Sl
  | .ow (.lst ds) => (f ds).map fun ns => .ow (.lst ns)
  | .le (.lst ds) => (f ds).map fun ns => .le (.lst ns)
  | .io k (.lst ds) => (f ds).map fun ns => .io k (.lst ns)
  | _ => none
def chgS (i : Nat) (f : List D → Option (List D)) (τ : List Sl) : Option (List Sl) := (τ[i]?).bind fun t => (t.chg f).map fun t' => τ.set i t'
theorem StR.chg {H : Hp} {σ : L2.St} {τ τ' : List Sl} {i : Nat} {f : List D → Option (List D)} (R : StR L P H σ τ) (h : chgS i f τ = some τ') :
    ∃ a vs ds ns, σ[i]? = some (some (.ref a)) ∧ H a = some (.lst vs) ∧ Rps L (hid H (Hd P σ τ)) ds vs ∧ f ds = some ns ∧
      ∀ us, Rps L (hid H (Hd P σ τ)) ns us → Tr H (Own σ τ) (upd H a (.lst us)) (Own σ τ') ∧ StR L P (upd H a (.lst us)) σ τ' := by
  obtain ⟨t, et, h⟩ := Option.bind_eq_some_iff.mp h
  obtain ⟨t', e', rfl⟩ := Option.map_eq_some_iff.mp h
  have q := R.sl i t et
  have keep : ∀ (a : Addr) (us : List V) (b : Addr) (o : HO), H b = some o → b ≠ a → upd H a (.lst us) b = some o := fun a us b o h n => by rw [upd_ne n]; exact h
  cases t with
  | ow d =>
    cases d with
    | lst ds =>
      obtain ⟨ns, e, rfl⟩ := Option.map_eq_some_iff.mp e'
      obtain ⟨a, e1, vs, hv, rr⟩ := q
      exact ⟨a, vs, ds, ns, e1, hv, rr, e, fun us ru => R.upd1 ⟨e1, _, et, rfl⟩ (keep a us) ⟨_, upd_same⟩ (.inr ⟨rfl, fun tr => ⟨a, e1, us, upd_same, Rps.same (R.fz tr) ru⟩⟩)⟩
    | _ => cases e'
  | le d =>
    cases d with
    | lst ds =>
      obtain ⟨ns, e, rfl⟩ := Option.map_eq_some_iff.mp e'
      obtain ⟨a, e1, vs, hv, rr⟩ := q
      exact ⟨a, vs, ds, ns, e1, hv, rr, e, fun us ru => R.upd1 ⟨e1, _, et, rfl⟩ (keep a us) ⟨_, upd_same⟩ (.inr ⟨rfl, fun tr => ⟨a, e1, us, upd_same, Rps.same (R.fz tr) ru⟩⟩)⟩
    | _ => cases e'
  | io k d =>
    cases d with
    | lst ds =>
      obtain ⟨ns, e, rfl⟩ := Option.map_eq_some_iff.mp e'
      obtain ⟨a, e1, e2, q⟩ := q
      obtain ⟨vs, hv, rr⟩ := q.list rfl
      exact ⟨a, vs, ds, ns, e1, hv, rr, e, fun us ru => R.upd1 ⟨e1, _, et, rfl⟩ (keep a us) ⟨_, upd_same⟩ (.inr ⟨rfl, fun tr => ⟨a, e1, e2, .inl ⟨us, upd_same, Rps.same (R.fz tr) ru⟩⟩⟩)⟩
    | _ => cases e'
  | un => cases e'
  | fz d => cases e'
  | oo d => cases e'

def Res.opt (o : Option (List Sl)) : Res D :=
  match o with
  | some τ => .ok .non τ
  | none => .fail
@[simp] theorem Res.opt_some {τ : List Sl} : Res.opt (some τ) = .ok .non τ := rfl
@[simp] theorem Res.opt_none : Res.opt none = .fail := rfl
def isLst : Option D → Bool
  | some (.lst _) => true
  | _ => false
def fApp (d : D) (xs : List D) : Option (List D) := if xs.length < 16000000 then some (xs ++ [d]) else none
def mApp (i : Nat) (m : M D) : M D := fun τ => if isLst (peek i τ) = true then (m τ).bind fun d => fun τ => Res.opt (chgS i (fApp d) τ) else .fail
theorem isLst_some {o : Option D} (h : isLst o = true) : ∃ ds, o = some (.lst ds) := by
  unfold isLst at h
  split at h
  · exact ⟨_, rfl⟩
  · cases h
theorem sE_app {x : Str} {p apos : Pos} (i : Nat) (ha : SE L P E X e m) (hN : X.N[i]? = some x := by rfl) (hv : Vis X.env.scope x := by first | exact Or.inl rfl | exact Or.inr (Or.inl rfl) | exact Or.inr (Or.inr rfl)) (hd : (x == ("__debug__" : Str)) = false := by decide)
    (hcd : (x == ("__classdict__" : Str)) = false := by decide)
    (hbase : attributeBase (.Name x p) "append" X.env (eval (.Name x p) X.env) = eval (.Name x p) X.env := by rfl)
    (hfew : ((backTo pos (starEach [e] X.env)).all (fun x => !x.1) && (backToKw pos (keywordEach [] X.env)).all (fun x => x.1.isSome)
      && decide ([e].length + ([] : List Keyword).length + (if ([] : List Keyword).isEmpty then 0 else 1) < 30)) = true := by rfl)
    (hline : (apos.endLine == pos.line) = true := by rfl) (hs : starEach [e] X.env = (false, eval e X.env) :: starEach [] X.env := by rfl) :
    SE L P E X (.Call (.Attribute (.Name x p) "append" apos) [e] [] pos) (mApp i m) :=
  PE.weak (pe_bm F.plainAttrs_list F.slot_list_append F.type_list_append mt_append (pe_var hN hv hd hcd) (pa_cons ha pa_nil hs) hbase hfew hline hs) fun σ H Q ⟨τ, R, h⟩ => by
    unfold mApp at h
    by_cases hl : isLst (peek i τ) = true
    · rw [if_pos hl] at h
      obtain ⟨ds, hp⟩ := isLst_some hl
      obtain ⟨v, hv, rb⟩ := peek_ok R hp
      obtain ⟨a, vs, rfl, ha, _⟩ := rb.lst
      refine ⟨.ref a, hv, .inl ⟨rfl, vs, .inl (.inl ha)⟩, τ, R, (Post.split (R := RV L) h).imp fun y H1 ⟨d, τ1, t1, R1, r1, h1⟩ => ?_⟩
      cases e1 : chgS i (fApp d) τ1 with
      | none => rw [e1] at h1; exact h1.elim
      | some τ2 =>
        rw [e1] at h1
        obtain ⟨a', vs', ds', ns, e2, hv', rr, ef, q⟩ := R1.chg e1
        rw [hv] at e2
        cases e2
        unfold fApp at ef
        split at ef
        · rename_i hz
          cases ef
          refine ⟨a, vs', y, rfl, rfl, hv', ?_, ?_⟩
          · rw [rr.length]
            exact Nat.lt_of_lt_of_le hz (by decide)
          · obtain ⟨t2, R2⟩ := q (vs' ++ [y]) (rr.app (.cons r1 .nil))
            exact h1 .non _ t2 R2 (Rp.non_iff.mpr rfl)
        · cases ef
    · rw [if_neg hl] at h
      exact h.elim

def fSet (k : Int) (d : D) (xs : List D) : Option (List D) := (ixN xs.length k).map fun j => xs.set j d
def Res.ixO (r : Res D) (f : Int → List Sl → Option (List Sl)) : Option (List Sl) :=
  match r with
  | .ok (.int k) τ => f k τ
  | _ => none
@[simp] theorem Res.ixO_int {k : Int} {τ : List Sl} {f : Int → List Sl → Option (List Sl)} : (Res.ok (.int k) τ).ixO f = f k τ := rfl
def gIx (i : Nat) (mi : M D) : MG := fun d τ => if isLst (peek i τ) = true then (mi τ).ixO fun k τ => chgS i (fSet k d) τ else none
theorem sG_ix {x : Str} {p : Pos} (i : Nat) (hb : SE L P (WE W) X b mb) (hN : X.N[i]? = some x := by rfl) (hv : Vis X.env.scope x := by first | exact Or.inl rfl | exact Or.inr (Or.inl rfl) | exact Or.inr (Or.inr rfl)) (hd : (x == ("__debug__" : Str)) = false := by decide)
    (hcd : (x == ("__classdict__" : Str)) = false := by decide)
    (ha : ∀ v, assign (.Subscript (.Name x p) b pos) X.env v = (do
      let ov ← holding [v] (eval (.Name x p) X.env)
      let iv ← holding [v, ov] (eval b X.env)
      standAt pos
      holding [v, ov, iv] (setItem ov iv v)
      release [v, ov, iv] []) := by intro _; rfl) : SG L P X (.Subscript (.Name x p) b pos) (gIx i mb) :=
  PG.weak (pg_sub (pe_var hN hv hd hcd) hb set_list ha) fun v σ H Q ⟨τ, d, τ', R, r, e, q⟩ => by
    have e : (if isLst (peek i τ) = true then (mb τ).ixO fun k τ => chgS i (fSet k d) τ else none) = some τ' := e
    by_cases hl : isLst (peek i τ) = true
    · rw [if_pos hl] at e
      obtain ⟨ds, hp⟩ := isLst_some hl
      obtain ⟨w, hw, rb⟩ := peek_ok R hp
      refine ⟨w, hw, τ, R, ?_⟩
      revert e
      cases mb τ with
      | ok dk τ1 =>
        intro e y H1 t1 R1 r1
        cases dk with
        | int k =>
          have e : chgS i (fSet k d) τ1 = some τ' := e
          obtain ⟨a', vs', ds', ns, e2, hv', rr, ef, q2⟩ := R1.chg e
          rw [hw] at e2
          cases e2
          obtain ⟨j, hj, rfl⟩ := Option.map_eq_some_iff.mp ef
          rw [← rr.length] at hj
          obtain ⟨t2, R2⟩ := q2 (vs'.set j v) (Rps.set (r.same (R.fz t1)) j rr)
          exact ⟨a', vs', k, j, rfl, Rp.int_iff.mp r1, hv', hj, q _ _ (t1.trans t2) R2⟩
        | _ => cases e
      | exc c xs τ1 => intro e; cases e
      | fail => intro e; cases e
    · rw [if_neg hl] at e
      cases e
end
end Sm
set_option Elab.async false
set_option linter.all false
set_option maxRecDepth 100000
set_option maxHeartbeats 400000
namespace Sm
open PySem PySem.Spec PyProof.Rows L2
section
variable {P : Program} {w : World} {A : Around} {E : Value → Shared → Prop} {s : Shared}
set_option maxHeartbeats 3200000 in
end
end Sm
set_option Elab.async false
set_option linter.all false
set_option maxRecDepth 100000
set_option maxHeartbeats 400000
namespace Sm
open PySem PySem.Spec PyProof.Rows L2
section
variable {L : Lay} {P : Pa} {W : WX} {X : Cx} {E : L2.St → XK} {pos : Pos} {e a b c : Expr} {es : List Expr} {m ma mb mc : M D} {ms : M (List D)}
end
end Sm
set_option Elab.async false
set_option linter.all false
set_option maxRecDepth 100000
set_option maxHeartbeats 400000
namespace Sm
open PySem PySem.Spec PyProof.Rows L2
section
variable {X : Cx}
def pyD (d : D) : PyData := d.py.getD .none
def dlt (a b : D) : Bool := PySem.W.dataLt (pyD a) (pyD b)
def dle (a b : D) : Bool := !dlt b a
def insB {α : Type} (le : α → α → Bool) (x : α) : List α → List α
  | [] => [x]
  | y :: ys => if le x y = true then x :: y :: ys else y :: insB le x ys
def isort {α : Type} (le : α → α → Bool) : List α → List α
  | [] => []
  | x :: xs => insB le x (isort le xs)
def isTup1 : PyData → Bool
  | .tuple (_ :: _) => true
  | _ => false
mutual
def ofPy : PyData → D
  | .none => .non
  | .bool b => .bl b
  | .int i => .int i
  | .str x => .str x
  | .tuple xs => .tup (ofPys xs)
  | .list xs => .lst (ofPys xs)
  | .dict _ => .non
def ofPys : List PyData → List D
  | [] => []
  | x :: xs => ofPy x :: ofPys xs
end
mutual
theorem ofPy_py : ∀ {d : D} {p : PyData}, d.py = some p → ofPy p = d
  | .non, _, e => by unfold D.py at e; cases e; rfl
  | .bl _, _, e => by unfold D.py at e; cases e; rfl
  | .int _, _, e => by unfold D.py at e; cases e; rfl
  | .str _, _, e => by unfold D.py at e; cases e; rfl
  | .tup ds, _, e => by
    unfold D.py at e
    obtain ⟨ps, e1, rfl⟩ := Option.map_eq_some_iff.mp e
    show D.tup (ofPys ps) = _
    rw [ofPys_py e1]
  | .lst ds, _, e => by
    unfold D.py at e
    obtain ⟨ps, e1, rfl⟩ := Option.map_eq_some_iff.mp e
    show D.lst (ofPys ps) = _
    rw [ofPys_py e1]
  | .dct _ _, _, e => by unfold D.py at e; cases e
  | .set _, _, e => by unfold D.py at e; cases e
  | .obj _ _, _, e => by unfold D.py at e; cases e
  | .scr _, _, e => by unfold D.py at e; cases e
  | .exc _ _ _, _, e => by unfold D.py at e; cases e
  | .ins _ _ _, _, e => by unfold D.py at e; cases e
  | .dki _ _, _, e => by unfold D.py at e; cases e
  | .ptup _, _, e => by unfold D.py at e; cases e
theorem ofPys_py : ∀ {ds : List D} {ps : List PyData}, D.pys ds = some ps → ofPys ps = ds
  | [], _, e => by unfold D.pys at e; cases e; rfl
  | d :: ds, _, e => by
    unfold D.pys at e
    obtain ⟨p, e1, e2⟩ := Option.bind_eq_some_iff.mp e
    obtain ⟨qs, e3, rfl⟩ := Option.map_eq_some_iff.mp e2
    show ofPy p :: ofPys qs = _
    rw [ofPy_py e1, ofPys_py e3]
end
end
end Sm
set_option Elab.async false
set_option linter.all false
set_option maxRecDepth 100000
set_option maxHeartbeats 1000000
namespace Sm
open PySem PySem.Spec PyProof.Rows L2
open AutoSeq1 (wpAny_loadPart')
theorem meets_enumT (l : Addr) (xs : Array Value) (n : Nat) (dd : Option Addr) (sl : Array (Option Value)) :
    Meets (Builtin.«enumerate.__new__» ⟨[.type "enumerate", .ref l], []⟩) (fun _ R s => s.heap.get? l = some { cls := .type "tuple", dict := dd, data := .seq xs n, slots := sl } ∧ R (.ok (.ret (.ref (s.heap.push { cls := .type "tuple_iterator", data := .fields #[.ref l, .int 0 0] }).objs.size)))
      { s with heap := (s.heap.push { cls := .type "tuple_iterator", data := .fields #[.ref l, .int 0 0] }).push { cls := .type "enumerate", data := .fields #[.none, .bool false, .ref s.heap.objs.size, rawInt 0, .none, .none] } }) :=
  .of_wp fun prog w A R s h => by
    obtain ⟨hp, g, d, tk, os⟩ := s
    obtain ⟨e1, e2⟩ := h
    have sb := sub_enumerate
    have T : Heap.IsTuple (Shared.heap ⟨hp, g, d, tk, os⟩) l xs := ⟨_, e1, rfl, n, rfl⟩
    wp_walk using wpAny_loadPart' e1
    refine wpAny_stack_any fun st => wpAny_pure ?_
    split
    · rename_i c _ _ _ _ _
      cases (c == Value.type "enumerate") <;> (wp_walk using wpAny_loadPart' e1, wpAny_pyIter_tuple T; exact ⟨_, rfl, e2⟩)
    · wp_walk using wpAny_loadPart' e1, wpAny_pyIter_tuple T; exact ⟨_, rfl, e2⟩
section
variable {prog : Program} {w : World} {A : Around} {E : Value → Shared → Prop} {s : Shared}
theorem call_enumT {l : Addr} {xs : Array Value} {Q : Value → Shared → Prop} (T : s.heap.IsTuple l xs)
    (h : ∀ h', IsEnum h' (s.heap.objs.size + 1) s.heap.objs.size 0 .none → h'.IsTupleIter s.heap.objs.size l 0 → (∀ b o, s.heap.get? b = some o → h'.get? b = some o) → Q (.ref (s.heap.objs.size + 1)) { s with heap := h' }) : wpAny (model prog w) A (call (.type "enumerate") [.ref l]) Q E s := by
  obtain ⟨⟨c, dd, dt, sl⟩, hl, hc, n, hd⟩ := T
  have hc : c = .type "tuple" := hc
  have hd : dt = .seq xs n := hd
  subst hc hd
  refine callType_new F.called_enumerate (by decide) (F.typeCall_enumerate_1 _) (F.newCall_enumerate_1 _) (fun obj => F.args_object_init_2 obj _) F.entry_enumerate_new (meets_enumT l xs n dd sl) ⟨hl, ?_⟩
  have hz : (s.heap.push { cls := .type "tuple_iterator", data := .fields #[.ref l, .int 0 0] }).objs.size = s.heap.objs.size + 1 := Heap.size_push ..
  rw [hz]
  have he : IsEnum ((s.heap.push { cls := .type "tuple_iterator", data := .fields #[.ref l, .int 0 0] }).push { cls := .type "enumerate", data := .fields #[.none, .bool false, .ref s.heap.objs.size, rawInt 0, .none, .none] }) (s.heap.objs.size + 1) s.heap.objs.size 0 .none := by
    have q := Heap.get?_push_size (s.heap.push { cls := .type "tuple_iterator", data := .fields #[.ref l, .int 0 0] }) (o := { cls := .type "enumerate", data := .fields #[.none, .bool false, .ref s.heap.objs.size, rawInt 0, .none, .none] }) rfl
    rw [hz] at q; exact q
  exact ⟨⟨_, he, rfl⟩, h _ he ⟨_, Heap.get?_push_of_some _ (Heap.get?_push_size _ rfl), rfl, rfl⟩ fun b o x => Heap.get?_push_of_some _ (Heap.get?_push_of_some _ x)⟩
end
theorem drawsT {prog : Program} {w : World} {A : Around} (hh : A.handled = none) (it l : Addr) (hne : l ≠ it) (xs : Array Value) :
    Draws prog w A it [it, l] xs.size (fun i v => xs[i]? = some v) (fun i h => h.IsTupleIter it l i ∧ h.IsTuple l xs) :=
  ⟨fun _ _ st => let ⟨o, ho, _⟩ := st.1; ⟨o, ho⟩, fun _ _ _ st hk => ⟨st.1.at fun o e => hk it (by simp) o e, st.2.at fun o e => hk l (by simp) o e⟩,
    fun i s Q E hi st hQ => RZ.nextOf_tuple_item st.1 st.2 (x := xs[i]) (by simp [hi]) fun h' q1 q2 => hQ _ h' s.toks (by simp [hi]) ⟨q1, st.2.extBut q2.extBut hne⟩ q2,
    fun s Q E st hE => RZ.nextOf_tuple_end hh st.1 st.2 (by simp) hE⟩
section
variable {prog : Program} {w : World} {A : Around} {E : Value → Shared → Prop} {s : Shared}
theorem enumT_end {e it l : Addr} {i : Nat} {xs : Array Value} {j : Int} {old : Value} {Q : Option Value → Shared → Prop} (hh : A.handled = none) (he : IsEnum s.heap e it j old) (hit : s.heap.IsTupleIter it l i) (hl : s.heap.IsTuple l xs) (hx : xs[i]? = none)
    (q : ∀ h', Heap.ExtBut it s.heap h' → Q none { s with heap := h' }) : wpAny (model prog w) A (pyNext (.ref e)) Q E s := by
  have T : s.TypeIs (.ref e) "enumerate" := ⟨_, he, rfl⟩
  unfold pyNext
  refine wpAny_bind (wpAny_attempt (wpAny_callSpecial?_slot (name := Str.ofString "__next__") T F.slot_enumerate_next (wpAny_call_entry F.slot_enumerate_next T F.entry_enumerate_next ?_ (F.args_enumerate_next_1 _))))
  show wpAny _ _ (field (.ref e) 2 >>= _) _ _ _
  refine wpAny_bind (wpAny_field he rfl (x := .ref it) rfl (wpAny_bind (RZ.nextOf_tuple_end hh hit hl hx fun h' x he' hx' => ?_)))
  obtain ⟨o, ho, hc⟩ := hx'
  exact wpAny_bind (wpAny_isInstance (T := "StopIteration") (b := true) ⟨o, ho, hc⟩ isSubtype_stop (wpAny_pure (q _ he')))
end
def IteT (K : PySem.W.Frag) (a : Addr) : It :=
  ⟨fun i H => ∃ (xs : List V) (x : V), SqT K H a xs ∧ xs[i]? = some x, fun i H v H' => ∃ T x, v = .ref T ∧ H T = none ∧ H' = upd H T (.tup [.int (i : Nat), x]) ∧ ∀ xs, SqT K H a xs → xs[i]? = some x, fun i H => ∃ xs : List V, SqT K H a xs ∧ xs.length ≤ i⟩
theorem turn_enumT {P : Program} {w : World} {K : PySem.W.Frag} {elts : List Expr} {kk : Nat} {tpos : Pos} (a e it : Addr) :
    Turn P w K (.Tuple elts kk tpos) (IteT K a) [e, it] e (fun i h => (∃ old, IsEnum h e it ((i : Nat) : Int) old) ∧ h.IsTupleIter it a i ∧ e ≠ it ∧ a ≠ it ∧ e ≠ a) where
  mem := by simp
  obj := fun i h st b hb => by
    obtain ⟨⟨old, he⟩, ⟨o, ho, hc, hd⟩, _⟩ := st
    rcases (show b = e ∨ b = it by simpa using hb) with rfl | rfl
    · exact ⟨_, he, fun v q => nomatch q⟩
    · exact ⟨o, ho, fun v q => by rw [hd] at q; cases q⟩
  keep := fun i h h' st k => let ⟨⟨old, he⟩, hi, hne⟩ := st; ⟨⟨old, k e (by simp) _ he⟩, hi.at fun o q => k it (by simp) o q, hne⟩
  item := by
    intro X hP hw hK hc i pins s σ H E I hf st hg
    subst hP hw hK
    obtain ⟨⟨old, he⟩, hit, hne, hai, hea⟩ := st
    obtain ⟨xs, x, hq, hx⟩ := hg
    obtain ⟨its, rv, p, hz⟩ := I.tuple hq
    obtain ⟨u, hu, ru⟩ := rv.get hx
    have hel : e < s.heap.objs.size := Heap.lt_size he
    have hil : it < s.heap.objs.size := by obtain ⟨_, q, _⟩ := hit; exact Heap.lt_size q
    have hlt : i < its.toArray.size := by have := (List.getElem?_eq_some_iff.mp hu).1; simpa using this
    refine wpAny_pyNext_enum_itemD (drawsT (prog := X.prog) (w := X.w) (A := X.A.in1) (I.ok.hd hc) it a hai its.toArray) he ⟨hit, p⟩ hlt hne (by simp [hne, hea]) fun x' h' tk hP ho hit' hT hsz hk => ?_
    have ex : x' = u := by
      have q : its.toArray[i]? = some u := by simpa using hu
      rw [q] at hP
      exact (Option.some.inj hP).symm
    subst ex
    refine ⟨_, rfl, wpAny_letOwnedTupleGo_enum (s := { s with heap := h', toks := tk + 1 }) ho fun h'' he' sb => ?_⟩
    have hT2 := (sb.2 _ (Nat.ne_of_gt hel)).trans hT
    have new : ObjOk X.prog X.w (upd H s.heap.objs.size (.tup [.int (i : Nat), x])) h'' s.heap.objs.size (.tup [.int (i : Nat), x]) := ⟨by show 2 ≤ sizeLine; decide, [.int i tk, x'], .cons ⟨_, rfl⟩ (.cons ru .nil), ⟨_, hT2, rfl, _, rfl⟩⟩
    have I1 : Inv X pins σ (upd H s.heap.objs.size (.tup [.int (i : Nat), x])) { s with heap := h'', toks := tk + 1 } := I.turnedNew (ch := [e, it]) (fun b ob hb q => (sb.2 b (fun z => hb (by simp [z]))).trans (hk b ob (fun z => hb (by simp [z])) (fun z => hb (by simp [z])) q)) hf (Nat.le_refl _) new
    have e1 : ((i + 1 : Nat) : Int) = (i : Int) + 1 := by omega
    refine ⟨.ref s.heap.objs.size, _, I1, rfl, ⟨_, x, rfl, I.hok.fresh (Nat.le_refl _), rfl, fun ys hy => by rw [I.tuple_inj hy hq]; exact hx⟩, ⟨⟨x', by rw [e1]; exact he'⟩, hit'.1.at fun o q => (sb.2 it (Ne.symm hne)).trans q, hne, hai, hea⟩, fun b hb => ?_⟩
    have hb' : b < s.heap.objs.size := by
      rcases (show b = e ∨ b = it by simpa using hb) with rfl | rfl
      · exact hel
      · exact hil
    rw [upd_ne (Nat.ne_of_lt hb')]
    exact (hf b hb).1
  done := by
    intro X hP hw hK hc i pins s σ H E I hf st hg
    subst hP hw hK
    obtain ⟨⟨old, he⟩, hit, hne, hai, hea⟩ := st
    obtain ⟨xs, hq, hx⟩ := hg
    obtain ⟨its, rv, p, hz⟩ := I.tuple hq
    obtain ⟨f0, f1, f2, f3, f4, f5⟩ := hf it (by simp)
    have hl := rv.length
    exact enumT_end (I.ok.hd hc) he hit p (by simp; omega) fun h' eb => ⟨rfl, I.turned (t' := s.toks) (fun b o hb q => eb b o hb q) f0 f1 f3 f4 f5⟩
  self := fun A i s Q E st h => let ⟨⟨_, he⟩, _⟩ := st; wpAny_pyIter_enum he h

def iEnum2 (K : PySem.W.Frag) (ta : TA) : TI := fun σ H R => ta σ H fun vs H1 => ∃ a xs, vs = [.ref a] ∧ ((SqL K H1 a xs ∧ R (Ite K a) H1) ∨ (SqT K H1 a xs ∧ R (IteT K a) H1))
theorem pi_enum2 {X : Cx} {e : Expr} {ta : TA} {p pos tpos : Pos} {elts : List Expr} {kk : Nat} (hg : Gl X "enumerate") (hm : X.mg "enumerate" = none) (ha : PA X [e] ta) (hs : starEach [e] X.env = [(false, eval e X.env)] := by rfl) : PI X (.Tuple elts kk tpos) (.Call (.Name "enumerate" p) [e] [] pos) (iEnum2 X.K ta) := by
  refine ⟨fun pins s σ H R I h => Call_ (ld_blt I hg hm boot_enumerate (PyProof.Rows.callWith_type1 (thn (ha.run pos pins s σ H _ I h) fun us s1 ⟨vs, H1, I1, r1, q1⟩ => ?_) hs rfl))⟩
  obtain ⟨a, xs, ex, hq⟩ := q1
  subst ex
  cases r1 with
  | cons r rr =>
    cases rr
    cases r
    have cut : ∀ h' : Heap, (∀ b o, s1.heap.get? b = some o → h'.get? b = some o) → ∀ b, b ∈ [s1.heap.objs.size + 1, s1.heap.objs.size] → _ := fun h' hk b hb => by
      have hle : s1.heap.objs.size ≤ b := by
        rcases (show b = s1.heap.objs.size + 1 ∨ b = s1.heap.objs.size by simpa using hb) with rfl | rfl
        · exact Nat.le_add_right _ _
        · exact Nat.le_refl _
      exact I1.fpOk hle (I1.hok.fresh hle)
    rcases hq with ⟨hq, q⟩ | ⟨hq, q⟩
    · obtain ⟨its, rv, p', hz⟩ := I1.list hq
      refine call_enumerate_list p'.isList fun h' he hit hsz hk => wpAny_pyIter_enum he ?_
      exact ⟨s1.heap.objs.size + 1, [s1.heap.objs.size + 1, s1.heap.objs.size], _, _, H1, rfl, I1.kept (t' := s1.toks) hk, turn_enum a (s1.heap.objs.size + 1) s1.heap.objs.size, ⟨⟨.none, he⟩, hit, Nat.succ_ne_self _⟩, cut h' hk, q⟩
    · obtain ⟨its, rv, p', hz⟩ := I1.tuple hq
      have hal : a < s1.heap.objs.size := by obtain ⟨o, ho, _⟩ := p'; exact Heap.lt_size ho
      refine call_enumT p' fun h' he hit hk => wpAny_pyIter_enum he ?_
      exact ⟨s1.heap.objs.size + 1, [s1.heap.objs.size + 1, s1.heap.objs.size], _, _, H1, rfl, I1.kept (t' := s1.toks) hk, turn_enumT a (s1.heap.objs.size + 1) s1.heap.objs.size, ⟨⟨.none, he⟩, hit, Nat.succ_ne_self _, Nat.ne_of_lt hal, Nat.ne_of_gt (Nat.lt_succ_of_lt hal)⟩, cut h' hk, q⟩
section
variable {L : Lay} {P : Pa} {W : WX} {X : Cx} {E : L2.St → XK} {pos : Pos} {e a b c : Expr} {es : List Expr} {m ma mb mc : M D} {ms : M (List D)}
theorem iteT_ok {a : Addr} {vs : List V} {xs : List D} {F : Hp} (s : SqT L.K F a vs) (r : Rps L F xs vs) : ItR L (IteT L.K a) (fun H2 A2 => Same F (hid H2 A2)) (enumD 0 xs) := by
  intro i H A g hA
  have q : SqT L.K H a vs := SqT.same (g.trans hid_le) s
  rw [enumD_get]
  cases e : xs[i]? with
  | none => exact ⟨fun d e => (by cases e), fun _ => ⟨vs, q, by rw [r.length]; exact List.getElem?_eq_none_iff.mp e⟩⟩
  | some x =>
    refine ⟨fun d ed => ?_, fun e => (by cases e)⟩
    cases ed
    obtain ⟨v, hv, rv⟩ := r.get e
    refine ⟨⟨vs, v, q, hv⟩, fun t H' yy => ?_⟩
    obtain ⟨T, x1, rfl, hT, rfl, f1⟩ := yy
    cases (Option.some.inj (hv.symm.trans (f1 vs q)) : v = x1)
    rw [show (0 : Int) + (i : Nat) = (i : Nat) from Int.zero_add _]
    exact ⟨same_upd hT, new_tup2 hA hT .mk_int (rv.same g)⟩
def enum2 : List D → Option (List D)
  | [.lst xs] => some (enumD 0 xs)
  | [.tup xs] => some (enumD 0 xs)
  | _ => none
theorem sI_enum2 {a : Expr} {p tpos : Pos} {elts : List Expr} {kk : Nat} (hK : X.K = L.K) (hg : Gl X "enumerate") (hm : X.mg "enumerate" = none) (ha : SA L P E X [a] ms) (hs : starEach [a] X.env = [(false, eval a X.env)] := by rfl) : SI L P E X (.Tuple elts kk tpos) (.Call (.Name "enumerate" p) [a] [] pos) (mOns enum2 ms) :=
  PI.weak (pi_enum2 hg hm ha hs) fun σ H R h => by
    obtain ⟨τ, R0, h⟩ := tI_args h
    refine ⟨τ, R0, h.imp fun vs H1 ⟨d, ds, τ1, R1, r1, e, q⟩ => ?_⟩
    rw [hK]
    unfold enum2 at e
    split at e
    · cases e
      obtain ⟨v, rfl, rv⟩ := r1.one
      obtain ⟨a1, us, rfl, s1, q1⟩ := Rp.lst_iff.mp rv
      exact ⟨a1, us, rfl, .inl ⟨.inl (.inl (hid_le _ _ s1)), q _ H1 .refl R1 (ite_ok s1 q1)⟩⟩
    · cases e
      obtain ⟨v, rfl, rv⟩ := r1.one
      obtain ⟨a1, us, rfl, s1, q1⟩ := Rp.tup_iff.mp rv
      exact ⟨a1, us, rfl, .inr ⟨SqT.same hid_le s1, q _ H1 .refl R1 (iteT_ok s1 q1)⟩⟩
    · cases e

def OpF (L : Lay) (r : R2) (f : D → D → Option (List D)) : Prop :=
  ∀ (a b : D) (ns : List D) (x y : V) (H : Hp) (A : Addr → Prop) (Q : VK), f a b = some ns → Bp L (hid H A) H a x → Bp L (hid H A) H b y → Th H A →
    (∀ p vs, H p = none → Rps L (hid H A) ns vs → Q (.ref p) (upd H p (.lst vs))) → r x y H Q
def nAdd : D → D → Option (List D)
  | .lst xs, .lst ys => small (xs ++ ys)
  | _, _ => none
def dAddF (a b : D) : Option D := (nAdd a b).map .lst
theorem of_add : OpF L rCat nAdd := by
  intro a b ns x y H A Q e ra rb hA q
  cases a with
  | lst xs =>
    cases b with
    | lst ys =>
      obtain ⟨rfl, hz⟩ := small_some (show small (xs ++ ys) = some ns from e)
      obtain ⟨p, vs, rfl, h, rr⟩ := ra.lst
      obtain ⟨p', vs', rfl, h', rr'⟩ := rb.lst
      refine ⟨p, p', vs, vs', rfl, rfl, h, h', ?_, fun l hl => q l _ hl (rr.app rr')⟩
      rw [rr.length, rr'.length, ← List.length_append]
      exact hz
    | _ => cases e
  | _ => cases e
theorem Post.toG {γ δ : Type} {R : Hp → γ → δ → Prop} {H : Hp} {σ : L2.St} {τ : List Sl} {r : Res γ} {f : γ → M D} {Q : VK} {e : XK} (h : PostF L P H σ τ (r.bind f) Q e) :
    Post L P R H σ τ r (fun v H1 => ∃ a τ1, Tr H (Own σ τ) H1 (Own σ τ1) ∧ StR L P H1 σ τ1 ∧ R (hid H1 (Hd P σ τ1)) a v ∧ PostF L P H1 σ τ1 (f a τ1) Q e) e := by
  cases r with
  | ok a τ1 =>
    intro v H1 t1 R1 r1
    refine ⟨a, τ1, t1, R1, r1, ?_⟩
    have h : PostF L P H σ τ (f a τ1) Q e := h
    revert h
    cases f a τ1 with
    | ok d τ2 => exact fun h a H' x y z => h a H' (t1.trans x) y z
    | exc c xs τ2 => exact fun h a b H' x y z => h a b H' (t1.trans x) y z
    | fail => exact fun h => h
  | exc c xs τ2 => exact h
  | fail => exact h
theorem tPkF_of {r : R2} {f : D → D → Option (List D)} {i : Nat} (ho : OpF L r f) (σ : L2.St) (H : Hp) (Q : VK) (h : tF L P E (mPk i (fun a b => (f a b).map .lst) mb) σ H Q) : tOp r (tVar i) (tE L P E mb) σ H Q := by
  obtain ⟨τ, R, h⟩ := h
  unfold mPk at h
  split at h
  · exact h.elim
  · rename_i d0 e0
    obtain ⟨v, hv, _⟩ := peek_ok R e0
    refine ⟨v, hv, τ, R, (Post.toG (R := RV L) h).imp fun y H2 ⟨d2, τ2, t2, R2, r2, h2⟩ => ?_⟩
    cases e1 : peek i τ2 with
    | none => rw [e1] at h2; exact h2.elim
    | some d1 =>
      rw [e1] at h2
      replace h2 : PostF L P H2 σ τ2 (Res.lift ((f d1 d2).map .lst) τ2) Q (E σ) := h2
      obtain ⟨v', hv', rb⟩ := peek_ok R2 e1
      rw [hv] at hv'
      cases hv'
      cases e : f d1 d2 with
      | none => rw [e] at h2; exact h2.elim
      | some ns =>
        rw [e] at h2
        exact ho d1 d2 ns v y H2 (Hd P σ τ2) Q e rb (r2.bp hid_le) R2.ths fun p vs hp rr => PostF.new R2 h2 hp rr
theorem sF_addP {x : Str} {p : Pos} (i : Nat) (hb : SE L P E X b mb) (hN : X.N[i]? = some x := by rfl) (hv : Vis X.env.scope x := by first | exact Or.inl rfl | exact Or.inr (Or.inl rfl) | exact Or.inr (Or.inr rfl)) (hd : (x == ("__debug__" : Str)) = false := by decide)
    (hcd : (x == ("__classdict__" : Str)) = false := by decide) : SF L P E X (.BinOp (.Name x p) .Add b pos) (mPk i dAddF mb) :=
  PE.weak (pe_op op_cat (pe_var hN hv hd hcd) hb) fun σ H Q h => tPkF_of of_add σ H Q h
end
end Sm
set_option Elab.async false
set_option linter.all false
set_option maxRecDepth 100000
set_option maxHeartbeats 400000
namespace Sm
open PySem PySem.Spec PyProof.Rows L2
section
variable {L : Lay} {P : Pa} {W : WX} {X : Cx} {E : L2.St → XK} {pos : Pos} {e : Expr} {m : M D}
theorem passNo (σ : L2.St) : PassesAt (L2.CX X.prog X.w) X σ (Eno σ) := fun _ _ _ _ _ _ ⟨_, _, _, _, _, _, _, _, _, _, _, _, h⟩ => h.elim
theorem passB {Pr : Program} {w : World} {K : PySem.W.Frag} {mg : Str → Option Value} {base : Heap} {N : List Str} {qual : Str} {sc : Scope} {f : Addr} {cdv : Value} {A : Around} {outer : List Env} {s : Shared} {H : Hp} {E : XK} (σ : L2.St) :
    PassesAt (L2.CX Pr w) (cxB Pr w K mg base N qual sc f cdv A outer s H E) σ (WE (Wof E) σ) :=
  passAt (X := cxB Pr w K mg base N qual sc f cdv A outer s H E) (W := Wof E) (takes_of (X := cxB Pr w K mg base N qual sc f cdv A outer s H E) rfl rfl rfl rfl) σ
theorem ownB {Pr : Program} {w : World} {K : PySem.W.Frag} {mg : Str → Option Value} {base : Heap} {N : List Str} {qual : Str} {sc : Scope} {f : Addr} {cdv : Value} {A : Around} {outer : List Env} {s : Shared} {H : Hp} {E : XK} :
    PassesOwn (model Pr w) (cxB Pr w K mg base N qual sc f cdv A outer s H E).A (cxB Pr w K mg base N qual sc f cdv A outer s H E).env (cxB Pr w K mg base N qual sc f cdv A outer s H E).xe :=
  passes_of (X := cxB Pr w K mg base N qual sc f cdv A outer s H E) rfl
theorem bd_of {x qual : Str} {st : Stmt} {f : Addr} {fd : FuncData} {ps : List Str} (F : Fun L.K x qual st f fd) (n : Nat) (ks : List Str) (ix : List Nat)
    (h : ∀ (kV doc pm : Value) (an : Option Addr) (cdv ct : Value) (us ws : List Value), us.length = n → ws.length = ks.length → bindArgs (PySem.W.fnOf x qual (defArgs st) (defBody st) (defScope st) .none kV doc pm an cdv ct) ⟨us, ks.zip ws⟩ = pure (ps.zip (ix.map fun i => (us ++ ws ++ []).getD i Value.none))) : Bd L fd ps n ks ix [] := by
  obtain ⟨oc, od, kV, doc, pm, an, cdv, ct, osl, rfl, lk, hcd⟩ := F.ex
  exact ⟨[], [], .nil, fun _ => .nil, fun s us ws _ h1 h2 => .of_eq (h kV doc pm an cdv ct us ws h1 h2)⟩
theorem fn_fail {Pr : Program} {w : World} {mg : Str → Option Value} {base : Heap} {f : Addr} {fd : FuncData} {ps : List Str} {k : Nat} {io : List Bool} : FnOk Pr w L.K mg base (L2.CX Pr w) k f fd ps (spF L io fun _ => .fail) :=
  ⟨fun _ _ _ _ ⟨_, _, _, _, h⟩ => h.elim, fun _ _ _ _ _ _ _ _ _ _ _ _ _ ⟨_, _, _, _, h⟩ => h.elim⟩
variable {a b : Expr} {ma mb : M D} {rest : List Expr}
theorem room65 {k : Nat} {A : Around} (r : Room k A) : A.units + 65 < cLine := by have := r.un; omega
theorem sE_one {op : BoolOp} (h : SE L P E X a ma) : SE L P E X (.BoolOp op [a] pos) ma := pe_one h
def mAndV (a b : M D) : M D := fun τ => (a τ).bind fun x => fun τ => (Res.lift (truD x) τ).bind fun k => fun τ => if k = true then b τ else .ok x τ
theorem sE_andC (hK : X.K = L.K) (ha : SE L P E X a ma) (hb : SE L P E X (.BoolOp .And (b :: rest) pos) mb) : SE L P E X (.BoolOp .And (a :: b :: rest) pos) (mAndV ma mb) :=
  PE.weak (pe_andT ha hb) fun σ H Q ⟨τ, R, h⟩ => by
    refine ⟨τ, R, (Post.split (R := RV L) h).imp fun x H1 ⟨d1, τ1, t1, R1, r1, h1⟩ => ?_⟩
    obtain ⟨k, e, q⟩ := (Post.split (R := RB) h1).lift
    refine ⟨k, by rw [hK]; exact truV_ok hid_le (r1.bp hid_le) e, ?_⟩
    obtain ⟨b', τ3, t3, R3, rb, h3⟩ := q k H1 .refl R1 rfl
    cases rb
    cases k with
    | false => rw [if_neg Bool.false_ne_true] at h3 ⊢; exact h3 x H1 .refl R3 (r1.same (R1.fz t3))
    | true => rw [if_pos rfl] at h3 ⊢; exact ⟨τ3, R3, h3⟩
def mNotV (a : M D) : M D := fun τ => (a τ).bind fun x => fun τ => Res.lift ((truD x).map fun k => .bl (!k)) τ
theorem sE_notV (hK : X.K = L.K) (ha : SE L P E X a ma) : SE L P E X (.UnaryOp .Not a pos) (mNotV ma) :=
  PE.weak (pe_notT ha) fun σ H Q ⟨τ, R, h⟩ => by
    refine ⟨τ, R, (Post.split (R := RV L) h).imp fun x H1 ⟨d1, τ1, t1, R1, r1, h1⟩ => ?_⟩
    obtain ⟨d, e, q⟩ := h1.done R1
    obtain ⟨k, e1, rfl⟩ := Option.map_eq_some_iff.mp e
    exact ⟨k, by rw [hK]; exact truV_ok hid_le (r1.bp hid_le) e1, q _ H1 (.refl _) .mk_bl⟩
end
theorem bt_len : bootBuiltins "len" = some (.builtin "len") := by decide +kernel
theorem bt_abs : bootBuiltins "abs" = some (.builtin "abs") := by decide +kernel
theorem bt_sum : bootBuiltins "sum" = some (.builtin "sum") := by decide +kernel
theorem bt_all : bootBuiltins "all" = some (.builtin "all") := by decide +kernel
theorem bt_int : bootBuiltins "int" = some (.type "int") := by decide +kernel
theorem bt_tuple : bootBuiltins "tuple" = some (.type "tuple") := by decide +kernel
theorem bt_list : bootBuiltins "list" = some (.type "list") := by decide +kernel
end Sm
set_option Elab.async false
set_option linter.all false
set_option maxRecDepth 100000
set_option maxHeartbeats 400000
namespace Sm
open PySem PySem.Spec PyProof.Rows L2
section
variable {L : Lay} {P : Pa} {W : WX} {X : Cx} {E : L2.St → XK} {pos p p' : Pos} {a b : Expr} {ma mb : M D} {ms : M (List D)}
end
end Sm
set_option Elab.async false
set_option linter.all false
set_option maxRecDepth 100000
set_option maxHeartbeats 400000
namespace Sm
open PySem PySem.Spec PyProof.Rows L2
def RF.yes : RF → Bool
  | .ok (.bl true) _ => true
  | _ => false
theorem law_sp {L : Lay} {f : List D → RF} {H : Hp} {a : Addr} {ns : List Int} (h : (f [.scr (ns.map .int)]).yes = true) (hS : SqL L.K H a (ns.map V.int)) : spF L [false] f [.ref a] H (fun v _ => v = .bl true) fun _ _ _ => False := by
  have no : ∀ i b, ¬ OwnAt [some (V.ref a)] [Sl.fz (.scr (ns.map .int))] i b := fun i b ⟨_, t, et, ow⟩ => by
    match i, et with
    | 0, et => cases et; cases ow
    | i + 1, et => cases et
  refine ⟨[.scr (ns.map .int)], fun _ => False, rfl, ⟨rfl, fun i j b x => (no i b x).elim, fun b ⟨i, x⟩ => (no i b x).elim, fun _ h => h.elim, fun i t et => ?_⟩, ?_⟩
  · match i, et with
    | 0, et =>
      cases et
      refine ⟨.ref a, rfl, Rp.scr_iff.mpr ⟨a, _, rfl, ?_, Rp.ofInts ns⟩⟩
      have s : ∀ o, ¬ MkH o → H a = some o → hid H (Hd ⟨[.ref a], fun _ => False⟩ [some (.ref a)] [Sl.fz (.scr (ns.map .int))]) a = some o := fun o m e => hid_some.mpr ⟨e, fun z => z.elim (fun ⟨i, x⟩ => no i a x) fun z => z, m⟩
      rcases hS with (h | ⟨o, h⟩) | h
      · exact .inl (.inl (s _ NoMk.no h))
      · exact .inl (.inr ⟨o, s _ NoMk.no h⟩)
      · exact .inr h
    | i + 1, et => cases et
  · revert h
    cases f [.scr (ns.map .int)] with
    | ok d outs =>
      intro h v H' _ _ r
      cases d with
      | bl b =>
        cases b with
        | true => exact Rp.bl_iff.mp r
        | false => cases h
      | _ => cases h
    | _ => intro h; cases h
theorem noCX {Pr : Program} (w : World) (H : Hp) (s : Shared) (e : Value) (s' : Shared) (h : L2.CX Pr w [] H s (fun _ _ _ => False) e s') : False := by
  obtain ⟨_, _, _, _, _, _, _, _, _, _, _, _, h⟩ := h
  exact h
end Sm
set_option Elab.async false
set_option linter.all false
set_option maxRecDepth 100000
set_option maxHeartbeats 400000
namespace Sm
open PySem PySem.Spec PyProof.Rows L2
section
variable {α β : Type} {t : Sl} {τ : List Sl} {ma mb mc m : M D} {ms ms' mk : M (List D)} {mr : M (List Ar)} {f f' : D → D → Option D} {g : D → Option D} {na nb nt : M Bool} {i j : Nat} {d : D} {sa sb : MS} {F : List D → Option D} {FF : List D → Option (List D)}
@[simp] theorem ev_op : mOp f ma mb (t :: τ) = (ma (t :: τ)).bind fun x => fun τ => (mb τ).bind fun y => fun τ => Res.lift (f x y) τ := rfl
@[simp] theorem ev_un : mUn g ma (t :: τ) = (ma (t :: τ)).bind fun x => fun τ => Res.lift (g x) τ := rfl
@[simp] theorem ev_b : mB m (t :: τ) = (m (t :: τ)).bind fun x => fun τ => Res.lift (asB x) τ := rfl
@[simp] theorem ev_c : mC d (t :: τ) = .ok d (t :: τ) := rfl
@[simp] theorem ev_var : mVar i (t :: τ) = match (t :: τ)[i]? with | some (.fz d) => .ok d (t :: τ) | some (.ow d) => .ok d ((t :: τ).set i (.fz d)) | _ => .fail := rfl
@[simp] theorem ev_nil : mNil (t :: τ) = .ok [] (t :: τ) := rfl
@[simp] theorem ev_cons : mCons m ms (t :: τ) = (m (t :: τ)).bind fun x => fun τ => (ms τ).bind fun xs => fun τ => .ok (x :: xs) τ := rfl
@[simp] theorem ev_tup : mTup ms (t :: τ) = (ms (t :: τ)).bind fun xs => fun τ => Res.lift ((small xs).map D.tup) τ := rfl
@[simp] theorem ev_lst : mLst ms (t :: τ) = (ms (t :: τ)).bind fun xs => fun τ => Res.lift ((small xs).map D.lst) τ := rfl
@[simp] theorem ev_and : mAnd na nb (t :: τ) = (na (t :: τ)).bind fun k => fun τ => if k = true then nb τ else .ok false τ := rfl
@[simp] theorem ev_or : mOr na nb (t :: τ) = (na (t :: τ)).bind fun k => fun τ => if k = true then .ok true τ else nb τ := rfl
@[simp] theorem ev_not : mNot na (t :: τ) = (na (t :: τ)).bind fun k => fun τ => .ok (!k) τ := rfl
@[simp] theorem ev_if {x y : M α} : mIf na x y (t :: τ) = (na (t :: τ)).bind fun k => fun τ => if k = true then x τ else y τ := rfl
@[simp] theorem ev_nx : mNx (t :: τ) = .nx (t :: τ) := rfl
@[simp] theorem ev_seq : mSeq sa sb (t :: τ) = (sa (t :: τ)).then sb := rfl
@[simp] theorem ev_bk : mBk (t :: τ) = .bk (t :: τ) := rfl
@[simp] theorem ev_ct : mCt (t :: τ) = .ct (t :: τ) := rfl
@[simp] theorem ev_ret : mRet m (t :: τ) = (m (t :: τ)).st fun d τ => .rt d τ := rfl
@[simp] theorem ev_retN : mRetN (t :: τ) = .rt .non (t :: τ) := rfl
@[simp] theorem ev_retO : mRetO m (t :: τ) = (m (t :: τ)).st fun d τ => .ro d τ := rfl
@[simp] theorem ev_ifS : mIfS na sa sb (t :: τ) = (na (t :: τ)).st fun k τ => if k = true then sa τ else sb τ := rfl
@[simp] theorem ev_drop : mDrop m (t :: τ) = (m (t :: τ)).st fun _ τ => .nx τ := rfl
@[simp] theorem ev_set : mSet i m (t :: τ) = (m (t :: τ)).st fun d τ => SR.opt (setFz i d τ) := rfl
@[simp] theorem ev_setO : mSetO i m (t :: τ) = (m (t :: τ)).st fun d τ => SR.opt (setOw i d τ) := rfl
@[simp] theorem ev_par : mPar i j ma mb (t :: τ) = (ma (t :: τ)).st fun a τ => (mb τ).st fun b τ => SR.opt ((setFz i a τ).bind (setFz j b)) := rfl
@[simp] theorem ev_asg {q : MG} : mAsg q m (t :: τ) = (m (t :: τ)).st fun d τ => SR.opt (q d τ) := rfl
@[simp] theorem ev_setFz : setFz i d (t :: τ) = match (t :: τ)[i]? with | some s => if s.free = true then some ((t :: τ).set i (.fz d)) else none | none => none := rfl
@[simp] theorem ev_setOw : setOw i d (t :: τ) = match (t :: τ)[i]? with | some s => if s.free = true then some ((t :: τ).set i (.ow d)) else none | none => none := rfl
@[simp] theorem free_un : Sl.un.free = true := rfl
@[simp] theorem free_fz : (Sl.fz d).free = true := rfl
@[simp] theorem free_ow : (Sl.ow d).free = true := rfl
@[simp] theorem ev_gN : gN i d (t :: τ) = setFz i d (t :: τ) := rfl
@[simp] theorem ev_gNil : Sm.gNil [] (t :: τ) = some (t :: τ) := rfl
@[simp] theorem ev_gCons {q : MG} {qs : MGs} {ds : List D} : Sm.gCons q qs (d :: ds) (t :: τ) = (q d (t :: τ)).bind (qs ds) := rfl
@[simp] theorem ev_gT {n : Nat} {qs : MGs} {ds : List D} : gT n qs (.tup ds) (t :: τ) = if ds.length = n then qs ds (t :: τ) else none := rfl
@[simp] theorem ev_gTl {n : Nat} {qs : MGs} {ds : List D} : gT n qs (.lst ds) (t :: τ) = if ds.length = n then qs ds (t :: τ) else none := rfl
@[simp] theorem ev_gIx : gIx i m d (t :: τ) = if isLst (peek i (t :: τ)) = true then (m (t :: τ)).ixO fun k τ => chgS i (fSet k d) τ else none := rfl
@[simp] theorem ev_peek : peek i (t :: τ) = ((t :: τ)[i]?).bind Sl.get := rfl
@[simp] theorem get_fz : Sl.get (.fz d) = some d := rfl
@[simp] theorem get_ow : Sl.get (.ow d) = some d := rfl
@[simp] theorem get_io : Sl.get (.io i d) = some d := rfl
@[simp] theorem isLst_lst {ds : List D} : isLst (some (.lst ds)) = true := rfl
@[simp] theorem ev_chg {h : List D → Option (List D)} : chgS i h (t :: τ) = ((t :: τ)[i]?).bind fun s => (s.chg h).map fun s' => (t :: τ).set i s' := rfl
@[simp] theorem chg_ow {h : List D → Option (List D)} {ds : List D} : Sl.chg h (.ow (.lst ds)) = (h ds).map fun ns => .ow (.lst ns) := rfl
@[simp] theorem chg_io {h : List D → Option (List D)} {ds : List D} : Sl.chg h (.io i (.lst ds)) = (h ds).map fun ns => .io i (.lst ns) := rfl
@[simp] theorem ev_pk : mPk i f mb (t :: τ) = match peek i (t :: τ) with | none => .fail | some _ => (mb (t :: τ)).bind fun y => fun τ => Res.lift ((peek i τ).bind fun x => f x y) τ := rfl
@[simp] theorem ev_ch : mCh f f' ma mb mc (t :: τ) = (ma (t :: τ)).bind fun x => fun τ => (mb τ).bind fun y => fun τ => (Res.lift ((f x y).bind asB) τ).bind fun k => fun τ => if k = true then (mc τ).bind fun z => fun τ => Res.lift (f' y z) τ else .ok (.bl false) τ := rfl
@[simp] theorem ev_andV : mAndV ma mb (t :: τ) = (ma (t :: τ)).bind fun x => fun τ => (Res.lift (truD x) τ).bind fun k => fun τ => if k = true then mb τ else .ok x τ := rfl
@[simp] theorem ev_orV : mOrV ma mb (t :: τ) = (ma (t :: τ)).bind fun x => fun τ => (Res.lift (truD x) τ).bind fun k => fun τ => if k = true then .ok x τ else mb τ := rfl
@[simp] theorem ev_notV : mNotV ma (t :: τ) = (ma (t :: τ)).bind fun x => fun τ => Res.lift ((truD x).map fun k => .bl (!k)) τ := rfl
@[simp] theorem ev_fn : mFn F ms (t :: τ) = (ms (t :: τ)).bind fun xs => fun τ => Res.lift (F xs) τ := rfl
@[simp] theorem ev_fnF : mFnF FF ms (t :: τ) = (ms (t :: τ)).bind fun xs => fun τ => Res.lift ((FF xs).map D.lst) τ := rfl
@[simp] theorem ev_fnP : mFnP F i (t :: τ) = Res.lift ((peek i (t :: τ)).bind fun d => F [d]) (t :: τ) := rfl
@[simp] theorem ev_on {h : α → Option β} {x : M α} : mOn h x (t :: τ) = (x (t :: τ)).bind fun d => fun τ => Res.lift (h d) τ := rfl
@[simp] theorem ev_ons : mOns FF ms (t :: τ) = (ms (t :: τ)).bind fun xs => fun τ => Res.lift (FF xs) τ := rfl
@[simp] theorem ev_yes : mYes (t :: τ) = .ok true (t :: τ) := rfl
@[simp] theorem ev_oNone : oNone (t :: τ) = .ok none (t :: τ) := rfl
@[simp] theorem ev_oSome : oSome m (t :: τ) = (m (t :: τ)).bind fun x => fun τ => Res.lift ((asI x).map some) τ := rfl
@[simp] theorem ev_for {mi : M (List D)} {q : MG} : mFor mi q sa (t :: τ) = (mi (t :: τ)).st fun ds τ => mLoop q sa ds τ := rfl
@[simp] theorem ev_aNil : aNil (t :: τ) = .ok [] (t :: τ) := rfl
@[simp] theorem ev_aV : aV m mr (t :: τ) = (m (t :: τ)).bind fun x => fun τ => (mr τ).bind fun xs => fun τ => .ok (.v x :: xs) τ := rfl
@[simp] theorem ev_aIo : aIo i mr (t :: τ) = match ownD (t :: τ)[i]? with | some _ => (mr (t :: τ)).bind fun xs => fun τ => .ok (.io i :: xs) τ | none => .fail := rfl
@[simp] theorem ev_call {io : List Bool} {fn : List D → RF} {n k : Nat} {ix : List Nat} {dds : List D} : mCall io fn n k ix dds mr mk (t :: τ) = (mr (t :: τ)).bind fun as => fun τ => (mk τ).bind fun es => fun τ =>
    if as.length = n ∧ es.length = k then callR io fn (pick ix (as ++ es.map Ar.v ++ dds.map Ar.v)) τ else .fail := rfl
@[simp] theorem small_nil : small [] = some [] := rfl
@[simp] theorem dd_add {a b : Int} : dAdd (.int a) (.int b) = some (.int (a + b)) := rfl
@[simp] theorem dd_sub {a b : Int} : dSub (.int a) (.int b) = some (.int (a - b)) := rfl
@[simp] theorem dd_mul {a b : Int} : dMul (.int a) (.int b) = if mulOk a b = true then some (.int (a * b)) else none := rfl
@[simp] theorem dd_mod {a b : Int} : dMod (.int a) (.int b) = if 0 < b then some (.int (a % b)) else none := rfl
@[simp] theorem dd_neg {a : Int} : dNeg (.int a) = some (.int (-a)) := rfl
@[simp] theorem dd_lt {a b : Int} : dLt (.int a) (.int b) = some (.bl (decide (a < b))) := rfl
@[simp] theorem dd_le {a b : Int} : dLe (.int a) (.int b) = some (.bl (decide (a ≤ b))) := rfl
@[simp] theorem dd_gt {a b : Int} : dGt (.int a) (.int b) = some (.bl (decide (b < a))) := rfl
@[simp] theorem dd_ge {a b : Int} : dGe (.int a) (.int b) = some (.bl (decide (b ≤ a))) := rfl
@[simp] theorem dd_int {a : Int} : dInt [.int a] = some (.int a) := rfl
@[simp] theorem dd_intb {k : Bool} : dInt [.bl k] = some (.int (if k = true then 1 else 0)) := rfl
@[simp] theorem dd_abs {a : Int} : dAbs [.int a] = some (.int (if a < 0 then -a else a)) := rfl
@[simp] theorem dd_lenL {xs : List D} : dLen [.lst xs] = some (.int xs.length) := rfl
@[simp] theorem dd_lenT {xs : List D} : dLen [.tup xs] = some (.int xs.length) := rfl
@[simp] theorem dd_ixL {xs : List D} {a : Int} : dIx (.lst xs) (.int a) = L2.atI xs a := rfl
@[simp] theorem dd_ixT {xs : List D} {a : Int} : dIx (.tup xs) (.int a) = L2.atI xs a := rfl
@[simp] theorem tru_bl {k : Bool} : truD (.bl k) = some k := rfl
@[simp] theorem at1_0 {a : D} : L2.atI [a] 0 = some a := rfl
@[simp] theorem at2_0 {a b : D} : L2.atI [a, b] 0 = some a := rfl
@[simp] theorem at2_1 {a b : D} : L2.atI [a, b] 1 = some b := rfl
@[simp] theorem at3_0 {a b c : D} : L2.atI [a, b, c] 0 = some a := rfl
@[simp] theorem at3_1 {a b c : D} : L2.atI [a, b, c] 1 = some b := rfl
@[simp] theorem at3_2 {a b c : D} : L2.atI [a, b, c] 2 = some c := rfl
@[simp] theorem set3_0 {a b c : D} : fSet 0 d [a, b, c] = some [d, b, c] := rfl
@[simp] theorem set3_1 {a b c : D} : fSet 1 d [a, b, c] = some [a, d, c] := rfl
@[simp] theorem set3_2 {a b c : D} : fSet 2 d [a, b, c] = some [a, b, d] := rfl
end
theorem mulOk_l {i j : Int} (h : i.natAbs < 2 ^ 63) : mulOk i j = true := by unfold mulOk; rw [decide_eq_true h]; rfl
theorem mulOk_r {i j : Int} (h : j.natAbs < 2 ^ 63) : mulOk i j = true := by unfold mulOk; rw [decide_eq_true h, Bool.or_true]; rfl
theorem dd_fdiv {a b : Int} (h : 0 < b) (h2 : b < 2 ^ 62) : dFdiv (.int a) (.int b) = some (.int (a / b)) := by
  show (if 0 < b ∧ b.natAbs < 2 ^ 8000 then some (D.int (a / b)) else none) = _
  rw [if_pos ⟨h, Nat.lt_of_lt_of_le (show b.natAbs < 2 ^ 62 by omega) (Nat.pow_le_pow_right (by decide) (by decide))⟩]
end Sm
set_option Elab.async false
set_option linter.all false
set_option maxRecDepth 100000
set_option maxHeartbeats 400000
namespace Sm
open PySem PySem.Spec PyProof.Rows L2
def b_boxC (c : Int) : MS := (mSeq (mSet 2 (mIf (mB (mOp dLt (mVar 1) (mFn dLen (mCons (mVar 0) mNil)))) (mPk 0 dIx (mVar 1)) (mC (.int 0))))
    (mRetO (mLst (mCons (mOp dMul (mFn dAbs (mCons (mVar 2) mNil)) (mFn dInt (mCons (mOp dGe (mFn dAbs (mCons (mVar 2) mNil)) (mOp dPow (mC (.int 10)) (mC (.int 18)))) mNil))) (mCons (mOp dAdd (mOp dAdd (mOp dMod (mFn dInt (mCons (mVar 2) mNil)) (mC (.int 2305843009213693951))) (mOp dMul (mC (.int 39373)) (mVar 1))) (mC (.int c))) (mCons (mC (.int 0)) mNil))))))
def f_boxC (c : Int) : List D → RF := mkF 3 [false, false] (b_boxC c)
def b_take : MS := (mSeq (mIfS (mB (mOp dGt (mPk 0 dIx (mC (.int 0))) (mC (.int 0)))) (mSeq (mSet 2 (mOp dMod (mFn dInt (mCons (mPk 0 dIx (mC (.int 0))) mNil)) (mVar 1)))
    (mSeq (mAsg (gIx 0 (mC (.int 0))) (mOp dFdiv (mPk 0 dIx (mC (.int 0))) (mVar 1)))
    (mRet (mVar 2)))) mNx)
    (mSeq (mAsg (gIx 0 (mC (.int 2))) (mOp dAdd (mPk 0 dIx (mC (.int 2))) (mC (.int 1))))
    (mSeq (mSet 3 (mOp dMod (mFn dInt (mCons (mOp dMul (mOp dAdd (mPk 0 dIx (mC (.int 1))) (mOp dMul (mC (.int 48271)) (mPk 0 dIx (mC (.int 2))))) (mOp dAdd (mC (.int 39373)) (mPk 0 dIx (mC (.int 2))))) mNil)) (mC (.int 2147483647))))
    (mSeq (mSet 4 (mOp dAdd (mOp dMod (mFn dInt (mCons (mVar 3) mNil)) (mC (.int 40009))) (mC (.int 7))))
    (mSeq (mSet 5 (mOp dMod (mFn dInt (mCons (mOp dMul (mOp dAdd (mOp dAdd (mVar 3) (mPk 0 dIx (mC (.int 2)))) (mOp dFdiv (mPk 0 dIx (mC (.int 1))) (mC (.int 1000003)))) (mVar 4)) mNil)) (mC (.int 2147483629))))
    (mRet (mOp dMod (mFn dInt (mCons (mOp dFdiv (mOp dMod (mFn dInt (mCons (mOp dAdd (mOp dMul (mVar 5) (mC (.int 48271))) (mVar 3)) mNil)) (mC (.int 2147483587))) (mC (.int 64))) mNil)) (mVar 1))))))))
def f_take : List D → RF := mkF 6 [true, false] b_take
def b_cells : MS := (mSeq (mSetO 2 (mOrV (mFnF nList (mCons (mSlP 0 oNone (oSome (mVar 1))) mNil)) (mLst (mCons (mC (.int 0)) mNil))))
    (mSeq (mFor (mOns enum2 (mCons (mSlP 0 (oSome (mVar 1)) (oSome (mC (.int 63)))) mNil)) (gT 2 (Sm.gCons (gN 3) (Sm.gCons (gN 4) Sm.gNil))) (mSeq (mSet 5 (mOp dMod (mFn dInt (mCons (mVar 3) mNil)) (mVar 1)))
    (mAsg (gIx 2 (mVar 5)) (mOp dAdd (mPk 2 dIx (mVar 5)) (mOp dMul (mVar 4) (mOp dAdd (mVar 3) (mC (.int 2))))))))
    (mRet (mVar 2))))
def f_cells : List D → RF := mkF 6 [false, false] b_cells
def bx (a b c : Int) : D := .lst [.int a, .int b, .int c]
theorem take1 {a b c n : Int} (ha : 0 < a) (hn : 0 < n) (hn2 : n < 2 ^ 62) : f_take [bx a b c, .int n] = .ok (.int (a % n)) [some (bx (a / n) b c), none] := by
  simp [f_take, mkF, b_take, argS, bx, ha, hn, dd_fdiv hn hn2, outD, outE]
def mixOnce (b c : Int) : Int := (b + 48271 * c) * (39373 + c) % 2147483647
def mixAgain (b c : Int) : Int := (mixOnce b c + c + b / 1000003) * (mixOnce b c % 40009 + 7) % 2147483629
def mix (b c : Int) : Int := (mixAgain b c * 48271 + mixOnce b c) % 2147483587 / 64
theorem take2 {a b c n : Int} (ha : a ≤ 0) (hb : 0 ≤ b) (hb2 : b < 2 ^ 62) (hc : 0 ≤ c) (hc2 : c < 2 ^ 30) (hn : 0 < n) : f_take [bx a b c, .int n] = .ok (.int (mix b (c + 1) % n)) [some (bx a b (c + 1)), none] := by
  have ha' : ¬ 0 < a := by omega
  have m1 : mulOk 48271 (c + 1) = true := mulOk_l (by decide)
  have m2 : mulOk (b + 48271 * (c + 1)) (39373 + (c + 1)) = true := mulOk_r (by omega)
  have e1 : 0 ≤ mixOnce b (c + 1) ∧ mixOnce b (c + 1) < 2147483647 := ⟨Int.emod_nonneg _ (by decide), Int.emod_lt_of_pos _ (by decide)⟩
  have m3 : mulOk (mixOnce b (c + 1) + (c + 1) + b / 1000003) (mixOnce b (c + 1) % 40009 + 7) = true := mulOk_r (by omega)
  have m4 : mulOk (mixAgain b (c + 1)) 48271 = true := mulOk_r (by decide)
  have d1 := dd_fdiv (a := b) (b := 1000003) (by decide) (by decide)
  have d2 := dd_fdiv (a := (mixAgain b (c + 1) * 48271 + mixOnce b (c + 1)) % 2147483587) (b := 64) (by decide) (by decide)
  have f1 : (b + 48271 * (c + 1)) * (39373 + (c + 1)) % 2147483647 = mixOnce b (c + 1) := rfl
  have f2 : (mixOnce b (c + 1) + (c + 1) + b / 1000003) * (mixOnce b (c + 1) % 40009 + 7) % 2147483629 = mixAgain b (c + 1) := rfl
  have f3 : (mixAgain b (c + 1) * 48271 + mixOnce b (c + 1)) % 2147483587 / 64 = mix b (c + 1) := rfl
  simp [f_take, mkF, b_take, argS, bx, ha', hn, outD, outE, m1, m2, f1, d1, m3, f2, m4, d2, f3]
def Box (k : Int) (d : D) : Prop := ∃ a b c : Int, d = bx a b c ∧ 0 ≤ a ∧ 0 ≤ b ∧ b < 2 ^ 62 ∧ 0 ≤ c ∧ c + k < 2 ^ 30
theorem Box.le {k j : Int} {d : D} (h : Box k d) (hj : j ≤ k) : Box j d := by
  obtain ⟨a, b, c, e, h1, h2, h3, h4, h5⟩ := h
  exact ⟨a, b, c, e, h1, h2, h3, h4, by omega⟩
theorem take_ok {k n : Int} {d : D} (h : Box k d) (hk : 1 ≤ k) (hn : 0 < n) (hn2 : n < 2 ^ 62) : ∃ r d', f_take [d, .int n] = .ok (.int r) [some d', none] ∧ 0 ≤ r ∧ r < n ∧ Box (k - 1) d' := by
  obtain ⟨a, b, c, rfl, h1, h2, h3, h4, h5⟩ := h
  by_cases ha : 0 < a
  · exact ⟨_, _, take1 ha hn hn2, Int.emod_nonneg _ (by omega), Int.emod_lt_of_pos _ hn, a / n, b, c, rfl, Int.ediv_nonneg h1 (by omega), h2, h3, h4, by omega⟩
  · exact ⟨_, _, take2 (by omega) h2 h3 h4 (by omega) hn, Int.emod_nonneg _ (by omega), Int.emod_lt_of_pos _ hn, a, b, c + 1, rfl, h1, h2, h3, by omega, by omega⟩
theorem dd_pow18 : dPow (.int 10) (.int 18) = some (.int 1000000000000000000) := rfl
theorem box_ok {cs : List Int} {k : Nat} {c : Int} (hc : 0 ≤ c) (hc2 : c < 1000000) (hk : k < cs.length) (hk2 : k < 1000) : ∃ d, f_boxC c [.lst (cs.map .int), .int (k : Nat)] = .own d ∧ Box 1000000 d := by
  have h1 : L2.atI (cs.map D.int) ((k : Nat) : Int) = some (.int cs[k]) := atI_nat (by rw [List.getElem?_map, List.getElem?_eq_getElem hk]; rfl)
  have h2 : ((k : Nat) : Int) < (cs.map D.int).length := by rw [List.length_map]; omega
  have h2' : ((k : Nat) : Int) < cs.length := by omega
  generalize cs[k] = x at h1
  generalize hy : (if x < 0 then -x else x) = y
  have y0 : 0 ≤ y := by rw [← hy]; split <;> omega
  generalize hz : (if (1000000000000000000 : Int) ≤ y then (1 : Int) else 0) = z
  have z0 : 0 ≤ z ∧ z ≤ 1 := by rw [← hz]; split <;> omega
  have m1 : mulOk y z = true := mulOk_r (by omega)
  have m2 : mulOk 39373 ((k : Nat) : Int) = true := mulOk_l (by decide)
  have md : 0 ≤ x % 2305843009213693951 ∧ x % 2305843009213693951 < 2305843009213693951 := ⟨Int.emod_nonneg _ (by decide), Int.emod_lt_of_pos _ (by decide)⟩
  refine ⟨bx (y * z) (x % 2305843009213693951 + 39373 * (k : Nat) + c) 0, ?_, _, _, _, rfl, Int.mul_nonneg y0 z0.1, by omega, by omega, by omega, by omega⟩
  simp [f_boxC, mkF, b_boxC, argS, bx, h1, h2', hy, hz, dd_pow18, m1, m2, small]
@[simp] theorem isi_list_non  : dIsi "list" [.non] = some (.bl false) := rfl
@[simp] theorem isi_tuple_non  : dIsi "tuple" [.non] = some (.bl false) := rfl
@[simp] theorem isi_int_non  : dIsi "int" [.non] = some (.bl false) := rfl
@[simp] theorem isi_bool_non  : dIsi "bool" [.non] = some (.bl false) := rfl
@[simp] theorem isi_list_tuple_non  : dIsi2 "list" "tuple" [.non] = some (.bl false) := rfl
@[simp] theorem isi_bool_str_non  : dIsi2 "bool" "str" [.non] = some (.bl false) := rfl
@[simp] theorem isn_non  : dIs .non .non = some (.bl true) := rfl
@[simp] theorem isi_list_bl {k : Bool} : dIsi "list" [(.bl k)] = some (.bl false) := rfl
@[simp] theorem isi_tuple_bl {k : Bool} : dIsi "tuple" [(.bl k)] = some (.bl false) := rfl
@[simp] theorem isi_int_bl {k : Bool} : dIsi "int" [(.bl k)] = some (.bl true) := rfl
@[simp] theorem isi_bool_bl {k : Bool} : dIsi "bool" [(.bl k)] = some (.bl true) := rfl
@[simp] theorem isi_list_tuple_bl {k : Bool} : dIsi2 "list" "tuple" [(.bl k)] = some (.bl false) := rfl
@[simp] theorem isi_bool_str_bl {k : Bool} : dIsi2 "bool" "str" [(.bl k)] = some (.bl true) := rfl
@[simp] theorem isn_bl {k : Bool} : dIs (.bl k) .non = some (.bl false) := rfl
@[simp] theorem isi_list_int {i : Int} : dIsi "list" [(.int i)] = some (.bl false) := rfl
@[simp] theorem isi_tuple_int {i : Int} : dIsi "tuple" [(.int i)] = some (.bl false) := rfl
@[simp] theorem isi_int_int {i : Int} : dIsi "int" [(.int i)] = some (.bl true) := rfl
@[simp] theorem isi_bool_int {i : Int} : dIsi "bool" [(.int i)] = some (.bl false) := rfl
@[simp] theorem isi_list_tuple_int {i : Int} : dIsi2 "list" "tuple" [(.int i)] = some (.bl false) := rfl
@[simp] theorem isi_bool_str_int {i : Int} : dIsi2 "bool" "str" [(.int i)] = some (.bl false) := rfl
@[simp] theorem isn_int {i : Int} : dIs (.int i) .non = some (.bl false) := rfl
@[simp] theorem isi_list_str {z : Str} : dIsi "list" [(.str z)] = some (.bl false) := rfl
@[simp] theorem isi_tuple_str {z : Str} : dIsi "tuple" [(.str z)] = some (.bl false) := rfl
@[simp] theorem isi_int_str {z : Str} : dIsi "int" [(.str z)] = some (.bl false) := rfl
@[simp] theorem isi_bool_str {z : Str} : dIsi "bool" [(.str z)] = some (.bl false) := rfl
@[simp] theorem isi_list_tuple_str {z : Str} : dIsi2 "list" "tuple" [(.str z)] = some (.bl false) := rfl
@[simp] theorem isi_bool_str_str {z : Str} : dIsi2 "bool" "str" [(.str z)] = some (.bl true) := rfl
@[simp] theorem isn_str {z : Str} : dIs (.str z) .non = some (.bl false) := rfl
@[simp] theorem isi_list_lst {xs : List D} : dIsi "list" [(.lst xs)] = some (.bl true) := rfl
@[simp] theorem isi_tuple_lst {xs : List D} : dIsi "tuple" [(.lst xs)] = some (.bl false) := rfl
@[simp] theorem isi_int_lst {xs : List D} : dIsi "int" [(.lst xs)] = some (.bl false) := rfl
@[simp] theorem isi_bool_lst {xs : List D} : dIsi "bool" [(.lst xs)] = some (.bl false) := rfl
@[simp] theorem isi_list_tuple_lst {xs : List D} : dIsi2 "list" "tuple" [(.lst xs)] = some (.bl true) := rfl
@[simp] theorem isi_bool_str_lst {xs : List D} : dIsi2 "bool" "str" [(.lst xs)] = some (.bl false) := rfl
@[simp] theorem isn_lst {xs : List D} : dIs (.lst xs) .non = some (.bl false) := rfl
@[simp] theorem isi_list_tup {xs : List D} : dIsi "list" [(.tup xs)] = some (.bl false) := rfl
@[simp] theorem isi_tuple_tup {xs : List D} : dIsi "tuple" [(.tup xs)] = some (.bl true) := rfl
@[simp] theorem isi_int_tup {xs : List D} : dIsi "int" [(.tup xs)] = some (.bl false) := rfl
@[simp] theorem isi_bool_tup {xs : List D} : dIsi "bool" [(.tup xs)] = some (.bl false) := rfl
@[simp] theorem isi_list_tuple_tup {xs : List D} : dIsi2 "list" "tuple" [(.tup xs)] = some (.bl true) := rfl
@[simp] theorem isi_bool_str_tup {xs : List D} : dIsi2 "bool" "str" [(.tup xs)] = some (.bl false) := rfl
@[simp] theorem isn_tup {xs : List D} : dIs (.tup xs) .non = some (.bl false) := rfl
@[simp] theorem asB_bl2 {k : Bool} : asB (.bl k) = some k := rfl
@[simp] theorem eq_bl {a b : Bool} : dEq (.bl a) (.bl b) = some (.bl (a == b)) := by cases a <;> cases b <;> rfl
@[simp] theorem ne_bl {a b : Bool} : dNe (.bl a) (.bl b) = some (.bl (a != b)) := by cases a <;> cases b <;> rfl
@[simp] theorem eq_int {a b : Int} : dEq (.int a) (.int b) = some (.bl (decide (a = b))) := by
  show (eqD (.int a) (.int b)).map D.bl = _
  have e : eqD (.int a) (.int b) = some (a == b) := rfl
  rw [e]; rfl
@[simp] theorem eq_non : dEq .non .non = some (.bl true) := rfl
end Sm
set_option Elab.async false
set_option linter.all false
set_option maxRecDepth 100000
set_option maxHeartbeats 400000
namespace Sm
open PySem PySem.Spec PyProof.Rows L2
section
variable {τ S S0 : List Sl} {t : Sl} {fn : List D → RF} {a b c d : D} {i : Nat} {o : List (Option D)} {g : MG} {tt : M Bool} {m : M D} {vs : List Nat} {ds : List D} {p : D → Bool} {y : D → D} {mi : M (List D)}
@[simp] theorem call_v1 : callR [false] fn [.v a] τ = callB none (fn [a]) τ := rfl
@[simp] theorem call_v2 : callR [false, false] fn [.v a, .v b] τ = callB none (fn [a, b]) τ := rfl
@[simp] theorem call_v3 : callR [false, false, false] fn [.v a, .v b, .v c] τ = callB none (fn [a, b, c]) τ := rfl
theorem call_io_v {x : Sl} (h : τ[i]? = some x) (h2 : ownD (some x) = some d) : callR [true, false] fn [.io i, .v a] τ = callB (some (0, i)) (fn [d, a]) τ := by
  show (match ((ownD τ[i]?).bind fun d => some [d, a]) with | none => _ | some ds => callB (some (0, i)) (fn ds) τ) = _
  rw [h, h2]; rfl
@[simp] theorem callB_ok : callB none (.ok d o) τ = .ok d τ := rfl
@[simp] theorem callB_io {k : Nat} : callB (some (k, i)) (.ok d o) τ = .ok d (give τ i (o.getD k none)) := rfl
@[simp] theorem pick1 {x : Ar} : pick [0] [x] = [x] := rfl
@[simp] theorem pick2 {x y : Ar} : pick [0, 1] [x, y] = [x, y] := rfl
@[simp] theorem pick21 {x y : Ar} : pick [1, 0] [x, y] = [y, x] := rfl
@[simp] theorem pick3 {x y z : Ar} : pick [0, 1, 2] [x, y, z] = [x, y, z] := rfl
@[simp] theorem ownD_io {k : Nat} : ownD (some (.io k d)) = some d := rfl
@[simp] theorem ownD_ow : ownD (some (.ow d)) = some d := rfl
theorem lcGo_ok (h : ∀ d ∈ ds, ∃ τ1 τ2, g d S = some τ1 ∧ tt τ1 = .ok (p d) τ2 ∧ (p d = false → Sm.wipeS τ2 vs = S) ∧ (p d = true → ∃ τ3, m τ2 = .ok (y d) τ3 ∧ Sm.wipeS τ3 vs = S)) :
    mLcGo g tt m vs ds S = .ok ((ds.filter p).map y) S := by
  induction ds with
  | nil => rfl
  | cons x xs ih =>
    obtain ⟨τ1, τ2, e1, e2, h3, h4⟩ := h x List.mem_cons_self
    have ih' := ih fun d hd => h d (List.mem_cons_of_mem _ hd)
    unfold mLcGo
    rw [e1]
    show ((tt τ1).nox.bind _) = _
    rw [e2]
    show (if p x = true then _ else _) = _
    by_cases hp : p x = true
    · obtain ⟨τ3, e3, e4⟩ := h4 hp
      rw [if_pos hp, e3]
      show ((mLcGo g tt m vs xs (Sm.wipeS τ3 vs)).bind _) = _
      rw [e4, ih', List.filter_cons_of_pos hp]
      rfl
    · have hp' : p x = false := by simpa using hp
      rw [if_neg hp, h3 hp', ih', List.filter_cons_of_neg hp]
theorem lc_ok (h1 : mi S0 = .ok ds S) (hz : ds.length ≤ 16000000) (hu : allUn S vs = true)
    (h : ∀ d ∈ ds, ∃ τ1 τ2, g d S = some τ1 ∧ tt τ1 = .ok (p d) τ2 ∧ (p d = false → Sm.wipeS τ2 vs = S) ∧ (p d = true → ∃ τ3, m τ2 = .ok (y d) τ3 ∧ Sm.wipeS τ3 vs = S)) :
    mLc mi g tt m vs S0 = .ok (.lst ((ds.filter p).map y)) S := by
  show (mi S0).bind _ = _
  rw [h1]
  show lcEnd g tt m vs ds S = _
  unfold lcEnd
  rw [if_pos ⟨hz, hu⟩, lcGo_ok h]
  rfl
theorem lc_map (h1 : mi S0 = .ok ds S) (hz : ds.length ≤ 16000000) (hu : allUn S vs = true)
    (h : ∀ d ∈ ds, ∃ τ1 τ2 τ3, g d S = some τ1 ∧ tt τ1 = .ok true τ2 ∧ m τ2 = .ok (y d) τ3 ∧ Sm.wipeS τ3 vs = S) :
    mLc mi g tt m vs S0 = .ok (.lst (ds.map y)) S := by
  have q := lc_ok (p := fun _ => true) (y := y) (m := m) h1 hz hu fun d hd => let ⟨τ1, τ2, τ3, e1, e2, e3, e4⟩ := h d hd; ⟨τ1, τ2, e1, e2, fun z => (by cases z), fun _ => ⟨τ3, e3, e4⟩⟩
  rw [q, List.filter_eq_self.mpr fun _ _ => rfl]
theorem zipD_self : ∀ xs : List D, zipD xs xs = xs.map fun x => .tup [x, x]
  | [] => rfl
  | x :: xs => by rw [zipD, zipD_self xs]; rfl
theorem bools_true : ∀ xs : List D, bools (xs.map fun _ => .bl true) = some (xs.map fun _ => true)
  | [] => rfl
  | x :: xs => by
    show (bools (xs.map fun _ => .bl true)).map (true :: ·) = _
    rw [bools_true xs]; rfl
theorem all_true : ∀ xs : List D, dAll [.lst (xs.map fun _ => .bl true)] = some (.bl true) := fun xs => by
  show (bools (xs.map fun _ => D.bl true)).map _ = _
  rw [bools_true xs]
  show some (D.bl _) = _
  congr 2
  rw [List.all_eq_true]
  intro x hx
  obtain ⟨_, _, rfl⟩ := List.mem_map.mp hx
  rfl
@[simp] theorem zip2_lst {xs ys : List D} : zip2 [.lst xs, .lst ys] = some (zipD xs ys) := rfl
@[simp] theorem zip2_tup {xs ys : List D} : zip2 [.tup xs, .tup ys] = some (zipD xs ys) := rfl
end
end Sm
set_option Elab.async false
set_option linter.all false
set_option maxRecDepth 100000
set_option maxHeartbeats 400000
namespace Sm
open PySem PySem.Spec PyProof.Rows L2
section
variable {τ S S0 : List Sl} {t : Sl} {d : D} {i : Nat} {g : MG} {b : MS} {ds : List D} {ml mh : M (Option Int)}
theorem loop_inv (I : List Sl → Prop) (hs : ∀ d ∈ ds, ∀ S, I S → ∃ τ1 τ2, g d S = some τ1 ∧ b τ1 = .nx τ2 ∧ I τ2) : ∀ S, I S → ∃ S', mLoop g b ds S = .nx S' ∧ I S' := by
  induction ds with
  | nil => exact fun S h => ⟨S, rfl, h⟩
  | cons x xs ih =>
    intro S h
    obtain ⟨τ1, τ2, e1, e2, h2⟩ := hs x List.mem_cons_self S h
    obtain ⟨S', e3, h3⟩ := ih (fun d hd => hs d (List.mem_cons_of_mem _ hd)) τ2 h2
    refine ⟨S', ?_, h3⟩
    unfold mLoop
    rw [e1]
    show (match b τ1 with | .nx τ => mLoop g b xs τ | .ct τ => mLoop g b xs τ | .bk τ => .nx τ | r => r) = _
    rw [e2]
    exact e3
@[simp] theorem ev_slP : mSlP i ml mh (t :: τ) = match peek i (t :: τ) with | none => .fail | some _ => (ml (t :: τ)).bind fun l => fun τ => (mh τ).bind fun h => fun τ => Res.lift ((peek i τ).bind (dSl l h)) τ := rfl
@[simp] theorem sl_scr {xs : List D} {lo hi : Option Int} : dSl lo hi (.scr xs) = some (.lst (cutD xs lo hi)) := rfl
@[simp] theorem sl_lst {xs : List D} {lo hi : Option Int} : dSl lo hi (.lst xs) = some (.lst (cutD xs lo hi)) := rfl
@[simp] theorem nList_lst {xs : List D} : nList [.lst xs] = some xs := rfl
@[simp] theorem asI_int2 {a : Int} : asI (.int a) = some a := rfl
@[simp] theorem tru_lst {xs : List D} : truD (.lst xs) = some (!xs.isEmpty) := rfl
@[simp] theorem enum2_lst {xs : List D} : enum2 [.lst xs] = some (enumD 0 xs) := rfl
theorem cutD_map {ns : List Int} {lo hi : Option Int} : cutD (ns.map .int) lo hi = ((ns.drop (HT.sIx ns.length 0 lo)).take (HT.sIx ns.length ns.length hi - HT.sIx ns.length 0 lo)).map .int := by
  unfold cutD
  rw [List.length_map, List.map_take, List.map_drop]
theorem enumD_mem {d : D} : ∀ {xs : List Int} {k : Int}, d ∈ enumD k (xs.map .int) → ∃ j v : Int, d = .tup [.int j, .int v] ∧ k ≤ j ∧ j < k + xs.length
  | [], k, h => by cases h
  | x :: xs, k, h => by
    rcases List.mem_cons.mp h with rfl | h
    · exact ⟨k, x, rfl, Int.le_refl _, by rw [List.length_cons]; omega⟩
    · obtain ⟨j, v, e, h1, h2⟩ := enumD_mem (xs := xs) (k := k + 1) h
      exact ⟨j, v, e, by omega, by rw [List.length_cons]; omega⟩
def CellI (ns : List Int) (top n : Nat) (S : List Sl) : Prop := ∃ (cs : List Int) (x3 x4 x5 : Sl), S = [.fz (.scr (ns.map .int)), .fz (.int (top : Nat)), .ow (.lst (cs.map .int)), x3, x4, x5] ∧ cs.length = n ∧ x3.free = true ∧ x4.free = true ∧ x5.free = true
theorem cells_ok {top : Nat} (ht : 1 ≤ top) (ht2 : top < 60) (ns : List Int) (hn : ns.length ≤ 63) : ∃ cs o, f_cells [.scr (ns.map .int), .int (top : Nat)] = .ok (.lst (cs.map .int)) o ∧ cs ≠ [] ∧ cs.length ≤ top := by
  have ef : cutD (ns.map .int) none (some ((top : Nat) : Int)) = (ns.take top).map .int := by
    rw [cutD_map, HT.sIx_none, HT.sIx_nat, List.drop_zero, Nat.sub_zero]
    congr 1
    rw [← List.take_eq_take_min]
  obtain ⟨es, eb, hl, hne⟩ : ∃ es : List Int, cutD (ns.map .int) (some ((top : Nat) : Int)) (some 63) = es.map .int ∧ es.length ≤ 63 ∧ (es ≠ [] → top < ns.length) := by
    refine ⟨_, cutD_map, ?_, fun h => ?_⟩
    · rw [List.length_take, List.length_drop]; omega
    · rw [HT.sIx_nat] at h
      by_cases q : top < ns.length
      · exact q
      · exfalso
        apply h
        rw [show min top ns.length = ns.length by omega, List.drop_length, List.take_nil]
  generalize hc : (if (ns.take top).isEmpty = true then [0] else ns.take top) = c0
  have c1 : c0 ≠ [] ∧ c0.length ≤ top ∧ (top < ns.length → c0.length = top) := by
    cases hq : ns.take top with
    | nil =>
      rw [hq] at hc
      have : c0 = [0] := hc.symm
      subst this
      refine ⟨by simp, by simpa using ht, fun h => ?_⟩
      have := congrArg List.length hq
      rw [List.length_take, List.length_nil] at this
      omega
    | cons x r =>
      rw [hq] at hc
      have e : c0 = ns.take top := by rw [hq]; exact hc.symm
      subst e
      refine ⟨by rw [hq]; simp, by rw [List.length_take]; omega, fun h => by rw [List.length_take]; omega⟩
  have first : ∀ x : List Sl, (mSetO 2 (mOrV (mFnF nList (mCons (mSlP 0 oNone (oSome (mVar 1))) mNil)) (mLst (mCons (mC (.int 0)) mNil)))) [.fz (.scr (ns.map .int)), .fz (.int (top : Nat)), .un, .un, .un, .un]
      = .nx [.fz (.scr (ns.map .int)), .fz (.int (top : Nat)), .ow (.lst (c0.map .int)), .un, .un, .un] := fun _ => by
    cases hq : ns.take top with
    | nil =>
      rw [hq] at hc
      have : c0 = [0] := hc.symm
      subst this
      simp [ef, hq, small]
    | cons x r =>
      rw [hq] at hc
      have e : c0 = x :: r := hc.symm
      subst e
      simp [ef, hq, small]
  have loop : ∃ (S' : List Sl) (cs : List Int), mLoop (gT 2 (Sm.gCons (gN 3) (Sm.gCons (gN 4) Sm.gNil))) (mSeq (mSet 5 (mOp dMod (mFn dInt (mCons (mVar 3) mNil)) (mVar 1))) (mAsg (gIx 2 (mVar 5)) (mOp dAdd (mPk 2 dIx (mVar 5)) (mOp dMul (mVar 4) (mOp dAdd (mVar 3) (mC (.int 2)))))))
      (enumD 0 (es.map .int)) [.fz (.scr (ns.map .int)), .fz (.int (top : Nat)), .ow (.lst (c0.map .int)), .un, .un, .un] = .nx S' ∧ (∃ x3 x4 x5 : Sl, S' = [.fz (.scr (ns.map .int)), .fz (.int (top : Nat)), .ow (.lst (cs.map .int)), x3, x4, x5]) ∧ cs.length = c0.length := by
    have step : ∀ d ∈ enumD 0 (es.map .int), ∀ S, CellI ns top c0.length S → ∃ τ1 τ2, (gT 2 (Sm.gCons (gN 3) (Sm.gCons (gN 4) Sm.gNil))) d S = some τ1 ∧ (mSeq (mSet 5 (mOp dMod (mFn dInt (mCons (mVar 3) mNil)) (mVar 1))) (mAsg (gIx 2 (mVar 5)) (mOp dAdd (mPk 2 dIx (mVar 5)) (mOp dMul (mVar 4) (mOp dAdd (mVar 3) (mC (.int 2))))))) τ1 = .nx τ2 ∧ CellI ns top c0.length τ2 := by
      rintro d hd S ⟨cs, x3, x4, x5, hS, hcs, f3, f4, f5⟩
      subst hS
      obtain ⟨j, v, rfl, hj0, hj1⟩ := enumD_mem hd
      have big : top < ns.length := hne fun z => by subst z; cases hd
      have len : cs.length = top := by rw [hcs]; exact c1.2.2 big
      have tp : (0 : Int) < (top : Nat) := by omega
      obtain ⟨a, ha, ha2⟩ : ∃ a : Nat, j % (top : Nat) = (a : Nat) ∧ a < top := by
        have h1 := Int.emod_nonneg j (show ((top : Nat) : Int) ≠ 0 by omega)
        have h2 := Int.emod_lt_of_pos j tp
        exact ⟨(j % (top : Nat)).toNat, by omega, by omega⟩
      have at1 : L2.atI (cs.map D.int) ((a : Nat) : Int) = some (.int (cs[a]'(by omega))) := atI_nat (by rw [List.getElem?_map, List.getElem?_eq_getElem (by omega)]; rfl)
      have m1 : mulOk v (j + 2) = true := mulOk_r (by omega)
      have st : ∀ w : Int, fSet ((a : Nat) : Int) (.int w) (cs.map D.int) = some ((cs.set a w).map D.int) := fun w => by
        have e : ixN (cs.map D.int).length ((a : Nat) : Int) = some a := by
          unfold ixN
          rw [List.length_map, if_pos (by omega), if_pos (by omega)]; simp
        unfold fSet
        rw [e, List.map_set]; rfl
      have g1 : gT 2 (Sm.gCons (gN 3) (Sm.gCons (gN 4) Sm.gNil)) (.tup [.int j, .int v]) [.fz (.scr (ns.map .int)), .fz (.int (top : Nat)), .ow (.lst (cs.map .int)), x3, x4, x5] = some [.fz (.scr (ns.map .int)), .fz (.int (top : Nat)), .ow (.lst (cs.map .int)), .fz (.int j), .fz (.int v), x5] := by
        simp [f3, f4]
      refine ⟨_, [.fz (.scr (ns.map .int)), .fz (.int (top : Nat)), .ow (.lst ((cs.set a ((cs[a]'(by omega)) + v * (j + 2))).map .int)), .fz (.int j), .fz (.int v), .fz (.int (a : Nat))], g1, ?_, cs.set a ((cs[a]'(by omega)) + v * (j + 2)), _, _, _, rfl, by rw [List.length_set]; exact hcs, rfl, rfl, rfl⟩
      have tp' : 0 < top := ht
      simp [f5, tp', ha, at1, m1, st]
    obtain ⟨S', e, cs, x3, x4, x5, h1, h2, _⟩ := loop_inv (CellI ns top c0.length) step _ ⟨c0, .un, .un, .un, rfl, rfl, rfl, rfl, rfl⟩
    exact ⟨S', cs, e, ⟨x3, x4, x5, h1⟩, h2⟩
  obtain ⟨S', cs, e2, ⟨x3, x4, x5, rfl⟩, hcs⟩ := loop
  refine ⟨cs, outD 0 [false, false] [.fz (.scr (ns.map .int)), .fz (.int (top : Nat)), .fz (.lst (cs.map .int)), x3, x4, x5], ?_, fun z => ?_, by rw [hcs]; exact c1.2.1⟩
  · have f1 := first []
    simp [f_cells, mkF, b_cells, argS, -ev_setO, f1, eb, e2]
  · subst z
    exact c1.1 (List.length_eq_zero_iff.mp hcs.symm)
end
end Sm
set_option Elab.async false
set_option linter.all false
set_option maxRecDepth 100000
set_option maxHeartbeats 400000
namespace Sm
open PySem PySem.Spec PyProof.Rows L2
theorem draw_ok {k n : Int} {d : D} {τ : List Sl} {i j : Nat} {mn : M D} (h : Box k d) (hk : 1 ≤ k) (hn : 0 < n) (hn2 : n < 2 ^ 62) (hi : τ[i]? = some (.io j d) ∨ τ[i]? = some (.ow d)) (hm : mn τ = .ok (.int n) τ) :
    ∃ r d', 0 ≤ r ∧ r < n ∧ Box (k - 1) d' ∧ mCall [true, false] f_take 2 0 [0, 1] [] (aIo i (aV mn aNil)) mNil τ = .ok (.int r) (give τ i (some d')) := by
  obtain ⟨r, d', e, h1, h2, h3⟩ := take_ok h hk hn hn2
  refine ⟨r, d', h1, h2, h3, ?_⟩
  have e1 : ownD τ[i]? = some d := by rcases hi with q | q <;> rw [q] <;> rfl
  have c : callR [true, false] f_take [.io i, .v (.int n)] τ = .ok (.int r) (give τ i (some d')) := by
    rcases hi with q | q
    · rw [call_io_v q rfl, e]; rfl
    · rw [call_io_v q rfl, e]; rfl
  have s : aIo i (aV mn aNil) τ = .ok [.io i, .v (.int n)] τ := by
    unfold aIo
    rw [e1]
    show ((mn τ).bind _).bind _ = _
    rw [hm]; rfl
  show ((aIo i (aV mn aNil) τ).bind _) = _
  rw [s]
  exact c
end Sm
set_option Elab.async false
set_option linter.all false
set_option maxRecDepth 100000
set_option maxHeartbeats 400000
namespace Sm
open PySem PySem.Spec PyProof.Rows L2
section
variable {S S0 : List Sl} {g : MG} {tt : M Bool} {m : M D} {vs : List Nat} {mi : M (List D)}
theorem lcA_go {α : Type} {f : α → D} {p : α → Bool} {y : α → D} : ∀ {xs : List α}, (∀ x ∈ xs, ∃ τ1 τ2, g (f x) S = some τ1 ∧ tt τ1 = .ok (p x) τ2 ∧ (p x = false → Sm.wipeS τ2 vs = S) ∧ (p x = true → ∃ τ3, m τ2 = .ok (y x) τ3 ∧ Sm.wipeS τ3 vs = S)) →
    mLcGo g tt m vs (xs.map f) S = .ok ((xs.filter p).map y) S
  | [], _ => rfl
  | x :: xs, h => by
    obtain ⟨τ1, τ2, e1, e2, h3, h4⟩ := h x List.mem_cons_self
    have ih' := lcA_go (xs := xs) fun d hd => h d (List.mem_cons_of_mem _ hd)
    rw [List.map_cons]
    unfold mLcGo
    rw [e1]
    show ((tt τ1).nox.bind _) = _
    rw [e2]
    show (if p x = true then _ else _) = _
    by_cases hp : p x = true
    · obtain ⟨τ3, e3, e4⟩ := h4 hp
      rw [if_pos hp, e3]
      show ((mLcGo g tt m vs (xs.map f) (Sm.wipeS τ3 vs)).bind _) = _
      rw [e4, ih', List.filter_cons_of_pos hp]
      rfl
    · have hp' : p x = false := by simpa using hp
      rw [if_neg hp, h3 hp', ih', List.filter_cons_of_neg hp]
theorem lcA_ok {α : Type} {f : α → D} (p : α → Bool) (y : α → D) {xs : List α} (h1 : mi S0 = .ok (xs.map f) S) (hz : xs.length ≤ 16000000) (hu : allUn S vs = true)
    (h : ∀ x ∈ xs, ∃ τ1 τ2, g (f x) S = some τ1 ∧ tt τ1 = .ok (p x) τ2 ∧ (p x = false → Sm.wipeS τ2 vs = S) ∧ (p x = true → ∃ τ3, m τ2 = .ok (y x) τ3 ∧ Sm.wipeS τ3 vs = S)) :
    mLc mi g tt m vs S0 = .ok (.lst ((xs.filter p).map y)) S := by
  show (mi S0).bind _ = _
  rw [h1]
  show lcEnd g tt m vs (xs.map f) S = _
  unfold lcEnd
  rw [if_pos ⟨by rw [List.length_map]; exact hz, hu⟩, lcA_go h]
  rfl
theorem lcA_map {α : Type} {f : α → D} (y : α → D) {xs : List α} (h1 : mi S0 = .ok (xs.map f) S) (hz : xs.length ≤ 16000000) (hu : allUn S vs = true)
    (h : ∀ x ∈ xs, ∃ τ1 τ2 τ3, g (f x) S = some τ1 ∧ tt τ1 = .ok true τ2 ∧ m τ2 = .ok (y x) τ3 ∧ Sm.wipeS τ3 vs = S) :
    mLc mi g tt m vs S0 = .ok (.lst (xs.map y)) S := by
  have q := lcA_ok (fun _ => true) y (m := m) h1 hz hu fun d hd => let ⟨τ1, τ2, τ3, e1, e2, e3, e4⟩ := h d hd; ⟨τ1, τ2, e1, e2, fun z => (by cases z), fun _ => ⟨τ3, e3, e4⟩⟩
  rw [q, List.filter_eq_self.mpr fun _ _ => rfl]
theorem bools_of {α : Type} {y : α → Bool} : ∀ xs : List α, bools (xs.map fun x => .bl (y x)) = some (xs.map y)
  | [] => rfl
  | x :: xs => by
    show (bools (xs.map fun x => .bl (y x))).map (y x :: ·) = _
    rw [bools_of xs]; rfl
theorem all_of {α : Type} {y : α → Bool} (xs : List α) : dAll [.lst (xs.map fun x => .bl (y x))] = some (.bl (xs.all y)) := by
  show (bools (xs.map fun x => D.bl (y x))).map _ = _
  rw [bools_of xs]
  show some (D.bl _) = _
  rw [List.all_map]; rfl
@[simp] theorem asS_lst2 {xs : List D} : asS (.lst xs) = some xs := rfl
@[simp] theorem asS_tup2 {xs : List D} : asS (.tup xs) = some xs := rfl
end
end Sm
set_option Elab.async false
set_option linter.all false
set_option maxRecDepth 100000
set_option maxHeartbeats 400000
namespace Sm
open PySem PySem.Spec PyProof.Rows L2
theorem pys_ints : ∀ xs : List Int, D.pys (xs.map .int) = some (xs.map PyData.int)
  | [] => rfl
  | x :: xs => by
    show (D.pys (xs.map .int)).map (PyData.int x :: ·) = _
    rw [pys_ints xs]; rfl
theorem canLay_ints : ∀ xs : List Int, PyData.canLayAll0 (xs.map PyData.int) = true
  | [] => rfl
  | x :: xs => by
    show (PyData.canLay0 (.int x) && PyData.canLayAll0 (xs.map PyData.int)) = true
    rw [canLay_ints xs]; rfl
theorem depth_ints : ∀ xs : List Int, PyData.depthAll (xs.map PyData.int) = 0
  | [] => rfl
  | x :: xs => by
    show max (PyData.depth (.int x)) (PyData.depthAll (xs.map PyData.int)) = 0
    rw [depth_ints xs]; rfl
theorem shaped_ints (xs : List Int) : SeqAt.shaped (.list (xs.map PyData.int)) = true := by
  show (PyData.canLayAll0 (xs.map PyData.int) && decide (PyData.depthAll (xs.map PyData.int) + 1 ≤ 64)) = true
  rw [canLay_ints, depth_ints]; rfl
theorem eqv_ints : ∀ xs ys : List Int, PyData.eqvAll (xs.map .int) (ys.map .int) = decide (xs = ys)
  | [], [] => rfl
  | [], y :: ys => rfl
  | x :: xs, [] => rfl
  | x :: xs, y :: ys => by
    show ((x == y) && PyData.eqvAll (xs.map .int) (ys.map .int)) = _
    rw [eqv_ints xs ys]
    by_cases h : x = y
    · subst h; simp
    · simp [h]
theorem eqD_ints (xs ys : List Int) : eqD (.lst (xs.map .int)) (.lst (ys.map .int)) = some (decide (xs = ys)) := by
  show (match ((D.pys (xs.map .int)).map PyData.list), ((D.pys (ys.map .int)).map PyData.list) with | some p, some q => _ | _, _ => none) = _
  rw [pys_ints, pys_ints]
  show (if SeqAt.shaped (.list (xs.map PyData.int)) = true ∧ SeqAt.shaped (.list (ys.map PyData.int)) = true then some (PyData.eqvAll (xs.map .int) (ys.map .int)) else none) = _
  rw [if_pos ⟨shaped_ints xs, shaped_ints ys⟩, eqv_ints]
@[simp] theorem eq_ints {xs ys : List Int} : dEq (.lst (xs.map .int)) (.lst (ys.map .int)) = some (.bl (decide (xs = ys))) := by unfold dEq; rw [eqD_ints]; rfl
@[simp] theorem ne_ints {xs ys : List Int} : dNe (.lst (xs.map .int)) (.lst (ys.map .int)) = some (.bl (!decide (xs = ys))) := by unfold dNe; rw [eqD_ints]; rfl
@[simp] theorem eq_nil {xs : List Int} : dEq (.lst (xs.map .int)) (.lst []) = some (.bl (decide (xs = []))) := eq_ints (ys := [])
@[simp] theorem ne_nil {xs : List Int} : dNe (.lst (xs.map .int)) (.lst []) = some (.bl (!decide (xs = []))) := ne_ints (ys := [])
theorem inD_ints (i : Int) (xs : List Int) : inD (.int i) (.lst (xs.map .int)) = some (decide (i ∈ xs)) := by
  show inDs (some (.int i)) (D.pys (xs.map .int)) = _
  rw [pys_ints]
  show (if SeqAt.shaped (.int i) = true ∧ SeqAt.shaped (.list (xs.map PyData.int)) = true then some ((xs.map PyData.int).any fun z => PyData.eqv z (.int i)) else none) = _
  rw [if_pos ⟨rfl, shaped_ints xs⟩]
  congr 1
  rw [List.any_map, Bool.eq_iff_iff, List.any_eq_true, decide_eq_true_iff]
  constructor
  · rintro ⟨x, hx, e⟩
    have e : (x == i) = true := e
    rw [← beq_iff_eq.mp e]; exact hx
  · exact fun h => ⟨i, h, show (i == i) = true from beq_self_eq_true i⟩
@[simp] theorem in_ints {i : Int} {xs : List Int} : dIn (.int i) (.lst (xs.map .int)) = some (.bl (decide (i ∈ xs))) := by unfold dIn; rw [inD_ints]; rfl
@[simp] theorem notIn_ints {i : Int} {xs : List Int} : dNotIn (.int i) (.lst (xs.map .int)) = some (.bl (!decide (i ∈ xs))) := by unfold dNotIn; rw [inD_ints]; rfl
end Sm
set_option Elab.async false
set_option linter.all false
set_option maxRecDepth 100000
set_option maxHeartbeats 400000
namespace Sm
open PySem PySem.Spec PyProof.Rows L2
section
variable {α β : Type} {c : Prop} [Decidable c] {a b : α} {τ S : List Sl} {x y : D}
@[simp] theorem mg_ok : (if c then Res.ok a τ else Res.ok b τ) = Res.ok (if c then a else b) τ := by split <;> rfl
@[simp] theorem mg_some : (if c then some a else some b) = some (if c then a else b) := by split <;> rfl
@[simp] theorem mg_bl {p q : Bool} : (if c then D.bl p else D.bl q) = D.bl (if c then p else q) := by split <;> rfl
@[simp] theorem mg_int {p q : Int} : (if c then D.int p else D.int q) = D.int (if c then p else q) := by split <;> rfl
@[simp] theorem mg_tup {p q : List D} : (if c then D.tup p else D.tup q) = D.tup (if c then p else q) := by split <;> rfl
@[simp] theorem mg_lst {p q : List D} : (if c then D.lst p else D.lst q) = D.lst (if c then p else q) := by split <;> rfl
@[simp] theorem mg_rt : (if c then SR.rt x τ else SR.rt y τ) = SR.rt (if c then x else y) τ := by split <;> rfl
@[simp] theorem mg_fin {o : List (Option D)} : (if c then RF.ok x o else RF.ok y o) = RF.ok (if c then x else y) o := by split <;> rfl
@[simp] theorem di_bind {r s : Res α} {f : α → M β} : (if c then r else s).bind f = if c then r.bind f else s.bind f := by split <;> rfl
@[simp] theorem di_st {r s : Res α} {f : α → MS} : (if c then r else s).st f = if c then r.st f else s.st f := by split <;> rfl
@[simp] theorem di_nox {r s : Res α} : (if c then r else s).nox = if c then r.nox else s.nox := by split <;> rfl
@[simp] theorem di_lift {r s : Option α} : Res.lift (if c then r else s) τ = if c then Res.lift r τ else Res.lift s τ := by split <;> rfl
@[simp] theorem di_then {r s : SR} {f : MS} : (if c then r else s).then f = if c then r.then f else s.then f := by split <;> rfl
@[simp] theorem di_obind {r s : Option α} {f : α → Option β} : (if c then r else s).bind f = if c then r.bind f else s.bind f := by split <;> rfl
@[simp] theorem di_omap {r s : Option α} {f : α → β} : (if c then r else s).map f = if c then r.map f else s.map f := by split <;> rfl
def fin (io : List Bool) : SR → RF
  | .nx τ => .ok .non (outD 0 io τ)
  | .rt d τ => .ok d (outD 0 io τ)
  | .ro d _ => if io.any id = true then .fail else .own d
  | .exc c xs τ => if io.any id = true then .exo c xs (outD 0 io τ) else .exc c xs
  | _ => .fail
theorem mkF_fin {n : Nat} {io : List Bool} {b : MS} {ds : List D} : mkF n io b ds = if ds.length = io.length then fin io (b (argS 0 io ds ++ List.replicate (n - io.length) .un)) else .fail := by
  unfold mkF
  split
  · generalize b (argS 0 io ds ++ List.replicate (n - io.length) .un) = r
    cases r <;> rfl
  · rfl
@[simp] theorem fin_nx {io : List Bool} : fin io (.nx τ) = .ok .non (outD 0 io τ) := rfl
@[simp] theorem fin_rt {io : List Bool} : fin io (.rt x τ) = .ok x (outD 0 io τ) := rfl
@[simp] theorem fin_ro {io : List Bool} : fin io (.ro x τ) = if io.any id = true then .fail else .own x := rfl
@[simp] theorem fin_exc {io : List Bool} {k : Nat} {xs : List D} : fin io (.exc k xs τ) = if io.any id = true then .exo k xs (outD 0 io τ) else .exc k xs := rfl
@[simp] theorem fin_fail {io : List Bool} : fin io .fail = .fail := rfl
@[simp] theorem di_fin {io : List Bool} {r s : SR} : fin io (if c then r else s) = if c then fin io r else fin io s := by split <;> rfl
@[simp] theorem di_callB {p : Option (Nat × Nat)} {r s : RF} : callB p (if c then r else s) τ = if c then callB p r τ else callB p s τ := by split <;> rfl
def optR (o : Option (List Sl)) : Res Unit :=
  match o with
  | some τ => .ok () τ
  | none => .fail
@[simp] theorem optR_some : optR (some τ) = .ok () τ := rfl
@[simp] theorem optR_none : optR none = .fail := rfl
@[simp] theorem di_optR {r s : Option (List Sl)} : optR (if c then r else s) = if c then optR r else optR s := by split <;> rfl
def lcOne (g : MG) (tt : M Bool) (m : M D) (vs : List Nat) (d : D) : M (Option D) := fun S =>
  (optR (g d S)).bind fun _ => fun τ => (tt τ).bind fun k => fun τ => if k = true then (m τ).bind fun y => fun τ => .ok (some y) (Sm.wipeS τ vs) else .ok none (Sm.wipeS τ vs)
@[simp] theorem ev_lcOne {g : MG} {tt : M Bool} {m : M D} {vs : List Nat} {d : D} {t : Sl} {τ : List Sl} : lcOne g tt m vs d (t :: τ) =
  (optR (g d (t :: τ))).bind fun _ => fun τ => (tt τ).bind fun k => fun τ => if k = true then (m τ).bind fun y => fun τ => .ok (some y) (Sm.wipeS τ vs) else .ok none (Sm.wipeS τ vs) := rfl
open Classical in
noncomputable def lcK (h : α → Res (Option D)) (xs : List α) (S : List Sl) (alt : Res D) : Res D :=
  if ∃ r : α → Option D, ∀ x ∈ xs, h x = .ok (r x) S then .ok (.lst (xs.filterMap fun x => match h x with | .ok o _ => o | _ => none)) S else alt
theorem lcK_of {h : α → Res (Option D)} {xs : List α} {S : List Sl} {alt : Res D} (r : α → Option D) (e : ∀ x ∈ xs, h x = .ok (r x) S) : lcK h xs S alt = .ok (.lst (xs.filterMap r)) S := by
  unfold lcK
  rw [if_pos ⟨r, e⟩]
  congr 2
  induction xs with
  | nil => rfl
  | cons x xs ih =>
    rw [List.filterMap_cons, List.filterMap_cons, e x List.mem_cons_self, ih fun z hz => e z (List.mem_cons_of_mem _ hz)]
@[simp] theorem lcK_ok {r : α → Option D} {xs : List α} {S : List Sl} {alt : Res D} : lcK (fun x => Res.ok (r x) S) xs S alt = .ok (.lst (xs.filterMap r)) S := lcK_of r fun _ _ => rfl
@[simp] theorem ev_lc {mi : M (List D)} {g : MG} {tt : M Bool} {m : M D} {vs : List Nat} {t : Sl} {τ : List Sl} : mLc mi g tt m vs (t :: τ) = (mi (t :: τ)).bind fun ds => lcEnd g tt m vs ds := rfl
@[simp] theorem fm_some {xs : List α} {y : α → β} : (xs.filterMap fun x => some (y x)) = xs.map y := by
  induction xs with
  | nil => rfl
  | cons x xs ih => rw [List.filterMap_cons, ih]; rfl
@[simp] theorem fm_if {xs : List α} {y : α → β} {p : α → Prop} [DecidablePred p] : (xs.filterMap fun x => if p x then some (y x) else none) = (xs.filter fun x => decide (p x)).map y := by
  induction xs with
  | nil => rfl
  | cons x xs ih =>
    rw [List.filterMap_cons, ih]
    by_cases h : p x
    · rw [if_pos h, List.filter_cons_of_pos (by simpa using h)]; rfl
    · rw [if_neg h, List.filter_cons_of_neg (by simpa using h)]
@[simp] theorem fm_ifn {xs : List α} {y : α → β} {p : α → Prop} [DecidablePred p] : (xs.filterMap fun x => if p x then none else some (y x)) = (xs.filter fun x => decide (¬ p x)).map y := by
  induction xs with
  | nil => rfl
  | cons x xs ih =>
    rw [List.filterMap_cons, ih]
    by_cases h : p x
    · rw [if_pos h, List.filter_cons_of_neg (by simpa using h)]
    · rw [if_neg h, List.filter_cons_of_pos (by simpa using h)]; rfl
@[simp] theorem wipe0 {τ : List Sl} : Sm.wipeS τ [] = τ := rfl
@[simp] theorem wipe1 {τ : List Sl} {v : Nat} {vs : List Nat} : Sm.wipeS τ (v :: vs) = (Sm.wipeS τ vs).set v .un := rfl
theorem small_of {xs : List D} (h : xs.length ≤ 16000000) : small xs = some xs := if_pos h
def iota (n : Int) : List Int := (List.range n.toNat).map fun i : Nat => (i : Int)
theorem rng1_of {n : Int} (h : n < 16000000) (h2 : -16000000 < n) : rng1 [.int n] = some ((iota n).map .int) := by
  have e : ∀ (k : Nat) (lo : Int), upFrom lo k = ((List.range k).map fun i : Nat => lo + (i : Int)).map D.int := by
    intro k
    induction k with
    | zero => intro lo; rfl
    | succ k ih =>
      intro lo
      show D.int lo :: upFrom (lo + 1) k = _
      rw [ih, List.range_succ_eq_map, List.map_cons, List.map_cons, List.map_map]
      congr 1
      · rw [show lo + ((0 : Nat) : Int) = lo by omega]
      · rw [List.map_map, List.map_map]
        apply List.map_congr_left
        intro i _
        show D.int (lo + 1 + i) = D.int (lo + ((i + 1 : Nat) : Int))
        rw [show lo + 1 + (i : Int) = lo + ((i + 1 : Nat) : Int) by omega]
  show (if n < 16000000 ∧ n.natAbs < 2 ^ 60 then some (upFrom 0 n.toNat) else none) = _
  rw [if_pos ⟨h, by omega⟩, e]
  unfold iota
  congr 2
  apply List.map_congr_left
  intro i _
  omega
theorem mem_iota {n i : Int} : i ∈ iota n ↔ 0 ≤ i ∧ i < n := by
  unfold iota
  rw [List.mem_map]
  constructor
  · rintro ⟨k, hk, rfl⟩
    rw [List.mem_range] at hk
    omega
  · intro ⟨h1, h2⟩
    exact ⟨i.toNat, by rw [List.mem_range]; omega, by omega⟩
theorem iota_len {n : Int} : (iota n).length = n.toNat := by
  unfold iota
  rw [List.length_map, List.length_range]
end
end Sm
set_option Elab.async false
set_option linter.all false
set_option maxRecDepth 100000
set_option maxHeartbeats 400000
namespace Sm
open PySem PySem.Spec PyProof.Rows L2
section
variable {α σ : Type} {g : MG} {tt : M Bool} {m : M D} {vs : List Nat} {f : α → D}
theorem lcOne_step {d : D} {S T : List Sl} {y : D} {ds : List D} (h : lcOne g tt m vs d S = .ok (some y) T) : mLcGo g tt m vs (d :: ds) S = (mLcGo g tt m vs ds T).bind fun ys => fun τ => .ok (y :: ys) τ := by
  unfold lcOne at h
  conv => lhs; unfold mLcGo
  cases hg : g d S with
  | none => rw [hg] at h; cases h
  | some τ1 =>
    rw [hg] at h
    replace h : ((tt τ1).bind fun k => fun τ => if k = true then (m τ).bind fun y => fun τ => .ok (some y) (Sm.wipeS τ vs) else .ok none (Sm.wipeS τ vs)) = _ := h
    show ((tt τ1).nox.bind _) = _
    cases ht : tt τ1 with
    | fail => rw [ht] at h; cases h
    | exc _ _ _ => rw [ht] at h; cases h
    | ok k τ2 =>
      rw [ht] at h
      replace h : (if k = true then (m τ2).bind fun y => fun τ => .ok (some y) (Sm.wipeS τ vs) else .ok none (Sm.wipeS τ2 vs)) = Res.ok (some y) T := h
      show (if k = true then (m τ2).nox.bind _ else mLcGo g tt m vs ds (Sm.wipeS τ2 vs)) = _
      cases k with
      | false => rw [if_neg (by decide)] at h; injection h with e1 e2; cases e1
      | true =>
        rw [if_pos rfl] at h ⊢
        cases hm : m τ2 with
        | fail => rw [hm] at h; cases h
        | exc _ _ _ => rw [hm] at h; cases h
        | ok z τ3 =>
          rw [hm] at h
          replace h : Res.ok (some z) (Sm.wipeS τ3 vs) = Res.ok (some y) T := h
          injection h with e1 e2
          injection e1 with e1
          show ((mLcGo g tt m vs ds (Sm.wipeS τ3 vs)).bind _) = _
          rw [e2, e1]
theorem lcI_go {S : σ → List Sl} {I : Nat → σ → Prop} {Y : D → Prop} : ∀ (xs : List α), (∀ x ∈ xs, ∀ n s, I (n + 1) s → ∃ y s', lcOne g tt m vs (f x) (S s) = .ok (some y) (S s') ∧ Y y ∧ I n s') →
    ∀ (k : Nat) s, I (k + xs.length) s → ∃ ys s', mLcGo g tt m vs (xs.map f) (S s) = .ok ys (S s') ∧ (∀ y ∈ ys, Y y) ∧ ys.length = xs.length ∧ I k s'
  | [], _, k, s, h => ⟨[], s, rfl, fun y hy => (by cases hy), rfl, h⟩
  | x :: xs, hs, k, s, h => by
    obtain ⟨y, s1, e1, y1, h1⟩ := hs x List.mem_cons_self (k + xs.length) s (by rw [List.length_cons] at h; exact h)
    obtain ⟨ys, s2, e2, y2, l2, h2⟩ := lcI_go xs (fun z hz => hs z (List.mem_cons_of_mem _ hz)) k s1 h1
    refine ⟨y :: ys, s2, ?_, fun z hz => ?_, by rw [List.length_cons, List.length_cons, l2], h2⟩
    · rw [List.map_cons, lcOne_step e1, e2]; rfl
    · rcases List.mem_cons.mp hz with rfl | hz
      · exact y1
      · exact y2 z hz
theorem lcI_end {S : σ → List Sl} {I : Nat → σ → Prop} {Y : D → Prop} (xs : List α) (hs : ∀ x ∈ xs, ∀ n s, I (n + 1) s → ∃ y s', lcOne g tt m vs (f x) (S s) = .ok (some y) (S s') ∧ Y y ∧ I n s')
    (k : Nat) (s : σ) (h : I (k + xs.length) s) (hz : xs.length ≤ 16000000) (hu : allUn (S s) vs = true) :
    ∃ ys s', lcEnd g tt m vs (xs.map f) (S s) = .ok (.lst ys) (S s') ∧ (∀ y ∈ ys, Y y) ∧ ys.length = xs.length ∧ I k s' := by
  obtain ⟨ys, s', e, h1, h2, h3⟩ := lcI_go xs hs k s h
  refine ⟨ys, s', ?_, h1, h2, h3⟩
  unfold lcEnd
  rw [if_pos ⟨by rw [List.length_map]; exact hz, hu⟩, e]
  rfl
theorem all_yes : ∀ {ys : List D}, (∀ y ∈ ys, y = .bl true) → dAll [.lst ys] = some (.bl true) := fun {ys} h => by
  have e : ys = ys.map fun _ => D.bl true := by
    conv => lhs; rw [← List.map_id ys]
    exact List.map_congr_left fun y hy => h y hy
  rw [e]
  exact all_true ys
@[simp] theorem io0 {fn : List D → RF} {a d : D} {j : Nat} {τ : List Sl} : callR [true, false] fn [.io 0, .v a] (.io j d :: τ) = callB (some (0, 0)) (fn [d, a]) (.io j d :: τ) := rfl
@[simp] theorem give0 {d e : D} {j : Nat} {τ : List Sl} : give (.io j e :: τ) 0 (some d) = .io j d :: τ := rfl
theorem ioc2 {fn : List D → RF} {d a v d' : D} {τ : List Sl} {i j : Nat} {mn : M D} (h : fn [d, a] = .ok v [some d', none]) (hi : τ[i]? = some (.io j d) ∨ τ[i]? = some (.ow d)) (hm : mn τ = .ok a τ) :
    mCall [true, false] fn 2 0 [0, 1] [] (aIo i (aV mn aNil)) mNil τ = .ok v (give τ i (some d')) := by
  have e1 : ownD τ[i]? = some d := by rcases hi with q | q <;> rw [q] <;> rfl
  have c : callR [true, false] fn [.io i, .v a] τ = .ok v (give τ i (some d')) := by
    rcases hi with q | q
    · rw [call_io_v q rfl, h]; rfl
    · rw [call_io_v q rfl, h]; rfl
  have s : aIo i (aV mn aNil) τ = .ok [.io i, .v a] τ := by
    unfold aIo
    rw [e1]
    show ((mn τ).bind _).bind _ = _
    rw [hm]; rfl
  show ((aIo i (aV mn aNil) τ).bind _) = _
  rw [s]
  exact c
@[simp] theorem pick0 : pick [] [] = [] := rfl
@[simp] theorem call_v0 {fn : List D → RF} {τ : List Sl} : callR [] fn [] τ = callB none (fn []) τ := rfl
@[simp] theorem io3 {fn : List D → RF} {d : D} {a b c : Sl} {τ : List Sl} : callR [true] fn [.io 3] (a :: b :: c :: .ow d :: τ) = callB (some (0, 3)) (fn [d]) (a :: b :: c :: .ow d :: τ) := rfl
theorem Box.noObo {k : Int} {d : D} (h : Box k d) : d.isObo = false := by obtain ⟨_, _, _, e, _⟩ := h; rw [e]; rfl
theorem ev_callF_v2 {fn : List D → RF} {a b d : D} {ma mb : M D} {τ : List Sl} (ha : ma τ = .ok a τ) (hb : mb τ = .ok b τ) (h : fn [a, b] = .own d) (hn : d.isObo = false := by rfl) : mCallF [false, false] fn 2 [0, 1] [] (aV ma (aV mb aNil)) τ = .ok d τ := by
  unfold mCallF aV aNil
  show ((ma τ).bind _).bind _ = _
  rw [ha]
  show (((mb τ).bind _).bind _).bind _ = _
  rw [hb]
  show (match fn [a, b] with | .own d => if d.isObo = true then Res.fail else Res.ok d τ | .exc c xs => .exc c xs τ | _ => .fail) = _
  rw [h]
  show (if d.isObo = true then Res.fail else Res.ok d τ) = _
  rw [hn]
  rfl
theorem yes_ok {r : RF} (h : r.yes = true) : ∃ o, r = .ok (.bl true) o := by
  cases r with
  | ok d o =>
    cases d with
    | bl b => cases b with
      | true => exact ⟨o, rfl⟩
      | false => cases h
    | _ => cases h
  | _ => cases h
end
end Sm
set_option Elab.async false
set_option linter.all false
set_option maxRecDepth 100000
set_option maxHeartbeats 400000
namespace Sm
open PySem PySem.Spec PyProof.Rows L2
abbrev ePr (p : Int × Int) : D := D.tup [D.int p.1, D.int p.2]
abbrev pPr (p : Int × Int) : PyData := .tuple [.int p.1, .int p.2]
def leP (p q : Int × Int) : Bool := decide (p.1 < q.1 ∨ (p.1 = q.1 ∧ p.2 ≤ q.2))
theorem eq_self {d : D} {p : PyData} (e : d.py = some p) (h1 : SeqAt.shaped p = true) (h2 : PySem.W.alike p p = true) : dEq d d = some (.bl true) := by
  have q : eqD d d = some true := by
    unfold eqD
    rw [e]
    show (if SeqAt.shaped p = true ∧ SeqAt.shaped p = true then some (PyData.eqv p p) else none) = _
    rw [if_pos ⟨h1, h1⟩, PySem.W.eqv_refl_alike p h2]
  unfold dEq
  rw [q]; rfl
end Sm
set_option Elab.async false
set_option linter.all false
set_option maxRecDepth 100000
set_option maxHeartbeats 1000000
namespace Sm
open PySem PySem.Spec PySem.Calls PyProof.Rows L2
section
variable {prog : Program} {w : World} {A : Around} {E : Value → Shared → Prop} {s : Shared}
end
section
variable {X : Cx}
end
section
variable {L : Lay} {P : Pa} {W : WX} {X : Cx} {E : L2.St → XK} {pos : Pos}
theorem sE_gstr {x z : Str} {t : Tok} (hg : Gl X x) (hm : X.mg x = some (.str z t)) (hd : (x == ("__debug__" : Str)) = false := by decide): SE L P E X (.Name x pos) (mC (.str z)) :=
  PE.weak (pe_glob (v := .str z) hg hm ⟨t, rfl⟩ hd) fun σ H Q ⟨τ, R, h⟩ => h (.str z) H .refl R (Rp.str_iff.mpr rfl)
theorem sE_gint {x : Str} {z : Int} {t : Tok} (hg : Gl X x) (hm : X.mg x = some (.int z t)) (hd : (x == ("__debug__" : Str)) = false := by decide): SE L P E X (.Name x pos) (mC (.int z)) :=
  PE.weak (pe_glob (v := .int z) hg hm ⟨t, rfl⟩ hd) fun σ H Q ⟨τ, R, h⟩ => h (.int z) H .refl R (Rp.int_iff.mpr rfl)
end
section
variable {L : Lay} {X : Cx}
def rInT (K : PySem.W.Frag) (neg : Bool) : R2 := fun x y H Q => ∃ d ds, Dp K H x d ∧ Dp K H y (.tuple ds) ∧ SeqAt.shaped d = true ∧ SeqAt.shaped (.list ds) = true ∧ Q (.bl (if neg = true then !(ds.any fun z => PyData.eqv z d) else ds.any fun z => PyData.eqv z d)) H
theorem op_inT (hu : X.A.units + 65 < cLine) : OpR X (compareOp .In) (rInT X.K false) := by
  intro pins s σ H x y v u Q I rx ry h
  obtain ⟨d, ds, hd, he, sd, se, q⟩ := h
  obtain ⟨as, r1⟩ := Dp.reads I d x v hd rx
  obtain ⟨bs, r2⟩ := Dp.reads I (.tuple ds) y u he ry
  exact SeqAt.in_tuple_reads r2 r1 (SeqAt.canLay_of_shaped se) (SeqAt.canLay_of_shaped sd) (room_in_shaped sd hu) ⟨.bl _, H, I, rfl, q⟩
theorem op_notInT (hu : X.A.units + 65 < cLine) : OpR X (compareOp .NotIn) (rInT X.K true) := by
  intro pins s σ H x y v u Q I rx ry h
  obtain ⟨d, ds, hd, he, sd, se, q⟩ := h
  obtain ⟨as, r1⟩ := Dp.reads I d x v hd rx
  obtain ⟨bs, r2⟩ := Dp.reads I (.tuple ds) y u he ry
  exact SeqAt.notIn_tuple_reads r2 r1 (SeqAt.canLay_of_shaped se) (SeqAt.canLay_of_shaped sd) (room_in_shaped sd hu) ⟨.bl _, H, I, rfl, q⟩
def dIn2 (a b : D) : Option D := match b with
  | .tup ys => dIn a (.lst ys)
  | b => dIn a b
def dNotIn2 (a b : D) : Option D := match b with
  | .tup ys => dNotIn a (.lst ys)
  | b => dNotIn a b
theorem inT_some {a : D} {ys : List D} {k : Bool} (h : inD a (.lst ys) = some k) : ∃ p ps, a.py = some p ∧ D.py (.tup ys) = some (.tuple ps) ∧ SeqAt.shaped p = true ∧ SeqAt.shaped (.list ps) = true ∧ k = ps.any fun z => PyData.eqv z p := by
  obtain ⟨ys', p, ps, e1, e2, e3, s1, s2, e4⟩ := inD_some h
  cases e1
  refine ⟨p, ps, e2, ?_, s1, s2, e4⟩
  unfold D.py at e3 ⊢
  obtain ⟨qs, e5, e6⟩ := Option.map_eq_some_iff.mp e3
  cases e6
  rw [e5]; rfl
theorem os_in2 : OpS L (fun x y H Q => rInD L.K x y H Q ∨ rInT L.K false x y H Q) dIn2 := by
  intro a b d x y H A Q e ra rb hA q
  cases b with
  | tup ys =>
    obtain ⟨k, e1, rfl⟩ := Option.map_eq_some_iff.mp (show (inD a (.lst ys)).map D.bl = some d from e)
    obtain ⟨p, ps, e2, e3, s1, s2, rfl⟩ := inT_some e1
    exact .inr ⟨p, ps, dp_bp hid_le ra e2, dp_bp hid_le rb e3, s1, s2, q _ H (.refl _) .mk_bl⟩
  | _ => exact .inl (os_in _ _ _ _ _ _ _ _ e ra rb hA q)
theorem os_notIn2 : OpS L (fun x y H Q => rNotInD L.K x y H Q ∨ rInT L.K true x y H Q) dNotIn2 := by
  intro a b d x y H A Q e ra rb hA q
  cases b with
  | tup ys =>
    obtain ⟨k, e1, rfl⟩ := Option.map_eq_some_iff.mp (show (inD a (.lst ys)).map (fun k => D.bl (!k)) = some d from e)
    obtain ⟨p, ps, e2, e3, s1, s2, rfl⟩ := inT_some e1
    exact .inr ⟨p, ps, dp_bp hid_le ra e2, dp_bp hid_le rb e3, s1, s2, q _ H (.refl _) .mk_bl⟩
  | _ => exact .inl (os_notIn _ _ _ _ _ _ _ _ e ra rb hA q)
theorem op_in2 (hu : X.A.units + 65 < cLine) : OpR X (compareOp .In) (fun x y H Q => rInD X.K x y H Q ∨ rInT X.K false x y H Q) := (op_inD hu).or (op_inT hu)
theorem op_notIn2 (hu : X.A.units + 65 < cLine) : OpR X (compareOp .NotIn) (fun x y H Q => rNotInD X.K x y H Q ∨ rInT X.K true x y H Q) := (op_notInD hu).or (op_notInT hu)
end
@[simp] theorem notIn2_ints {i : Int} {xs : List Int} : dNotIn2 (.int i) (.tup (xs.map .int)) = some (.bl (!decide (i ∈ xs))) := notIn_ints
@[simp] theorem in2_ints {i : Int} {xs : List Int} : dIn2 (.int i) (.tup (xs.map .int)) = some (.bl (decide (i ∈ xs))) := in_ints
end Sm
set_option Elab.async false
set_option linter.all false
set_option maxRecDepth 100000
set_option maxHeartbeats 1000000
namespace Sm
open PySem PySem.Spec PySem.Calls PyProof.Rows L2
structure LX (L : Lay) (X : Cx) : Prop where
  K : X.K = L.K
  P : X.prog = L.pr
  w : X.w = L.w
section
variable {L : Lay} {X : Cx} {pins : List (Addr × Obj)} {σ : L2.St} {H : Hp} {s : Shared}
mutual
theorem nk_is (hL : LX L X) (I : Inv X pins σ H s) {F : Hp} (sF : Same F H) : ∀ {d : D} {v : V} {k : NestedKey} {u : Value}, Rp L F d v → d.nk = some k → RelV v u → NestedIs s.heap k u
  | .non, _, _, _, r, e, rv => by rw [Rp.non_iff.mp r] at rv; cases e; cases (show _ = Value.none from rv); exact .none
  | .bl b, _, _, _, r, e, rv => by rw [Rp.bl_iff.mp r] at rv; cases e; cases (show _ = Value.bool b from rv); exact .bool rfl
  | .int i, _, _, _, r, e, rv => by rw [Rp.int_iff.mp r] at rv; cases e; obtain ⟨t, rfl⟩ := rv; exact .int i t
  | .str x, _, _, _, r, e, rv => by rw [Rp.str_iff.mp r] at rv; cases e; obtain ⟨t, rfl⟩ := rv; exact .text x t
  | .tup ds, _, _, _, r, e, rv => by
    obtain ⟨a, vs, rfl, q, rr⟩ := Rp.tup_iff.mp r
    cases (show _ = Value.ref a from rv)
    unfold D.nk at e
    obtain ⟨ks, e1, rfl⟩ := Option.map_eq_some_iff.mp e
    have q' : SqT X.K H a vs := by rw [hL.K]; exact SqT.same sF q
    obtain ⟨its, rv2, ht, _⟩ := I.tuple q'
    obtain ⟨o, ho, hc, n, hdat⟩ := ht
    exact .tup ho hc hdat (by simpa using nks_is hL I sF rr e1 rv2)
  | .lst _, _, _, _, _, e, _ => by unfold D.nk at e; cases e
  | .dct _ _, _, _, _, _, e, _ => by unfold D.nk at e; cases e
  | .set _, _, _, _, _, e, _ => by unfold D.nk at e; cases e
  | .obj _ _, _, _, _, _, e, _ => by unfold D.nk at e; cases e
  | .scr _, _, _, _, _, e, _ => by unfold D.nk at e; cases e
  | .exc _ _ _, _, _, _, _, e, _ => by unfold D.nk at e; cases e
  | .ins _ _ _, _, _, _, _, e, _ => by unfold D.nk at e; cases e
  | .dki _ _, _, _, _, _, e, _ => by unfold D.nk at e; cases e
  | .ptup _, _, _, _, _, e, _ => by unfold D.nk at e; cases e
theorem nks_is (hL : LX L X) (I : Inv X pins σ H s) {F : Hp} (sF : Same F H) : ∀ {ds : List D} {vs : List V} {ks : List NestedKey} {us : List Value}, Rps L F ds vs → D.nks ds = some ks → Vals vs us → NestedAll s.heap ks us
  | [], _, _, _, r, e, rv => by unfold Rps at r; subst r; unfold D.nks at e; cases e; cases rv; exact .nil
  | d :: ds, _, _, _, r, e, rv => by
    unfold Rps at r
    obtain ⟨v, vr, rfl, r1, r2⟩ := r
    unfold D.nks at e
    obtain ⟨k, e1, e2⟩ := Option.bind_eq_some_iff.mp e
    obtain ⟨ks, e3, rfl⟩ := Option.map_eq_some_iff.mp e2
    cases rv with
    | cons a b => exact .cons (nk_is hL I sF r1 e1 a) (nks_is hL I sF r2 e3 b)
end

def DK (L : Lay) (H : Hp) (a : Addr) (es : List Ent) : Prop := ∃ (F : Hp) (ks us : List D), Same F H ∧ DctAt L.pr L.w H a es ∧ DRel L F ks us es
def KK (L : Lay) (H : Hp) (b : Addr) (n : NestedKey) : Prop := ∃ (F : Hp) (kd : D), Same F H ∧ Rp L F kd (.ref b) ∧ kd.nk = some n ∧ n.depth ≤ 8
theorem KK.is (hL : LX L X) (I : Inv X pins σ H s) {b : Addr} {n : NestedKey} (h : KK L H b n) : (nestedKind X.prog X.w).is s.heap n b := by
  obtain ⟨F, kd, sF, r, e, hd⟩ := h
  exact ⟨nk_is hL I sF r e rfl, hd⟩
theorem keys_is (hL : LX L X) (I : Inv X pins σ H s) {F : Hp} (sF : Same F H) : ∀ {ks : List D} {es : List Ent} {xs : List (NestedKey × Addr × Value)}, Paired EntR es xs → D.nks ks = some (es.map (·.1)) → fewDeep es → Rps L F ks (es.map fun e => V.ref e.2.1) → ∀ x ∈ xs, (nestedKind X.prog X.w).is s.heap x.1 x.2.1
  | _, _, _, .nil, _, _, _ => fun x hx => (by cases hx)
  | [], _, _, .cons r t, e, _, _ => by cases e
  | d :: ds, _, _, .cons (l₁ := es) r t, e, hf, rr => fun x hx => by
    unfold Rps at rr
    obtain ⟨v, vr, ev, r1, r2⟩ := rr
    unfold D.nks at e
    obtain ⟨k, e1, e2⟩ := Option.bind_eq_some_iff.mp e
    obtain ⟨ks, e3, e4⟩ := Option.map_eq_some_iff.mp e2
    rw [List.map_cons] at e4 ev
    injection e4 with e5 e6
    injection ev with e7 e8
    subst e5 e6 e7 e8
    rcases List.mem_cons.mp hx with rfl | hx
    · refine ⟨?_, ?_⟩
      · rw [← r.1, ← r.2.1]
        exact nk_is hL I sF r1 e1 rfl
      · rw [← r.1]
        exact hf _ List.mem_cons_self
    · exact keys_is hL I sF t e3 (fun e he => hf e (List.mem_cons_of_mem _ he)) r2 x hx
theorem DK.at (hL : LX L X) (I : Inv X pins σ H s) {a : Addr} {es : List Ent} (h : DK L H a es) : ∃ xs, Paired EntR es xs ∧ s.heap.DictOfH (nestedKind X.prog X.w) a xs ∧ es.length ≤ sizeLine ∧ (a == sysModules) = false := by
  obtain ⟨F, ks, us, sF, ⟨_, ha⟩, r⟩ := h
  obtain ⟨⟨⟨o, ds, ep, xs, h1, h2, h3, h4, h5, h6, h7, h8⟩, _⟩, _⟩ := I.hok a _ ha
  rw [← hL.P, ← hL.w] at h4
  exact ⟨xs, h6, ⟨o, ds, ep, h1, h2, h3, h4, keys_is hL I sF h6 r.1 r.2.1 r.2.2.1, h5⟩, h7, h8⟩
def valN (es : List Ent) (n : NestedKey) : Option V := (es.find? fun e => decide (e.1 = n)).map fun e => e.2.2
theorem DK.facts (hL : LX L X) (I : Inv X pins σ H s) {a : Addr} {es : List Ent} (h : DK L H a es) : s.TypeIs (.ref a) "dict" ∧ (∀ b, Value.ref a = .ref b → ∃ ob, s.heap.get? b = some ob ∧ ob.dict = none) ∧ (a == sysModules) = false := by
  obtain ⟨xs, _, dd, _, hd⟩ := h.at hL I
  refine ⟨dd.typeIs, fun b q => ?_, hd⟩
  cases q
  obtain ⟨ob, _, _, h1, h2, _⟩ := dd
  exact ⟨ob, h1, h2.2.1⟩
end
section
variable {L : Lay} {X : Cx} {o e f : Expr} {apos cpos : Pos} {td ty tx : TE}
end
end Sm
set_option Elab.async false
set_option linter.all false
set_option maxRecDepth 100000
set_option maxHeartbeats 1000000
namespace Sm
open PySem PySem.Spec PySem.Calls PyProof.Rows L2
def keyD : D → Option NestedKey
  | .tup ds => ((D.tup ds).nk).bind fun n => if n.depth ≤ 8 then some n else none
  | _ => none
def isKey (k : D) (n : NestedKey) : Bool := match k.nk with
  | some m => NestedKey.beq m n
  | none => false
def kvD : List D → List D → NestedKey → Option D
  | k :: ks, u :: us, n => if isKey k n = true then some u else kvD ks us n
  | _, _, _ => none
def setD : List D → List D → NestedKey → D → List D
  | k :: ks, u :: us, n, x => (if isKey k n = true then x else u) :: setD ks us n x
  | _, _, _, _ => []
def putD (ks us : List D) (n : NestedKey) (k x : D) : List D × List D := match kvD ks us n with
  | some _ => (ks, setD ks us n x)
  | none => (ks ++ [k], us ++ [x])
section
variable {L : Lay}
theorem keyD_some {d : D} {n : NestedKey} (h : keyD d = some n) : ∃ ds, d = .tup ds ∧ d.nk = some n ∧ n.depth ≤ 8 := by
  unfold keyD at h
  split at h
  · obtain ⟨m, e1, e2⟩ := Option.bind_eq_some_iff.mp h
    split at e2
    · rename_i hz
      cases e2
      exact ⟨_, rfl, e1, hz⟩
    · cases e2
  · cases h
theorem isKey_of {k : D} {m n : NestedKey} (h : k.nk = some m) : isKey k n = decide (m = n) := by
  unfold isKey
  rw [h, NestedKey.decide_eq]
theorem DRel.cons_inv {F : Hp} {k u : D} {ks us : List D} {es : List Ent} (h : DRel L F (k :: ks) (u :: us) es) : ∃ e r, es = e :: r ∧ k.nk = some e.1 ∧ e.1.depth ≤ 8 ∧ Rp L F k (.ref e.2.1) ∧ Rp L F u e.2.2 ∧ DRel L F ks us r := by
  obtain ⟨h1, h2, h3, h4⟩ := h
  unfold D.nks at h1
  obtain ⟨n, e1, e2⟩ := Option.bind_eq_some_iff.mp h1
  obtain ⟨ns, e3, e4⟩ := Option.map_eq_some_iff.mp e2
  cases es with
  | nil => cases e4
  | cons e r =>
    rw [List.map_cons] at e4 h3 h4
    injection e4 with e5 e6
    subst e5 e6
    unfold Rps at h3 h4
    obtain ⟨v, vr, q1, r1, r2⟩ := h3
    obtain ⟨w, wr, q2, r3, r4⟩ := h4
    injection q1 with q1 q3
    injection q2 with q2 q4
    subst q1 q2 q3 q4
    exact ⟨e, r, rfl, e1, h2 e List.mem_cons_self, r1, r3, e3, fun x hx => h2 x (List.mem_cons_of_mem _ hx), r2, r4⟩
theorem DRel.nil_inv {F : Hp} {us : List D} {es : List Ent} (h : DRel L F [] us es) : es = [] ∧ us = [] := by
  obtain ⟨h1, _, _, h4⟩ := h
  have : es = [] := by
    cases es with
    | nil => rfl
    | cons e r => cases h1
  subst this
  refine ⟨rfl, ?_⟩
  cases us with
  | nil => rfl
  | cons u us => unfold Rps at h4; obtain ⟨v, r, e, _⟩ := h4; cases e
theorem DRel.len {F : Hp} : ∀ {ks us : List D} {es : List Ent}, DRel L F ks us es → es.length = ks.length ∧ us.length = ks.length
  | [], us, es, h => by obtain ⟨rfl, rfl⟩ := h.nil_inv; exact ⟨rfl, rfl⟩
  | k :: ks, [], es, h => by
    obtain ⟨h1, _, _, h4⟩ := h
    unfold Rps at h4
    have : es = [] := List.map_eq_nil_iff.mp h4
    subst this
    unfold D.nks at h1
    obtain ⟨n, e1, e2⟩ := Option.bind_eq_some_iff.mp h1
    obtain ⟨ns, e3, e4⟩ := Option.map_eq_some_iff.mp e2
    cases e4
  | k :: ks, u :: us, es, h => by
    obtain ⟨e, r, rfl, _, _, _, _, h2⟩ := h.cons_inv
    obtain ⟨a, b⟩ := DRel.len h2
    exact ⟨by rw [List.length_cons, List.length_cons, a], by rw [List.length_cons, List.length_cons, b]⟩
theorem DRel.cons {F : Hp} {k u : D} {ks us : List D} {e : Ent} {es : List Ent} (h1 : k.nk = some e.1) (h2 : e.1.depth ≤ 8) (h3 : Rp L F k (.ref e.2.1)) (h4 : Rp L F u e.2.2) (h : DRel L F ks us es) : DRel L F (k :: ks) (u :: us) (e :: es) := by
  obtain ⟨a, b, c, d⟩ := h
  refine ⟨?_, fun x hx => ?_, .cons h3 c, .cons h4 d⟩
  · unfold D.nks
    rw [h1, a]; rfl
  · rcases List.mem_cons.mp hx with rfl | hx
    · exact h2
    · exact b x hx
theorem DRel.nil {F : Hp} : DRel L F [] [] [] := ⟨rfl, fun e he => (by cases he), .nil, .nil⟩
theorem val_kv {F : Hp} (n : NestedKey) : ∀ {ks us : List D} {es : List Ent}, DRel L F ks us es → (∃ d v, kvD ks us n = some d ∧ valN es n = some v ∧ Rp L F d v) ∨ (kvD ks us n = none ∧ valN es n = none)
  | [], _, _, h => by obtain ⟨rfl, rfl⟩ := h.nil_inv; exact .inr ⟨rfl, rfl⟩
  | k :: ks, [], es, h => by have := h.len; cases this.2
  | k :: ks, u :: us, es, h => by
    obtain ⟨e, r, rfl, e1, _, _, r2, h2⟩ := h.cons_inv
    unfold kvD valN
    rw [isKey_of e1, List.find?_cons]
    by_cases hn : e.1 = n
    · rw [decide_eq_true hn]
      exact .inl ⟨u, e.2.2, rfl, rfl, r2⟩
    · rw [decide_eq_false hn, if_neg (by decide)]
      exact val_kv n h2
def putN (es : List Ent) (n : NestedKey) (b : Addr) (v : V) : List Ent := match valN es n with
  | some _ => es.map fun e => if e.1 = n then (e.1, e.2.1, v) else e
  | none => es ++ [(n, b, v)]
theorem DRel.set {F : Hp} {n : NestedKey} {x : D} {v : V} (rx : Rp L F x v) : ∀ {ks us : List D} {es : List Ent}, DRel L F ks us es → DRel L F ks (setD ks us n x) (es.map fun e => if e.1 = n then (e.1, e.2.1, v) else e)
  | [], _, _, h => by obtain ⟨rfl, rfl⟩ := h.nil_inv; exact .nil
  | k :: ks, [], es, h => by have := h.len; cases this.2
  | k :: ks, u :: us, es, h => by
    obtain ⟨e, r, rfl, e1, h8, r1, r2, h2⟩ := h.cons_inv
    unfold setD
    rw [isKey_of e1, List.map_cons]
    by_cases hn : e.1 = n
    · rw [decide_eq_true hn, if_pos rfl, if_pos hn]
      exact .cons e1 h8 r1 rx (DRel.set rx h2)
    · rw [decide_eq_false hn, if_neg (by decide), if_neg hn]
      exact .cons e1 h8 r1 r2 (DRel.set rx h2)
theorem DRel.snoc {F : Hp} {n : NestedKey} {k x : D} {b : Addr} {v : V} (e1 : k.nk = some n) (h8 : n.depth ≤ 8) (rk : Rp L F k (.ref b)) (rx : Rp L F x v) : ∀ {ks us : List D} {es : List Ent}, DRel L F ks us es → DRel L F (ks ++ [k]) (us ++ [x]) (es ++ [(n, b, v)])
  | [], _, _, h => by obtain ⟨rfl, rfl⟩ := h.nil_inv; exact .cons e1 h8 rk rx .nil
  | k' :: ks, [], es, h => by have := h.len; cases this.2
  | k' :: ks, u :: us, es, h => by
    obtain ⟨e, r, rfl, e2, h9, r1, r2, h2⟩ := h.cons_inv
    exact .cons e2 h9 r1 r2 (DRel.snoc e1 h8 rk rx h2)
theorem DRel.put {F : Hp} {n : NestedKey} {k x : D} {b : Addr} {v : V} (e1 : k.nk = some n) (h8 : n.depth ≤ 8) (rk : Rp L F k (.ref b)) (rx : Rp L F x v) {ks us : List D} {es : List Ent} (h : DRel L F ks us es) : DRel L F (putD ks us n k x).1 (putD ks us n k x).2 (putN es n b v) := by
  unfold putD putN
  rcases val_kv n h with ⟨d, w, q1, q2, _⟩ | ⟨q1, q2⟩
  · rw [q1, q2]; exact h.set rx
  · rw [q1, q2]; exact h.snoc e1 h8 rk rx
end
end Sm
set_option Elab.async false
set_option linter.all false
set_option maxRecDepth 100000
set_option maxHeartbeats 1000000
namespace Sm
open PySem PySem.Spec PySem.Calls PyProof.Rows L2
section
variable {L : Lay} {X : Cx}
theorem Bp.dk {H : Hp} {A : Addr → Prop} {ks us : List D} {v : V} (h : Bp L (hid H A) H (.dct ks us) v) : ∃ a es, v = .ref a ∧ DK L H a es ∧ DRel L (hid H A) ks us es := by
  obtain ⟨a, es, rfl, ha, r⟩ := h.dct
  exact ⟨a, es, rfl, ⟨_, ks, us, hid_le, ha, r⟩, r⟩
theorem Bp.kk {H : Hp} {A : Addr → Prop} {k : D} {n : NestedKey} {v : V} (h : Bp L (hid H A) H k v) (e : keyD k = some n) : ∃ b, v = .ref b ∧ KK L H b n ∧ Rp L (hid H A) k (.ref b) ∧ k.nk = some n ∧ n.depth ≤ 8 := by
  obtain ⟨ds, rfl, e1, e2⟩ := keyD_some e
  have h' : Rp L (hid H A) (.tup ds) v := h
  obtain ⟨b, vs, rfl, _, _⟩ := Rp.tup_iff.mp h'
  exact ⟨b, rfl, ⟨_, .tup ds, hid_le, h', e1, e2⟩, h', e1, e2⟩
end
end Sm
set_option Elab.async false
set_option linter.all false
set_option maxRecDepth 100000
set_option maxHeartbeats 1000000
namespace Sm
open PySem PySem.Spec PySem.Calls PyProof.Rows L2
section
variable {L : Lay} {P : Pa} {W : WX} {X : Cx} {E : L2.St → XK} {pos : Pos} {e a b c : Expr} {m ma mb mc md mk mx : M D}
def Sl.chgD (f : List D → List D → Option (List D × List D)) : Sl → Option Sl
  | .ow (.dct ks us) => (f ks us).map fun n => .ow (.dct n.1 n.2)
  | .le (.dct ks us) => (f ks us).map fun n => .le (.dct n.1 n.2)
  | .io k (.dct ks us) => (f ks us).map fun n => .io k (.dct n.1 n.2)
  | _ => none
def chgD (i : Nat) (f : List D → List D → Option (List D × List D)) (τ : List Sl) : Option (List Sl) := (τ[i]?).bind fun t => (t.chgD f).map fun t' => τ.set i t'
theorem StR.chgD {H : Hp} {σ : L2.St} {τ τ' : List Sl} {i : Nat} {f : List D → List D → Option (List D × List D)} (R : StR L P H σ τ) (h : Sm.chgD i f τ = some τ') :
    ∃ a es ks us ns, σ[i]? = some (some (.ref a)) ∧ DctAt L.pr L.w H a es ∧ DRel L (hid H (Hd P σ τ)) ks us es ∧ f ks us = some ns ∧
      ∀ es' o, DRel L (hid H (Hd P σ τ)) ns.1 ns.2 es' → Tr H (Own σ τ) (upd H a (DctO L.pr L.w a es' o)) (Own σ τ') ∧ StR L P (upd H a (DctO L.pr L.w a es' o)) σ τ' := by
  obtain ⟨t, et, h⟩ := Option.bind_eq_some_iff.mp h
  obtain ⟨t', e', rfl⟩ := Option.map_eq_some_iff.mp h
  have q := R.sl i t et
  have keep : ∀ (a : Addr) (us : List Ent) (ob : Obj) (b : Addr) (o : HO), H b = some o → b ≠ a → upd H a (DctO L.pr L.w a us ob) b = some o := fun a us ob b o h n => by rw [upd_ne n]; exact h
  cases t with
  | ow d =>
    cases d with
    | dct ks us =>
      obtain ⟨ns, e, rfl⟩ := Option.map_eq_some_iff.mp e'
      obtain ⟨a, e1, es, hv, rr⟩ := q
      exact ⟨a, es, ks, us, ns, e1, hv, rr, e, fun es' ob ru => R.upd1 ⟨e1, _, et, rfl⟩ (keep a es' ob) ⟨_, upd_same⟩ (.inr ⟨rfl, fun tr => ⟨a, e1, es', .upd, ru.same (R.fz tr)⟩⟩)⟩
    | _ => cases e'
  | le d =>
    cases d with
    | dct ks us =>
      obtain ⟨ns, e, rfl⟩ := Option.map_eq_some_iff.mp e'
      obtain ⟨a, e1, es, hv, rr⟩ := q
      exact ⟨a, es, ks, us, ns, e1, hv, rr, e, fun es' ob ru => R.upd1 ⟨e1, _, et, rfl⟩ (keep a es' ob) ⟨_, upd_same⟩ (.inr ⟨rfl, fun tr => ⟨a, e1, es', .upd, ru.same (R.fz tr)⟩⟩)⟩
    | _ => cases e'
  | io k d =>
    cases d with
    | dct ks us =>
      obtain ⟨ns, e, rfl⟩ := Option.map_eq_some_iff.mp e'
      obtain ⟨a, e1, e2, q⟩ := q
      obtain ⟨es, hv, rr⟩ := q.list rfl
      exact ⟨a, es, ks, us, ns, e1, hv, rr, e, fun es' ob ru => R.upd1 ⟨e1, _, et, rfl⟩ (keep a es' ob) ⟨_, upd_same⟩ (.inr ⟨rfl, fun tr => ⟨a, e1, e2, .inl ⟨es', .upd, ru.same (R.fz tr)⟩⟩⟩)⟩
    | _ => cases e'
  | un => cases e'
  | fz d => cases e'
  | oo d => cases e'
def Res.keyO (r : Res D) (f : D → NestedKey → List Sl → Option (List Sl)) : Option (List Sl) :=
  match r with
  | .ok k τ => (keyD k).bind fun n => f k n τ
  | _ => none
@[simp] theorem Res.keyO_ok {k : D} {τ : List Sl} {f : D → NestedKey → List Sl → Option (List Sl)} : (Res.ok k τ).keyO f = (keyD k).bind fun n => f k n τ := rfl
end
end Sm
set_option Elab.async false
set_option linter.all false
set_option maxRecDepth 100000
set_option maxHeartbeats 1000000
namespace Sm
open PySem PySem.Spec PySem.Calls PyProof.Rows L2
section
variable {prog : Program} {w : World} {A : Around} {E : Value → Shared → Prop} {s : Shared}
theorem raw_of {h : Heap} {d : Addr} {K : Type} [DecidableEq K] {knd : HeapKind prog w K} {xs : List (K × Addr × Value)} (x : h.DictOfH knd d xs) : ∃ es ep, h.DictRaw d es ep ∧ es.toList = xs.map (entryOfKey knd) := by
  obtain ⟨o, es, ep, h1, h2, h3, h4, _⟩ := x
  exact ⟨es, ep, ⟨o, h1, h2, h3⟩, h4⟩
end
section
variable {L : Lay} {X : Cx} {o : Expr} {apos cpos : Pos} {td : TE}
end
section
variable {prog : Program} {w : World} {A : Around} {E : Value → Shared → Prop} {s : Shared} {r : Addr}
end
section
variable {prog : Program} {w : World} {A : Around} {E : Value → Shared → Prop} {s : Shared} {r : Addr}
end
section
variable {prog : Program} {w : World} {A : Around} {E : Value → Shared → Prop} {s : Shared} {r : Addr}
end
end Sm
set_option Elab.async false
set_option linter.all false
set_option maxRecDepth 100000
set_option maxHeartbeats 1000000
namespace Sm
open PySem PySem.Spec PySem.Calls PyProof.Rows L2
section
theorem paired_get {α β : Type} {R : α → β → Prop} : ∀ {l : List α} {m : List β} {j : Nat} {x : α}, Paired R l m → l[j]? = some x → ∃ y, m[j]? = some y ∧ R x y
  | _, _, _, _, .nil, h => by simp at h
  | _, _, 0, _, .cons r _, h => by simp at h; subst h; exact ⟨_, rfl, r⟩
  | _, _, j + 1, _, .cons _ t, h => by
    obtain ⟨y, h1, h2⟩ := paired_get (j := j) t (by simpa using h)
    exact ⟨y, by simpa using h1, h2⟩
variable {prog : Program} {w : World} {knd : HeapKind prog w NestedKey} {ds : Array DictEntry} {es : List Ent} {xs : List (NestedKey × Addr × Value)} {acc : Array Value}
theorem entry_get (he : ds.toList = xs.map (entryOfKey knd)) (rel : Paired EntR es xs) {i : Nat} (hi : i < ds.size) : ∃ e x, es[i]? = some e ∧ xs[i]? = some x ∧ EntR e x ∧ ds[i].key = .ref e.2.1 ∧ ds[i].val = x.2.2 := by
  have l1 : ds.size = xs.length := size_of_entries he
  have l2 : es.length = xs.length := Paired.length rel
  have g1 : es[i]? = some es[i] := List.getElem?_eq_getElem (by omega)
  obtain ⟨x, g2, r⟩ := paired_get rel g1
  have q := entry_at he i
  rw [Array.getElem?_eq_getElem hi, g2] at q
  have q : ds[i] = entryOfKey knd x := Option.some.inj q
  refine ⟨es[i], x, g1, g2, r, ?_, ?_⟩
  · rw [q, r.2.1]; rfl
  · rw [q]; rfl
end
section
variable {L : Lay} {X : Cx}
end
end Sm
set_option Elab.async false
set_option linter.all false
set_option maxRecDepth 100000
set_option maxHeartbeats 1000000
namespace Sm
open PySem PySem.Spec PySem.Calls PyProof.Rows L2
section
variable {L : Lay} {P : Pa} {W : WX} {X : Cx} {E : L2.St → XK} {pos : Pos} {a : Expr} {md : M D}
end
end Sm
set_option Elab.async false
set_option linter.all false
set_option maxRecDepth 100000
set_option maxHeartbeats 2000000
namespace Sm
open PySem PySem.Spec PySem.Calls PyProof.Rows L2
section
variable {L : Lay} {X : Cx}
variable {kx vx tg iter : Expr} {ifs : List Expr} {scope : Scope} {own : List (Str × Nat)} {pos : Pos} {wi : TI} {g : TG} {tt : TT} {tk tv : TE}
variable {R : Result → Shared → Prop} {m0 : Nat}
end
end Sm
set_option Elab.async false
set_option linter.all false
set_option maxRecDepth 100000
set_option maxHeartbeats 2000000
namespace Sm
open PySem PySem.Spec PySem.Calls PyProof.Rows L2
section
variable {L : Lay} {P : Pa} {W : WX} {X : Cx} {E : L2.St → XK} {pos : Pos} {σ : L2.St} {vs : List Nat}
end
end Sm
set_option Elab.async false
set_option linter.all false
set_option maxRecDepth 100000
set_option maxHeartbeats 1000000
namespace Sm
open PySem PySem.Spec PySem.Calls PyProof.Rows L2 SlX
section
variable {L : Lay} {P : Pa} {X : Cx} {E : L2.St → XK} {pos : Pos} {e a b : Expr} {f : Str} {me ma mb : M D}
theorem Rps.at_ {F : Hp} : ∀ {ds : List D} {vs : List V} {i : Nat} {d : D}, Rps L F ds vs → ds[i]? = some d → ∃ v, vs[i]? = some v ∧ Rp L F d v := fun r e => r.get e
def noE : XK := fun _ _ _ => False
theorem noCX' {Pr : Program} {w : World} {outer : List Env} {H : Hp} {s : Shared} {e : Value} {s' : Shared} (h : L2.CX Pr w outer H s noE e s') : False := by
  obtain ⟨_, _, _, _, _, _, _, _, _, _, _, _, h⟩ := h
  exact h
end
end Sm
set_option Elab.async false
set_option linter.all false
set_option maxRecDepth 100000
set_option maxHeartbeats 1000000
namespace Sm
open PySem PySem.Spec PySem.Calls PyProof.Rows L2 SlX
mutual
def D.noSelf : D → Bool
  | .tup ds => D.noSelfs ds
  | .lst ds => D.noSelfs ds
  | .scr ds => D.noSelfs ds
  | .dct ks us => D.noSelfs ks && D.noSelfs us
  | .obj c fs => decide (c < 1000000) && D.noSelfs fs
  | .exc _ _ fs => D.noSelfs fs
  | .ins _ _ fs => D.noSelfs fs
  | .dki _ us => D.noSelfs us
  | .ptup ds => D.noSelfs ds
  | _ => true
def D.noSelfs : List D → Bool
  | [] => true
  | d :: ds => D.noSelf d && D.noSelfs ds
end
mutual
theorem Rp.mv {L : Lay} {a b : Addr} {F : Hp} : ∀ {d : D} {v : V}, Rp (L.at a) F d v → d.noSelf = true → Rp (L.at b) F d v
  | .non, _, h, _ => Rp.non_iff.mpr (Rp.non_iff.mp h)
  | .bl _, _, h, _ => Rp.bl_iff.mpr (Rp.bl_iff.mp h)
  | .int _, _, h, _ => Rp.int_iff.mpr (Rp.int_iff.mp h)
  | .str _, _, h, _ => Rp.str_iff.mpr (Rp.str_iff.mp h)
  | .tup ds, _, h, e => by
    obtain ⟨p, vs, e1, q, r⟩ := Rp.tup_iff.mp h
    exact Rp.tup_iff.mpr ⟨p, vs, e1, q, Rps.mv r (by unfold D.noSelf at e; exact e)⟩
  | .lst ds, _, h, e => by
    obtain ⟨p, vs, e1, q, r⟩ := Rp.lst_iff.mp h
    exact Rp.lst_iff.mpr ⟨p, vs, e1, q, Rps.mv r (by unfold D.noSelf at e; exact e)⟩
  | .scr ds, _, h, e => by
    obtain ⟨p, vs, e1, q, r⟩ := Rp.scr_iff.mp h
    exact Rp.scr_iff.mpr ⟨p, vs, e1, q, Rps.mv r (by unfold D.noSelf at e; exact e)⟩
  | .dki ks us, _, h, e => by
    obtain ⟨p, kvs, e1, q, e2, r⟩ := Rp.dki_iff.mp h
    exact Rp.dki_iff.mpr ⟨p, kvs, e1, q, e2, Rps.mv r (by unfold D.noSelf at e; exact e)⟩
  | .ptup ds, _, h, e => by
    obtain ⟨p, vs, e1, q, r⟩ := Rp.ptup_iff.mp h
    exact Rp.ptup_iff.mpr ⟨p, vs, e1, q, Rps.mv r (by unfold D.noSelf at e; exact e)⟩
  | .dct ks us, _, h, e => by
    obtain ⟨p, es, e1, q, r1, r2, r3, r4⟩ := Rp.dct_iff.mp h
    unfold D.noSelf at e
    obtain ⟨g1, g2⟩ := Bool.and_eq_true_iff.mp e
    exact Rp.dct_iff.mpr ⟨p, es, e1, q, r1, r2, Rps.mv r3 g1, Rps.mv r4 g2⟩
  | .set _, _, h, _ => Rp.set_iff.mpr (Rp.set_iff.mp h)
  | .obj c fs, _, h, e => by
    unfold D.noSelf at e
    obtain ⟨g1, g2⟩ := Bool.and_eq_true_iff.mp e
    have g1 := of_decide_eq_true g1
    rcases Rp.obj_iff.mp h with ⟨p, dx, vs, e1, q, q2, r, hc⟩ | ⟨_, e, _⟩
    · exact Rp.obj_iff.mpr (.inl ⟨p, dx, vs, e1, q, q2, Rps.mv r g2, hc⟩)
    · omega
  | .exc c ns fs, _, h, e => by
    unfold D.noSelf at e
    obtain ⟨p, dx, vs, e1, q, l, r⟩ := Rp.exc_iff.mp h
    exact Rp.exc_iff.mpr ⟨p, dx, vs, e1, q, l, Rps.mv r e⟩
  | .ins c ns fs, _, h, e => by
    unfold D.noSelf at e
    obtain ⟨p, dx, vs, e1, q, l, r⟩ := Rp.ins_iff.mp h
    exact Rp.ins_iff.mpr ⟨p, dx, vs, e1, q, l, Rps.mv r e⟩
theorem Rps.mv {L : Lay} {a b : Addr} {F : Hp} : ∀ {ds : List D} {vs : List V}, Rps (L.at a) F ds vs → D.noSelfs ds = true → Rps (L.at b) F ds vs
  | [], _, h, _ => by unfold Rps at h ⊢; exact h
  | d :: ds, _, h, e => by
    unfold Rps at h ⊢
    unfold D.noSelfs at e
    obtain ⟨g1, g2⟩ := Bool.and_eq_true_iff.mp e
    obtain ⟨v, r, e1, q, rr⟩ := h
    exact ⟨v, r, e1, Rp.mv q g1, Rps.mv rr g2⟩
end
theorem Rp.toAt {L : Lay} {F : Hp} {d : D} {v : V} (a : Addr) (h : Rp L F d v) (e : d.noSelf = true) : Rp (L.at a) F d v := Rp.mv (L := L) (a := L.self) h e
theorem Rps.toAt {L : Lay} {F : Hp} {d : List D} {v : List V} (a : Addr) (h : Rps L F d v) (e : D.noSelfs d = true) : Rps (L.at a) F d v := Rps.mv (L := L) (a := L.self) h e
def Kb (H : Hp) (a dx : Addr) (H' : Hp) : Prop := Tr H (fun p => p = a ∨ p = dx) H' (fun _ => False)
theorem Kb.of {H H3 : Hp} {A A' : Addr → Prop} {a dx : Addr} (tt : Tr H A H3 A') (own0 : ∀ p, ¬ A p) : Kb H a dx H3 :=
  ⟨fun b o e n => tt.keep0 b o e fun z => n (z.mono fun q w => (own0 q w).elim), fun _ z => z.elim, tt.there⟩
theorem Kb.sl {H H3 : Hp} {A A' : Addr → Prop} {a dx C : Addr} {vs : List (Option V)} (tt : Tr H A H3 A') (own0 : ∀ p, ¬ A p) : Kb H a dx (SlX.slH H3 a C dx vs) := by
  have k : Kb H a dx H3 := .of tt own0
  refine ⟨fun b o e n => ?_, fun _ z => z.elim, fun b o e => ?_⟩
  · rw [SlX.slH_ne (fun z => n (.inl (.inl z))) fun z => n (.inl (.inr z))]
    exact k.keep0 b o e n
  · by_cases h1 : b = a
    · exact ⟨_, by unfold SlX.slH; rw [h1, upd_same]⟩
    · by_cases h2 : b = dx
      · exact ⟨_, by unfold SlX.slH; rw [upd_ne h1, h2, upd_same]⟩
      · rw [SlX.slH_ne h1 h2]; exact k.there b o e
theorem Kb.kin {H H' : Hp} {a dx : Addr} {o1 o2 : HO} (k : Kb (upd (upd H dx o1) a o2) a dx H') (na : H a = none) (nd : H dx = none) : Kin H H' := by
  have up : ∀ b o, H b = some o → upd (upd H dx o1) a o2 b = some o := fun b o q => by
    rw [upd_ne (ne_of_none q na), upd_ne (ne_of_none q nd)]; exact q
  refine ⟨⟨fun b o e n => k.keep0 b o (up b o e) fun z => ?_, fun _ z => z.elim, fun b o e => k.there b o (up b o e)⟩⟩
  rcases z with (z | z) | ⟨p, e2, z⟩
  · rw [z, na] at e; cases e
  · rw [z, nd] at e; cases e
  · rw [up b o e, ← e] at e2
    refine n (.inr ⟨p, e2, .inr ?_⟩)
    rcases z with (z | z) | z
    · rw [z]; exact na
    · rw [z]; exact nd
    · by_cases h1 : p = a
      · rw [h1]; exact na
      · by_cases h2 : p = dx
        · rw [h2]; exact nd
        · rw [upd_ne h1, upd_ne h2] at z; exact z
section
variable {L : Lay} {P : Pa} {W : WX} {X : Cx} {E : L2.St → XK} {pos : Pos}
end
end Sm
set_option Elab.async false
set_option linter.all false
set_option maxRecDepth 100000
set_option maxHeartbeats 1000000
namespace Sm
open PySem PySem.Spec PySem.Calls PyProof.Rows L2 SlX
section
variable {L : Lay} {P : Pa} {X : Cx} {E : L2.St → XK} {pos p : Pos} {e : Expr} {es : List Expr} {ms : M (List D)} {x : Str}
variable {c n k : Nat} {f : Addr} {fd : FuncData} {ps : List Str} {run : List D → Option (List D)} {dds : List D} {dvs : List V} {dws : List Value}
end
end Sm
set_option Elab.async false
set_option linter.all false
set_option maxRecDepth 100000
set_option maxHeartbeats 1000000
namespace Sm
open PySem PySem.Spec PySem.Calls PyProof.Rows L2
section
variable {L : Lay} {P : Pa} {W : WX} {X : Cx} {E : L2.St → XK} {pos p kpos : Pos} {e f : Expr} {me mf : M D} {x : Str}
end
end Sm
set_option Elab.async false
set_option linter.all false
set_option maxRecDepth 100000
set_option maxHeartbeats 1000000
namespace Sm
open PySem PySem.Spec PySem.Calls PyProof.Rows L2
section
variable {L : Lay} {P : Pa} {X : Cx} {E : L2.St → XK} {pos p : Pos} {e : Expr} {me : M D} {x : Str}
def mCallFr (fn : List D → RF) (me : M D) : M D := fun τ => (me τ).bind fun d => fun τ => match fn [d] with
  | .ok r _ => .ok r τ
  | .exc c xs => .exc c xs τ
  | _ => .fail
theorem Kin.rid {H H' : Hp} {a : Addr} {A A' : Addr → Prop} (t : Tr H A H' A') (h : ∀ b, A b → b = a) : Kin (rid H a) H' :=
  ⟨⟨fun b u z n => by
    have nz : b ≠ a := fun y => by rw [y, rid_same] at z; cases z
    refine t.keep0 b u (rid_le b u z) fun y => n ?_
    rcases y with y | ⟨p, e, y⟩
    · exact absurd (h b y) nz
    · refine .inr ⟨p, by rw [rid_ne nz]; exact e, .inr ?_⟩
      rcases y with y | y
      · rw [h p y, rid_same]
      · by_cases hp : p = a
        · rw [hp, rid_same]
        · rw [rid_ne hp]; exact y, fun _ z => z.elim, fun b u z => t.there b u (rid_le b u z)⟩⟩
theorem fr_ok {σ : L2.St} {τ : List Sl} {H : Hp} {a : Addr} {d : D} {fn : List D → RF} {Q : VK} {Ex : XK} (R : StR L P (rid H a) σ τ) (o : OwR L (hid (rid H a) (Hd P σ τ)) H d a)
    (q : Post L P (RV L) (rid H a) σ τ (match fn [d] with | .ok r _ => Res.ok r τ | .exc c xs => .exc c xs τ | _ => .fail) Q Ex) : spF L [true] fn [.ref a] H Q Ex := by
  have nb : ¬ Hd P σ τ a := fun z => by obtain ⟨u, e⟩ := R.hd_there z; rw [rid_same] at e; cases e
  have own1 : ∀ b, Own [some (.ref a)] [Sl.io 0 d] b → b = a := by
    rintro b ⟨i, h1, t, h2, _⟩
    match i, h1 with
    | 0, h1 => simpa using h1.symm
    | i + 1, h1 => simp at h1
  have ownA : Own [some (V.ref a)] [Sl.io 0 d] a := ⟨0, rfl, _, rfl, rfl⟩
  have hh : ∀ b, Hd ⟨[.ref a], Hd P σ τ⟩ [some (.ref a)] [Sl.io 0 d] b ↔ b = a ∨ Hd P σ τ b := fun b => ⟨fun z => z.elim (fun y => .inl (own1 b y)) .inr, fun z => z.elim (fun y => .inl (by rw [y]; exact ownA)) .inr⟩
  have same1 : Same (hid (rid H a) (Hd P σ τ)) (hid H (Hd ⟨[.ref a], Hd P σ τ⟩ [some (.ref a)] [Sl.io 0 d])) := fun b u z => by
    obtain ⟨z1, z2, nk_z2⟩ := hid_some.mp z
    refine hid_some.mpr ⟨rid_le b u z1, fun y => ?_, by first | assumption | exact NoMk.no⟩
    rcases (hh b).mp y with rfl | y
    · rw [rid_same] at z1; cases z1
    · exact z2 y
  refine ⟨[d], Hd P σ τ, rfl, ?_, ?_⟩
  · refine ⟨rfl, fun i j b h1 h2 => ?_, fun b h => by rw [own1 b h]; exact nb, fun b h => let ⟨u, z, m⟩ := R.hd_there0 h; ⟨u, rid_le b u z, m⟩, fun i t h => ?_⟩
    · obtain ⟨e1, _⟩ := h1
      obtain ⟨e2, _⟩ := h2
      match i, j, e1, e2 with
      | 0, 0, _, _ => rfl
      | i + 1, _, e1, _ => simp at e1
      | _, j + 1, _, e2 => simp at e2
    · match i, h with
      | 0, h =>
        cases h
        exact ⟨a, rfl, rfl, (o.step same1 rfl).x⟩
      | i + 1, h => simp [argS] at h
  · revert q
    show _ → FPost L ⟨[.ref a], Hd P σ τ⟩ H [Sl.io 0 d] (fn [d]) Q Ex
    have keep : ∀ {H' : Hp} {A' : Addr → Prop}, Tr H (Own [some (V.ref a)] [Sl.io 0 d]) H' A' → Kin (rid H a) H' := fun {H' A'} t => Kin.rid t own1
    cases fn [d] with
    | ok r outs =>
      intro q v H' t R' rv
      have k := keep t
      exact q v H' (R.kinT k) (R.kin k) (rv.same (hid_mono (.refl _) fun b z => .inr z))
    | own d => exact fun q => q.elim
    | exo c xs outs => exact fun q => q.elim
    | exc c xs =>
      intro q cls od H' t ex
      have k := keep t
      exact q cls od H' (R.kinT k) (R.kin k) ex
    | fail => exact fun q => q.elim
theorem sE_callFr {k : Nat} {f : Addr} {fd : FuncData} {ps : List Str} {fn : List D → RF} (hK : X.K = L.K) (F : FnOk X.prog X.w X.K X.mg X.base (L2.CX X.prog X.w) k f fd ps (spF L [true] fn)) (hr : Room k X.A) (hg : Gl X x) (hm : X.mg x = some (.ref f)) (hk : PySem.W.keepIn X.K (.ref f) = true) (hb : Bd L fd ps 1 [] [0] [])
    (hx : ∀ σ, PassesAt (L2.CX X.prog X.w) X σ (E σ)) (he : SF L P E X e me) (hdb : (x == ("__debug__" : Str)) = false := by decide) (hs : starEach [e] X.env = (false, eval e X.env) :: starEach [] X.env := by rfl) (hpl : (backTo pos (starEach [] X.env)).any (·.1) = false := by rfl) :
    SE L P E X (.Call (.Name x p) [e] [] pos) (mCallFr fn me) := by
  refine ⟨fun pins s σ H Q I ⟨τ, R, h⟩ => ?_⟩
  refine wpAny_Call_Name_kw (ld_glob I hg hm ?_ hdb)
  have h : Post L P (RV L) H σ τ ((me τ).bind fun d => fun τ => match fn [d] with | .ok r _ => Res.ok r τ | .exc c xs => .exc c xs τ | _ => .fail) Q (E σ) := h
  have h2 : PostF L P H σ τ (me τ) (fun v H1 => ∃ a, v = .ref a ∧ spF L [true] fn [.ref a] H1 Q (E σ)) (E σ) := by
    revert h
    cases me τ with
    | ok d τ1 =>
      intro h a H1 t1 R1 o1
      rw [Res.bind_ok] at h
      exact ⟨a, rfl, fr_ok R1 o1 (Post.from h t1)⟩
    | exc c xs τ1 => exact fun h => h
    | fail => exact fun h => h
  refine PySem.W.callWith_K (h₀ := X.base) I.ok.mod.kin hk (thn ((pa_cons he pa_nil hs).run pos pins s σ H (fun vs H1 => ∃ a, vs = [.ref a] ∧ spF L [true] fn [.ref a] H1 Q (E σ)) I ⟨τ, R, ?_⟩) fun us s1 ⟨vs, H1, I1, r, a, ev, sp⟩ => ⟨I1.kIn, ?_⟩) hs hpl
  · revert h2
    cases me τ with
    | ok d τ1 => exact fun h a H' t R' o => let ⟨b, e1, q⟩ := h a H' t R' o; ⟨b, by rw [e1], q⟩
    | exc c xs τ1 => exact fun h => h
    | fail => exact fun h => h
  · subst ev
    obtain ⟨dvs, dws, dv, dd, to⟩ := hb.ex
    obtain ⟨u, rfl, ru⟩ := vals1 r
    have b := to s1 [u] [] (by rw [← hK]; exact I1.kIn) rfl rfl
    refine wpAny_call (codeAny_mono (F.run X.A X.stack s1 H1 ⟨[u], []⟩ [u] [.ref a] Q (E σ) hr I1.env0 b (.cons ru .nil) sp) fun r s' hq => ?_)
    cases r with
    | error e => exact hx σ pins H1 s1 e s' I1 hq
    | ok fl =>
      cases fl with
      | ret u => exact I1.after hq
      | next => exact False.elim hq
      | brk => exact False.elim hq
      | cont => exact False.elim hq
end
end Sm
set_option Elab.async false
set_option linter.all false
set_option maxRecDepth 100000
set_option maxHeartbeats 1000000
namespace Sm
open PySem PySem.Spec PySem.Calls PyProof.Rows L2 SlX
section
variable {L : Lay} {P : Pa} {X : Cx} {E : L2.St → XK} {pos p p' : Pos} {e : Expr} {me : M D} {x y : Str}
end
end Sm
set_option Elab.async false
set_option linter.all false
set_option maxRecDepth 100000
set_option maxHeartbeats 1000000
namespace Sm
open PySem PySem.Spec PySem.Calls PyProof.Rows L2
section
variable {X : Cx}
end
end Sm
set_option Elab.async false
set_option linter.all false
set_option maxRecDepth 100000
set_option maxHeartbeats 400000
namespace Sm
open PySem PySem.Spec PySem.Calls PyProof.Rows L2 SlX
mutual
def D.noL : D → Bool
  | .tup ds => D.noLs ds
  | .dct ks us => D.noLs ks && D.noLs us
  | .obj _ fs => D.noLs fs
  | .exc _ _ fs => D.noLs fs
  | .ins _ _ fs => D.noLs fs
  | .dki _ us => D.noLs us
  | .ptup ds => D.noLs ds
  | .lst _ => false
  | .scr _ => false
  | _ => true
def D.noLs : List D → Bool
  | [] => true
  | d :: ds => D.noL d && D.noLs ds
end
def ButL (F F' : Hp) : Prop := ∀ b o, F b = some o → F' b = some o ∨ ∃ vs, o = .lst vs
theorem ButL.tup {K : PySem.W.Frag} {F F' : Hp} {a : Addr} {xs : List V} (h : ButL F F') (q : SqT K F a xs) : SqT K F' a xs := by
  rcases q with (q | ⟨o, q⟩) | q
  · rcases h _ _ q with z | ⟨vs, z⟩
    · exact .inl (.inl z)
    · cases z
  · rcases h _ _ q with z | ⟨vs, z⟩
    · exact .inl (.inr ⟨o, z⟩)
    · cases z
  · exact .inr q
theorem ButL.ext {F F' : Hp} {a : Addr} {x : Heap → Prop} (h : ButL F F') (q : F a = some (.ext x)) : F' a = some (.ext x) := by
  rcases h _ _ q with z | ⟨vs, z⟩
  · exact z
  · cases z
theorem ButL.xd {F F' : Hp} {a : Addr} {x} (h : ButL F F') (q : F a = some (.xd x)) : F' a = some (.xd x) := by
  rcases h _ _ q with z | ⟨vs, z⟩
  · exact z
  · cases z
mutual
theorem Rp.noL {L : Lay} {F F' : Hp} (h : ButL F F') : ∀ {d : D} {v : V}, d.noL = true → Rp L F d v → Rp L F' d v
  | .non, _, _, r => Rp.non_iff.mpr (Rp.non_iff.mp r)
  | .bl _, _, _, r => Rp.bl_iff.mpr (Rp.bl_iff.mp r)
  | .int _, _, _, r => Rp.int_iff.mpr (Rp.int_iff.mp r)
  | .str _, _, _, r => Rp.str_iff.mpr (Rp.str_iff.mp r)
  | .tup ds, _, e, r => by
    obtain ⟨p, vs, e1, q, rr⟩ := Rp.tup_iff.mp r
    exact Rp.tup_iff.mpr ⟨p, vs, e1, h.tup q, Rps.noL h (by unfold D.noL at e; exact e) rr⟩
  | .lst _, _, e, _ => by unfold D.noL at e; cases e
  | .scr _, _, e, _ => by unfold D.noL at e; cases e
  | .dct ks us, _, e, r => by
    obtain ⟨p, es, e1, q, r1, r2, r3, r4⟩ := Rp.dct_iff.mp r
    unfold D.noL at e
    obtain ⟨g1, g2⟩ := Bool.and_eq_true_iff.mp e
    exact Rp.dct_iff.mpr ⟨p, es, e1, let ⟨o, z⟩ := q; ⟨o, h.ext z⟩, r1, r2, Rps.noL h g1 r3, Rps.noL h g2 r4⟩
  | .dki ks us, _, e, r => by
    obtain ⟨p, kvs, e1, q, e2, rr⟩ := Rp.dki_iff.mp r
    exact Rp.dki_iff.mpr ⟨p, kvs, e1, let ⟨o, z⟩ := q; ⟨o, h.ext z⟩, e2, Rps.noL h (by unfold D.noL at e; exact e) rr⟩
  | .ptup ds, _, e, r => by
    obtain ⟨p, vs, e1, ⟨o, z, q⟩, rr⟩ := Rp.ptup_iff.mp r
    refine Rp.ptup_iff.mpr ⟨p, vs, e1, ⟨o, z, ?_⟩, Rps.noL h (by unfold D.noL at e; exact e) rr⟩
    rcases h _ _ q with y | ⟨ws, y⟩
    · exact y
    · cases y
  | .set _, _, _, r => by
    rcases Rp.set_iff.mp r with ⟨a, ns, e1, e2, e3, q⟩ | ⟨a, ks, L', e1, e2, e3, q, q2, q3⟩
    · exact Rp.set_iff.mpr (.inl ⟨a, ns, e1, e2, e3, h.ext q⟩)
    · exact Rp.set_iff.mpr (.inr ⟨a, ks, L', e1, e2, e3, h.ext q, fun p hp => h.tup (q2 p hp), q3⟩)
  | .obj c fs, _, e, r => by
    unfold D.noL at e
    rcases Rp.obj_iff.mp r with ⟨p, dx, vs, e1, q, q2, rr, hc⟩ | r
    · exact Rp.obj_iff.mpr (.inl ⟨p, dx, vs, e1, h.ext q, h.xd q2, Rps.noL h e rr, hc⟩)
    · exact Rp.obj_iff.mpr (.inr r)
  | .exc c ns fs, _, e, r => by
    unfold D.noL at e
    obtain ⟨p, dx, vs, e1, q, l, rr⟩ := Rp.exc_iff.mp r
    exact Rp.exc_iff.mpr ⟨p, dx, vs, e1, ⟨q.1.imp (fun z => h.ext z) (fun z => h.ext z), q.2.imp (fun z => h.ext z) (fun z => h.xd z)⟩, l, Rps.noL h e rr⟩
  | .obo _ _ _, _, _, r => r.obo_no.elim
  | .ins c ns fs, _, e, r => by
    unfold D.noL at e
    obtain ⟨p, dx, vs, e1, q, l, rr⟩ := Rp.ins_iff.mp r
    refine Rp.ins_iff.mpr ⟨p, dx, vs, e1, ?_, l, Rps.noL h e rr⟩
    rcases h _ _ q with y | ⟨ws, y⟩
    · exact y
    · cases y
theorem Rps.noL {L : Lay} {F F' : Hp} (h : ButL F F') : ∀ {ds : List D} {vs : List V}, D.noLs ds = true → Rps L F ds vs → Rps L F' ds vs
  | [], _, _, r => by unfold Rps at r ⊢; exact r
  | d :: ds, _, e, r => by
    unfold Rps at r ⊢
    unfold D.noLs at e
    obtain ⟨g1, g2⟩ := Bool.and_eq_true_iff.mp e
    obtain ⟨v, r0, e1, q, rr⟩ := r
    exact ⟨v, r0, e1, Rp.noL h g1 q, Rps.noL h g2 rr⟩
end
def ownL : D → Bool
  | .lst xs => D.noLs xs
  | .dct ks us => D.noLs ks && D.noLs us
  | .dki _ us => D.noLs us
  | _ => false
theorem OwR.noL {L : Lay} {F F' H : Hp} (h : ButL F F') : ∀ {d : D} {a : Addr}, ownL d = true → OwR L F H d a → OwR L F' H d a
  | .lst _, _, e, ⟨vs, q, r⟩ => ⟨vs, q, Rps.noL h e r⟩
  | .dct ks us, _, e, ⟨es, q, r1, r2, r3, r4⟩ => by
    obtain ⟨g1, g2⟩ := Bool.and_eq_true_iff.mp e
    exact ⟨es, q, r1, r2, Rps.noL h g1 r3, Rps.noL h g2 r4⟩
  | .dki ks us, _, e, ⟨kvs, q, e2, r⟩ => ⟨kvs, q, e2, Rps.noL h e r⟩
def lmS (t t1 : Sm.Sl) : Option Sm.Sl := match t with
  | .fz d => some (.fz d)
  | .un => some .un
  | _ => match t1 with
    | .ow d => if ownL d = true then some (.ow d) else none
    | .io k d => if ownL d = true then some (.io k d) else none
    | _ => none
def lmAll : List Sm.Sl → List Sm.Sl → Option (List Sm.Sl)
  | [], [] => some []
  | t :: τ, t1 :: τ1 => (lmS t t1).bind fun s => (lmAll τ τ1).map (s :: ·)
  | _, _ => none
theorem lmAll_len : ∀ {τ τ1 τr : List Sm.Sl}, lmAll τ τ1 = some τr → τr.length = τ.length ∧ τ1.length = τ.length
  | [], [], τr, h => by cases h; exact ⟨rfl, rfl⟩
  | t :: τ, t1 :: τ1, τr, h => by
    unfold lmAll at h
    obtain ⟨s, _, h2⟩ := Option.bind_eq_some_iff.mp h
    obtain ⟨r, e, rfl⟩ := Option.map_eq_some_iff.mp h2
    obtain ⟨a, b⟩ := lmAll_len e
    exact ⟨by rw [List.length_cons, List.length_cons, a], by rw [List.length_cons, List.length_cons, b]⟩
  | [], _ :: _, _, h => by cases h
  | _ :: _, [], _, h => by cases h
theorem lmAll_get : ∀ {τ τ1 τr : List Sm.Sl}, lmAll τ τ1 = some τr → ∀ (j : Nat) (s : Sm.Sl), τr[j]? = some s → ∃ t t1, τ[j]? = some t ∧ τ1[j]? = some t1 ∧ lmS t t1 = some s
  | [], [], τr, h, j, s, e => by cases h; simp at e
  | t :: τ, t1 :: τ1, τr, h, j, s, e => by
    unfold lmAll at h
    obtain ⟨s0, h1, h2⟩ := Option.bind_eq_some_iff.mp h
    obtain ⟨r, e2, rfl⟩ := Option.map_eq_some_iff.mp h2
    cases j with
    | zero => cases e; exact ⟨t, t1, rfl, rfl, h1⟩
    | succ j =>
      obtain ⟨u, u1, q1, q2, q3⟩ := lmAll_get e2 j s (by simpa using e)
      exact ⟨u, u1, by simpa using q1, by simpa using q2, q3⟩
  | [], _ :: _, _, h, _, _, _ => by cases h
  | _ :: _, [], _, h, _, _, _ => by cases h
def lendS (i : Nat) (d : D) (τ τ1 : List Sm.Sl) : Option (List Sm.Sl) := (lmAll (τ.set i .un) τ1).map fun s => s.set i (.ow d)
section
variable {L : Lay} {P : Pa} {X : Cx} {E : L2.St → XK} {σ : L2.St} {τ τ1 τr : List Sm.Sl} {i : Nat} {ds : List D} {H H1 : Hp}
theorem lend_back (R : StR L P H σ τ) (h : τ[i]? = some (.ow (.lst ds))) (t1 : Tr H (Own σ (τ.set i (.fz (.lst ds)))) H1 (Own σ τ1)) (R1 : StR L P H1 σ τ1) (e : lendS i (.lst ds) τ τ1 = some τr) :
    Tr H (Own σ τ) H1 (Own σ τr) ∧ StR L P H1 σ τr ∧ ButL (hid H1 (Hd P σ τ1)) (hid H1 (Hd P σ τr)) := by
  obtain ⟨τm, em, rfl⟩ := Option.map_eq_some_iff.mp e
  have hi : i < τ.length := (List.getElem?_eq_some_iff.mp h).1
  obtain ⟨l1, l2⟩ := lmAll_len em
  rw [List.length_set] at l1 l2
  obtain ⟨a, ea, vs, ha, rr⟩ := R.sl i _ h
  have oa : OwnAt σ τ i a := ⟨ea, _, h, rfl⟩
  have sub0 : ∀ j b, OwnAt σ (τ.set i (.fz (.lst ds))) j b → OwnAt σ τ j b ∧ j ≠ i := fun j b ⟨e1, t, et, ow⟩ => by
    by_cases hj : i = j
    · subst hj
      rw [List.getElem?_set_self hi] at et
      cases et; cases ow
    · rw [List.getElem?_set_ne hj] at et
      exact ⟨⟨e1, t, et, ow⟩, fun z => hj z.symm⟩
  have na0 : ¬ Own σ (τ.set i (.fz (.lst ds))) a := fun ⟨j, q⟩ => by
    obtain ⟨q1, q2⟩ := sub0 j a q
    exact q2 (R.inj j i a q1 oa)
  have na1 : ¬ Own σ τ1 a := fun q => by
    rcases t1.new a q with z | z
    · exact na0 z
    · rw [ha] at z; cases z
  have ha1 : H1 a = some (.lst vs) := t1.keep a _ ha na0
  -- the slots of the end
  have get : ∀ (j : Nat) (s : Sm.Sl), (τm.set i (.ow (.lst ds)))[j]? = some s → (j = i ∧ s = .ow (.lst ds)) ∨ (j ≠ i ∧ ∃ t u, τ[j]? = some t ∧ τ1[j]? = some u ∧ lmS t u = some s) := fun j s es => by
    by_cases hj : i = j
    · subst hj
      rw [List.getElem?_set_self (by rw [l1]; exact hi)] at es
      cases es; exact .inl ⟨rfl, rfl⟩
    · rw [List.getElem?_set_ne hj] at es
      obtain ⟨t, u, q1, q2, q3⟩ := lmAll_get em j s es
      rw [List.getElem?_set_ne hj] at q1
      exact .inr ⟨fun z => hj z.symm, t, u, q1, q2, q3⟩
  have lm_own : ∀ {t u s : Sm.Sl}, lmS t u = some s → s.own = true → u = s ∧ t.own = true ∧ ((∃ d, s = .ow d ∧ ownL d = true) ∨ ∃ k d, s = .io k d ∧ ownL d = true) := fun {t u s} q w => by
    cases t with
    | fz d => cases q; cases w
    | un => cases q; cases w
    | _ =>
      cases u with
      | ow d =>
        replace q : (if ownL d = true then some (Sm.Sl.ow d) else none) = some s := q
        split at q
        · rename_i z; cases q; exact ⟨rfl, rfl, .inl ⟨d, rfl, z⟩⟩
        · cases q
      | io k d =>
        replace q : (if ownL d = true then some (Sm.Sl.io k d) else none) = some s := q
        split at q
        · rename_i z; cases q; exact ⟨rfl, rfl, .inr ⟨k, d, rfl, z⟩⟩
        · cases q
      | _ => cases q
  have own_r : ∀ j b, OwnAt σ (τm.set i (.ow (.lst ds))) j b → (j = i ∧ b = a) ∨ (j ≠ i ∧ OwnAt σ τ1 j b ∧ ∃ t, τ[j]? = some t ∧ t.own = true) := fun j b ⟨e1, s, es, ow⟩ => by
    rcases get j s es with ⟨rfl, rfl⟩ | ⟨hj, t, u, q1, q2, q3⟩
    · rw [ea] at e1; cases e1; exact .inl ⟨rfl, rfl⟩
    · obtain ⟨rfl, w, _⟩ := lm_own q3 ow
      exact .inr ⟨hj, ⟨e1, _, q2, ow⟩, t, q1, w⟩
  have tr : Tr H (Own σ τ) H1 (Own σ (τm.set i (.ow (.lst ds)))) := by
    refine ⟨fun p o ep np => t1.keep0 p o ep fun z => np (z.mono fun b ⟨j, q⟩ => ⟨j, (sub0 j b q).1⟩), fun p ⟨j, q⟩ => ?_, t1.there⟩
    rcases own_r j p q with ⟨_, rfl⟩ | ⟨_, q, _⟩
    · exact .inl ⟨i, oa⟩
    · rcases t1.new p ⟨j, q⟩ with ⟨k, z⟩ | z
      · exact .inl ⟨k, (sub0 k p z).1⟩
      · exact .inr z
  have bl : ButL (hid H1 (Hd P σ τ1)) (hid H1 (Hd P σ (τm.set i (.ow (.lst ds))))) := fun b o eb => by
    obtain ⟨h1, h2, nk_h2⟩ := hid_some.mp eb
    by_cases hb : b = a
    · rw [hb, ha1] at h1
      exact .inr ⟨vs, (Option.some.inj h1).symm⟩
    · refine .inl (hid_some.mpr ⟨h1, fun z => ?_, by first | assumption | exact NoMk.no⟩)
      rcases z with ⟨j, q⟩ | z
      · rcases own_r j b q with ⟨_, w⟩ | ⟨_, w, _⟩
        · exact hb w
        · exact h2 (.inl ⟨j, w⟩)
      · exact h2 (.inr z)
  have fz := R.fz tr
  refine ⟨tr, ⟨?_, fun j k b x y => ?_, fun b ⟨j, q⟩ => ?_, R1.bth0, fun j s es => ?_⟩, bl⟩
  · rw [List.length_set, l1]; exact R.len
  · rcases own_r j b x with ⟨z1, z2⟩ | ⟨hj, x2, _⟩
    · rcases own_r k b y with ⟨w1, _⟩ | ⟨_, y2, _⟩
      · rw [z1, w1]
      · rw [z2] at y2; exact absurd ⟨k, y2⟩ na1
    · rcases own_r k b y with ⟨_, w2⟩ | ⟨_, y2, _⟩
      · rw [w2] at x2; exact absurd ⟨j, x2⟩ na1
      · exact R1.inj j k b x2 y2
  · rcases own_r j b q with ⟨_, rfl⟩ | ⟨_, q, _⟩
    · exact R.dis _ ⟨i, oa⟩
    · exact R1.dis b ⟨j, q⟩
  · rcases get j s es with ⟨rfl, rfl⟩ | ⟨hj, t, u, q1, q2, q3⟩
    · exact ⟨a, ea, vs, ha1, Rps.same fz rr⟩
    · cases s with
      | un => trivial
      | fz d =>
        have et : t = .fz d := by
          cases t with
          | fz d' => cases q3; rfl
          | un => cases q3
          | _ =>
            cases u with
            | ow d' =>
              replace q3 : (if ownL d' = true then some (Sm.Sl.ow d') else none) = some (.fz d) := q3
              split at q3 <;> cases q3
            | io k d' =>
              replace q3 : (if ownL d' = true then some (Sm.Sl.io k d') else none) = some (.fz d) := q3
              split at q3 <;> cases q3
            | _ => cases q3
        subst et
        obtain ⟨v, e2, r2⟩ := R.sl j _ q1
        exact ⟨v, e2, r2.same fz⟩
      | ow d =>
        obtain ⟨rfl, _, w⟩ := lm_own q3 rfl
        obtain ⟨b, e2, r2⟩ := R1.sl j _ q2
        rcases w with ⟨d', w1, w2⟩ | ⟨k, d', w1, _⟩
        · cases w1; exact ⟨b, e2, r2.noL bl w2⟩
        · cases w1
      | io k d =>
        obtain ⟨rfl, _, w⟩ := lm_own q3 rfl
        obtain ⟨b, e2, e3, r2⟩ := R1.sl j _ q2
        rcases w with ⟨d', w1, _⟩ | ⟨k', d', w1, w2⟩
        · cases w1
        · cases w1; exact ⟨b, e2, e3, ((r2.list (by cases d <;> first | rfl | cases w2)).noL bl w2).x⟩
      | le d =>
        obtain ⟨_, _, w⟩ := lm_own q3 rfl
        rcases w with ⟨d', w1, _⟩ | ⟨k', d', w1, _⟩ <;> cases w1
      | oo d =>
        obtain ⟨_, _, w⟩ := lm_own q3 rfl
        rcases w with ⟨d', w1, _⟩ | ⟨k', d', w1, _⟩ <;> cases w1
def mLend (i : Nat) (m : M D) : M D := fun τ => match τ[i]? with
  | some (.ow (.lst ds)) => match m (τ.set i (.fz (.lst ds))) with
    | .ok d τ1 => if d.noL = true then (match lendS i (.lst ds) τ τ1 with | some τr => .ok d τr | none => .fail) else .fail
    | _ => .fail
  | _ => m τ
theorem mLend_eq {m : M D} (h : τ[i]? = some (.ow (.lst ds))) : mLend i m τ = match m (τ.set i (.fz (.lst ds))) with
    | .ok d τ1 => if d.noL = true then (match lendS i (.lst ds) τ τ1 with | some τr => .ok d τr | none => .fail) else .fail
    | _ => .fail := by unfold mLend; rw [h]
theorem mLend_no {m : M D} (h : ∀ ds, τ[i]? ≠ some (.ow (.lst ds))) : mLend i m τ = m τ := by
  unfold mLend
  split
  · rename_i ds e; exact absurd e (h ds)
  · rfl
theorem sE_lend {e : Expr} {m : M D} (i : Nat) (h : SE L P E X e m) : SE L P E X e (mLend i m) :=
  PE.weak h fun σ H Q ⟨τ, R, h⟩ => by
    by_cases ho : ∃ ds, τ[i]? = some (.ow (.lst ds))
    · obtain ⟨ds, ho⟩ := ho
      rw [mLend_eq ho] at h
      obtain ⟨tf, Rf, _⟩ := R.freeze ho
      refine ⟨_, Rf, ?_⟩
      revert h
      cases m (τ.set i (.fz (.lst ds))) with
      | fail => exact fun h => h
      | exc c xs τ1 => exact fun h => h.elim
      | ok d τ1 =>
        intro h v H1 t1 R1 r1
        have h : Post L P (RV L) H σ τ (if d.noL = true then (match lendS i (.lst ds) τ τ1 with | some τr => Res.ok d τr | none => .fail) else .fail) Q (E σ) := h
        split at h
        · rename_i hn
          cases el : lendS i (.lst ds) τ τ1 with
          | none => rw [el] at h; exact h.elim
          | some τr =>
            rw [el] at h
            obtain ⟨tr, Rr, bl⟩ := lend_back R ho t1 R1 el
            exact h v H1 tr Rr (Rp.noL bl hn r1)
        · exact h.elim
    · rw [mLend_no fun ds z => ho ⟨ds, z⟩] at h
      exact ⟨τ, R, h⟩
theorem lend_ok {m : M D} {d : D} {τ1 τr : List Sm.Sl} (h : τ[i]? = some (.ow (.lst ds))) (e : m (τ.set i (.fz (.lst ds))) = .ok d τ1) (n : d.noL = true) (l : lendS i (.lst ds) τ τ1 = some τr) : mLend i m τ = .ok d τr := by
  rw [mLend_eq h, e]
  show (if d.noL = true then (match lendS i (.lst ds) τ τ1 with | some τr => Res.ok d τr | none => .fail) else .fail) = _
  rw [if_pos n, l]
end
end Sm
set_option Elab.async false
set_option linter.all false
set_option maxRecDepth 100000
set_option maxHeartbeats 400000
namespace Sm
open PySem PySem.Spec PySem.Calls PyProof.Rows L2 SlX
section
variable {L : Lay} {P : Pa} {X : Cx} {E : L2.St → XK} {tg iter : Expr}
def mWipe (vs : List Nat) (m : M (List D)) : M (List D) := fun τ => (m τ).bind fun ds => fun τ => .ok ds (Sm.wipeS τ vs)
theorem ItR.mono {J : It} {G G' : Hp → (Addr → Prop) → Prop} {ds : List D} (h : ItR L J G ds) (g : ∀ H A, G' H A → G H A) : ItR L J G' ds := fun i H A q hA => h i H A (g H A q) hA
@[simp] theorem ev_wipe {m : M (List D)} {vs : List Nat} {t : Sl} {τ : List Sl} : mWipe vs m (t :: τ) = (m (t :: τ)).bind fun ds => fun τ => .ok ds (Sm.wipeS τ vs) := rfl
end
end Sm
set_option Elab.async false
set_option linter.all false
set_option maxRecDepth 100000
set_option maxHeartbeats 1000000
namespace Sm
open PySem PySem.Spec PySem.Calls PyProof.Rows L2 SlX
section
variable {L : Lay} {P : Pa} {X : Cx} {E : L2.St → XK} {pos : Pos} {e a b : Expr} {es : List Expr} {m ma mb : M D} {ms : M (List D)}
def mStar (m : M D) (ms : M (List D)) : M (List D) := fun τ => (m τ).bind fun x => fun τ => (Res.lift (asS x) τ).bind fun xs => fun τ => (ms τ).bind fun ys => fun τ => .ok (xs ++ ys) τ
theorem sA_star {p : Pos} (hK : X.K = L.K) (he : SE L P E X e m) (hr : SA L P E X es ms) (hs : starEach (.Starred e p :: es) X.env = (true, eval e X.env) :: starEach es X.env := by rfl) : SA L P E X (.Starred e p :: es) (mStar m ms) :=
  PA.weak (StX.pa_star he hr hs) fun σ H Q ⟨τ, R, h⟩ => by
    refine ⟨τ, R, (Post.split (R := RV L) h).imp fun x H1 ⟨d1, τ1, t1, R1, r1, h1⟩ => ?_⟩
    rw [hK]
    cases d1 with
    | tup xs =>
      obtain ⟨p, vs, rfl, s, rr⟩ := Rp.tup_iff.mp r1
      have h1 : Post L P (RVs L) H1 σ τ1 ((ms τ1).bind fun ys => fun τ => Res.ok (xs ++ ys) τ) Q (E σ) := h1
      refine ⟨p, vs, rfl, .inl (SqT.same hid_le s), τ1, R1, (Post.split (R := RVs L) h1).imp fun ys H2 ⟨d2, τ2, t2, R2, r2, h2⟩ => ?_⟩
      exact h2 (vs ++ ys) H2 .refl R2 ((Rps.same (R1.fz t2) rr).app r2)
    | lst xs =>
      obtain ⟨p, vs, rfl, s, rr⟩ := Rp.lst_iff.mp r1
      have h1 : Post L P (RVs L) H1 σ τ1 ((ms τ1).bind fun ys => fun τ => Res.ok (xs ++ ys) τ) Q (E σ) := h1
      refine ⟨p, vs, rfl, .inr (.inl (.inl (hid_le _ _ s))), τ1, R1, (Post.split (R := RVs L) h1).imp fun ys H2 ⟨d2, τ2, t2, R2, r2, h2⟩ => ?_⟩
      exact h2 (vs ++ ys) H2 .refl R2 ((Rps.same (R1.fz t2) rr).app r2)
    | _ => exact h1.elim
@[simp] theorem ev_star {t : Sl} {τ : List Sl} : mStar m ms (t :: τ) = (m (t :: τ)).bind fun x => fun τ => (Res.lift (asS x) τ).bind fun xs => fun τ => (ms τ).bind fun ys => fun τ => .ok (xs ++ ys) τ := rfl
def frzD : D → Bool
  | .lst _ => false
  | .dct _ _ => false
  | .dki _ _ => false
  | .obo _ _ _ => false
  | _ => true
theorem Bp.frz {H : Hp} {A : Addr → Prop} {d : D} {v : V} (h : Bp L (hid H A) H d v) (e : frzD d = true) : Rp L (hid H A) d v := by
  cases d with
  | lst ds => cases e
  | dct ks us => cases e
  | dki ks us => cases e
  | obo c ns fs => cases e
  | _ => exact h
end
end Sm
set_option Elab.async false
set_option linter.all false
set_option maxRecDepth 100000
set_option maxHeartbeats 400000
namespace Sm
open PySem PySem.Spec PySem.Calls PyProof.Rows L2 SlX
section
variable {L : Lay} {P : Pa} {W : WX} {X : Cx} {pos : Pos}
end
end Sm
set_option Elab.async false
set_option linter.all false
set_option maxRecDepth 100000
set_option maxHeartbeats 1000000
namespace Sm
open PySem PySem.Spec PySem.Calls PyProof.Rows L2
def Exo (H : Hp) (a C dx : Addr) (fs : List (Str × V)) : Prop := H a = some (exo a C (some dx)) ∧ H dx = some (exd dx fs)
structure ExK (K : PySem.W.Frag) (C : Addr) : Prop where
  oe : OexC K C
  xf : XfC K C
  xi : ExcC K C
section
variable {X : Cx} {pins : List (Addr × Obj)} {σ : L2.St} {H : Hp} {s : Shared} {a C dx : Addr} {fs : List (Str × V)}
theorem exo_inst (I : Inv X pins σ H s) (h : ExoL H a C dx fs) : ∃ (oe od : Obj) (mA : Str → Option Value), PySem.W.InstAt s.heap a oe C (some od) ∧ (∀ f, RelO (fs.lookup f) (mA f)) ∧ ∀ f, PySem.W.lookIn f od = some (mA f) := by
  have ho : ∃ oe : Obj, s.heap.get? a = some oe ∧ oe.cls = .ref C ∧ PySem.W.notCls oe = true ∧ oe.dict = some dx := by
    rcases h.1 with h | h
    · obtain ⟨t1, he⟩ := exo_at I.hok h
      exact ⟨_, he, rfl, rfl, rfl⟩
    · have x := I.hok a _ h
      obtain ⟨o, vs, h1, h2, h3, h4⟩ := x.1
      exact ⟨o, h1, h2, by unfold PySem.W.notCls; rw [h4], h3⟩
  have hd : ∃ mA, s.heap.Ns1 dx mA ∧ ∀ f, RelO (fs.lookup f) (mA f) := by
    rcases h.2 with h | h
    · exact exd_at I.hok h
    · exact I.hok dx _ h
  obtain ⟨oe, he, h1, h2, h3⟩ := ho
  obtain ⟨mA, hns, hr⟩ := hd
  obtain ⟨od, ho, hl⟩ := lookIn_ns hns
  exact ⟨oe, od, mA, ⟨he, h1, h2, by rw [h3]; exact ho⟩, hr, hl⟩
def tXv (K : PySem.W.Frag) (f : Str) (te : TE) : TE := fun σ H Q => te σ H fun x H1 => ∃ (a C dx : Addr) (fs : List (Str × V)) (v : V), x = .ref a ∧ ExoL H1 a C dx fs ∧ XfC K C ∧ PySem.W.findIn K (.ref C) f = some none ∧ fs.lookup f = some v ∧ Q v H1
theorem pe_xv {e : Expr} {te : TE} {pos : Pos} {f : Str} (he : PE X e te) (hb : attributeBase e f X.env (eval e X.env) = eval e X.env := by rfl) : PE X (.Attribute e f pos) (tXv X.K f te) := by
  refine ⟨fun pins s σ H Q I h => attr_of hb (thn (he.run pins s σ H _ I h) fun u s1 hh => ?_)⟩
  obtain ⟨x, H1, I1, rx, a, C, dx, fs, v, ex, hx, T, no, l, q⟩ := hh
  subst ex
  obtain rfl : u = Value.ref a := rx
  obtain ⟨oe, od, mA, J, hr, hl⟩ := exo_inst I1 hx
  obtain ⟨u, hu, ru⟩ := RelO.some_of (v := v) (o := mA f) (by rw [← l]; exact hr f)
  exact HandSPX.exc_get I1.kIn J T.ga T.gg T.exC (PySem.W.findObj_own T.hdC no rfl (by rw [hl, hu])) (handed_of ru) ⟨v, H1, I1.tok _, ru, q⟩
end
section
open PySem.W
variable {prog : Program} {w : World} {A : Around} {E : Value → Shared → Prop} {s : Shared} {K : Frag} {x D : Addr} {ox od : Obj}
end
section
variable {X : Cx}
end
section
variable {X : Cx} {CX : CXT} {x : Str} {C fI : Addr} {k : Nat} {fd : FuncData} {ps : List Str} {sp : Sp} {ta : TA} {p pos : Pos} {e : Expr} {es : List Expr}
end
end Sm
set_option Elab.async false
set_option linter.all false
set_option maxRecDepth 100000
set_option maxHeartbeats 4000000
namespace Sm
open PySem PySem.Spec PySem.Calls PySem.W PySem.HandSPX
section
variable {prog : Program} {w : World} {A : Around} {E : Value → Shared → Prop} {R : Result → Shared → Prop} {h : Heap} {g : Array GenState} {d : PySem.Drawn} {t : Nat} {os : OsState} {kw : List (Str × Value)}
variable {nm q : Str} {C N : Addr} {bs bm bmB : List Value} {hdct : Bool} {sn : List Str} {sub : List Value} {ab : Bool} {col : Option Bool} {dd : Option Addr} {k0 k1 k2 k3 k5 : Option Value} {B newId initId : String}
theorem newK (F : ExcBaseFacts B newId initId bmB) (hT : ∀ X : String, bm.contains (.type X) = bmB.contains (.type X)) {rest : List Value}
    (hC : h.get? C = some (excClassObj nm q C N bs bm hdct sn sub ab col dd k0 k1 k2 k3 k5 newId))
    (hq : R (.ok (.ret (.ref (h.objs.size + 1)))) ⟨(h.push (kdv_tup rest)).push (excO C h.objs.size), g, d, t, os⟩) (hrest : rest.length ≤ sizeLine) :
    codeAny (model prog w) A (.builtin newId ⟨.ref C :: rest, kw⟩) R ⟨h, g, d, t, os⟩ := by
  have he := F.ends
  have cB : (Value.ref C :: bm).contains (.type B) = true := by rw [List.contains_cons, hT, F.hasB, Bool.or_true]
  have cA : (Value.ref C :: bm).contains (.type "AttributeError") = false := by rw [List.contains_cons, hT, F.noAttr]; rfl
  have cN : (Value.ref C :: bm).contains (.type "NameError") = false := by rw [List.contains_cons, hT, F.noName]; rfl
  refine codeAny_builtinAt F.entry ?_; unfold Builtin.«BaseException.__new__»
  refine wpAt_bind ?_
  show wpAt _ _ _ (stack >>= _) _ _ (Shared.mk h g d t os)
  refine wpAt_bind (wpAt_stack fun p below => wpAt_of_wpAny ?_); wp_walk
  refine wpAt_of_wpAny ?_; rw [F.owner]
  repeat (first | with_reducible refine wpAny_madeHere_exc F.canon hC ?_ | with_reducible refine wpAny_loadPart_at hC ?_ | (with_reducible refine wpAny_isSubtype_exc hC ?_; first | rw [cB] | rw [cA] | rw [cN]) | wp_step)
  show R _ (Shared.mk _ g d t os); rw [Heap.size_push]; exact hq
end
end Sm
set_option Elab.async false
set_option linter.all false
set_option maxRecDepth 100000
set_option maxHeartbeats 1000000
namespace Sm
open PySem PySem.Spec PySem.Calls PyProof.Rows L2
section
variable {L : Lay} {P : Pa} {X : Cx} {E : L2.St → XK} {pos p p' : Pos} {e : Expr} {es : List Expr} {me : M D} {ms : M (List D)} {x y : Str} {f : Str}
theorem lookup_rel {F : Hp} : ∀ {ns : List Str} {fs : List D} {vs : List V} {d : D}, Rps L F fs vs → (ns.zip fs).lookup f = some d → ∃ v, (ns.zip vs).lookup f = some v ∧ Rp L F d v
  | [], _, _, _, _, h => by cases h
  | _ :: _, [], _, _, _, h => by cases h
  | n :: ns, d0 :: fs, vs, d, r, h => by
    unfold Rps at r
    obtain ⟨v, r', rfl, q, rr⟩ := r
    rw [List.zip_cons_cons, List.lookup_cons] at h ⊢
    cases e : f == n with
    | true =>
      rw [e] at h
      cases h
      exact ⟨v, rfl, q⟩
    | false =>
      rw [e] at h
      exact lookup_rel rr h
def dXf (cs : List Nat) (f : Str) : D → Option D
  | .exc c ns fs => if c ∈ cs then (ns.zip fs).lookup f else none
  | _ => none
theorem sE_xfld {cs : List Nat} (hL : LX L X) (T : ∀ c ∈ cs, XfC L.K (L.cls c) ∧ PySem.W.findIn L.K (.ref (L.cls c)) f = some none) (he : SE L P E X e me) (hb : attributeBase e f X.env (eval e X.env) = eval e X.env := by rfl) : SE L P E X (.Attribute e f pos) (mUn (dXf cs f) me) :=
  PE.weak (pe_xv he hb) fun σ H Q ⟨τ, R, h⟩ => by
    refine ⟨τ, R, (Post.split (R := RV L) h).imp fun v H1 ⟨d1, τ1, t1, R1, r1, h1⟩ => ?_⟩
    obtain ⟨d, e1, q⟩ := h1.done R1
    cases d1 with
    | exc c ns fs =>
      have e2 : (if c ∈ cs then (ns.zip fs).lookup f else none) = some d := e1
      split at e2
      case isFalse => cases e2
      rename_i hc
      obtain ⟨a, dx, vs, rfl, h1, _, rr⟩ := (r1.bp hid_le).exc
      obtain ⟨v, g1, g2⟩ := lookup_rel rr e2
      rw [hL.K]
      exact ⟨a, L.cls c, dx, _, v, rfl, h1.same hid_le, (T c hc).1, (T c hc).2, g1, q v H1 (.refl _) g2⟩
    | _ => cases e1
theorem lookup_mem : ∀ {tb : List (Nat × Bool)} {c : Nat} {b : Bool}, tb.lookup c = some b → (c, b) ∈ tb
  | [], _, _, h => by cases h
  | (n, z) :: tb, c, b, h => by
    rw [List.lookup_cons] at h
    cases e : c == n with
    | true =>
      rw [e] at h
      cases h
      rw [beq_iff_eq.mp e]
      exact List.mem_cons_self
    | false =>
      rw [e] at h
      exact List.mem_cons_of_mem _ (lookup_mem h)
def spX (L : Lay) (c n : Nat) (ns : List Str) (ini : List D → Option (List D)) : Sp := fun vs H Q _ => ∃ (a : Addr) (vr : List V) (ds fs : List D) (A : Addr → Prop), vs = .ref a :: vr ∧ ds.length = n ∧ H a = some (exo a (L.cls c) none) ∧ A a ∧ Th H A ∧ Rps L (hid H A) ds vr ∧ ini ds = some fs ∧
  ∀ H' dx ws, (∀ b o, H b = some o → b ≠ a → H' b = some o) → H dx = none → Exo H' a (L.cls c) dx (ns.zip ws) → ns.length = ws.length → Rps L (hid H' fun p => A p ∨ p = dx) fs ws → Q .non H'
variable {c n k : Nat} {ns : List Str} {ini : List D → Option (List D)} {fI : Addr} {fd : FuncData} {ps : List Str}
variable {ks : List Str} {ix : List Nat} {kws : List Keyword} {mk : M (List D)}
end
end Sm
set_option Elab.async false
set_option linter.all false
set_option maxRecDepth 100000
set_option maxHeartbeats 1000000
namespace Sm
open PySem PySem.Spec PySem.Calls PyProof.Rows L2
section
variable {L : Lay} {Pr : Program} {w : World} {mg : Str → Option Value} {base : Heap} {x qual : Str} {st : Stmt} {f : Addr} {fd : FuncData} {N ps : List Str} {k c : Nat} {e1 e2 o1 o2 : Expr} {f1 f2 : Str} {q1 q2 q3 q4 : Pos}
abbrev ini1 : List D → Option (List D) := fun ds => match ds with | [a] => some [a] | _ => none
theorem exo_post {H : Hp} {a C dx : Addr} {fs : List (Str × V)} (ne : dx ≠ a) : Exo (upd (upd H dx (exd dx fs)) a (exo a C (some dx))) a C dx fs := ⟨upd_same, by rw [upd_ne ne, upd_same]⟩
theorem initX1 (F : Fun L.K x qual st f fd) (hst : defBody st = [.Assign [.Attribute o1 f1 q1] e1 q2]) (S : FnScope N ps (defScope st)) (hps : ps.length = 2) (T : OexC L.K (L.cls c)) (no : PySem.W.findIn L.K (.ref (L.cls c)) f1 = some none)
    (body : ∀ (cdv : Value) (A : Around) (outer : List Env) (s : Shared) (H : Hp) (E : XK), PE (cxB Pr w L.K mg base N qual (defScope st) f cdv A outer s H E) o1 (tVar 0) ∧ PE (cxB Pr w L.K mg base N qual (defScope st) f cdv A outer s H E) e1 (tVar 1) ∧ swapsWith e1 (some (.Attribute o1 f1 q1)) q2.line (cxB Pr w L.K mg base N qual (defScope st) f cdv A outer s H E).env = pure false) :
    FnOk Pr w L.K mg base (L2.CX Pr w) (k + 1) f fd ps (spX L c 1 [f1] ini1) := by
  refine F.okX S (fun vs H Q E ⟨a, vr, ds, fs, A, e1, hl, _, _, _, r, _⟩ => by rw [e1, List.length_cons, r.length, hl, hps]) fun cdv A outer s H vs Q E hr ⟨a, vr, ds, fs, Ad, ev, hl, ha, Aa, hA, rr, run, post⟩ => ?_
  subst ev
  obtain ⟨g0, g1, g2⟩ := body cdv A outer s H E
  have pb := pss_one (ps_ost g0 g1 g2)
  rw [← hst] at pb
  refine ⟨_, pb, ?_⟩
  match ds, hl, run with
  | [d], _, run =>
  cases run
  unfold Rps at rr
  obtain ⟨v, r0, rfl, rv, rn⟩ := rr
  unfold Rps at rn
  subst rn
  refine ⟨v, rfl, .ref a, rfl, a, L.cls c, rfl, T, no, .inl ⟨ha, fun dx hd ne => ?_⟩⟩
  refine post _ dx [v] (fun b o hb nb => ?_) hd (exo_post ne) rfl (.cons (Rp.same (fun b o hb => ?_) rv) .nil)
  · rw [upd_ne nb, upd_ne (ne_of_none hb hd)]; exact hb
  · obtain ⟨h1, h2, nk_h2⟩ := hid_some.mp hb
    have nb : b ≠ a := fun z => h2 (by rw [z]; exact Aa)
    have nd := ne_of_none h1 hd
    exact hid_some.mpr ⟨by rw [upd_ne nb, upd_ne nd]; exact h1, fun z => z.elim h2 nd, by first | assumption | exact NoMk.no⟩
end
end Sm
namespace Sm
open PySem PySem.W
end Sm
set_option Elab.async false
set_option linter.all false
set_option maxRecDepth 100000
set_option maxHeartbeats 1000000
namespace Sm
open PySem PySem.Spec PySem.Calls PyProof.Rows L2
section
variable {L : Lay} {P : Pa} {X : Cx} {E : L2.St → XK} {pos p p' : Pos} {e : Expr} {es : List Expr} {m : M D}
def jS (acc : Str) : D → Option Str
  | .str y => if (acc ++ y).length ≤ 16000000 then some (acc ++ y) else none
  | _ => none
def mJs : List (M D) → Str → M D
  | [], acc => fun τ => .ok (.str acc) τ
  | m :: ms, acc => fun τ => (m τ).bind fun d => fun τ => match jS acc d with
    | some a => mJs ms a τ
    | none => .fail
structure SJ (L : Lay) (P : Pa) (E : L2.St → XK) (X : Cx) (es : List Expr) (ms : List (M D)) : Prop where
  ex : ∃ ts, PJ X es ts ∧ ∀ (acc : Str) (σ : L2.St) (H : Hp) (Q : VK), (∃ τ, StR L P H σ τ ∧ Post L P (RV L) H σ τ (mJs ms acc τ) Q (E σ)) → tJs ts acc σ H fun out H1 => Q (.str out) H1
def dStr : List D → Option D
  | [.int i] => if i.natAbs.log2 < 1920 then some (.str (toString i)) else none
  | _ => none
theorem bt_str : bootBuiltins "str" = some (.type "str") := by decide +kernel
theorem fs_str : FnS L (fun xs H Q => ∃ i, xs = [V.int i] ∧ i.natAbs.log2 < 1920 ∧ Q (.str (toString i)) H) dStr := by
  intro ds d xs H A Q e r hA q
  unfold dStr at e
  split at e
  · split at e
    · rename_i hz
      cases e
      obtain ⟨v, rfl, rv⟩ := r.one
      rw [rv.int]
      exact ⟨_, rfl, hz, q _ H (.refl _) .mk_str⟩
    · cases e
  · cases e
end
end Sm
set_option Elab.async false
set_option linter.all false
set_option maxRecDepth 100000
set_option maxHeartbeats 1000000
namespace Sm
open PySem PySem.Spec PySem.Calls PyProof.Rows L2
section
variable {L : Lay} {P : Pa} {X : Cx} {E : L2.St → XK} {pos p : Pos} {x : Str} {k : Nat} {f : Addr} {fd : FuncData} {ps ks : List Str} {io : List Bool} {fn : List D → RF} {ix : List Nat} {kws : List Keyword} {mk : M (List D)}
end
end Sm
set_option Elab.async false
set_option linter.all false
set_option maxRecDepth 100000
set_option maxHeartbeats 2000000
namespace Sm
open PySem PySem.Spec
section
variable {prog : Program} {w : World} {A : Around} {E : Value → Shared → Prop} {s : Shared} {R : Result → Shared → Prop} {z TI TO i1 i2 l1 l2 S : Addr} {xs ys : Array Value}
def ZlSt (z TI TO i1 i2 l1 l2 S : Addr) (xs ys : Array Value) (i : Nat) (h : Heap) : Prop := IsPair h TI (.ref i1) (.ref i2) ∧ h.IsListIter i1 l1 i ∧ h.IsListIter i2 l2 i ∧ h.IsList l1 xs ∧ h.IsList l2 ys ∧
  ((IsZip h z TI TO .none ∧ ∃ a b, IsPair h TO a b) ∨ ∃ T f oT, IsZipHeld h z TI TO T f ∧ h.get? T = some oT ∧ T ≠ z ∧ T ≠ i1 ∧ T ≠ i2 ∧ T ≠ S)
theorem ZlSt.keep {i : Nat} {h h' : Heap} (q : S ∉ [z, TI, TO, i1, i2, l1, l2]) (x : ZlSt z TI TO i1 i2 l1 l2 S xs ys i h) (k : ∀ b o, b ≠ S → h.get? b = some o → h'.get? b = some o) : ZlSt z TI TO i1 i2 l1 l2 S xs ys i h' := by
  simp only [List.mem_cons, List.not_mem_nil, or_false, not_or] at q
  obtain ⟨q1, q2, q3, q4, q5, q6, q7⟩ := q
  obtain ⟨a1, a2, a3, a4, a5, a6⟩ := x
  refine ⟨k _ _ (Ne.symm q2) a1, a2.at fun o e => k _ o (Ne.symm q4) e, a3.at fun o e => k _ o (Ne.symm q5) e, a4.at fun o e => k _ o (Ne.symm q6) e, a5.at fun o e => k _ o (Ne.symm q7) e, ?_⟩
  rcases a6 with ⟨b1, a, b, b2⟩ | ⟨T, f, oT, b1, b2, r1, r2, r3, r4⟩
  · exact .inl ⟨k _ _ (Ne.symm q1) b1, a, b, k _ _ (Ne.symm q3) b2⟩
  · exact .inr ⟨T, f, oT, k _ _ (Ne.symm q1) b1, k _ _ r4 b2, r1, r2, r3, r4⟩
structure ZlG (xs ys : Array Value) (lo : Addr) (h : Heap) (as : List Addr) : Prop where
  rise : as.Pairwise (· < ·)
  above : ∀ a ∈ as, lo < a
  pairs : ∀ (j : Nat) (a : Addr), as[j]? = some a → ∃ x y, xs[j]? = some x ∧ ys[j]? = some y ∧ IsPair h a x y
theorem ZlG.there {lo : Addr} {h : Heap} {as : List Addr} (g : ZlG xs ys lo h as) {a : Addr} (ha : a ∈ as) : a < h.objs.size := by
  obtain ⟨j, hj⟩ := List.mem_iff_getElem?.mp ha
  obtain ⟨_, _, _, _, e⟩ := g.pairs j a hj
  exact Heap.lt_size e
end
end Sm
set_option Elab.async false
set_option linter.all false
set_option maxRecDepth 100000
set_option maxHeartbeats 2000000
namespace Sm
open PySem PySem.Spec
section
variable {prog : Program} {w : World} {A : Around} {E : Value → Shared → Prop} {s : Shared} {z TI TO i1 i2 l1 l2 S : Addr} {xs ys : Array Value}
end
end Sm
set_option Elab.async false
set_option linter.all false
set_option maxRecDepth 100000
set_option maxHeartbeats 1000000
namespace Sm
open PySem PySem.Spec PySem.Calls PyProof.Rows L2
section
variable {X : Cx} {e e2 : Expr} {ta : TA} {p p2 q pos : Pos}
end
section
variable {L : Lay} {P : Pa} {X : Cx} {E : L2.St → XK} {e e2 : Expr} {ms : M (List D)} {p p2 q pos : Pos}
end
end Sm
set_option Elab.async false
set_option linter.all false
set_option maxRecDepth 100000
set_option maxHeartbeats 1000000
namespace Sm
open PySem PySem.Spec PySem.Calls PyProof.Rows L2
section
variable {L : Lay} {P : Pa} {X : Cx} {E : L2.St → XK} {e : Expr} {me : M D} {k : Nat} {p1 p2 p3 pos : Pos}
end
end Sm
set_option Elab.async false
set_option linter.all false
set_option maxRecDepth 100000
set_option maxHeartbeats 1000000
namespace Sm
open PySem PySem.Spec PyProof.Rows HT
section
variable {prog : Program} {w : World} {A : Around} {E : Value → Shared → Prop} {s : Shared}
end
end Sm
set_option Elab.async false
set_option linter.all false
set_option maxRecDepth 100000
set_option maxHeartbeats 1000000
namespace Sm
open PySem PySem.Spec PySem.Calls PyProof.Rows L2
section
variable {L : Lay} {P : Pa} {X : Cx} {W : WX} {pos pos' p p' : Pos} {e : Expr} {es : List Expr} {ms : M (List D)} {x : Str}
def mRaise (c n : Nat) (ns : List Str) (ini : List D → Option (List D)) (ms : M (List D)) : MS := fun τ => (ms τ).st fun ds τ =>
  if ds.length = n then
    match ini ds with
    | some fs => .exc c [.exc c ns fs] τ
    | none => .fail
  else .fail
variable {c n k : Nat} {ns : List Str} {ini : List D → Option (List D)} {fI : Addr} {fd : FuncData} {ps : List Str}
theorem raise_ok {H1 : Hp} {σ : L2.St} {τ1 : List Sl} {ds : List D} {vs : List V} {De : Ends} (R1 : StR L P H1 σ τ1) (r1 : Rps L (hid H1 (Hd P σ τ1)) ds vs)
    (h1 : SPost L P W H1 σ τ1 (if ds.length = n then (match ini ds with | some fs => SR.exc c [.exc c ns fs] τ1 | none => .fail) else .fail) De) (a : Addr) (na : H1 a = none) :
    ds.length = n ∧ spX L c n ns ini (.ref a :: vs) (upd H1 a (exo a (L.cls c) none)) (fun v H2 => v = .non ∧ ∃ (d : Addr) (fs : List (Str × V)), H2 a = some (exo a (L.cls c) (some d)) ∧ H2 d = some (exd d fs) ∧ H1 d = none ∧ W (.ref (L.cls c)) (some d) σ (upd (L2.del H2 a) d (.xd fs))) (fun _ _ _ => False) := by
  split at h1
  case isFalse => exact h1.elim
  rename_i hl
  cases e2 : ini ds with
  | none => rw [e2] at h1; exact h1.elim
  | some fs =>
    rw [e2] at h1
    have hA : ∀ q, Hd P σ τ1 q → ∃ o, H1 q = some o := fun q hq => R1.hd_there hq
    have up : ∀ b o, H1 b = some o → upd H1 a (exo a (L.cls c) none) b = some o := fun b o q => by
      rw [upd_ne (ne_of_none q na)]; exact q
    have nA : ¬ Hd P σ τ1 a := fun z => by obtain ⟨o, q⟩ := hA a z; rw [na] at q; cases q
    refine ⟨hl, a, vs, ds, fs, fun q => Hd P σ τ1 q ∨ q = a, rfl, hl, upd_same, .inr rfl, ⟨fun q hq => ?_⟩, ?_, e2, fun H' dx ws kp nd hx hw rr => ⟨rfl, dx, ns.zip ws, hx.1, hx.2, ?_, ?_⟩⟩
    · rcases hq with hq | rfl
      · obtain ⟨o, z, m⟩ := R1.hd_there0 hq; exact ⟨o, up _ _ z, m⟩
      · exact ⟨exo q (L.cls c) none, upd_same, NoMk.no⟩
    · refine Rps.same (fun b o q => ?_) r1
      obtain ⟨q1, q2, nk_q2⟩ := hid_some.mp q
      exact hid_some.mpr ⟨up b o q1, fun z => z.elim q2 (ne_of_none q1 na), by first | assumption | exact NoMk.no⟩
    all_goals
      have nd1 : dx ≠ a := fun z => by rw [z, upd_same] at nd; cases nd
      have nd2 : H1 dx = none := by rw [upd_ne nd1] at nd; exact nd
    · exact nd2
    · have s : Same H1 (upd (L2.del H' a) dx (.xd (ns.zip ws))) := fun b o q => by
        rw [upd_ne (ne_of_none q nd2), del_ne (ne_of_none q na)]
        exact kp b o (up b o q) (ne_of_none q na)
      have nB : ¬ Hd P σ τ1 dx := fun z => by obtain ⟨o, q⟩ := hA dx z; rw [nd2] at q; cases q
      refine h1 _ _ σ _ (.of s) (R1.same s) ⟨ns, fs, dx, ws, rfl, rfl, rfl, hid_some.mpr ⟨upd_same, nB, by first | assumption | exact NoMk.no⟩, hw, Rps.same (fun b o q => ?_) rr⟩
      obtain ⟨q1, q2, nk_q2⟩ := hid_some.mp q
      have nb1 : b ≠ a := fun z => q2 (.inl (.inr z))
      have nb2 : b ≠ dx := fun z => q2 (.inr z)
      exact hid_some.mpr ⟨by rw [upd_ne nb2, del_ne nb1]; exact q1, fun z => q2 (.inl (.inl z)), by first | assumption | exact NoMk.no⟩
theorem sS_raise (hL : LX L X) (hc : X.calm = true) (tk : Takes X W) (hn : n ≤ 1000) (T : OexC L.K (L.cls c)) (iC : PySem.W.findIn L.K (.ref (L.cls c)) "__init__" = some (some (.ref fI))) (tI : PySem.W.typeIn L.K (.ref fI) = some (.type "function"))
    (F : FnOk X.prog X.w X.K X.mg X.base (L2.CX X.prog X.w) k fI fd ps (spX L c n ns ini)) (hr : Room (k + 1) X.A) (hg : Gl X x) (hm : X.mg x = some (.ref (L.cls c))) (hb : Binds X.K fd ps [])
    (ha : SA L P (WE W) X (e :: es) ms) (hdb : (x == ("__debug__" : Str)) = false := by decide) (he : starEach (e :: es) X.env = (false, eval e X.env) :: starEach es X.env := by rfl) (hpl : (backTo pos (starEach es X.env)).any (·.1) = false := by rfl) :
    SS L P W X (.Raise (some (.Call (.Name x p) (e :: es) [] pos)) none pos') (mRaise c n ns ini ms) := by
  rw [← hL.K] at T iC tI
  refine PS.weak (ps_raise hc tk (pmk_oex T iC tI F hr hb (dvs := []) .nil (fun _ _ _ _ _ _ _ h => (noCX' h).elim) hg hm ha hdb he hpl)) fun De σ H ⟨τ, R, h⟩ => ?_
  refine ⟨τ, R, (Post.sta (R := RVs L) h).imp fun vs H1 ⟨ds, τ1, t1, R1, r1, h1⟩ => ?_⟩
  refine ⟨?_, fun a na => ?_⟩
  · rw [r1.length]
    split at h1
    · omega
    · exact h1.elim
  · have q := (raise_ok R1 r1 h1 a na).2
    rw [List.append_nil]
    exact q
end
section
variable {X : Cx} {pins : List (Addr × Obj)} {σ : L2.St} {H : Hp} {s : Shared} {a C dx : Addr}
theorem inv_track {o : HO} {ob : Obj} {vs : Array Value} (I : Inv X pins σ H s) (na : H a = none) (n0 : X.s_0.heap.get? a = none) (ho : s.heap.get? a = some ob) (hd : ob.data = .fields vs) (nL : a ≠ X.env.locals) (hp : ∀ p ∈ X.pn ++ pins, p.1 ≠ a)
    (hok : ObjOk X.prog X.w (upd H a o) s.heap a o) : Inv X pins σ (upd H a o) s := by
  refine ⟨I.ok, I.os, I.bare, ⟨I.base.keep, I.base.slot, fun b u q n hx => ?_, I.base.there, fun b xs q => ?_, fun b u v q => ?_, fun b ps q => ?_⟩, I.loc, I.cell, ?_, fun x c e => ?_, fun p q => ?_, fun b u q => ?_, I.len⟩
  · rw [upd_ne (fun z => by rw [z, n0] at q; cases q)]
    exact I.base.free b u q n hx
  · have z := I.base.tups b xs q
    rw [upd_ne (ne_of_none z na)]; exact z
  · have z := I.base.frzs b u v q
    rw [upd_ne (ne_of_none z na)]; exact z
  · obtain ⟨more, z⟩ := I.base.tbls b ps q
    exact ⟨more, by rw [upd_ne (ne_of_none z na)]; exact z⟩
  · rw [upd_ne (Ne.symm nL)]; exact I.free
  · have nc : c ≠ a := fun z => by
      obtain ⟨v, oc, e1, e2⟩ := I.cell x c e
      rw [z, ho] at e1
      cases e1
      rw [hd] at e2
      cases e2
    rw [upd_ne nc]; exact I.freeC x c e
  · obtain ⟨e1, e2, e3⟩ := I.pin p q
    exact ⟨e1, by rw [upd_ne (hp p q)]; exact e2, e3⟩
  · by_cases hb : b = a
    · subst hb
      rw [upd_same] at q
      cases q
      exact hok
    · rw [upd_ne hb] at q
      exact (I.hok b u q).stay (fun c v _ z => z) (fun c z => by rw [upd_ne (ne_of_none z na)]; exact z) fun c xs z => by rw [upd_ne (ne_of_none z na)]; exact z
theorem inv_suite (I : Inv X pins σ H s) : Inv (X.suite a (X.pn ++ pins)) [] σ H s :=
  ⟨I.ok.suite _ _, I.os, I.bare, I.base, I.loc, I.cell, I.free, I.freeC, fun p hp => I.pin p (by rw [List.append_nil] at hp; exact hp), I.hok, I.len⟩
theorem inv_unsuite {pn' : List (Addr × Obj)} (I : Inv (X.suite a (X.pn ++ pins)) pn' σ H s) (ok : X.Ok) : Inv X pins σ H s :=
  ⟨ok, I.os, I.bare, I.base, I.loc, I.cell, I.free, I.freeC, fun p hp => I.pin p (List.mem_append_left _ hp), I.hok, I.len⟩
def wAsT (K : PySem.W.Frag) (c : Value) (i : Nat) (ts : Addr → TS) (Wout : WX) (D : Ends) : WX := fun cls d σ H =>
  ∃ b, PySem.W.exmOne K cls c = some b ∧ (b = true → ∃ C dx, cls = .ref C ∧ d = some dx ∧ ∀ a, H a = none → ts a { nx := fun σ' H' => D.nx (σ'.set i none) H', rt := D.rt, bk := fun σ' H' => D.bk (σ'.set i none) H', ct := fun σ' H' => D.ct (σ'.set i none) H' } (σ.set i (some (.ref a))) (upd H a (exl a C dx))) ∧
    (b = false → Wout cls d σ H)
variable {x n : Str} {c : Value} {i : Nat} {body suite : List Stmt} {b₀ : Stmt} {np pos pos' : Pos} {tb : WX → TS} {ts : Addr → TS} {Wout : WX}
theorem ps_try_tr (hs : X.stack = X.env :: X.outer) (hf : X.env.frame = some X.env.locals) (hex : X.ex = []) (hN : X.N.Nodup) (hi : X.N[i]? = some n) (hln : X.env.kindOf n = some .local) (hc : Names X x c) (tk : Takes X Wout)
    (hb : ∀ (W : WX) (pn : List (Addr × Obj)) (xe : Value → Shared → Prop), Takes (X.tr pn xe) W → PassesOwn (model X.prog X.w) X.A X.env xe → PSs (X.tr pn xe) body (tb W))
    (hsu : ∀ (a : Addr) (pn : List (Addr × Obj)), PSs (X.suite a pn) (b₀ :: suite) (ts a)) :
    PS X (.Try body [.ExceptHandler (some (.Name x np)) (some n) (b₀ :: suite) pos'] [] [] pos) (fun D σ H => tb (wAsT X.K c i ts Wout D) D σ H) := by
  refine ⟨fun pins s σ H D I h => ?_⟩
  have ok := I.ok
  have hfr : X.A.frames = some (X.env :: X.outer) := by rw [ok.frames, hs]
  have hloc : Loc X.env.scope n := .inl hln
  refine wpAny_Try_except ?_
  refine wpAny_mono ((hb (wAsT X.K c i ts Wout D) (X.pn ++ pins) (fun e s₁ => wpAny (model X.prog X.w) X.A (noteFrame e X.env) (fun _ s₂ => wpAny (model X.prog X.w) X.A (setFlight e none) (fun _ s₃ =>
    wpAny (model X.prog X.w) X.A (handleBy e X.env [.ExceptHandler (some (.Name x np)) (some n) (b₀ :: suite) pos']) (SP X pins D) X.xe s₃) X.xe s₂) X.xe s₁) (fun u s' xx => ?_) PassesOwn.looking).run [] s σ H D (I.toTry _) h) (fun f s1 hsp => ?_) (fun e s1 he => he)
  · -- the catch
    obtain ⟨a, B, sI, pins', σ', H', cls, d, rfl, J', nb, up, sky, na, os, ag, b, hb1, hyes, hno⟩ := xx
    have J : Inv X pins σ' H' sI := J'.ofTry ok
    have sky' : Sky B (X.env :: X.outer) a (Zc cls d) X.env.locals s'.heap := by rw [← hs]; exact sky
    show wpAny (model X.prog X.w) X.A (noteFrame (.ref a) X.env) _ _ _
    refine Sky.land Zc.steady hfr hf sky' fun h3 fl3 up3 => ?_
    have J3 : Inv X pins σ' H' { s' with heap := h3 } := J.landed nb fl3.1 (up.trans up3) os ag
    obtain ⟨oe3, vs3, he3, hz3, hd3⟩ := fl3.there
    have notFr : ∀ {h : Heap} {o : Obj} {vs : Array Value}, h.FunFrames B (X.env :: X.outer) → h.get? a = some o → o.data = .fields vs → a ∉ frs (X.env :: X.outer) := fun {h o vs} ff e dd hm => by
      obtain ⟨_, o', e', hnf⟩ := ff.mem hm
      rw [e] at e'; cases e'
      exact hnf _ dd
    have nfr := notFr fl3.2.2.1 he3 hd3
    have nL : a ≠ X.env.locals := fun z => nfr (List.mem_filterMap.mpr ⟨X.env, List.mem_cons_self, by rw [hf, z]⟩)
    have nF : a ∉ X.fs := fun hm => by
      obtain ⟨e, he, q⟩ := List.mem_filterMap.mp hm
      exact nfr (List.mem_filterMap.mpr ⟨e, List.mem_cons_of_mem _ he, q⟩)
    have nB : B.get? a = none := fl3.2.1
    have inB : ∀ b o, sI.heap.get? b = some o → b ≠ X.env.locals → b ∉ X.fs → b ≠ a := fun b o e h1 h2 z => by
      have q := nb b o e (fun hm => by
        rw [hs] at hm
        unfold frs at hm
        rw [List.filterMap_cons, hf] at hm
        rcases List.mem_cons.mp hm with hm | hm
        · exact h1 hm
        · exact h2 hm)
      rw [z, nB] at q
      cases q
    have n0 : X.s_0.heap.get? a = none := by
      cases e : X.s_0.heap.get? a with
      | none => rfl
      | some o =>
        obtain ⟨o', q⟩ := J.base.there a o e (by rw [hex]; exact fun z => nomatch z)
        exact absurd rfl (inB a o' q nL nF)
    have hpins : ∀ p ∈ X.pn ++ pins, p.1 ≠ a := fun p hp => by
      obtain ⟨e1, e2, e3, e4, _⟩ := J.pin p hp
      exact inB p.1 p.2 e1 e3 e4
    have S3 := J3.suite he3 hd3 na nL nF
    refine wpAny_handleBy_cons (codeAny_handlers_test ?_) (by intro q; cases q)
    have LT : PySem.W.Looks (model X.prog X.w) h3 (typeOf (.ref a)) cls := fun A Q E s k q => wpAny_typeOf_ref (k _ _ he3) (by rw [hz3.1]; exact q)
    have LM := PySem.W.exm_one (M := model X.prog X.w) (J3.kIn) LT hb1
    have test : ∀ {Q : Value → Shared → Prop} {E : Value → Shared → Prop}, Q c { s' with heap := h3 } → wpAny (model X.prog X.w) (X.A.mark (some (.ref a))) (eval (.Name x np) X.env) Q E { s' with heap := h3 } := fun {Q E} q => by
      obtain ⟨hg, hdbg, hm | ⟨hm, hv, hnn⟩⟩ := hc
      · exact ld_glob (X := X.suite a ((a, oe3) :: (X.pn ++ pins))) S3 hg hm q hdbg
      · exact ld_blt (X := X.suite a ((a, oe3) :: (X.pn ++ pins))) S3 hg hm hv q hnn hdbg
    refine test (LM.here ?_)
    cases b with
    | true =>
      refine codeAny_handlers_suite_as ?_
      refine HandSPX.lands_againZ fl3 fun h4 fl4 up4 => ?_
      have J4 : Inv X pins σ' H' { s' with heap := h4 } := J.landed nb fl4.1 ((up.trans up3).trans up4) os ag
      obtain ⟨oe4, vs4, he4, hz4, hd4⟩ := fl4.there
      obtain ⟨C, dx, rfl, rfl, go⟩ := hyes rfl
      have J5 : Inv X pins σ' (upd H' a (exl a C dx)) { s' with heap := h4 } := inv_track J4 na n0 he4 hd4 nL hpins (exl_ok he4 hz4.1 hz4.2 hd4)
      have S4 : Inv (X.suite a (X.pn ++ pins)) [] σ' (upd H' a (exl a C dx)) { s' with heap := h4 } := inv_suite J5
      refine store_ok (X := X.suite a (X.pn ++ pins)) (v := .ref a) S4 hN hi hloc rfl (fun s5 S5 => ?_) (.inr hln)
      refine wpAny_mono ((hsu a (X.pn ++ pins)).run [] s5 _ _ _ S5 (go a na)) (fun f s6 hsp => ?_) (fun _ _ z => False.elim z)
      have end_ : ∀ {σ6 : L2.St} {H6 : Hp} {Q : Shared → Prop}, Inv (X.suite a (X.pn ++ pins)) [] σ6 H6 s6 → (∀ s7, Inv X pins (σ6.set i none) H6 s7 → Q s7) →
          wpAny (model X.prog X.w) X.A (do bindName X.env n .none; unbindBehindTheSuite X.env n pos') (fun _ s7 => Q s7) X.xe s6 := fun {σ6 H6 Q} S6 hq => gone_ok (inv_unsuite S6 ok) hN hi hln hq
      cases f with
      | next =>
        obtain ⟨σ6, H6, S6, q6⟩ := hsp
        exact end_ S6 fun s7 J7 => ⟨_, _, J7, q6⟩
      | brk =>
        obtain ⟨σ6, H6, S6, q6⟩ := hsp
        exact end_ S6 fun s7 J7 => ⟨_, _, J7, q6⟩
      | cont =>
        obtain ⟨σ6, H6, S6, q6⟩ := hsp
        exact end_ S6 fun s7 J7 => ⟨_, _, J7, q6⟩
      | ret u =>
        obtain ⟨v6, σ6, H6, S6, r6, q6⟩ := hsp
        exact end_ S6 fun s7 J7 => ⟨_, _, _, J7, r6, q6⟩
    | false =>
      show wpAny _ X.A (handleBy (.ref a) X.env []) _ _ _
      refine wpAny_handleBy_nil ?_
      obtain ⟨k1, k2, k3, oe, vs, T, oT, ts', he, hz, hd, h1, hr⟩ := id fl3
      unfold PySem.passOn
      refine wpAny_bind (wpAny_field he hd h1 ?_)
      rw [if_neg (show ¬ ((Value.ref T == Value.none) = true) from by simp)]
      have fin : wpAny (model X.prog X.w) X.A (setFlight (.ref a) X.env.frame) (fun _ s4 => wpAny (model X.prog X.w) X.A (throw (.ref a) : Sem Flow) (SP X pins D) X.xe s4) X.xe { s' with heap := h3 } := by
        rw [hf]
        refine HandSPX.setFlight_upZ fl3 fun h4 hh4 up4 => wpAny_throw (tk _ _ ?_)
        exact ⟨a, B, sI, pins, σ', H', cls, d, rfl, J, nb, (up.trans up3).trans up4, .inr (.inr (by rw [hs]; exact hh4)), na, os, ag, hno rfl⟩
      first
        | exact wpAny_bind (wpAny_pure (wpAny_bind fin))
        | exact wpAny_bind fin
  · cases f with
    | next =>
      obtain ⟨σ', H', J', q⟩ := hsp
      exact wpAny_execs_nil ⟨σ', H', J'.ofTry ok, q⟩
    | brk =>
      obtain ⟨σ', H', J', q⟩ := hsp
      exact ⟨σ', H', J'.ofTry ok, q⟩
    | cont =>
      obtain ⟨σ', H', J', q⟩ := hsp
      exact ⟨σ', H', J'.ofTry ok, q⟩
    | ret u =>
      obtain ⟨v, σ', H', J', r, q⟩ := hsp
      exact ⟨v, σ', H', J'.ofTry ok, r, q⟩
end
end Sm
set_option Elab.async false
set_option linter.all false
set_option maxRecDepth 100000
set_option maxHeartbeats 1000000
namespace Sm
open PySem PySem.Spec PySem.Calls PyProof.Rows L2
section
variable {L : Lay} {P : Pa} {X : Cx} {W : WX}
theorem StR.unset {H : Hp} {σ : L2.St} {τ : List Sl} {i : Nat} (x : Option V) (R : StR L P H σ τ) :
    Tr H (Own σ τ) H (Own (σ.set i x) (τ.set i .un)) ∧ StR L P H (σ.set i x) (τ.set i .un) := by
  have sub : ∀ j a, OwnAt (σ.set i x) (τ.set i .un) j a → OwnAt σ τ j a := fun j a ⟨e, t, et, ow⟩ => by
    by_cases hj : i = j
    · subst hj
      have hi : i < τ.length := by have := (List.getElem?_eq_some_iff.mp et).1; rwa [List.length_set] at this
      rw [List.getElem?_set_self hi] at et
      cases et
      cases ow
    · rw [List.getElem?_set_ne hj] at et e
      exact ⟨e, t, et, ow⟩
  have tr : Tr H (Own σ τ) H (Own (σ.set i x) (τ.set i .un)) := ⟨fun _ _ q _ => q, fun a ⟨j, q⟩ => .inl ⟨j, sub j a q⟩, fun _ o h => ⟨o, h⟩⟩
  refine ⟨tr, by rw [List.length_set, List.length_set]; exact R.len, fun j k b x y => R.inj j k b (sub j b x) (sub k b y), fun b ⟨j, q⟩ => R.dis b ⟨j, sub j b q⟩, R.bth0, fun j t ht => ?_⟩
  by_cases hj : i = j
  · subst hj
    have hi : i < τ.length := by have := (List.getElem?_eq_some_iff.mp ht).1; rwa [List.length_set] at this
    rw [List.getElem?_set_self hi] at ht
    cases ht
    trivial
  · rw [List.getElem?_set_ne hj] at ht
    rw [List.getElem?_set_ne hj]
    have q := R.sl j t ht
    cases t with
    | un => trivial
    | fz d' => obtain ⟨v, e2, r2⟩ := q; exact ⟨v, e2, r2.same (R.fz tr)⟩
    | ow d' => obtain ⟨b, e2, r2⟩ := q; exact ⟨b, e2, r2.step (R.fz tr) rfl⟩
    | le d' => obtain ⟨b, e2, r2⟩ := q; exact ⟨b, e2, r2.step (R.fz tr) rfl⟩
    | io k d' => obtain ⟨b, e2, e3, r2⟩ := q; exact ⟨b, e2, e3, r2.step (R.fz tr) rfl⟩
    | oo d' => obtain ⟨b, e2, r2⟩ := q; exact ⟨b, e2, r2.step (R.fz tr) rfl⟩
def unset (i : Nat) (r : SR) : SR :=
  match r with
  | .nx τ => .nx (τ.set i .un)
  | .bk τ => .bk (τ.set i .un)
  | .ct τ => .ct (τ.set i .un)
  | .rt d τ => .rt d (τ.set i .un)
  | _ => .fail
def mTry (tb : List (Nat × Bool)) (i : Nat) (m ms : MS) : MS := fun τ =>
  match m τ with
  | .exc c xs τ' =>
    match tb.lookup c with
    | some true =>
      match xs with
      | [d] => if i < τ'.length ∧ (τ'[i]?.map Sl.free) = some true then unset i (ms (τ'.set i (.fz d))) else .fail
      | _ => .fail
    | some false => .exc c xs τ'
    | none => .fail
  | r => r
abbrev Wno : WX := fun _ _ _ _ => False
theorem unset_post {D : Ends} {H H' : Hp} {σ σ' : L2.St} {τ τ' : List Sl} {i : Nat} {r : SR} (tr : Tr H (Own σ τ) H' (Own σ' τ')) (h : SPost L P W H σ τ (unset i r) D) :
    SPost L P Wno H' σ' τ' r { nx := fun σ H => D.nx (σ.set i none) H, rt := D.rt, bk := fun σ H => D.bk (σ.set i none) H, ct := fun σ H => D.ct (σ.set i none) H } := by
  cases r with
  | nx τ3 => exact fun σ4 H4 t R => let ⟨t2, R2⟩ := R.unset (i := i) none; h _ H4 ((tr.trans t).trans t2) R2
  | bk τ3 => exact fun σ4 H4 t R => let ⟨t2, R2⟩ := R.unset (i := i) none; h _ H4 ((tr.trans t).trans t2) R2
  | ct τ3 => exact fun σ4 H4 t R => let ⟨t2, R2⟩ := R.unset (i := i) none; h _ H4 ((tr.trans t).trans t2) R2
  | rt d τ3 => exact fun v σ4 H4 t R rv => let ⟨t2, R2⟩ := R.unset (i := i) none; h v _ H4 ((tr.trans t).trans t2) R2 (rv.same (R.fz t2))
  | ro d τ3 => exact h.elim
  | exc c xs τ3 => exact h.elim
  | fail => exact h.elim
variable {x n : Str} {c : Value} {i : Nat} {body suite : List Stmt} {b₀ : Stmt} {np pos pos' : Pos} {m ms : MS}
theorem sS_try (tb : List (Nat × Bool)) (hL : LX L X) (hs : X.stack = X.env :: X.outer) (hf : X.env.frame = some X.env.locals) (hex : X.ex = []) (hN : X.N.Nodup) (hi : X.N[i]? = some n) (hln : X.env.kindOf n = some .local) (hc : Names X x c) (tk : Takes X W)
    (T : ∀ p ∈ tb, PySem.W.exmOne L.K (.ref (L.cls p.1)) c = some p.2)
    (hb : ∀ (W : WX) (pn : List (Addr × Obj)) (xe : Value → Shared → Prop), Takes (X.tr pn xe) W → PassesOwn (model X.prog X.w) X.A X.env xe → SSs L P W (X.tr pn xe) body m)
    (hsu : ∀ (a : Addr) (pn : List (Addr × Obj)), SSs L P Wno (X.suite a pn) (b₀ :: suite) ms) :
    SS L P W X (.Try body [.ExceptHandler (some (.Name x np)) (some n) (b₀ :: suite) pos'] [] [] pos) (mTry tb i m ms) := by
  rw [← hL.K] at T
  refine PS.weak (ps_try_tr hs hf hex hN hi hln hc tk hb hsu) fun D σ H ⟨τ, R, h⟩ => ⟨τ, R, ?_⟩
  unfold mTry at h
  revert h
  cases m τ with
  | exc k xs τ' =>
    intro h cls od σ' H' t R' ex
    dsimp only at h
    obtain ⟨ns, fs, dx, vs, rfl, rfl, rfl, hd, hw, rr⟩ := ex
    cases e : tb.lookup k with
    | none => rw [e] at h; exact h.elim
    | some b =>
      refine ⟨b, T _ (lookup_mem e), fun eb => ?_, fun eb => ?_⟩
      · subst eb
        rw [e] at h
        dsimp only at h
        split at h
        case isFalse => exact h.elim
        rename_i hlt
        refine ⟨_, _, rfl, rfl, fun a na => ?_⟩
        have R2 := R'.same (same_upd (o := exl a (L.cls k) dx) na)
        have na2 : ¬ Hd P σ' τ' a := fun z => by obtain ⟨o, q⟩ := R'.hd_there z; rw [na] at q; cases q
        have sm : Same (hid H' (Hd P σ' τ')) (hid (upd H' a (exl a (L.cls k) dx)) (Hd P σ' τ')) := hid_mono (same_upd na) fun _ z => z
        have rv : Rp L (hid (upd H' a (exl a (L.cls k) dx)) (Hd P σ' τ')) (.exc k ns fs) (.ref a) :=
          Rp.exc_iff.mpr ⟨a, dx, vs, rfl, ⟨.inr (hid_some.mpr ⟨upd_same, na2, by first | assumption | exact NoMk.no⟩), .inr (sm _ _ hd)⟩, hw, Rps.same sm rr⟩
        obtain ⟨t3, R3⟩ := R2.setFz hlt.1 rv
        exact ⟨_, R3, unset_post ((t.trans (.of (same_upd na))).trans t3) h⟩
      · subst eb
        rw [e] at h
        exact h _ _ σ' H' t R' ⟨ns, fs, dx, vs, rfl, rfl, rfl, hd, hw, rr⟩
  | _ => exact fun h => h
theorem names_own {C : Addr} (hg : Gl X x) (hm : X.mg x = some (.ref C)) (hd : (x == ("__debug__" : Str)) = false := by decide) : Names X x (.ref C) := ⟨hg, hd, .inl hm⟩
theorem takB {Pr : Program} {w : World} {K : PySem.W.Frag} {mg : Str → Option Value} {base : Heap} {N : List Str} {qual : Str} {sc : Scope} {f : Addr} {cdv : Value} {A : Around} {outer : List Env} {s : Shared} {H : Hp} {E : XK} :
    Takes (cxB Pr w K mg base N qual sc f cdv A outer s H E) (Wof E) := takes_of (X := cxB Pr w K mg base N qual sc f cdv A outer s H E) rfl rfl rfl rfl
end
end Sm
set_option Elab.async false
set_option linter.all false
set_option maxRecDepth 100000
set_option maxHeartbeats 1000000
namespace Sm
open PySem PySem.Spec PySem.Calls PyProof.Rows L2
section
variable {L : Lay} {P : Pa} {X : Cx} {E : L2.St → XK} {p p' pos : Pos} {a b : Expr} {ma mb : M D}
theorem PostF.sp {H : Hp} {σ : L2.St} {τ : List Sl} {r : Res D} {f : D → M D} {Q : VK} {e : XK} (h : PostF L P H σ τ (r.bind f) Q e) :
    Post L P (RV L) H σ τ r (fun v H1 => ∃ a τ1, Tr H (Own σ τ) H1 (Own σ τ1) ∧ StR L P H1 σ τ1 ∧ Rp L (hid H1 (Hd P σ τ1)) a v ∧ PostF L P H1 σ τ1 (f a τ1) Q e) e := by
  cases r with
  | ok d τ' =>
    intro v H' x y z
    refine ⟨d, τ', x, y, z, ?_⟩
    have h : PostF L P H σ τ (f d τ') Q e := h
    revert h
    cases f d τ' with
    | ok d2 τ2 => exact fun h a H2 t => h a H2 (x.trans t)
    | exc c xs τ2 => exact fun h cls od H2 t => h cls od H2 (x.trans t)
    | fail => exact fun h => h
  | exc c xs τ' => exact h
  | fail => exact h
end
end Sm
set_option Elab.async false
set_option linter.all false
set_option maxRecDepth 100000
set_option maxHeartbeats 1000000
namespace Sm
open PySem PySem.Spec PySem.Calls PyProof.Rows L2 SlX
section
variable {L : Lay} {P : Pa} {X : Cx} {E : L2.St → XK} {pos apos : Pos} {e o a b : Expr} {es : List Expr} {m mo ma mb : M D} {mr : M (List Ar)} {mk : M (List D)}
variable {k n c : Nat} {f : Addr} {fd : FuncData} {ps ks : List Str} {io : List Bool} {fn : List D → RF} {ix : List Nat} {dds : List D} {x : Str} {kws : List Keyword} {nm : Str} {pl : Sem Bool}
end
end Sm
set_option Elab.async false
set_option linter.all false
set_option maxRecDepth 100000
set_option maxHeartbeats 1000000
namespace Sm
open PySem PySem.Spec PySem.Calls PyProof.Rows L2
section
variable {L : Lay} {P : Pa} {X : Cx} {E : L2.St → XK} {pos apos : Pos} {e o tg : Expr} {m mo me : M D}
def strsD : List D → Option (List Str)
  | [] => some []
  | .str x :: ds => (strsD ds).map (x :: ·)
  | _ => none
theorem strsD_some : ∀ {ds : List D} {ys : List Str}, strsD ds = some ys → ds = ys.map D.str
  | [], _, h => by cases h; rfl
  | .str x :: ds, _, h => by
    obtain ⟨zs, e, rfl⟩ := Option.map_eq_some_iff.mp (show (strsD ds).map (x :: ·) = some _ from h)
    rw [strsD_some e]; rfl
  | .non :: _, _, h | .bl _ :: _, _, h | .int _ :: _, _, h | .tup _ :: _, _, h | .lst _ :: _, _, h | .dct _ _ :: _, _, h | .set _ :: _, _, h | .obj _ _ :: _, _, h | .scr _ :: _, _, h | .dki _ _ :: _, _, h | .ptup _ :: _, _, h | .exc _ _ _ :: _, _, h | .obo _ _ _ :: _, _, h | .ins _ _ _ :: _, _, h => by cases h
theorem rps_strs {F : Hp} : ∀ {ys : List Str} {vs : List V}, Rps L F (ys.map D.str) vs → vs = ys.map V.str
  | [], _, h => by unfold Rps at h; exact h
  | y :: ys, _, h => by
    rw [List.map_cons] at h
    unfold Rps at h
    obtain ⟨v, r, rfl, q, rr⟩ := h
    rw [Rp.str_iff.mp q, rps_strs rr]; rfl
theorem rps_ofStrs {F : Hp} : ∀ ys : List Str, Rps L F (ys.map D.str) (ys.map V.str)
  | [] => .nil
  | y :: ys => .cons (Rp.str_iff.mpr rfl) (rps_ofStrs ys)
def joinD (a : Str) (xs : List D) : Option D := (strsD xs).bind fun ys => if (ys.map (·.length)).sum + ys.length * a.length ≤ 16000000 then some (.str (Txt.join a ys)) else none
def dJoin (a : Str) : D → Option D
  | .lst xs => joinD a xs
  | .tup xs => joinD a xs
  | _ => none
theorem joinD_some {a : Str} {xs : List D} {d : D} (h : joinD a xs = some d) : ∃ ys : List Str, xs = ys.map D.str ∧ (ys.map (·.length)).sum + ys.length * a.length ≤ 16777216 ∧ d = .str (Txt.join a ys) := by
  obtain ⟨ys, e1, e2⟩ := Option.bind_eq_some_iff.mp h
  split at e2
  · cases e2
    exact ⟨ys, strsD_some e1, by omega, rfl⟩
  · cases e2
def mTxt1 (f : Str → D → Option D) (mo me : M D) : M D := fun τ => (mo τ).bind fun x => fun τ =>
  match x with
  | .str a => (me τ).bind fun y => fun τ => Res.lift (f a y) τ
  | _ => .fail
theorem tM1_of {r : V → List V → Hp → VK → Prop} {f : Str → D → Option D} (hf : ∀ (a : Str) (y d : D) (v : V) (H : Hp) (A : Addr → Prop) (Q : VK), f a y = some d → Bp L (hid H A) H y v → Th H A → (∀ z H', Kin H H' → Rp L (hid H' A) d z → Q z H') → r (.str a) [v] H Q)
    (σ : L2.St) (H : Hp) (Q : VK) (h : tE L P E (mTxt1 f mo me) σ H Q) : tM1 r (tE L P E mo) (tE L P E me) σ H Q := by
  obtain ⟨τ, R, h⟩ := h
  refine ⟨τ, R, (Post.split (R := RV L) h).imp fun x H1 ⟨d1, τ1, t1, R1, r1, h1⟩ => ?_⟩
  cases d1 with
  | str a =>
    refine ⟨⟨a, Rp.str_iff.mp r1⟩, τ1, R1, (Post.split (R := RV L) h1).imp fun y H2 ⟨d2, τ2, t2, R2, r2, h2⟩ => ?_⟩
    obtain ⟨d, e, q⟩ := h2.done R2
    rw [Rp.str_iff.mp r1]
    exact hf a d2 d y H2 (Hd P σ τ2) Q e (r2.bp hid_le) R2.ths q
  | _ => exact h1.elim
theorem sE_joinT (hK : X.K = L.K) (ho : SE L P E X o mo) (he : SE L P E X e me) (hs : starEach [e] X.env = [(false, eval e X.env)] := by rfl) (hbase : attributeBase o "join" X.env (eval o X.env) = eval o X.env := by rfl) (hline : (apos.endLine == pos.line) = true := by rfl) :
    SE L P E X (.Call (.Attribute o "join" apos) [e] [] pos) (mTxt1 dJoin mo me) :=
  PE.weak (pe_join ho he hs hbase hline) fun σ H Q h => tM1_of (fun a y d v H A Q e r hA q => by
    rw [hK]
    cases y with
    | lst xs =>
      obtain ⟨ys, rfl, hz, rfl⟩ := joinD_some (show joinD a xs = some d from e)
      obtain ⟨p, vs, rfl, s, rr⟩ := r
      rw [rps_strs rr] at s
      exact ⟨a, p, ys, rfl, rfl, .inl (.inl (.inl s)), hz, q _ H (.refl _) .mk_str⟩
    | tup xs =>
      obtain ⟨ys, rfl, hz, rfl⟩ := joinD_some (show joinD a xs = some d from e)
      obtain ⟨p, vs, rfl, s, rr⟩ := Rp.tup_iff.mp r
      rw [rps_strs rr] at s
      exact ⟨a, p, ys, rfl, rfl, .inr (SqT.same hid_le s), hz, q _ H (.refl _) .mk_str⟩
    | _ => cases e) σ H Q h
def dSplit (a : Str) : D → Option D
  | .str b => if (b.length == 0) = false ∧ a.length ≤ 16000000 then some (.lst ((Txt.split a b).map .str)) else none
  | _ => none
theorem sE_split (ho : SE L P E X o mo) (he : SE L P E X e me) (hs : starEach [e] X.env = [(false, eval e X.env)] := by rfl) (hbase : attributeBase o "split" X.env (eval o X.env) = eval o X.env := by rfl) (hline : (apos.endLine == pos.line) = true := by rfl) :
    SE L P E X (.Call (.Attribute o "split" apos) [e] [] pos) (mTxt1 dSplit mo me) :=
  PE.weak (pe_split ho he hs hbase hline) fun σ H Q h => tM1_of (fun a y d v H A Q e r hA q => by
    cases y with
    | str b =>
      have e : (if (b.length == 0) = false ∧ a.length ≤ 16000000 then some (D.lst ((Txt.split a b).map .str)) else none) = some d := e
      split at e
      case isFalse => cases e
      rename_i hz
      cases e
      exact ⟨a, b, rfl, by rw [r.str], hz.1, by have := hz.2; rw [sizeLine_eq]; omega, fun p hp => q _ _ (.of (same_upd hp)) (new_lst hA hp (rps_ofStrs _))⟩
    | _ => cases e) σ H Q h
def dIntT : List D → Option D
  | [.int i] => some (.int i)
  | [.bl k] => some (.int (if k = true then 1 else 0))
  | [.str a] => if a.length ≤ 640 then (PySem.intText? a).map .int else none
  | _ => none
def rIntT : List V → Hp → VK → Prop := fun xs H Q => ((∃ i, xs = [V.int i] ∧ Q (.int i) H) ∨ ∃ k, xs = [V.bl k] ∧ Q (.int (if k then 1 else 0)) H) ∨ ∃ a n, xs = [.str a] ∧ PySem.intText? a = some n ∧ a.length ≤ 640 ∧ Q (.int n) H
theorem call_intT : CallR X (.type "int") rIntT := fun pins s σ H xs us Q I rs h => h.elim (call_int1 pins s σ H xs us Q I rs) (call_int_str pins s σ H xs us Q I rs)
theorem fs_intT : FnS L rIntT dIntT := by
  intro ds d xs H A Q e r hA q
  unfold dIntT at e
  split at e
  · rename_i i
    exact .inl (fs_int [.int i] d xs H A Q e r hA q)
  · rename_i k
    exact .inl (fs_int [.bl k] d xs H A Q e r hA q)
  · obtain ⟨v, rfl, rv⟩ := r.one
    split at e
    case isFalse => cases e
    rename_i hz
    obtain ⟨n, en, rfl⟩ := Option.map_eq_some_iff.mp e
    exact .inr ⟨_, n, by rw [rv.str], en, hz, q _ H (.refl _) .mk_int⟩
  · cases e
def dInSg : D → D → Option D
  | .str x, .str z => match x.cps.toList with
    | [c] => some (.bl (decide (c ∈ z.cps.toList)))
    | _ => none
  | _, _ => none
def rInSg : R2 := fun x y H Q => ∃ (c : Nat) (z : Str), x = .str ⟨#[c]⟩ ∧ y = .str z ∧ Q (.bl (decide (c ∈ z.cps.toList))) H
theorem os_inSg : OpS L rInSg dInSg := by
  intro a b d x y H A Q e ra rb hA q
  unfold dInSg at e
  split at e
  · rename_i x z
    split at e
    · rename_i c hc
      cases e
      have hx : x = ⟨#[c]⟩ := by
        obtain ⟨cps⟩ := x
        have : cps.toList = [c] := hc
        rw [← Array.toList_inj.mp (show cps.toList = #[c].toList from this)]
      exact ⟨c, z, by rw [← hx, ra.str], rb.str, q _ H (.refl _) .mk_bl⟩
    · cases e
  · cases e
def asTx : D → Option (List D)
  | .str z => some (z.cps.toList.map fun c => .str ⟨#[c]⟩)
  | _ => none
theorem its_ok {z : Str} {F : Hp} : ItR L (Its z) (fun H2 A2 => Same F (hid H2 A2)) (z.cps.toList.map fun c => D.str ⟨#[c]⟩) := by
  intro i H A g hA
  refine ⟨fun d e => ?_, fun e => ?_⟩
  · rw [List.getElem?_map] at e
    obtain ⟨c, hc, rfl⟩ := Option.map_eq_some_iff.mp e
    have hc2 : z.cps[i]? = some c := by rw [← hc, Array.getElem?_toList]
    have hi : i < z.cps.size := (Array.getElem?_eq_some_iff.mp hc2).1
    refine ⟨hi, fun x H' ⟨e1, c', h1, h2⟩ => ?_⟩
    subst e1
    rw [hc2] at h1
    cases h1
    exact ⟨.refl _, by rw [h2]; exact .mk_str⟩
  · rw [List.getElem?_map] at e
    have : z.cps.toList[i]? = none := by
      cases h : z.cps.toList[i]? with
      | none => rfl
      | some c => rw [h] at e; cases e
    show z.cps.size ≤ i
    have := List.getElem?_eq_none_iff.mp this
    simpa using this
theorem sI_txt (he : SE L P E X e m) : SI L P E X tg e (mOn asTx m) :=
  PI.weak (pi_str he) fun σ H R h => by
    obtain ⟨τ, R0, h⟩ := tI_on h
    refine ⟨τ, R0, h.imp fun v H1 ⟨d, ds, τ1, R1, r1, e, q⟩ => ?_⟩
    cases d with
    | str z =>
      cases e
      exact ⟨z, Rp.str_iff.mp r1, q _ H1 .refl R1 its_ok⟩
    | _ => cases e
theorem sE_fun {c : Nat} {x : Str} (hc : 1000000 < c) (hg : Gl X x) (hm : X.mg x = some (.ref (L.cls c))) (hd : (x == ("__debug__" : Str)) = false := by decide) : SE L P E X (.Name x pos) (mC (.obj c [])) :=
  PE.weak (pe_glob (v := .ref (L.cls c)) hg hm rfl hd) fun σ H Q ⟨τ, R, h⟩ => h (.ref (L.cls c)) H .refl R (Rp.obj_iff.mpr (.inr ⟨by rw [if_neg (by omega)], by omega, rfl⟩))
def funAt (i : Nat) (tb : List (Nat × (List D → RF))) (τ : List Sl) : Option (List D → RF) :=
  match τ[i]? with
  | some (.fz (.obj c fs)) => if 1000000 < c ∧ fs.isEmpty = true then tb.lookup c else none
  | _ => none
def mCallV (i : Nat) (tb : List (Nat × (List D → RF))) (n : Nat) (ma : M (List Ar)) : M D := fun τ =>
  match funAt i tb τ with
  | some fn => (ma τ).bind fun as => fun τ => if as.length = n then callR (List.replicate n false) fn as τ else .fail
  | none => .fail
theorem lookup_fn {α : Type} : ∀ {tb : List (Nat × α)} {c : Nat} {f : α}, tb.lookup c = some f → (c, f) ∈ tb
  | [], _, _, h => by cases h
  | (n, z) :: tb, c, b, h => by
    rw [List.lookup_cons] at h
    cases e : c == n with
    | true =>
      rw [e] at h
      cases h
      rw [beq_iff_eq.mp e]
      exact List.mem_cons_self
    | false =>
      rw [e] at h
      exact List.mem_cons_of_mem _ (lookup_fn h)
variable {k n : Nat} {es : List Expr} {mr : M (List Ar)} {x : Str} {p : Pos}
structure FunT (L : Lay) (X : Cx) (k n : Nat) (c : Nat) (fn : List D → RF) : Prop where
  kp : PySem.W.keepIn L.K (.ref (L.cls c)) = true
  ok : ∃ fd ps, FnOk X.prog X.w X.K X.mg X.base (L2.CX X.prog X.w) k (L.cls c) fd ps (spF L (List.replicate n false) fn) ∧ Bd L fd ps n [] (List.range n) []
theorem sE_callV (i : Nat) {tb : List (Nat × (List D → RF))} (hK : X.K = L.K) (T : ∀ q ∈ tb, FunT L X k n q.1 q.2) (hr : Room k X.A) (hN : X.N[i]? = some x) (hv : Vis X.env.scope x) (hx : ∀ σ, PassesAt (L2.CX X.prog X.w) X σ (E σ)) (ha : SAr L P E X (e :: es) mr)
    (hdb : (x == ("__debug__" : Str)) = false := by decide) (hcd : (x == ("__classdict__" : Str)) = false := by decide) (he : starEach (e :: es) X.env = (false, eval e X.env) :: starEach es X.env := by rfl) (hpl : (backTo pos (starEach es X.env)).any (·.1) = false := by rfl) :
    SE L P E X (.Call (.Name x p) (e :: es) [] pos) (mCallV i tb n mr) := by
  refine ⟨fun pins s σ H Q I ⟨τ, R, h⟩ => ?_⟩
  unfold mCallV at h
  cases ef : funAt i tb τ with
  | none => rw [ef] at h; exact h.elim
  | some fn =>
    rw [ef] at h
    unfold funAt at ef
    split at ef
    case h_2 => cases ef
    rename_i c fs hi
    split at ef
    case isFalse => cases ef
    rename_i hc
    obtain ⟨kp, fd, ps, F, hb⟩ := T _ (lookup_fn ef)
    obtain ⟨v, hs, rv⟩ := R.sl i _ hi
    have hv' : v = .ref (L.cls c) := by
      rcases Rp.obj_iff.mp rv with ⟨_, _, _, _, _, _, _, q⟩ | ⟨q, _, _⟩
      · omega
      · rw [q, if_neg (by omega)]
    subst hv'
    refine wpAny_Call_Name_kw (thn ((pe_var (pos := p) hN hv hdb hcd).run pins s σ H (fun v H1 => v = .ref (L.cls c) ∧ H1 = H) I ⟨_, hs, rfl, rfl⟩) fun u s1 ⟨v, H1, I1, r1, q1⟩ => ?_)
    obtain ⟨rfl, rfl⟩ := q1
    cases r1
    rw [← hK] at kp
    have h : Post L P (RV L) H1 σ τ ((mr τ).bind fun as => fun τ => if as.length = n then callR (List.replicate n false) fn as τ else .fail) Q (E σ) := h
    refine PySem.W.callWith_K (h₀ := X.base) I.ok.mod.kin kp (thn (ha.run pos pins s1 σ _ _ I1 ⟨τ, R, Post.split (R := fun F a v => Ars L σ F a v) h⟩) fun us s2 ⟨vs, H2, I2, r, as, τ1, t1, R1, q1, h1⟩ => ⟨I2.kIn, ?_⟩) he hpl
    refine run_call (ks := []) (ws := []) (ds := []) hK F hr hb (hx σ) I2 R1 r .nil q1 .nil ?_
    split at h1
    case isFalse => exact h1.elim
    rename_i hl
    have e1 : pick (List.range n) (as ++ ([] : List D).map Ar.v ++ ([] : List D).map Ar.v) = as := by
      rw [List.map_nil, List.append_nil, List.append_nil, ← hl]
      refine List.ext_getElem? fun j => ?_
      show ((List.range as.length).map _)[j]? = _
      rw [List.getElem?_map]
      by_cases hj : j < as.length
      · rw [List.getElem?_range hj]
        show some (as.getD j _) = _
        rw [List.getD_eq_getElem?_getD, List.getElem?_eq_getElem hj]; rfl
      · rw [List.getElem?_eq_none_iff.mpr (by rw [List.length_range]; omega), List.getElem?_eq_none_iff.mpr (by omega)]; rfl
    rw [e1, if_pos ⟨hl, rfl⟩]
    exact h1
end
end Sm
set_option Elab.async false
set_option linter.all false
set_option maxRecDepth 100000
set_option maxHeartbeats 1000000
namespace Sm
open PySem PySem.Spec PySem.Calls PyProof.Rows L2
section
variable {L : Lay}
end
end Sm
set_option Elab.async false
set_option linter.all false
set_option maxRecDepth 100000
set_option maxHeartbeats 1000000
namespace Sm
open PySem PySem.Spec PySem.Calls PyProof.Rows L2
section
variable {L : Lay} {P : Pa} {X : Cx} {W : WX} {pos : Pos} {H H1 H2 : Hp} {σ σ' : L2.St} {τ τ1 τ2 τ' : List Sl} {a : Addr} {d1 d2 : D}
abbrev Pa.plus (P : Pa) (a : Addr) : Pa := ⟨P.args, fun b => P.B b ∨ b = a⟩
theorem nb_of (R : StR L P (rid H a) σ τ) : ¬ P.B a := fun z => by obtain ⟨o, e⟩ := R.bth a z; rw [rid_same] at e; cases e
theorem no_of (R : StR L P (rid H a) σ τ) : ∀ b, Own σ τ b → b ≠ a := fun b q z => by obtain ⟨o, e⟩ := R.own_there q; rw [z, rid_same] at e; cases e
theorem keep_new {d : D} (R1 : StR L P (rid H1 a) σ τ1) (o1 : OwR L (hid (rid H1 a) (Hd P σ τ1)) H1 d a) (t2 : Tr H1 (Own σ τ1) H2 (Own σ τ2)) (R2 : StR L (P.plus a) H2 σ τ2) :
    StR L P (rid H2 a) σ τ2 ∧ OwR L (hid (rid H2 a) (Hd P σ τ2)) H2 d a ∧ Tr (rid H1 a) (Own σ τ1) (rid H2 a) (Own σ τ2) := by
  obtain ⟨oa, ha⟩ := o1.there
  have nk_oa := o1.noMk oa ha
  have R3 := R2.showD (nb_of R1)
  have no1 := no_of R1
  have no2 := no_of R3
  have nb : ∀ b, P.B b → b ≠ a := fun b q z => nb_of R1 (by rw [← z]; exact q)
  have s1 := (hide_D (H := H1) (P := P) no1 nb).1
  have s2 := (hide_D (H := H2) (P := P) no2 nb).2
  have R1' : StR L (P.plus a) H1 σ τ1 := R1.hideD ha
  refine ⟨R3, o1.step ((s1.trans (R1'.fz t2)).trans s2) ?_, t2.rid no2⟩
  rw [t2.keep a oa ha (fun z => no1 a z rfl), ha]
def putG (o : Bool) (i : Nat) (d : D) (τ : List Sl) : Option (List Sl) := if o = true then setOw i d τ else setFz i d τ
def mParG (o1 o2 : Bool) (i j : Nat) (m1 m2 : M D) : MS := fun τ => (m1 τ).st fun d1 τ => (m2 τ).st fun d2 τ => SR.opt ((putG o1 i d1 τ).bind (putG o2 j d2))
variable {i j : Nat} {x y : Str} {e1 e2 : Expr} {m1 m2 : M D} {px py pt : Pos} {kt k2 pt2}
theorem sS_parOO (hc : X.calm = true) (hN : X.N.Nodup) (hi : X.N[i]? = some x) (hj : X.N[j]? = some y) (hij : i ≠ j)
    (hx : X.env.scope.names.lookup x = some .local) (hy : X.env.scope.names.lookup y = some .local) (ha : SF L P (WE W) X e1 m1) (hb : ∀ P, SF L P (WE W) X e2 m2)
    (hw : swappedStores [.Tuple [.Name x px, .Name y py] kt pt] (.Tuple [e1, e2] k2 pt2) X.env = pure (some [x, y]))
    (hs : swapsWithSole [.Tuple [.Name x px, .Name y py] kt pt] (.Tuple [e1, e2] k2 pt2) pos.line X.env = pure false := by rfl)
    (hs1 : starEach [e1, e2] X.env = (false, eval e1 X.env) :: starEach [e2] X.env := by rfl) (hs2 : starEach [e2] X.env = (false, eval e2 X.env) :: starEach [] X.env := by rfl) :
    SS L P W X (.Assign [.Tuple [.Name x px, .Name y py] kt pt] (.Tuple [e1, e2] k2 pt2) pos) (mParG true true i j m1 m2) := by
  refine ⟨fun pins s σ H De I ⟨τ, R, h⟩ => ?_⟩
  have h : SPost L P W H σ τ ((m1 τ).st fun d1 τ => (m2 τ).st fun d2 τ => SR.opt ((setOw i d1 τ).bind (setOw j d2))) De := h
  refine (ps_par hc hN hi hj hij hx hy (pa_cons ha (pa_cons (te := fun σ H Q => ∃ P, tF L P (WE W) m2 σ H Q) ⟨fun pins s σ H Q I ⟨P, q⟩ => (hb P).run pins s σ H Q I q⟩ pa_nil hs2) hs1) hw hs).run pins s σ H De I ⟨τ, R, ?_⟩
  revert h
  cases m1 τ with
  | ok d1 τ1 =>
    intro h a H1 t1 R1 o1
    obtain ⟨oa, hoa⟩ := o1.there
    have nk_oa := o1.noMk oa hoa
    refine ⟨P.plus a, τ1, R1.hideD hoa, ?_⟩
    have h : SPost L P W H σ τ ((m2 τ1).st fun d2 τ => SR.opt ((setOw i d1 τ).bind (setOw j d2))) De := h
    revert h
    cases m2 τ1 with
    | ok d2 τ2 =>
      intro h b H2 t2 R2 o2
      obtain ⟨τ', e, q⟩ := SPost.opt h
      have hab : a ≠ b := fun z => by
        have w := t2.keep a oa hoa (fun z => no_of R1 a z rfl)
        rw [z, rid_same] at w
        cases w
      have o1' : OwR L (hid (rid H1 a) (Hd P σ τ1)) H1 d1 a := o1
      obtain ⟨R3, o3, t3⟩ := keep_new (H2 := rid H2 b) R1 o1 t2 R2
      obtain ⟨τ3, g1, g2⟩ := Option.bind_eq_some_iff.mp e
      obtain ⟨hi', rfl⟩ := setOw_some g1
      obtain ⟨t4, R4⟩ := R3.setOw hi' o3
      obtain ⟨hj', rfl⟩ := setOw_some g2
      have o4 : OwR L (hid (rid H2 b) (Hd P (σ.set i (some (.ref a))) (τ2.set i (.ow d1)))) H2 d2 b := o2.step (hid_mono (.refl _) fun c z => by
        rcases z with z | z
        · rcases t4.new c z with q | q
          · exact .inl q
          · by_cases hb : c = a
            · exact .inr (.inr hb)
            · obtain ⟨o, w⟩ := R4.own_there z
              rw [rid_ne hb, w] at q
              cases q
        · exact .inr (.inl z)) rfl
      obtain ⟨t5, R5⟩ := R4.setOw hj' o4
      exact ⟨_, _, rfl, q _ H2 (((t1.trans t3).trans t4).trans t5) R5⟩
    | exc c xs τ2 =>
      intro h cls od H2 t2 R2 ex
      have R3 := R2.showD (nb_of R1)
      exact h cls od σ H2 ((t1.trans (.of rid_le)).trans t2) (R3.same rid_le) (ex.same (hid_mono (.refl _) fun b z => z.elim .inl fun z => .inr (.inl z)))
    | fail => exact fun h => h
  | exc c xs τ' => exact fun h cls od H' x y z => h cls od σ H' x y z
  | fail => exact fun h => h
theorem sS_parFO (hc : X.calm = true) (hN : X.N.Nodup) (hi : X.N[i]? = some x) (hj : X.N[j]? = some y) (hij : i ≠ j)
    (hx : X.env.scope.names.lookup x = some .local) (hy : X.env.scope.names.lookup y = some .local) (ha : SE L P (WE W) X e1 m1) (hb : SF L P (WE W) X e2 m2)
    (hw : swappedStores [.Tuple [.Name x px, .Name y py] kt pt] (.Tuple [e1, e2] k2 pt2) X.env = pure (some [x, y]))
    (hs : swapsWithSole [.Tuple [.Name x px, .Name y py] kt pt] (.Tuple [e1, e2] k2 pt2) pos.line X.env = pure false := by rfl)
    (hs1 : starEach [e1, e2] X.env = (false, eval e1 X.env) :: starEach [e2] X.env := by rfl) (hs2 : starEach [e2] X.env = (false, eval e2 X.env) :: starEach [] X.env := by rfl) :
    SS L P W X (.Assign [.Tuple [.Name x px, .Name y py] kt pt] (.Tuple [e1, e2] k2 pt2) pos) (mParG false true i j m1 m2) := by
  refine ⟨fun pins s σ H De I ⟨τ, R, h⟩ => ?_⟩
  have h : SPost L P W H σ τ ((m1 τ).st fun d1 τ => (m2 τ).st fun d2 τ => SR.opt ((setFz i d1 τ).bind (setOw j d2))) De := h
  refine (ps_par hc hN hi hj hij hx hy (pa_cons ha (pa_cons hb pa_nil hs2) hs1) hw hs).run pins s σ H De I ⟨τ, R, (Post.sta (R := RV L) h).imp fun v H1 ⟨d1, τ1, t1, R1, r1, h1⟩ => ⟨τ1, R1, ?_⟩⟩
  revert h1
  cases m2 τ1 with
  | ok d2 τ2 =>
    intro h b H2 t2 R2 o2
    obtain ⟨τ', e, q⟩ := SPost.opt h
    obtain ⟨τ3, g1, g2⟩ := Option.bind_eq_some_iff.mp e
    obtain ⟨hi', rfl⟩ := setFz_some g1
    obtain ⟨t3, R3⟩ := R2.setFz hi' (r1.same (R1.fz t2))
    obtain ⟨hj', rfl⟩ := setOw_some g2
    have o3 : OwR L (hid (rid H2 b) (Hd P (σ.set i (some v)) (τ2.set i (.fz d1)))) H2 d2 b := o2.step (R2.fz t3) rfl
    obtain ⟨t4, R4⟩ := R3.setOw hj' o3
    exact ⟨_, _, rfl, q _ H2 ((t2.trans t3).trans t4) R4⟩
  | exc c xs τ2 => exact fun h cls od H2 t2 R2 ex => h cls od σ H2 t2 R2 ex
  | fail => exact fun h => h
end
end Sm
set_option Elab.async false
set_option linter.all false
set_option maxRecDepth 100000
set_option maxHeartbeats 1000000
namespace Sm
open PySem PySem.Spec PySem.Calls PyProof.Rows L2
structure StatM (K : PySem.W.Frag) (C : Addr) (nm : Str) (f : Addr) : Prop where
  ga : PySem.W.specialIn K (.ref C) "__getattribute__" = some (some (.builtin "type.__getattribute__"))
  rd : PySem.W.readsIn K C (.type "type") = true
  fc : ∃ p rest, PySem.W.findCls K (.ref C) (.type "type") nm = some (.get (.builtin "staticmethod.__get__") (.ref p) .none (.ref C)) ∧ PySem.W.recIn K p "staticmethod" = some (.ref f :: rest)
  kp : PySem.W.keepIn K (.ref f) = true
section
variable {L : Lay} {P : Pa} {X : Cx} {E : L2.St → XK} {pos apos p0 : Pos} {e : Expr} {es : List Expr} {mr : M (List Ar)} {mk : M (List D)}
variable {k n c : Nat} {f : Addr} {fd : FuncData} {ps ks : List Str} {io : List Bool} {fn : List D → RF} {ix : List Nat} {dds : List D} {x : Str} {kws : List Keyword} {nm : Str} {pl : Sem Bool}
end
end Sm
set_option Elab.async false
set_option linter.all false
set_option maxRecDepth 100000
set_option maxHeartbeats 1000000
namespace Sm
open PySem PySem.Spec PySem.Calls PyProof.Rows L2
def leII (ns ms : List Int) : Bool := Ob.lexAt (fun j => decide (ns.getD j 0 = ms.getD j 0)) (fun j => decide (ns.getD j 0 ≤ ms.getD j 0)) (decide (ns.length ≤ ms.length)) 0 (min ns.length ms.length)
def dLeT (a b : D) : Option D :=
  match a, b with
  | .tup xs, .tup ys => (intsD xs).bind fun ns => (intsD ys).map fun ms => .bl (leII ns ms)
  | a, b => dLe a b
section
variable {L : Lay} {X : Cx}
def rLe2 (K : PySem.W.Frag) : R2 := fun x y H Q => rI0 (fun i j => .bl (decide (i ≤ j))) x y H Q ∨ rLeT K x y H Q
theorem op_le2 (hK : X.K = L.K) (hu : X.A.units < cLine) : OpR X (compareOp .LtE) (rLe2 L.K) := by
  rw [← hK]
  exact op_le.or (op_leT hu)
theorem os_le2 : OpS L (rLe2 L.K) dLeT := by
  intro a b d x y H A Q e ra rb hA q
  by_cases h : ∃ xs ys, a = .tup xs ∧ b = .tup ys
  · obtain ⟨xs, ys, rfl, rfl⟩ := h
    have e : ((intsD xs).bind fun ns => (intsD ys).map fun ms => D.bl (leII ns ms)) = some d := e
    obtain ⟨ns, h1, e⟩ := Option.bind_eq_some_iff.mp e
    obtain ⟨ms, h2, rfl⟩ := Option.map_eq_some_iff.mp e
    obtain ⟨p, vs, rfl, s1, r1⟩ := ra.tup
    obtain ⟨p2, vs2, rfl, s2, r2⟩ := rb.tup
    rw [intsD_vals h1 r1] at s1
    rw [intsD_vals h2 r2] at s2
    exact .inr ⟨p, p2, ns, ms, rfl, rfl, SqT.same hid_le s1, SqT.same hid_le s2, q _ H (.refl _) .mk_bl⟩
  · have e2 : dLeT a b = dLe a b := by
      unfold dLeT
      split
      · exact absurd ⟨_, _, rfl, rfl⟩ h
      · rfl
    rw [e2] at e
    exact .inl (os_le (L := L) a b d x y H A Q e ra rb hA q)
end
end Sm
set_option Elab.async false
set_option linter.all false
set_option maxRecDepth 100000
set_option maxHeartbeats 1000000
namespace Sm
open PySem PySem.Spec PyProof.Rows L2
structure FnOkG (P : Program) (w : World) (K : PySem.W.Frag) (mg : Str → Option Value) (base : Heap) (cx : CXT) (k : Nat) (f : Addr) (fd : FuncData) (ps : List Str) (sp : Sp) : Prop where
  long : ∀ vs H Q E, sp vs H Q E → vs.length = ps.length
  go : ∀ A : Around, A.guards = some [] → ∀ (outer : List Env) (s : Shared) (H : Hp) (args : Args) (us : List Value) (vs : List V) (Q : VK) (E : XK), Room k A → Env0 P w K mg base A outer s H → BindsTo s fd args (ps.zip us) → Vals vs us → sp vs H Q E → codeAny (model P w) A (.call (.ref f) args) (CR cx outer P w H s Q E) s
theorem FnOkG.mono {P : Program} {w : World} {K : PySem.W.Frag} {mg : Str → Option Value} {base : Heap} {cx : CXT} {j k : Nat} {f : Addr} {fd : FuncData} {ps : List Str} {sp : Sp} (F : FnOkG P w K mg base cx j f fd ps sp) (h : j ≤ k) : FnOkG P w K mg base cx k f fd ps sp :=
  ⟨F.long, fun A hg outer s H args us vs Q E hr => F.go A hg outer s H args us vs Q E (hr.mono h)⟩
theorem FnOkG.imp {P : Program} {w : World} {K : PySem.W.Frag} {mg : Str → Option Value} {base : Heap} {cx : CXT} {k : Nat} {f : Addr} {fd : FuncData} {ps : List Str} {sp sp' : Sp} (F : FnOkG P w K mg base cx k f fd ps sp) (h : ∀ vs H Q E, sp' vs H Q E → sp vs H Q E) : FnOkG P w K mg base cx k f fd ps sp' :=
  ⟨fun vs H Q E q => F.long vs H Q E (h _ _ _ _ q), fun A hg outer s H args us vs Q E hr he hb hv hs => F.go A hg outer s H args us vs Q E hr he hb hv (h _ _ _ _ hs)⟩
section
variable {L : Lay} {P : Pa} {W : WX} {X : Cx} {E : L2.St → XK} {pos : Pos}
variable {e : Expr} {es : List Expr} {k n : Nat} {f : Addr} {fd : FuncData} {ps ks : List Str} {io : List Bool} {fn : List D → RF} {ix : List Nat} {dds : List D} {x : Str} {p : Pos} {ma : M (List Ar)}
end
end Sm
set_option Elab.async false
set_option linter.all false
set_option maxRecDepth 100000
set_option maxHeartbeats 1000000
namespace Sm
open PySem PySem.Spec PyProof.Rows L2

inductive Lits : List Expr → List Str → Prop
  | nil : Lits [] []
  | cons {z : Str} {j : Nat} {c : Pos} {es : List Expr} {zs : List Str} : Lits es zs → Lits (.Constant (.str z) j c :: es) (z :: zs)
def LitV (k : Nat) : List Str → List Value → Prop
  | [], us => us = []
  | z :: zs, us => ∃ (t : Nat) (r : List Value), us = .str z t :: r ∧ k ≤ t ∧ LitV k zs r
theorem LitV.mem {k : Nat} : ∀ {zs : List Str} {us : List Value}, LitV k zs us → ∀ u ∈ us, ∃ (z : Str) (t : Nat), u = .str z t ∧ k ≤ t
  | [], us, h, u, m => by
    have e : us = [] := h
    subst e
    cases m
  | z :: zs, us, ⟨t, r, e, hk, h⟩, u, m => by
    subst e
    rcases List.mem_cons.mp m with rfl | m
    · exact ⟨z, t, rfl, hk⟩
    · exact h.mem u m
theorem LitV.vals {k : Nat} : ∀ {zs : List Str} {us : List Value}, LitV k zs us → Vals (zs.map V.str) us
  | [], us, h => by
    have e : us = [] := h
    subst e
    exact .nil
  | z :: zs, us, ⟨t, r, e, hk, h⟩ => by
    subst e
    exact .cons ⟨t, rfl⟩ h.vals
theorem rps_lits {L : Lay} {F : Hp} : ∀ zs : List Str, Rps L F (zs.map D.str) (zs.map V.str)
  | [] => .nil
  | z :: zs => .cons (Rp.str_iff.mpr rfl) (rps_lits zs)
section
variable {L : Lay} {P : Pa} {W : WX} {X : Cx} {E : L2.St → XK} {pos : Pos}
theorem lits_run {Er : Value → Shared → Prop} : ∀ {es : List Expr} {zs : List Str} (h : Lits es zs) (k : Nat) (s : Shared) (Q : List Value → Shared → Prop), k ≤ s.toks →
    (∀ us n, LitV k zs us → s.toks ≤ n → Q us { s with toks := n }) → wpAny (model X.prog X.w) X.A (spliced (backTo pos (starEach es X.env))) Q Er s
  | _, _, .nil, k, s, Q, hk, hq => Calls.spliced_nil (hq [] s.toks rfl (Nat.le_refl _))
  | _, _, .cons (z := z) (j := j) (c := c) (es := es) h, k, s, Q, hk, hq => by
    show wpAny (model X.prog X.w) X.A (spliced ((false, eval (.Constant (.str z) j c) X.env) :: backTo pos (starEach es X.env))) Q Er s
    refine Calls.spliced_cons (Calls.Constant_str (lits_run h k { s with toks := s.toks + 1 } _ (Nat.le_succ_of_le hk) fun us n hu hn => ?_))
    exact hq _ n ⟨s.toks, us, rfl, hk, hu⟩ (Nat.le_of_succ_le hn)

structure OfOk (P : Program) (w : World) (K : PySem.W.Frag) (mg : Str → Option Value) (base : Heap) (cx : CXT) (k : Nat) (f : Addr) (fd : FuncData) (ps : List Str) (sp : Sp) : Prop where
  go : ∀ (A : Around) (outer : List Env) (s : Shared) (H : Hp) (args : Args) (us : List Value) (vs : List V) (Q : VK) (E : XK) (a : Addr) (o : Obj) (its : List Value) (n : Nat) (ws : List V), Room k A → Env0 P w K mg base A outer s H →
    BindsTo s fd args (ps.zip us) → Vals vs us → sp vs H Q E → vs[1]? = some (.ref a) → H a = some (.frz o (.lst ws)) → o.cls = .type "list" → o.data = .seq its.toArray n →
    codeAny (model P w) A (.call (.ref f) args) (fun r s' => CR cx outer P w H s Q E r s' ∧ ∀ u, r = .ok (.ret u) → u ∈ its) s
theorem OfOk.mono {P : Program} {w : World} {K : PySem.W.Frag} {mg : Str → Option Value} {base : Heap} {cx : CXT} {j k : Nat} {f : Addr} {fd : FuncData} {ps : List Str} {sp : Sp} (F : OfOk P w K mg base cx j f fd ps sp) (h : j ≤ k) : OfOk P w K mg base cx k f fd ps sp :=
  ⟨fun A outer s H args us vs Q E a o its n ws hr => F.go A outer s H args us vs Q E a o its n ws (hr.mono h)⟩
theorem OwX.noFrz {F H : Hp} {d : D} {a : Addr} {o : Obj} {u : HO} (h : OwX L F H d a) (e : H a = some (.frz o u)) : False := by
  rcases h with h | ⟨c, ns, fs, rfl, ⟨dx, vs, h, _⟩ | ⟨_, _, _, ps, q, _, h, _⟩⟩
  · cases d with
    | lst ds => obtain ⟨vs, h, _⟩ := h; rw [e] at h; cases h
    | dct ks us => obtain ⟨es, ⟨_, h⟩, _⟩ := h; rw [e] at h; cases h
    | dki ks us => obtain ⟨es, ⟨_, h⟩, _⟩ := h; rw [e] at h; cases h
    | _ => exact h.elim
  · rw [e] at h; cases h
  · rw [e] at h; cases h
theorem StR.noFrz {H : Hp} {σ : L2.St} {τ : List Sl} {a : Addr} {o : Obj} {u : HO} (R : StR L P H σ τ) (e : H a = some (.frz o u)) : ¬ Own σ τ a := fun ⟨i, e1, t, et, ow⟩ => by
  have q := R.sl i t et
  cases t with
  | un => cases ow
  | fz d => cases ow
  | ow d => obtain ⟨b, e2, r⟩ := q; rw [e1] at e2; cases e2; exact OwX.noFrz (.inl r) e
  | le d => obtain ⟨b, e2, r⟩ := q; rw [e1] at e2; cases e2; exact OwX.noFrz (.inl r) e
  | io k d => obtain ⟨b, e2, _, r⟩ := q; rw [e1] at e2; cases e2; exact r.noFrz e
  | oo d => obtain ⟨b, e2, r⟩ := q; rw [e1] at e2; cases e2; exact r.noFrz e
theorem raw_item {pins : List (Addr × Obj)} {σ : L2.St} {H : Hp} {s : Shared} {Q : VK} {value slice : Expr} {a : Addr} {o : Obj} {its : List Value} {n : Nat} {ws : List V} {y : V} {i : Value}
    (I : Inv X pins σ H s) (hH : H a = some (.frz o (.lst ws))) (ho : o.cls = .type "list") (hd : o.data = .seq its.toArray n) (ry : RelV y i) (h : rIx X.K (.ref a) y H Q) (hs : subscripted slice false (.ref a) i = operate [.ref a, i] (getItem (.ref a) i)) :
    wpAny (model X.prog X.w) X.A (subscriptTail value slice (.ref a) i) (fun w s' => EP X pins σ Q w s' ∧ w ∈ its) X.xe s := by
  have hg : s.heap.get? a = some o := (I.hok a _ hH).1
  rcases h with ⟨p, xs, j, z, e, rfl, hq, he, q⟩ | ⟨p, xs, j, z, e, rfl, hq, he, q⟩ | ⟨z, j, c, e, _⟩
  · cases e
    obtain ⟨t, rfl⟩ := ry
    obtain ⟨its', r, pl, hz⟩ := I.list hq
    have ei : its' = its := by
      obtain ⟨o', n', e1, _, _, e2⟩ := pl
      rw [hg] at e1
      cases e1
      rw [hd] at e2
      injection e2 with d1 _
      simpa using (congrArg Array.toList d1).symm
    subst ei
    obtain ⟨j', h1, h2, h3, h4, h5⟩ := atI_get he
    obtain ⟨w, ew, rw'⟩ := r.get h2
    have hl := r.length
    have hn := line63
    have fin : EP X pins σ Q w s ∧ w ∈ its' := ⟨⟨z, H, I, rw', q⟩, List.mem_of_getElem? ew⟩
    by_cases h0 : 0 ≤ j
    · have hj : j.toNat = j' := by
        rw [seqIndex_of h0 h5] at h1
        exact Option.some.inj h1
      exact item_listR pl.isList h0 (by omega) (by rw [hj]; simpa using ew) fin hs
    · have hj : (j + (its'.toArray.size : Int)).toNat = j' := by
        rw [seqIndex_neg (by omega) h4] at h1
        rw [List.size_toArray, ← hl]
        exact Option.some.inj h1
      exact subscriptTail_builtinR (x := w) pl.isList.typeIs slot_list_getitem.lookup
        (wpAny_getItem_list_neg (Q := fun r s' => r = w ∧ (EP X pins σ Q r s' ∧ r ∈ its')) pl.isList (by omega) (by rw [List.size_toArray] <;> omega) (by omega) (by rw [hj]; simpa using ew) ⟨rfl, fin⟩) hs
  · cases e
    obtain ⟨its', r, ⟨o', e1, e2, _⟩, hz⟩ := I.tuple hq
    rw [hg] at e1
    cases e1
    rw [ho] at e2
    exact absurd e2 (by decide)
  · cases e
theorem raw_ret {pins : List (Addr × Obj)} {σ : L2.St} {H : Hp} {s : Shared} {D : Ends} {gx : Str} {ix : Expr} {p1 p2 p3 : Pos} {mi : M Sm.D} {a : Addr} {o : Obj} {its : List Value} {n : Nat} {ws : List V} (hK : X.K = L.K)
    (hN : X.N[1]? = some gx) (hv : Vis X.env.scope gx) (he : SE L P (WE W) X ix mi) (hs : PlainIx ix) (I : Inv X pins σ H s) (hq : tS L P W (mRet (mPk 1 dIx mi)) D σ H) (hσ : σ[1]? = some (some (.ref a)))
    (hH : H a = some (.frz o (.lst ws))) (ho : o.cls = .type "list") (ho2 : o.data = .seq its.toArray n) (hd : (gx == ("__debug__" : Str)) = false) (hcd : (gx == ("__classdict__" : Str)) = false) :
    wpAny (model X.prog X.w) X.A (execs [.Return (some (.Subscript (.Name gx p1) ix p2)) p3] X.env) (fun r s2 => SP X pins D r s2 ∧ ∃ u, r = .ret u ∧ u ∈ its) X.xe s := by
  refine wpAny_execs_cons (wpAny_Return_some (Subscript_ (raw_name hN hv I hσ (fun v r => ?_) hd hcd)))
  have ev : v = Value.ref a := r
  subst ev
  obtain ⟨τ, R, h⟩ := hq
  have h : SPost L P W H σ τ ((mPk 1 dIx mi τ).st fun d τ => .rt d τ) D := h
  unfold mPk at h
  split at h
  · exact h.elim
  · rename_i d0 e0
    refine thn (he.run pins s σ H _ I ⟨τ, R, Post.split (R := RV L) (Post.sta (R := RV L) h)⟩) fun i s1 ⟨x, H1, I1, r1, d1, τ1, t1, R1, q1, h1⟩ => ?_
    obtain ⟨d, e1, q⟩ := h1.done R1
    obtain ⟨d2, e2, e3⟩ := Option.bind_eq_some_iff.mp e1
    obtain ⟨v', hv', rb⟩ := peek_ok R1 e2
    rw [hσ] at hv'
    cases hv'
    have hH1 : H1 a = some (.frz o (.lst ws)) := t1.keep a _ hH (R.noFrz hH)
    have op := os_ix d2 d1 d (.ref a) x H1 (Hd P σ τ1) _ e3 rb (q1.bp hid_le) R1.ths q
    rw [← hK] at op
    refine thn (raw_item I1 hH1 ho ho2 r1 op (hs _ _)) fun w s2 ⟨⟨z, H2, I2, rz, d3, τ3, t3, R3, rd, h3⟩, hm⟩ => ?_
    exact ⟨⟨z, σ, H2, I2, rz, h3 z σ H2 .refl R3 rd⟩, w, rfl, hm⟩
end
end Sm
set_option Elab.async false
set_option linter.all false
set_option maxRecDepth 100000
set_option maxHeartbeats 1000000
namespace Sm
open PySem PySem.Spec PySem.Calls PyProof.Rows L2
section
variable {prog : Program} {w : World} {A : Around} {E : Value → Shared → Prop} {s : Shared}
end
section
variable {X : Cx} {e : Expr} {te : TE}
end
section
variable {L : Lay} {P : Pa} {X : Cx} {E : L2.St → XK} {e : Expr} {me : M D} {k : Nat} {p1 p2 p3 pos : Pos}
end
section
variable {L : Lay} {P : Pa} {W : WX} {X : Cx} {E : L2.St → XK} {pos : Pos} {e : Expr} {m : M D}
end
section
variable {L : Lay} {P : Pa} {X : Cx} {E : L2.St → XK} {tg : Expr} {pos : Pos} {ms : M (List D)}
end
end Sm
set_option Elab.async false
set_option linter.all false
set_option maxRecDepth 100000
set_option maxHeartbeats 1000000
namespace Sm
open PySem PySem.Spec PyProof.Rows L2
section
variable {L : Lay} {P : Pa} {W : WX} {X : Cx} {E : L2.St → XK} {pos : Pos}
theorem tS_of {N ps : List Str} {vs : List V} {io : List Bool} {b : MS} {H : Hp} {Q : VK} {E : XK} (hio : io.length = ps.length) (hN : io.length ≤ N.length) (pre : spF L io (mkF N.length io b) vs H Q E) :
    ∃ P : Pa, tS L P (Wof E) b { nx := fun _ H' => Q .non H', rt := Q } (L2.start N vs) H := by
  obtain ⟨ds, B, hd, R, h⟩ := pre
  have hl : vs.length = io.length := by
    have hl := R.len
    rw [List.length_map, argS_length 0 io ds hd] at hl
    exact hl
  obtain ⟨R0, oo⟩ := start_ok (N := N) hd hN R
  refine ⟨⟨vs, B⟩, _, R0, ?_⟩
  unfold mkF at h
  rw [if_pos hd] at h
  have tr : ∀ {H' : Hp} {A' : Addr → Prop}, Tr H (Own (L2.start N vs) (argS 0 io ds ++ List.replicate (N.length - io.length) Sl.un)) H' A' → Tr H (Own (vs.map some) (argS 0 io ds)) H' A' := fun {H' A'} t =>
    ⟨fun a o e n => t.keep0 a o e fun z => n (z.mono fun b q => (oo b).mp q), fun a q => (t.new a q).elim (fun z => .inl ((oo a).mp z)) .inr, t.there⟩
  revert h
  cases b (argS 0 io ds ++ List.replicate (N.length - io.length) Sl.un) with
  | nx τ' =>
    intro h σ' H' t R'
    obtain ⟨t2, R2, mono⟩ := out_ok hl (tr t) R'
    exact h .non H' t2 R2 (Rp.non_iff.mpr rfl)
  | rt d τ' =>
    intro h v σ' H' t R' r
    obtain ⟨t2, R2, mono⟩ := out_ok hl (tr t) R'
    exact h v H' t2 R2 (r.same mono)
  | ro d τ' =>
    intro h a σ' H' t R' r
    by_cases hany : io.any id = true
    · replace h : FPost L ⟨vs, B⟩ H (argS 0 io ds) (if io.any id = true then RF.fail else .own d) Q E := h
      rw [if_pos hany] at h
      exact h.elim
    · replace h : FPost L ⟨vs, B⟩ H (argS 0 io ds) (if io.any id = true then RF.fail else .own d) Q E := h
      rw [if_neg hany] at h
      have no : ∀ b, ¬ Own (vs.map some) (argS 0 io ds) b := fun b ⟨j, _, t, et, ow⟩ => by
        rw [argS_own 0 io ds (by simpa using hany) t (List.mem_of_getElem? et)] at ow
        cases ow
      have fr : H a = none := t.src.resolve_left fun z => no a ((oo a).mp z)
      exact h a H' ⟨fun b o e n => t.keep0 b o e fun z => n (z.mono fun b q => (oo b).mp q), fun _ z => z.elim, fun b o e => by
        by_cases hb : b = a
        · rw [hb, fr] at e; cases e
        · exact t.there b o hb e⟩ (r.step (hid_mono (.refl _) fun b z => .inr z) rfl)
  | exc c xs τ' =>
    intro h cls od σ' H' t R' ex
    have h : FPost L ⟨vs, B⟩ H (argS 0 io ds) (if io.any id = true then RF.exo c xs (outD 0 io τ') else .exc c xs) Q E := h
    by_cases hany : io.any id = true
    · rw [if_pos hany] at h
      obtain ⟨t2, R2, mono⟩ := out_ok hl (tr t) R'
      exact h cls od H' t2 R2 (ex.same mono)
    · rw [if_neg hany] at h
      exact h cls od H' ⟨(tr t).keep0, fun _ z => z.elim, (tr t).there⟩ (ex.same (hid_mono (.refl _) fun b z => .inr z))
  | bk τ' => exact fun h => h.elim
  | ct τ' => exact fun h => h.elim
  | fail => exact fun h => h.elim
theorem spF_long {ps : List Str} {io : List Bool} {f : List D → RF} (hio : io.length = ps.length) : ∀ vs H Q E, spF L io f vs H Q E → vs.length = ps.length := fun vs H Q E ⟨ds, B, hd, R, _⟩ => by
  have hl := R.len
  rw [List.length_map, argS_length 0 io ds hd] at hl
  rw [hl, hio]
theorem of_okR {Pr : Program} {w : World} {mg : Str → Option Value} {base : Heap} {x qual : Str} {st : Stmt} {f : Addr} {fd : FuncData} {bx gx : Str} {k : Nat} {ix : Expr} {p1 p2 p3 : Pos} {mi : M D} (F : Fun L.K x qual st f fd) (S : FnScope [bx, gx] [bx, gx] (defScope st))
    (hbd : defBody st = [.Return (some (.Subscript (.Name gx p1) ix p2)) p3]) (hs : PlainIx ix) (hv : Vis (defScope st) gx) (hdb : (gx == ("__debug__" : Str)) = false) (hcdb : (gx == ("__classdict__" : Str)) = false)
    (body : ∀ (cdv : Value) (A : Around) (outer : List Env) (s : Shared) (H : Hp) (E : XK) (P : Pa), Room k (A.deeper (envOfC qual (defScope st) s.heap.objs.size f cdv)) →
      SE L P (WE (Wof E)) (cxB Pr w L.K mg base [bx, gx] qual (defScope st) f cdv A outer s H E) ix mi) : OfOk Pr w L.K mg base (L2.CX Pr w) (k + 1) f fd [bx, gx] (spF L [true, false] (mkF 2 [true, false] (mRet (mPk 1 dIx mi)))) := by
  obtain ⟨oc, od, kV, doc, pm, an, cdv, ct, osl, rfl, lk, hcd⟩ := F.ex
  refine ⟨fun A outer s H args us vs Q E a o its n ws hr env bound vals pre hva hH ho hdat => ?_⟩
  have inK : L.K.In s.heap := env.mod.kin.keeps fun b o e => (env.bs b o e).1
  have nol : s.heap.NoLimit := env.mod.nolimit.keeps fun b o e => (env.bs b o e).1
  have hlen : vs.length = 2 := spF_long (ps := [bx, gx]) rfl vs H Q E pre
  refine codeAny_call_function hr.depth (inK _ _ lk) rfl S.co S.gen rfl (PySem.W.codeRec_of inK hcd) (bound _ _ _ _ ?_)
  refine wpAny_newFunctionEnv_cells S.kind (fun y hy => ?_) fun e1 he1 s1 inn => ?_
  · obtain ⟨n, v⟩ := y
    cases S.par n (List.of_mem_zip hy).1 with
    | inl q => exact .inl q
    | inr q => exact .inr ⟨q, PySem.W.cellsFrom_some _ _ _ (.inl q)⟩
  · cases he1
    refine ⟨nol.keeps inn.toInCall.keep, codeAny_func ?_⟩
    obtain ⟨P, tq⟩ := tS_of (ps := [bx, gx]) (N := [bx, gx]) rfl (Nat.le_refl _) pre
    have hsg : (L2.start [bx, gx] vs)[1]? = some (some (.ref a)) := by
      unfold L2.start
      rw [List.getElem?_append_left (by rw [List.length_map, hlen]; decide), List.getElem?_map, hva]
      rfl
    have run := raw_ret (X := cxB Pr w L.K mg base [bx, gx] qual (defScope st) f cdv A outer s H E) (L := L) (P := P) (W := Wof E) (p1 := p1) (p2 := p2) (p3 := p3) rfl (rfl : ([bx, gx] : List Str)[1]? = some gx) hv (body cdv A outer s H E P (hr.deeper _)) hs (inv_start S hr.hd env hlen vals inn) tq hsg hH ho hdat hdb hcdb
    rw [← hbd] at run
    refine wpAny_mono run (fun r s2 out => ?_) fun _ _ z => wpAny_mono z (fun _ _ h => ⟨h, fun u e => nomatch e⟩) fun _ _ h => ⟨h, fun u e => nomatch e⟩
    obtain ⟨out, u, rfl, hm⟩ := out
    obtain ⟨v, σ2, H2, J, rv, q⟩ := out
    exact ⟨⟨v, H2, J.os, J.bare, J.base, J.hok, rv, q⟩, fun u' e => by cases e; exact hm⟩
variable {k : Nat} {f : Addr} {fd : FuncData} {ps : List Str} {fn : List D → RF} {x bx : Str} {p bp lp cp : Pos} {es : List Expr} {zs : List Str}
abbrev mOfL (fn : List D → RF) (i : Nat) (zs : List Str) : M D := mCall [true, false] fn 2 0 [0, 1] [] (aIo i (aV (mC (.scr (zs.map D.str))) aNil)) mNil
theorem ser_of (hK : X.K = L.K) (F : OfOk X.prog X.w X.K X.mg X.base (L2.CX X.prog X.w) k f fd ps (spF L [true, false] fn)) (hr : Room k X.A) (hg : Gl X x) (hm : X.mg x = some (.ref f)) (hk : PySem.W.keepIn X.K (.ref f) = true) (hb : Bd L fd ps 2 [] [0, 1] [])
    (hx : ∀ σ, PassesAt (L2.CX X.prog X.w) X σ (E σ)) (i : Nat) (hl : Lits es zs) (hz : zs.length ≤ 1000) {pins : List (Addr × Obj)} {s : Shared} {σ : L2.St} {H : Hp} {Q : VK} (I : Inv X pins σ H s) (h : tE L P E (mOfL fn i zs) σ H Q)
    (hN : X.N[i]? = some bx) (hv : Vis X.env.scope bx) (hd : (bx == ("__debug__" : Str)) = false) (hcd : (bx == ("__classdict__" : Str)) = false) (hdb : (x == ("__debug__" : Str)) = false) :
    wpAny (model X.prog X.w) X.A (eval (.Call (.Name x p) [.Name bx bp, .List es lp] [] cp) X.env) (fun v s' => EP X pins σ Q v s' ∧ ∃ (z : Str) (t : Nat), v = .str z t ∧ s.toks ≤ t) X.xe s := by
  obtain ⟨τ, R, h⟩ := h
  have h : Post L P (RV L) H σ τ ((aIo i (aV (mC (.scr (zs.map D.str))) aNil) τ).bind fun as => fun τ => (mNil τ).bind fun es => fun τ => if as.length = 2 ∧ es.length = 0 then callR [true, false] fn (pick [0, 1] (as ++ es.map Ar.v ++ ([] : List D).map Ar.v)) τ else .fail) Q (E σ) := h
  unfold aIo at h
  split at h
  · rename_i d0 e
    obtain ⟨b, ob, _⟩ := ownD_at R e
    have h : Post L P (RV L) H σ τ (callR [true, false] fn [.io i, .v (.scr (zs.map D.str))] τ) Q (E σ) := h
    refine wpAny_Call_Name_kw (ld_glob I hg hm ?_ hdb)
    refine PySem.W.callWith_K (h₀ := X.base) I.ok.mod.kin hk ?_ rfl rfl
    show wpAny _ _ (spliced ((false, eval (.Name bx bp) X.env) :: backTo cp (starEach [.List es lp] X.env))) _ _ s
    refine Calls.spliced_cons (raw_name hN hv I ob.1 (fun v r => ?_) hd hcd)
    have ev : v = Value.ref b := r
    subst ev
    show wpAny _ _ (spliced ((false, eval (.List es lp) X.env) :: backTo cp (starEach [] X.env))) _ _ s
    refine Calls.spliced_cons (wpAny_List_spliced (lits_run hl s.toks s _ (Nat.le_refl _) fun us n hu hn => ?_))
    have hlu : us.length = zs.length := by rw [← hu.vals.length, List.length_map]
    have hsz : us.length ≤ sizeLine := by rw [hlu]; exact Nat.le_trans hz (by decide)
    refine ⟨hsz, Calls.spliced_nil ?_⟩
    have hf : H s.heap.objs.size = none := I.hok.fresh (Nat.le_refl _)
    have I2 : Inv X pins σ (upd H s.heap.objs.size (.frz { cls := .type "list", data := .seq us.toArray 0 } (.lst (zs.map V.str)))) { s with heap := s.heap.push { cls := .type "list", data := .seq us.toArray 0 }, toks := n } :=
      I.laid (t' := n) (fun b u e => Heap.get?_push_of_some _ e) (Nat.le_refl _) ⟨Heap.get?_push_size _ rfl, by rw [List.length_map, ← hlu]; exact hsz, us, 0, hu.vals, Heap.get?_push_size _ rfl⟩
    have kin : Kin H (upd H s.heap.objs.size (.frz { cls := .type "list", data := .seq us.toArray 0 } (.lst (zs.map V.str)))) := .of (same_upd hf)
    have R2 := R.kin kin
    have ra : Ars L σ (hid (upd H s.heap.objs.size (.frz { cls := .type "list", data := .seq us.toArray 0 } (.lst (zs.map V.str)))) (Hd P σ τ)) [.io i, .v (.scr (zs.map D.str))] [.ref b, .ref s.heap.objs.size] :=
      ⟨.ref b, _, rfl, ob.1, .ref s.heap.objs.size, _, rfl, Rp.scr_iff.mpr ⟨_, _, rfl, .inl (.inr ⟨_, new_hid (fun q hq => R.hd_there hq) hf⟩), rps_lits zs⟩, rfl⟩
    have sp := call_ok R2 ra (Post.from h (R.kinT kin))
    obtain ⟨dvs, dws, dv, dd, to⟩ := hb.ex
    have vals : Vals [V.ref b, V.ref s.heap.objs.size] [Value.ref b, Value.ref s.heap.objs.size] := .cons rfl (.cons rfl .nil)
    have bd : BindsTo { s with heap := s.heap.push { cls := .type "list", data := .seq us.toArray 0 }, toks := n } fd ⟨[Value.ref b, Value.ref s.heap.objs.size], []⟩ (ps.zip [Value.ref b, Value.ref s.heap.objs.size]) :=
      to _ [Value.ref b, Value.ref s.heap.objs.size] [] (by rw [← hK]; exact I2.kIn) rfl rfl
    refine ⟨I2.kIn, wpAny_call (codeAny_mono (F.go X.A X.stack _ _ ⟨[Value.ref b, Value.ref s.heap.objs.size], []⟩ _ _ Q (E σ) s.heap.objs.size _ us 0 _ hr I2.env0 bd vals sp rfl upd_same rfl rfl) fun r s' hq => ?_)⟩
    obtain ⟨hq, hmem⟩ := hq
    cases r with
    | error e => exact hx σ pins _ _ e s' I2 hq
    | ok fl =>
      cases fl with
      | ret u => exact ⟨I2.after hq, hu.mem u (hmem u rfl)⟩
      | next => exact False.elim hq
      | brk => exact False.elim hq
      | cont => exact False.elim hq
  · exact h.elim

abbrev SET (L : Lay) (P : Pa) (E : L2.St → XK) (X : Cx) (e : Expr) (m : M D) : Prop := PET X e (tE L P E m)
abbrev SST (L : Lay) (P : Pa) (W : WX) (X : Cx) (st : Stmt) (m : MS) : Prop := PST X st (tS L P W m)
abbrev SSsT (L : Lay) (P : Pa) (W : WX) (X : Cx) (st : List Stmt) (m : MS) : Prop := PSsT X st (tS L P W m)
theorem PST.weak {st : Stmt} {t u : TS} (h : PST X st t) (g : ∀ D σ H, u D σ H → t D σ H) : PST X st u := fun pins s σ H D h0 I q => h pins s σ H D h0 I (g D σ H q)
theorem PSsT.weak {st : List Stmt} {t u : TS} (h : PSsT X st t) (g : ∀ D σ H, u D σ H → t D σ H) : PSsT X st u := fun pins s σ H D h0 I q => h pins s σ H D h0 I (g D σ H q)
def mRepl (y : Str) (mp mc : M D) : M D := fun τ => (mp τ).bind fun d => fun τ =>
  match d with
  | .str x => (mc τ).bind fun d => fun τ =>
    match d with
    | .str z => Res.lift (if x.length + (x.length + 1) * z.length ≤ 16777216 ∧ (y == z) = false then some (.str (Txt.replace x y z)) else none) τ
    | _ => .fail
  | _ => .fail
theorem sET_repl {o : Expr} {mo : M D} {y : Str} {j : Nat} {c0 apos : Pos} (ho : SE L P E X o mo) (hK : X.K = L.K) (F : OfOk X.prog X.w X.K X.mg X.base (L2.CX X.prog X.w) k f fd ps (spF L [true, false] fn)) (hr : Room k X.A) (hg : Gl X x) (hm : X.mg x = some (.ref f)) (hk : PySem.W.keepIn X.K (.ref f) = true) (hb : Bd L fd ps 2 [] [0, 1] [])
    (hx : ∀ σ, PassesAt (L2.CX X.prog X.w) X σ (E σ)) (i : Nat) (hl : Lits es zs) (hz : zs.length ≤ 1000 := by decide)
    (hN : X.N[i]? = some bx := by rfl) (hv : Vis X.env.scope bx := by first | exact Or.inl rfl | exact Or.inr (Or.inl rfl) | exact Or.inr (Or.inr rfl)) (hd : (bx == ("__debug__" : Str)) = false := by decide) (hcd : (bx == ("__classdict__" : Str)) = false := by decide) (hdb : (x == ("__debug__" : Str)) = false := by decide)
    (hst : starEach [.Constant (.str y) j c0, .Call (.Name x p) [.Name bx bp, .List es lp] [] cp] X.env = [(false, eval (.Constant (.str y) j c0) X.env), (false, eval (.Call (.Name x p) [.Name bx bp, .List es lp] [] cp) X.env)] := by rfl)
    (hbase : attributeBase o "replace" X.env (eval o X.env) = eval o X.env := by rfl) (hline : (apos.endLine == pos.line) = true := by rfl) :
    SET L P E X (.Call (.Attribute o "replace" apos) [.Constant (.str y) j c0, .Call (.Name x p) [.Name bx bp, .List es lp] [] cp] [] pos) (mRepl y mo (mOfL fn i zs)) := by
  intro pins s σ H Q h0 I ⟨τ, R, h⟩
  refine PySem.Call_method2 hbase hst hline (wpAny_mono (PySem.wpAny_toks (ho.run pins s σ H _ I ⟨τ, R, Post.split (R := RV L) h⟩)) (fun v s1 q => ?_) fun _ _ z => z.2)
  obtain ⟨hk1, v', H1, I1, r1, d1, τ1, t1, R1, q1, h1⟩ := q
  have htk : 1 ≤ s1.toks := Nat.le_trans h0 hk1
  cases d1 with
  | str x0 =>
    have e1 := Rp.str_iff.mp q1
    subst e1
    obtain ⟨tx, e2⟩ := r1
    subst e2
    refine ⟨"str", _, PySem.F.plainAttrs_str, PySem.F.slot_str_replace, PySem.F.type_str_replace, typeIs_str _ _ _, (fun _ e => nomatch e), Calls.callWith_builtin rfl (Calls.evalArgs_plain (Calls.spliced_cons ?_))⟩
    refine Calls.Constant_str (Calls.spliced_cons ?_)
    refine thn (ser_of hK F hr hg hm hk hb hx i hl hz (I1.tok (s1.toks + 1)) ⟨τ1, R1, Post.split (R := RV L) h1⟩ hN hv hd hcd hdb) fun u s2 ⟨⟨v2, H2, I2, r2, d2, τ2, t2, R2, q2, h2⟩, z, t, eu, ht⟩ => Calls.spliced_nil ?_
    subst eu
    have ht : s1.toks + 1 ≤ t := ht
    cases d2 with
    | str z0 =>
      have e3 := Rp.str_iff.mp q2
      subst e3
      obtain ⟨t9, e4⟩ := r2
      cases e4
      obtain ⟨d, e, q⟩ := h2.done R2
      split at e
      · rename_i hc
        cases e
        exact PySem.SC.replace (by show s1.toks ≠ 0; omega) (by show t ≠ 0; omega) (by show s1.toks ≠ t; omega) hc.2 hc.1 fun t' k => ⟨.str (Txt.replace x0 y z), H2, I2.tok k, ⟨t', rfl⟩, q _ H2 (.refl _) (Rp.str_iff.mpr rfl)⟩
      · cases e
    | _ => exact h2.elim
  | _ => exact h1.elim
variable {e : Expr} {m : M D} {st : Stmt} {rest : List Stmt} {ms ns : MS}
theorem sST_of (h : SS L P W X st ms) : SST L P W X st ms := PST.of h
theorem sSsT_of (h : SSs L P W X rest ms) : SSsT L P W X rest ms := PSsT.of h
theorem sST_cons (h1 : SST L P W X st ms) (h2 : SSsT L P W X rest ns) : SSsT L P W X (st :: rest) (mSeq ms ns) :=
  PSsT.weak (psst_cons h1 h2) fun D σ H ⟨τ, R, h⟩ => ⟨τ, R, h.then⟩
theorem sST_one (h1 : SST L P W X st ms) : SSsT L P W X [st] ms := CwR.psst_one h1
theorem sST_ret (he : SET L P (WE W) X e m) : SST L P W X (.Return (some e) pos) (mRet m) :=
  PST.weak (CwR.pst_ret he) fun D σ H ⟨τ, R, h⟩ => ⟨τ, R, (Post.sta (R := RV L) h).imp fun v H1 ⟨d, τ1, t1, R1, r1, h1⟩ => h1 v σ H1 .refl R1 r1⟩
theorem sST_if {c : Expr} {a b : List Stmt} {mc : M Bool} (hc : ST L P (WE W) X c mc) (ha : SSsT L P W X a ms) (hb : SSsT L P W X b ns) : SST L P W X (.If c a b pos) (mIfS mc ms ns) :=
  PST.weak (CwR.pst_if hc ha hb) fun D σ H ⟨τ, R, h⟩ => by
    refine ⟨τ, R, (Post.sta (R := RB) h).imp fun k H1 ⟨k', τ1, t1, R1, r1, h1⟩ => ?_⟩
    cases r1
    cases k with
    | true => exact (if_pos rfl).mpr ⟨τ1, R1, h1⟩
    | false => exact (if_neg Bool.false_ne_true).mpr ⟨τ1, R1, h1⟩
theorem fn_okQ {Pr : Program} {w : World} {mg : Str → Option Value} {base : Heap} {x qual : Str} {st : Stmt} {f : Addr} {fd : FuncData} {N ps : List Str} {k : Nat} {io : List Bool} {b : MS} (F : Fun L.K x qual st f fd) (S : FnScope N ps (defScope st)) (hnc : ∀ y ∈ (defScope st).names, y.2 ≠ .cell) (hps : 1 ≤ ps.length)
    (hio : io.length = ps.length) (hN : io.length ≤ N.length)
    (body : ∀ (cdv : Value) (A : Around) (outer : List Env) (s : Shared) (H : Hp) (E : XK) (P : Pa), Room k (A.deeper (envOfC qual (defScope st) s.heap.objs.size f cdv)) →
      SSsT L P (Wof E) (cxB Pr w L.K mg base N qual (defScope st) f cdv A outer s H E) (defBody st) b) : FnOk Pr w L.K mg base (L2.CX Pr w) (k + 1) f fd ps (spF L io (mkF N.length io b)) := by
  obtain ⟨oc, od, kV, doc, pm, an, cdv, ct, osl, rfl, lk, hcd⟩ := F.ex
  exact fn_ofT lk hcd S hnc hps (spF_long hio) fun A outer s H vs Q E hr pre => by
    obtain ⟨P, h⟩ := tS_of hio hN pre
    exact ⟨_, body cdv A outer s H E P hr, h⟩
end
end Sm
set_option Elab.async false
set_option linter.all false
set_option maxRecDepth 100000
set_option maxHeartbeats 1000000
namespace PySem
open Builtin Builtin.Str
def Txt.replace1 (x y z : Str) : Str :=
  if ((occurrences x y 0 x.length 1).isEmpty || (y.length == 0 && z.length == 0)) = true then x else glued z (partsBetween x (occurrences x y 0 x.length 1) y.length)
theorem gives_str_replace1 (x y z : Str) (t u v w : Tok)
    (hf : ((occurrences x y 0 x.length 1).isEmpty || (y.length == 0 && z.length == 0)) = false →
      (u == 0 || v == 0) = false ∧ (u == v) = false ∧ (y == z) = false ∧ tooLong (x.length + (occurrences x y 0 x.length 1).length * z.length) = false) :
    Gives («str.replace» ⟨[.str x t, .str y u, .str z v, .int 1 w], []⟩) (if ((occurrences x y 0 x.length 1).isEmpty || (y.length == 0 && z.length == 0)) = true then .val (.str x t) else .str (glued z (partsBetween x (occurrences x y 0 x.length 1) y.length))) := by
  have e : «str.replace» ⟨[.str x t, .str y u, .str z v, .int 1 w], []⟩ = (if ((occurrences x y 0 x.length 1).isEmpty || (y.length == 0 && z.length == 0)) = true then (do rule "str.replace.nothing"; ret (.str x t)) else
          (do let same ← isSame (.str y u) (.str z v)
              if same = true then (do rule "str.replace.old-is-new"; ret (.str x t)) else
              if tooLong (x.length + (occurrences x y 0 x.length 1).length * z.length) = true then unsupported "str.replace:memory" else
              retStr (glued z (partsBetween x (occurrences x y 0 x.length 1) y.length)))) := by
    show (do let limit ← countLimit "str.replace" (some (.int 1 w)) (x.length + 1); _) = _
    rw [countLimit_int "str.replace" 1 w (x.length + 1) (by decide)]
    rfl
  rw [e]
  cases hc : ((occurrences x y 0 x.length 1).isEmpty || (y.length == 0 && z.length == 0))
  · obtain ⟨h0, huv, hyz, hl⟩ := hf hc
    rw [isSame_str_other y z u v h0 huv hyz, hl]
    exact .of_eq rfl
  · exact .rule (.of_eq rfl)
theorem fits_replaced1 {x z : Str} (y : Str) (hb : x.length + (x.length + 1) * z.length ≤ 16777216) : (glued z (partsBetween x (occurrences x y 0 x.length 1) y.length)).length ≤ sizeLine := by
  have h1 := StrLaws.occ_length_le x y 0 x.length 1
  have hy : (glued y (partsBetween x (occurrences x y 0 x.length 1) y.length)).length = x.length := by rw [StrLaws.glued_between_self]
  rw [size_glued, length_partsBetween, Nat.add_sub_cancel] at hy
  rw [size_glued, length_partsBetween, Nat.add_sub_cancel, sizeLine_eq]
  have h2 : (occurrences x y 0 x.length 1).length * z.length ≤ (x.length + 1) * z.length := Nat.mul_le_mul_right _ (by omega)
  omega
namespace SC
section
variable {prog : Program} {w : World} {A : Around} {E : Value → Shared → Prop} {s : Shared} {x y z : Str} {t u v k1 : Tok} {Q : Value → Shared → Prop}
theorem replace1 (hu : u ≠ 0) (hv : v ≠ 0) (huv : u ≠ v) (hyz : (y == z) = false) (hb : x.length + (x.length + 1) * z.length ≤ 16777216)
    (hq : ∀ t' k, Q (.str (Txt.replace1 x y z) t') { s with toks := k }) : wpAny (model prog w) A (call (.builtin "str.replace") [.str x t, .str y u, .str z v, .int 1 k1]) Q E s := by
  have hl : tooLong (x.length + (occurrences x y 0 x.length 1).length * z.length) = false := by
    have h1 := StrLaws.occ_length_le x y 0 x.length 1
    have h2 : (occurrences x y 0 x.length 1).length * z.length ≤ (x.length + 1) * z.length := Nat.mul_le_mul_right _ (by omega)
    unfold tooLong sizeLine
    exact decide_eq_false (by omega)
  refine call_gives F.slot_str_replace (typeIs_str _ _ _) F.entry_str_replace (F.args_str_replace_4 _ _ _ _)
    (gives_str_replace1 x y z t u v k1 fun _ => ⟨by simp [hu, hv], by simp [huv], hyz, hl⟩) ?_
  have hq' := hq
  unfold Txt.replace1 at hq'
  cases hc : ((occurrences x y 0 x.length 1).isEmpty || (y.length == 0 && z.length == 0))
  · rw [hc] at hq'
    simp only [Bool.false_eq_true, if_false] at hq' ⊢
    exact ⟨fits_replaced1 y hb, hq' _ _⟩
  · rw [hc] at hq'
    simp only [if_true] at hq' ⊢
    exact hq' t s.toks
end
end SC
section
variable {prog : Program} {w : World} {A : Around} {E : Value → Shared → Prop} {s : Shared} {env : Env}
theorem Call_method3' {o e₁ e₂ e₃ : Expr} {name : Str} {apos pos : Pos} {Q : Value → Shared → Prop}
    (hbase : attributeBase o name env (eval o env) = eval o env) (hs : starEach [e₁, e₂, e₃] env = [(false, eval e₁ env), (false, eval e₂ env), (false, eval e₃ env)]) (hline : (apos.endLine == pos.line) = true)
    (h : wpAny (model prog w) A (eval o env) (fun ov s₁ => MethodOnS prog w A E name ov pos [(false, eval e₁ env), (false, eval e₂ env), (false, eval e₃ env)] Q s₁) E s) :
    wpAny (model prog w) A (eval (.Call (.Attribute o name apos) [e₁, e₂, e₃] [] pos) env) Q E s := by
  refine wpAny_Call_method_lateS hbase (by rw [hs]; rfl) hline ?_
  rw [hs]; exact h
end
end PySem
namespace Sm
open PySem PySem.Spec PyProof.Rows L2
section
variable {L : Lay} {P : Pa} {W : WX} {X : Cx} {E : L2.St → XK} {pos : Pos}
variable {k : Nat} {f : Addr} {fd : FuncData} {ps : List Str} {fn : List D → RF} {x bx : Str} {p bp lp cp : Pos} {es : List Expr} {zs : List Str}
def mReplN (y : Str) (mp mc : M D) : M D := fun τ => (mp τ).bind fun d => fun τ =>
  match d with
  | .str x => (mc τ).bind fun d => fun τ =>
    match d with
    | .str z => Res.lift (if x.length + (x.length + 1) * z.length ≤ 16777216 ∧ (y == z) = false then some (.str (Txt.replace1 x y z)) else none) τ
    | _ => .fail
  | _ => .fail
theorem sET_replN {o : Expr} {mo : M D} {y : Str} {j j1 : Nat} {c0 c1 apos : Pos} (ho : SE L P E X o mo) (hK : X.K = L.K) (F : OfOk X.prog X.w X.K X.mg X.base (L2.CX X.prog X.w) k f fd ps (spF L [true, false] fn)) (hr : Room k X.A) (hg : Gl X x) (hm : X.mg x = some (.ref f)) (hk : PySem.W.keepIn X.K (.ref f) = true) (hb : Bd L fd ps 2 [] [0, 1] [])
    (hx : ∀ σ, PassesAt (L2.CX X.prog X.w) X σ (E σ)) (i : Nat) (hl : Lits es zs) (hz : zs.length ≤ 1000 := by decide)
    (hN : X.N[i]? = some bx := by rfl) (hv : Vis X.env.scope bx := by first | exact Or.inl rfl | exact Or.inr (Or.inl rfl) | exact Or.inr (Or.inr rfl)) (hd : (bx == ("__debug__" : Str)) = false := by decide) (hcd : (bx == ("__classdict__" : Str)) = false := by decide) (hdb : (x == ("__debug__" : Str)) = false := by decide)
    (hst : starEach [.Constant (.str y) j c0, .Call (.Name x p) [.Name bx bp, .List es lp] [] cp, .Constant (.int 1) j1 c1] X.env = [(false, eval (.Constant (.str y) j c0) X.env), (false, eval (.Call (.Name x p) [.Name bx bp, .List es lp] [] cp) X.env), (false, eval (.Constant (.int 1) j1 c1) X.env)] := by rfl)
    (hbase : attributeBase o "replace" X.env (eval o X.env) = eval o X.env := by rfl) (hline : (apos.endLine == pos.line) = true := by rfl) :
    SET L P E X (.Call (.Attribute o "replace" apos) [.Constant (.str y) j c0, .Call (.Name x p) [.Name bx bp, .List es lp] [] cp, .Constant (.int 1) j1 c1] [] pos) (mReplN y mo (mOfL fn i zs)) := by
  intro pins s σ H Q h0 I ⟨τ, R, h⟩
  refine PySem.Call_method3' hbase hst hline (wpAny_mono (PySem.wpAny_toks (ho.run pins s σ H _ I ⟨τ, R, Post.split (R := RV L) h⟩)) (fun v s1 q => ?_) fun _ _ z => z.2)
  obtain ⟨hk1, v', H1, I1, r1, d1, τ1, t1, R1, q1, h1⟩ := q
  have htk : 1 ≤ s1.toks := Nat.le_trans h0 hk1
  cases d1 with
  | str x0 =>
    have e1 := Rp.str_iff.mp q1
    subst e1
    obtain ⟨tx, e2⟩ := r1
    subst e2
    refine ⟨"str", _, PySem.F.plainAttrs_str, PySem.F.slot_str_replace, PySem.F.type_str_replace, typeIs_str _ _ _, (fun _ e => nomatch e), Calls.callWith_builtin rfl (Calls.evalArgs_plain (Calls.spliced_cons ?_))⟩
    refine Calls.Constant_str (Calls.spliced_cons ?_)
    refine thn (ser_of hK F hr hg hm hk hb hx i hl hz (I1.tok (s1.toks + 1)) ⟨τ1, R1, Post.split (R := RV L) h1⟩ hN hv hd hcd hdb) fun u s2 ⟨⟨v2, H2, I2, r2, d2, τ2, t2, R2, q2, h2⟩, z, t, eu, ht⟩ => Calls.spliced_cons (wpAny_Constant_int (Calls.spliced_nil ?_))
    subst eu
    have ht : s1.toks + 1 ≤ t := ht
    cases d2 with
    | str z0 =>
      have e3 := Rp.str_iff.mp q2
      subst e3
      obtain ⟨t9, e4⟩ := r2
      cases e4
      obtain ⟨d, e, q⟩ := h2.done R2
      split at e
      · rename_i hc
        cases e
        exact PySem.SC.replace1 (by show s1.toks ≠ 0; omega) (by show t ≠ 0; omega) (by show s1.toks ≠ t; omega) hc.2 hc.1 fun t' k => ⟨.str (Txt.replace1 x0 y z), H2, I2.tok k, ⟨t', rfl⟩, q _ H2 (.refl _) (Rp.str_iff.mpr rfl)⟩
      · cases e
    | _ => exact h2.elim
  | _ => exact h1.elim
end
end Sm
set_option Elab.async false
set_option linter.all false
set_option maxRecDepth 100000
set_option maxHeartbeats 400000
namespace Sm
section
open PySem PySem.SeqAt PySem.W PyProof.Rows
mutual
def plainK : PyData → Bool
  | .none => true
  | .int _ => true
  | .str _ => true
  | .tuple xs => plainKs xs
  | _ => false
def plainKs : List PyData → Bool
  | [] => true
  | x :: xs => plainK x && plainKs xs
end
mutual
def simD : PyData → PyData → Bool
  | .int _, .int _ => true
  | .str _, .str _ => true
  | .tuple xs, .tuple ys => simDs xs ys
  | _, _ => false
def simDs : List PyData → List PyData → Bool
  | x :: xs, y :: ys => if PyData.eqv x y = true then simDs xs ys else simD x y
  | [], _ => true
  | _ :: _, [] => true
end
theorem plainKs_cons {x : PyData} {xs : List PyData} (h : plainKs (x :: xs) = true) : plainK x = true ∧ plainKs xs = true := by
  rw [plainKs, Bool.and_eq_true] at h; exact h
mutual
theorem plain_of_K : ∀ d : PyData, plainK d = true → d.plain = true
  | .none, _ => by simp [PyData.plain]
  | .int _, _ => by simp [PyData.plain]
  | .str _, _ => by simp [PyData.plain]
  | .tuple xs, h => by
    rw [PyData.plain]; exact plains_of_K xs (by rw [plainK] at h; exact h)
  | .bool _, h => absurd h (by simp [plainK])
  | .list _, h => absurd h (by simp [plainK])
  | .dict _, h => absurd h (by simp [plainK])
theorem plains_of_K : ∀ ds : List PyData, plainKs ds = true → PyData.plainAll ds = true
  | [], _ => by simp [PyData.plainAll]
  | x :: xs, h => by
    obtain ⟨h1, h2⟩ := plainKs_cons h
    rw [PyData.plainAll, plain_of_K x h1, plains_of_K xs h2]; rfl
end
mutual
theorem eqv_K : ∀ x y : PyData, plainK x = true → plainK y = true → PyData.eqv x y = true → x = y
  | .none, y, _, hy, e => by
    cases y with
    | none => rfl
    | _ => exact absurd e (by simp [PyData.eqv])
  | .int i, y, _, hy, e => by
    cases y with
    | int j => simp [PyData.eqv] at e; rw [e]
    | bool _ => exact absurd hy (by simp [plainK])
    | _ => exact absurd e (by simp [PyData.eqv])
  | .str i, y, _, hy, e => by
    cases y with
    | str j => simp [PyData.eqv] at e; rw [e]
    | _ => exact absurd e (by simp [PyData.eqv])
  | .tuple xs, y, hx, hy, e => by
    cases y with
    | tuple ys => rw [eqvs_K xs ys (by rw [plainK] at hx; exact hx) (by rw [plainK] at hy; exact hy) (by rw [PyData.eqv] at e; exact e)]
    | _ => exact absurd e (by simp [PyData.eqv])
  | .bool _, _, h, _, _ => absurd h (by simp [plainK])
  | .list _, _, h, _, _ => absurd h (by simp [plainK])
  | .dict _, _, h, _, _ => absurd h (by simp [plainK])
theorem eqvs_K : ∀ xs ys : List PyData, plainKs xs = true → plainKs ys = true → PyData.eqvAll xs ys = true → xs = ys
  | [], [], _, _, _ => rfl
  | [], _ :: _, _, _, e => absurd e (by simp [PyData.eqvAll])
  | _ :: _, [], _, _, e => absurd e (by simp [PyData.eqvAll])
  | x :: xs, y :: ys, hx, hy, e => by
    rw [eqv_all_cons, Bool.and_eq_true] at e
    obtain ⟨h1, h2⟩ := plainKs_cons hx
    obtain ⟨g1, g2⟩ := plainKs_cons hy
    rw [eqv_K x y h1 g1 e.1, eqvs_K xs ys h2 g2 e.2]
end
mutual
theorem eqv_reflK : ∀ x : PyData, plainK x = true → PyData.eqv x x = true
  | .none, _ => by simp [PyData.eqv]
  | .int _, _ => by simp [PyData.eqv]
  | .str _, _ => by simp [PyData.eqv]
  | .tuple xs, h => by rw [PyData.eqv]; exact eqvs_reflK xs (by rw [plainK] at h; exact h)
  | .bool _, h => absurd h (by simp [plainK])
  | .list _, h => absurd h (by simp [plainK])
  | .dict _, h => absurd h (by simp [plainK])
theorem eqvs_reflK : ∀ xs : List PyData, plainKs xs = true → PyData.eqvAll xs xs = true
  | [], _ => by simp [PyData.eqvAll]
  | x :: xs, h => by
    obtain ⟨h1, h2⟩ := plainKs_cons h
    rw [eqv_all_cons, eqv_reflK x h1, eqvs_reflK xs h2]; rfl
end
theorem toks_same {x y : PyData} (h1 : plainK x = true) (h2 : plainK y = true) {xs ys : List PyData} (e : PyData.eqv x y = true) :
    PyProof.Rows.lexLt itemOrd (keyToksAll (x :: xs)) (keyToksAll (y :: ys)) = PyProof.Rows.lexLt itemOrd (keyToksAll xs) (keyToksAll ys) := by
  rw [eqv_K x y h1 h2 e, toks_all_cons, toks_all_cons, lex_self, lex_pre]
mutual
theorem toks_sim : ∀ x y : PyData, plainK x = true → plainK y = true → simD x y = true → PyData.eqv x y = false → ∀ l m, PyProof.Rows.lexLt itemOrd (keyToks x ++ l) (keyToks y ++ m) = dataLt x y
  | .int i, y, _, _, hs, e, l, m => by
    cases y with
    | int j =>
      have hne : (Sum.inl i : Int ⊕ List Nat) ≠ .inl j := fun z => by
        injection z with z; subst z
        simp [PyData.eqv] at e
      rw [dataLt]; simp only [keyToks]
      exact lex_atom hne l m
    | _ => exact absurd hs (by simp [simD])
  | .str i, y, _, _, hs, e, l, m => by
    cases y with
    | str j =>
      have hne : (Sum.inr i.cps.toList : Int ⊕ List Nat) ≠ .inr j.cps.toList := fun z => by
        injection z with z
        have := str_of_cps z; subst this
        simp [PyData.eqv] at e
      rw [dataLt]; simp only [keyToks]
      exact lex_atom hne l m
    | _ => exact absurd hs (by simp [simD])
  | .tuple xs, y, hx, hy, hs, e, l, m => by
    cases y with
    | tuple ys =>
      rw [dataLt_tuple]; simp only [keyToks]
      exact toksAll_sim xs ys (by rw [plainK] at hx; exact hx) (by rw [plainK] at hy; exact hy) (by rw [simD] at hs; exact hs) (by rw [PyData.eqv] at e; exact e) l m
    | _ => exact absurd hs (by simp [simD])
  | .none, _, _, _, hs, _, _, _ => absurd hs (by simp [simD])
  | .bool _, _, h, _, _, _, _, _ => absurd h (by simp [plainK])
  | .list _, _, h, _, _, _, _, _ => absurd h (by simp [plainK])
  | .dict _, _, h, _, _, _, _, _ => absurd h (by simp [plainK])
theorem toksAll_sim : ∀ xs ys : List PyData, plainKs xs = true → plainKs ys = true → simDs xs ys = true → PyData.eqvAll xs ys = false → ∀ l m,
    PyProof.Rows.lexLt itemOrd (keyToksAll xs ++ l) (keyToksAll ys ++ m) = PyProof.Rows.lexLt itemOrd (keyToksAll xs) (keyToksAll ys)
  | [], [], _, _, _, e, _, _ => absurd e (by simp [PyData.eqvAll])
  | [], y :: ys, _, _, _, _, l, m => by
    rw [toks_all_cons]; simp only [keyToksAll, List.cons_append]
    exact (lex_diff (O := itemOrd) (by simp)).trans (lex_diff (O := itemOrd) (by simp)).symm
  | x :: xs, [], _, _, _, _, l, m => by
    rw [toks_all_cons]; simp only [keyToksAll, List.cons_append]
    exact (lex_diff (O := itemOrd) (by simp)).trans (lex_diff (O := itemOrd) (by simp)).symm
  | x :: xs, y :: ys, hx, hy, hs, e, l, m => by
    obtain ⟨h1, h2⟩ := plainKs_cons hx
    obtain ⟨g1, g2⟩ := plainKs_cons hy
    rw [simDs] at hs
    rw [toks_all_cons, toks_all_cons, List.cons_append, List.cons_append, lex_self, lex_self, List.append_assoc, List.append_assoc]
    by_cases q : PyData.eqv x y = true
    · rw [if_pos q] at hs
      rw [eqv_all_cons, q, Bool.true_and] at e
      rw [eqv_K x y h1 g1 q, lex_pre, lex_pre]
      exact toksAll_sim xs ys h2 g2 hs e l m
    · rw [if_neg q] at hs
      have q' : PyData.eqv x y = false := by cases z : PyData.eqv x y with | true => exact absurd z q | false => rfl
      rw [toks_sim x y h1 g1 hs q', toks_sim x y h1 g1 hs q']
end
theorem toks_diff {x y : PyData} (h1 : plainK x = true) (h2 : plainK y = true) (hs : simD x y = true) (e : PyData.eqv x y = false) {xs ys : List PyData} :
    PyProof.Rows.lexLt itemOrd (keyToksAll (x :: xs)) (keyToksAll (y :: ys)) = dataLt x y := by
  rw [toks_all_cons, toks_all_cons, lex_self]
  exact toks_sim x y h1 h2 hs e _ _
def LtGo (A : Around) (s : Shared) : List Value → List Value → Bool → Prop
  | [], ws, k => k = decide (0 < ws.length)
  | _ :: _, [], k => k = false
  | v :: vs, w :: ws, k => (EqAt A s v w true ∧ LtGo A s vs ws k) ∨ (EqAt A s v w false ∧ RcLt A s v w k)
theorem LtGo.ends {A : Around} {s : Shared} : ∀ {vs ws : List Value} {k : Bool}, LtGo A s vs ws k → vs.zip ws = [] → k = decide (vs.length < ws.length)
  | [], _, _, h, _ => h
  | _ :: _, [], _, h, _ => by rw [show _ = false from h]; exact (decide_eq_false (Nat.not_lt_zero _)).symm
  | _ :: _, _ :: _, _, _, z => by cases z
end
end Sm
namespace PySem.SeqAt
open AutoSeq1 (wpAny_loadPart')
open MeetsSeq MeetsSeq2 MeetsSeq3 SeqRoads2
theorem tupLtGo (p q : Addr) (xs ys : Array Value) (cx cy : Nat) (dx dy : Option Addr) (sx sy : Array (Option Value)) (k : Bool) :
    Meets (Builtin.«tuple.__lt__» ⟨[.ref p, .ref q], []⟩)
      (fun A R s => s.heap.get? p = some { cls := .type "tuple", dict := dx, data := .seq xs cx, slots := sx } ∧ s.heap.get? q = some { cls := .type "tuple", dict := dy, data := .seq ys cy, slots := sy } ∧
        Sm.LtGo A.in1 s xs.toList ys.toList k ∧ R (.ok (.ret (.bool k))) s) :=
  .of_wp fun prog w A R s hyp => by
    obtain ⟨hp, gg, dr, tk, os⟩ := s
    obtain ⟨hx, hy, go, fin⟩ := hyp
    have tt := AutoSeq1.sub_tuple_tuple
    wp_walk using wpAny_loadPart' hx, wpAny_loadPart' hy, wpAny_forIn_list _ (fun todo acc st => acc.1 = none ∧ st = ⟨hp, gg, dr, tk, os⟩ ∧ ∃ us vs : List Value, todo = us.zip vs ∧ Sm.LtGo A.in1 ⟨hp, gg, dr, tk, os⟩ us vs k ∧
      (us.length < vs.length ↔ xs.size < ys.size)) _
    case turn =>
      rintro ⟨u, v⟩ todo acc st ⟨ea, rfl, us, vs, ez, g, le⟩
      cases us with
      | nil => cases ez
      | cons u' us =>
        cases vs with
        | nil => cases ez
        | cons v' vs =>
          rw [List.zip_cons_cons] at ez
          injection ez with e1 e2
          injection e1 with e3 e4
          subst e3 e4 e2
          rcases g with ⟨ge, gr⟩ | ⟨ge, gr⟩
          · refine wpAny_bind (ge prog w _ _ ?_)
            wp_walk
            exact ⟨rfl, rfl, us, vs, rfl, gr, by rw [← le, List.length_cons, List.length_cons]; omega⟩
          · refine wpAny_bind (ge prog w _ _ ?_)
            have gr' : ∀ (E Q : Value → Shared → Prop), Q (.bool k) ⟨hp, gg, dr, tk, os⟩ → wpAny (model prog w) A.in1 (richCompare .Lt u v) Q E ⟨hp, gg, dr, tk, os⟩ := gr prog w
            generalize richCompare CmpOp.Lt u v = rc at gr' ⊢
            wp_walk
            refine gr' _ _ ?_
            wp_walk
            exact ⟨_, rfl, fin⟩
    case fin =>
      rintro ⟨b1, b2⟩ st ⟨ea, rfl, us, vs, ez, g, le⟩
      simp only at ea
      subst ea
      have ek := g.ends ez.symm
      have ek2 : k = decide (xs.size < ys.size) := by rw [ek]; exact decide_eq_decide.mpr le
      subst ek2
      wp_walk
      exact ⟨_, rfl, by simpa [Builtin.Tuple.tupleCompareSizes] using fin⟩
    case h =>
      exact ⟨rfl, rfl, xs.toList, ys.toList, by simp, go, by simp⟩
theorem rcTupGo {A : Around} {s : Shared} {p q : Addr} {xs ys : Array Value} {k : Bool} (hp : s.heap.IsTuple p xs) (hq : s.heap.IsTuple q ys) (hu : A.units < cLine) (go : Sm.LtGo A.in1 s xs.toList ys.toList k) : RcLt A s (.ref p) (.ref q) k := fun prog w E Q fin => by
  obtain ⟨⟨c1, d1, t1, s1⟩, ho, e1, n1, f1⟩ := id hp
  obtain ⟨⟨c2, d2, t2, s2⟩, hv, e2, n2, f2⟩ := id hq
  simp only at e1 f1 e2 f2
  subst e1 f1 e2 f2
  exact richCompare_meets_room (op := .Lt) ⟨_, ho, rfl⟩ ⟨_, hv, rfl⟩ F.slot_tuple_lt F.entry_tuple_lt (F.args_tuple_lt_2 _ _) (tupLtGo p q xs ys n1 n2 d1 d2 s1 s2 k)
    ⟨ho, hv, go, show Value.bool k ≠ Value.notImplemented ∧ Q (.bool k) s from ⟨(fun z => nomatch z), fin⟩⟩ hu
end PySem.SeqAt
set_option Elab.async false
set_option linter.all false
set_option maxRecDepth 100000
set_option maxHeartbeats 400000
namespace Sm
section
open PySem PySem.SeqAt PySem.W PyProof.Rows
mutual
theorem rc_sim : ∀ (x y : PyData) (A : Around) (s : Shared) (a b : Value) (as bs : List Addr), Reads s.heap a x as → Reads s.heap b y bs → plainK x = true → plainK y = true → simD x y = true →
    A.units + min x.depth y.depth < cLine → RcLt A s a b (dataLt x y)
  | .int i, y, A, s, a, b, as, bs, ra, rb, hx, hy, hs, hu => by
    cases y with
    | int j => exact rcLt_alike _ _ A s a b as bs ra rb (by simp [alike]) (fun z => by cases z) hu
    | _ => exact absurd hs (by simp [simD])
  | .str i, y, A, s, a, b, as, bs, ra, rb, hx, hy, hs, hu => by
    cases y with
    | str j => exact rcLt_alike _ _ A s a b as bs ra rb (by simp [alike]) (fun z => by cases z) hu
    | _ => exact absurd hs (by simp [simD])
  | .tuple xs, y, A, s, a, b, as, bs, ra, rb, hx, hy, hs, hu => by
    cases y with
    | tuple ys =>
      cases ra with
      | @tuple l o vs n _ as₁ h1 h2 h3 h4 =>
        cases rb with
        | @tuple l' o' ws n' _ bs₁ k1 k2 k3 k4 =>
          rw [dataLt_tuple]
          exact rcTupGo ⟨_, h1, h2, _, h3⟩ ⟨_, k1, k2, _, k3⟩ (room_here hu) (go_sim xs ys A.in1 s _ _ _ _ h4 k4 (by rw [plainK] at hx; exact hx) (by rw [plainK] at hy; exact hy) (by rw [simD] at hs; exact hs) (room_in hu))
    | _ => exact absurd hs (by simp [simD])
  | .none, _, _, _, _, _, _, _, _, _, _, _, hs, _ => absurd hs (by simp [simD])
  | .bool _, _, _, _, _, _, _, _, _, _, h, _, _, _ => absurd h (by simp [plainK])
  | .list _, _, _, _, _, _, _, _, _, _, h, _, _, _ => absurd h (by simp [plainK])
  | .dict _, _, _, _, _, _, _, _, _, _, h, _, _, _ => absurd h (by simp [plainK])
theorem go_sim : ∀ (xs ys : List PyData) (A : Around) (s : Shared) (vs ws : List Value) (as bs : List Addr), ReadsAll s.heap vs xs as → ReadsAll s.heap ws ys bs → plainKs xs = true → plainKs ys = true → simDs xs ys = true →
    A.units + min (PyData.depthAll xs) (PyData.depthAll ys) < cLine → LtGo A s vs ws (PyProof.Rows.lexLt itemOrd (keyToksAll xs) (keyToksAll ys))
  | [], [], A, s, _, _, _, _, ra, rb, _, _, _, _ => by
    cases ra; cases rb
    rw [lex_irrefl]; rfl
  | [], y :: ys, A, s, _, _, _, _, ra, rb, _, _, _, _ => by
    cases ra
    cases rb with
    | cons r rs =>
      rw [toks_all_cons]; simp only [keyToksAll]
      rw [lex_diff (O := itemOrd) (by simp)]
      exact (decide_eq_true (Nat.succ_pos _)).symm
  | x :: xs, [], A, s, _, _, _, _, ra, rb, _, _, _, _ => by
    cases rb
    cases ra with
    | cons r rs =>
      rw [toks_all_cons]; simp only [keyToksAll]
      rw [lex_diff (O := itemOrd) (by simp)]
      rfl
  | x :: xs, y :: ys, A, s, _, _, _, _, ra, rb, hx, hy, hs, hu => by
    obtain ⟨h1, h2⟩ := plainKs_cons hx
    obtain ⟨g1, g2⟩ := plainKs_cons hy
    rw [simDs] at hs
    cases ra with
    | cons r rs =>
      cases rb with
      | cons q qs =>
        have eq : EqAt A s _ _ (PyData.eqv x y) := eqAt_plain x y A s _ _ _ _ r q (plain_of_K x h1) (plain_of_K y g1) (room_head hu)
        by_cases z : PyData.eqv x y = true
        · rw [if_pos z] at hs
          rw [z] at eq
          refine .inl ⟨eq, ?_⟩
          rw [toks_same h1 g1 z]
          exact go_sim xs ys A s _ _ _ _ rs qs h2 g2 hs (room_tail hu)
        · rw [if_neg z] at hs
          have z' : PyData.eqv x y = false := by cases c : PyData.eqv x y with | true => exact absurd c z | false => rfl
          rw [z'] at eq
          refine .inr ⟨eq, ?_⟩
          rw [toks_diff h1 g1 hs z']
          exact rc_sim x y A s _ _ _ _ r q h1 g1 hs (room_head hu)
end
section
variable {prog : Program} {w : World} {A : Around} {E : Value → Shared → Prop} {s : Shared}
end
theorem reads_shape {h : Heap} {y : PyData} {v : Value} {bs : List Addr} (hy : plainK y = true) (q : Reads h v y bs) : ∀ (x : PyData) (as : List Addr), plainK x = true → Reads h v x as → (∀ xs ys, x = .tuple xs → y = .tuple ys → xs = ys) → x = y := by
  intro x as hx r ht
  cases q with
  | none => cases r; rfl
  | bool _ => exact absurd hy (by simp [plainK])
  | int _ _ => cases r; rfl
  | str _ _ => cases r; rfl
  | list _ _ _ _ => exact absurd hy (by simp [plainK])
  | dict _ _ _ _ _ => exact absurd hy (by simp [plainK])
  | tuple _ _ _ _ =>
    cases r with
    | tuple _ _ _ _ => rw [ht _ _ rfl rfl]
    | list _ _ _ _ => exact absurd hx (by simp [plainK])
    | dict _ _ _ _ _ => exact absurd hx (by simp [plainK])
mutual
theorem reads_oneK {h : Heap} : ∀ (x y : PyData) (v : Value) (as bs : List Addr), plainK x = true → plainK y = true → Reads h v x as → Reads h v y bs → x = y
  | .tuple xs, y, v, as, bs, hx, hy, r, q => by
    refine reads_shape hy q _ as hx r fun us ws e1 e2 => ?_
    cases e1; subst e2
    cases r with
    | tuple a1 a2 a3 a4 =>
      cases q with
      | tuple b1 b2 b3 b4 =>
        rw [a1] at b1; cases b1
        rw [a3] at b3; cases b3
        exact readsAll_oneK xs ws _ _ _ (by rw [plainK] at hx; exact hx) (by rw [plainK] at hy; exact hy) a4 b4
  | .none, y, v, as, bs, hx, hy, r, q => reads_shape hy q _ as hx r fun us ws e1 e2 => by cases e1
  | .int _, y, v, as, bs, hx, hy, r, q => reads_shape hy q _ as hx r fun us ws e1 e2 => by cases e1
  | .str _, y, v, as, bs, hx, hy, r, q => reads_shape hy q _ as hx r fun us ws e1 e2 => by cases e1
  | .bool _, _, _, _, _, h, _, _, _ => absurd h (by simp [plainK])
  | .list _, _, _, _, _, h, _, _, _ => absurd h (by simp [plainK])
  | .dict _, _, _, _, _, h, _, _, _ => absurd h (by simp [plainK])
theorem readsAll_oneK {h : Heap} : ∀ (xs ys : List PyData) (vs : List Value) (as bs : List Addr), plainKs xs = true → plainKs ys = true → ReadsAll h vs xs as → ReadsAll h vs ys bs → xs = ys
  | [], _, _, _, _, _, _, r, q => by cases r; cases q; rfl
  | x :: xs, ys, _, _, _, h1, h2, r, q => by
    cases r with
    | cons r1 r2 =>
      cases q with
      | cons q1 q2 =>
        obtain ⟨g1, g2⟩ := plainKs_cons h1
        obtain ⟨k1, k2⟩ := plainKs_cons h2
        rw [reads_oneK x _ _ _ _ g1 k1 r1 q1, readsAll_oneK xs _ _ _ _ g2 k2 r2 q2]
end
structure SimAll (ds : List PyData) : Prop where
  plain : ∀ d ∈ ds, plainK d = true
  sim : ∀ d ∈ ds, ∀ e ∈ ds, simD d e = true
  tup : ∀ d ∈ ds, ∃ x r, d = .tuple (x :: r)
  one : ∀ x r, PyData.tuple (x :: r) ∈ ds → ∀ y q, PyData.tuple (y :: q) ∈ ds → dataType x = dataType y
theorem SimAll.key {h : Heap} {ds : List PyData} (hs : SimAll ds) {v : Value} {d : PyData} {as : List Addr} (hd : d ∈ ds) (r : Reads h v d as) : (dataKind h ds).keyOf v = some (keyToks d) := by
  cases e : (dataKind h ds).keyOf v with
  | none =>
    have z : (open Classical in if q : ∃ d, d ∈ ds ∧ ∃ as, Reads h v d as then some (keyToks q.choose) else none) = none := e
    rw [dif_pos ⟨d, hd, as, r⟩] at z; cases z
  | some k =>
    obtain ⟨d', as', hd', r', rfl⟩ := dataKind_inv e
    rw [reads_oneK d' d v as' as (hs.plain _ hd') (hs.plain _ hd) r' r]; rfl
section
variable {prog : Program} {w : World} {A : Around} {s : Shared}
end
end
end Sm
set_option Elab.async false
set_option linter.all false
set_option maxRecDepth 100000
set_option maxHeartbeats 400000
namespace Sm
open PySem PySem.Spec PySem.Calls PyProof.Rows L2
theorem SimAll.of {ps : List PyData} (h1 : ps.all plainK = true) (h2 : (ps.all fun p => ps.all fun q => simD p q) = true) (h3 : ps.all isTup1 = true) : SimAll ps := by
  have a1 : ∀ d ∈ ps, plainK d = true := List.all_eq_true.mp h1
  have a2 : ∀ d ∈ ps, ∀ e ∈ ps, simD d e = true := fun d hd => List.all_eq_true.mp (List.all_eq_true.mp h2 d hd)
  refine ⟨a1, a2, fun d hd => ?_, fun x r hx y q hy => ?_⟩
  · have z := List.all_eq_true.mp h3 d hd
    unfold isTup1 at z
    split at z
    · exact ⟨_, _, rfl⟩
    · cases z
  · have s := a2 _ hx _ hy
    have k1 := a1 _ hx
    have k2 := a1 _ hy
    rw [plainK] at k1 k2
    rw [simD, simDs] at s
    by_cases e : PyData.eqv x y = true
    · rw [eqv_K x y (plainKs_cons k1).1 (plainKs_cons k2).1 e]
    · rw [if_neg e] at s
      cases x with
      | int i => cases y with | int j => rfl | _ => exact absurd s (by simp [simD])
      | str i => cases y with | str j => rfl | _ => exact absurd s (by simp [simD])
      | tuple t => cases y with | tuple u => rfl | _ => exact absurd s (by simp [simD])
      | _ => exact absurd s (by simp [simD])
section
variable {X : Cx}
end
end Sm
set_option Elab.async false
set_option linter.all false
set_option maxRecDepth 100000
set_option maxHeartbeats 400000
namespace Sm
open PySem PySem.Spec PyProof.Rows L2
def Msk (m : Nat) : Prop := m = 7 ∨ m = 31 ∨ m = 127 ∨ m = 511
def orbit : Nat → Nat → List Nat
  | 0, _ => []
  | n + 1, x => x :: orbit n ((x * 5 + 1) % 512)
theorem orbit_at : ∀ (n a : Nat) {y : Nat}, y ∈ orbit n (lcgN 511 a) → ∃ b, b < n ∧ lcgN 511 (a + b) = y
  | 0, _, _, h => by cases h
  | n + 1, a, y, h => by
    rcases List.mem_cons.mp h with e | h
    · exact ⟨0, Nat.succ_pos n, e.symm⟩
    · obtain ⟨b, hb, e⟩ := orbit_at n (a + 1) h
      exact ⟨b + 1, Nat.succ_lt_succ hb, by rw [← e]; congr 1; omega⟩
theorem orbit_all : ((List.range 512).all fun j => (orbit 512 0).contains j) = true := by decide +kernel
theorem orbit_back : lcgN 511 512 = 0 := by decide +kernel
theorem round511 : ∀ k, lcgN 511 (512 + k) = lcgN 511 k
  | 0 => orbit_back
  | k + 1 => by
    have e := round511 k
    show (lcgN 511 (512 + k) * 5 + 1) % 512 = _
    rw [e]; rfl
theorem reach511 {j : Nat} (hj : j ≤ 511) : ∃ b, b ≤ 511 ∧ lcgN 511 b = j := by
  have h := List.all_eq_true.mp orbit_all j (List.mem_range.mpr (by omega))
  obtain ⟨b, hb, e⟩ := orbit_at 512 0 (List.contains_iff_mem.mp h)
  exact ⟨b, by omega, by rw [← e, Nat.zero_add]⟩
theorem goes511 {i j : Nat} (hi : i ≤ 511) (hj : j ≤ 511) : ∃ k, k ≤ 511 ∧ lcgI 511 i k = j := by
  obtain ⟨a, ha, rfl⟩ := reach511 hi
  obtain ⟨b, hb, rfl⟩ := reach511 hj
  by_cases c : a ≤ b
  · exact ⟨b - a, by omega, by rw [lcgN_add, show a + (b - a) = b by omega]⟩
  · exact ⟨b + 512 - a, by omega, by rw [lcgN_add, show a + (b + 512 - a) = 512 + b by omega, round511]⟩
theorem Msk.goes {m : Nat} (hm : Msk m) {i j : Nat} (hi : i ≤ m) (hj : j ≤ m) : ∃ k, k ≤ m ∧ lcgI m i k = j := by
  rcases hm with rfl | rfl | rfl | rfl
  · exact lcgI_all (.inl rfl) hi hj
  · exact lcgI_all (.inr (.inl rfl)) hi hj
  · exact lcgI_all (.inr (.inr rfl)) hi hj
  · exact goes511 hi hj
theorem Msk.odd {m : Nat} (hm : Msk m) : m % 2 = 1 := by rcases hm with rfl | rfl | rfl | rfl <;> rfl
theorem Msk.le {m : Nat} (hm : Msk m) : m ≤ 511 := by rcases hm with rfl | rfl | rfl | rfl <;> decide
theorem Msk.runs {m : Nat} (hm : Msk m) (h : Int) {j : Nat} (hj : j ≤ m) : ∃ n, n ≤ m + 12 ∧ runI m (SetTable.bits h) n = j := by
  obtain ⟨k, hk, e⟩ := hm.goes (runI_le m (SetTable.bits h) 12) hj
  exact ⟨12 + k, Nat.add_comm m 12 ▸ Nat.add_le_add_left hk 12, (runI_tail (bits_lt h) k).trans e⟩
theorem Msk.met {m : Nat} (hm : Msk m) (h : Int) {j : Nat} (hj : j ≤ m) : ∃ k, k < 10 * SetTable.turns m ∧ way m h k = j := by
  obtain ⟨n, hn, e⟩ := hm.runs h hj
  obtain ⟨k, hk, f⟩ := run_nth m (SetTable.bits h) n
  exact ⟨k, by show k < 10 * (m + 15); omega, (congrArg SetTable.Probe.j f).trans e⟩
structure TabG (t : SetTable) (hs : List Int) : Prop where
  ris : Ris t.place.toList
  no : t.dummies = #[]
  size : t.place.size = hs.length
  msk : Msk t.mask
  back : ∀ (i : Nat) (h : Int) (j : Nat), hs[i]? = some h → t.place.toList[i]? = some j → ∃ k, way t.mask h k = j ∧ ∀ k', k' < k → way t.mask h k' ∈ t.place.toList
section
variable {t : SetTable} {hs : List Int}
theorem TabG.free (T : TabG t hs) (hl : hs.length ≤ t.mask) (h : Int) : ∃ K, K < 10 * SetTable.turns t.mask ∧ way t.mask h K ∉ t.place.toList ∧ ∀ k, k < K → way t.mask h k ∈ t.place.toList := by
  obtain ⟨j, j1, j2⟩ := st_missing t.place.toList (t.mask + 1) (by rw [Array.length_toList, T.size]; omega)
  obtain ⟨k, k1, rfl⟩ := T.msk.met h (Nat.le_of_lt_succ j1)
  obtain ⟨K, a, b, c⟩ := st_least (p := fun x => way t.mask h x ∉ t.place.toList) k j2
  exact ⟨K, Nat.lt_of_le_of_lt a k1, b, fun x hx => Classical.byContradiction (c x hx)⟩
theorem TabG.ins (T : TabG t hs) {h : Int} {K : Nat} (hK : way t.mask h K ∉ t.place.toList) (hb : ∀ k, k < K → way t.mask h k ∈ t.place.toList) {p : Nat} (hp : SetTable.below t.place (way t.mask h K) = p) :
    p ≤ hs.length ∧ TabG (t.put (way t.mask h K)).1 (hs.take p ++ h :: hs.drop p) := by
  subst hp
  generalize hj : way t.mask h K = j at hK
  have c := (below_cut T.ris j).1
  have ph : SetTable.below t.place j ≤ hs.length := T.size ▸ c
  have pl : SetTable.below t.place j ≤ t.place.toList.length := by rw [Array.length_toList]; exact c
  have new : t.place[SetTable.below t.place j]? ≠ some j := fun e => hK (List.mem_of_getElem? ((Array.getElem?_toList ..).trans e))
  have pp := put_place t j
  have more : ∀ {x : Nat}, x ∈ t.place.toList → x ∈ (t.put j).1.place.toList := fun hx => pp ▸ mem_ins.mpr (.inr hx)
  refine ⟨ph, ris_insert T.ris new, put_dm T.no j, ?_, T.msk, fun i h' j' h1 h2 => ?_⟩
  · rw [← Array.length_toList, pp, len_ins _ pl, len_ins _ ph, Array.length_toList, T.size]
  · rw [pp, tins_get _ pl] at h2
    rw [tins_get hs ph] at h1
    have old : ∀ n : Nat, hs[n]? = some h' → t.place.toList[n]? = some j' → ∃ k, way t.mask h' k = j' ∧ ∀ k', k' < k → way t.mask h' k' ∈ (t.put j).1.place.toList := fun n a b => by
      obtain ⟨k, e, f⟩ := T.back n h' j' a b
      exact ⟨k, e, fun k' hk' => more (f k' hk')⟩
    split at h1
    · rename_i hlt
      rw [if_pos hlt] at h2
      exact old i h1 h2
    · rename_i hlt
      rw [if_neg hlt] at h2
      split at h1
      · rename_i he
        rw [if_pos he] at h2
        cases h1
        cases h2
        exact ⟨K, hj, fun k' hk' => more (hb k' hk')⟩
      · rename_i he
        rw [if_neg he] at h2
        exact old (i - 1) h1 h2
end
end Sm
set_option Elab.async false
set_option linter.all false
set_option maxRecDepth 100000
set_option maxHeartbeats 400000
namespace Sm
open PySem PySem.Spec PyProof.Rows L2
def NIs (h : Heap) (k : NestedKey) (a : Addr) : Prop := NestedIs h k (.ref a) ∧ k.depth ≤ 8
theorem NIs.kind {P : Program} {w : World} {h : Heap} {k : NestedKey} {a : Addr} (x : NIs h k a) : (nestedKind P w).is h k a := x
theorem NIs.at {h h' : Heap} {k : NestedKey} {a : Addr} (x : NIs h k a) (hk : ∀ c o, h.get? c = some o → h'.get? c = some o) : NIs h' k a := ⟨NestedIs.at (fun c o vs n e _ => hk c o e) k _ x.1, x.2⟩
theorem NIs.inj {h : Heap} {k l : NestedKey} {a : Addr} (x : NIs h k a) (y : NIs h l a) : k = l := NestedIs.inj _ _ _ x.1 y.1
theorem NIs.but {h h' : Heap} {k : NestedKey} {a b : Addr} {o : Obj} {es : Array (Int × Value)} {ep : Nat} {t : SetTable} (x : NIs h k b) (ho : h.get? a = some o) (hd : o.data = .set es ep t) (hs : Heap.SameBut a h h') : NIs h' k b :=
  ⟨NestedIs.at (fun c u vs n e hu => (hs.2 c fun z => by
    subst z
    rw [ho] at e
    cases e
    rw [hd] at hu
    cases hu).trans e) k _ x.1, x.2⟩
section
variable (P : Program) (w : World) (s : Shared)
def ClsNo (n : Nat) (v : Value) : Prop := ∀ (A : Around) (E : Value → Shared → Prop) (Q : Bool → Shared → Prop), Q false s → wpAny (model P w) A (ofAClassStatement n v) Q E s
def HByV (n : Nat) (v : Value) (c : Bool) : Prop := ∀ (A : Around) (E : Value → Shared → Prop) (Q : Bool → Shared → Prop), Q c s → wpAny (model P w) A (hashByValue n v) Q E s
end
section
variable {P : Program} {w : World} {s : Shared}
theorem ClsNo.tup {n m : Nat} {a : Addr} {o : Obj} {vs : Array Value} (ho : s.heap.get? a = some o) (hc : o.cls = .type "tuple") (hd : o.data = .seq vs m) (hv : ∀ v ∈ vs.toList, ClsNo P w s n v) : ClsNo P w s (n + 1) (.ref a) := fun A E Q q => by
  have hT : s.TypeIs (.ref a) "tuple" := ⟨o, ho, hc⟩
  have e : (("tuple" : String) == "tuple") = true := by decide
  unfold ofAClassStatement
  refine wpAny_bind (wpAny_typeOf hT ?_)
  simp only [e, if_true]
  try refine wpAny_bind (wpAny_pure ?_)
  simp only [Bool.not_true, Bool.false_eq_true, if_false]
  refine wpAny_bind (wpAny_seqItems ho hd ?_)
  dsimp only
  refine wpAny_bind ?_
  rw [← Array.forIn_toList]
  refine wpAny_forIn_list _ (fun rest r u => r.1 = none ∧ u = s ∧ ∀ v ∈ rest, ClsNo P w s n v) _ ?_ ?_ _ _ ⟨rfl, rfl, hv⟩
  · rintro v rest r u ⟨hr, rfl, hall⟩
    refine wpAny_bind (hall v List.mem_cons_self _ _ _ ?_)
    rw [if_neg Bool.false_ne_true]
    exact wpAny_pure ⟨rfl, rfl, fun x hx => hall x (List.mem_cons_of_mem _ hx)⟩
  · rintro ⟨r, r'⟩ u ⟨hr, rfl, _⟩
    cases hr
    exact wpAny_pure q
theorem HByV.tup {n m : Nat} {a : Addr} {o : Obj} {vs : Array Value} (ho : s.heap.get? a = some o) (hc : o.cls = .type "tuple") (hd : o.data = .seq vs m) (hv : ∀ v ∈ vs.toList, ∃ c, HByV P w s n v c) : ∃ c, HByV P w s (n + 1) (.ref a) c := by
  obtain ⟨f, hf⟩ : ∃ f : Value → Bool, ∀ v ∈ vs.toList, HByV P w s n v (f v) := by
    classical
    refine ⟨fun v => if h : ∃ c, HByV P w s n v c then Classical.choose h else true, fun v h => ?_⟩
    have q := hv v h
    show HByV P w s n v (if h : ∃ c, HByV P w s n v c then Classical.choose h else true)
    rw [dif_pos q]
    exact Classical.choose_spec q
  refine ⟨vs.toList.all f, fun A E Q q => ?_⟩
  have hT : s.TypeIs (.ref a) "tuple" := ⟨o, ho, hc⟩
  unfold hashByValue
  refine wpAny_bind (wpAny_specialOf hT F.slot_tuple_hash.lookup ?_)
  show wpAny _ _ (seqItems? (.ref a) >>= _) _ _ s
  refine wpAny_bind (wpAny_seqItems ho hd ?_)
  refine wpAny_bind ?_
  show wpAny _ _ (forIn vs _ _) _ _ s
  rw [← Array.forIn_toList]
  refine wpAny_forIn_list _ (fun rest r u => r.1 = none ∧ u = s ∧ rest.all f = vs.toList.all f ∧ ∀ v ∈ rest, HByV P w s n v (f v)) _ ?_ ?_ _ _ ⟨rfl, rfl, rfl, hf⟩
  · rintro v rest r u ⟨hr, rfl, ha, hall⟩
    refine wpAny_bind (hall v List.mem_cons_self _ _ _ ?_)
    rw [List.all_cons] at ha
    cases e : f v with
    | true =>
      rw [e, Bool.true_and] at ha
      rw [if_neg (by decide)]
      exact wpAny_pure ⟨rfl, rfl, ha, fun x hx => hall x (List.mem_cons_of_mem _ hx)⟩
    | false =>
      rw [e, Bool.false_and] at ha
      rw [if_pos (by decide)]
      refine wpAny_pure ?_
      rw [← ha] at q
      exact wpAny_pure q
  · rintro ⟨r, r'⟩ u ⟨hr, rfl, ha, _⟩
    cases hr
    rw [← ha] at q
    exact wpAny_pure q
mutual
theorem cls_key : ∀ (k : NestedKey) (v : Value) (n : Nat), NestedIs s.heap k v → k.depth ≤ n → ClsNo P w s n v
  | .none, _, n, x, _ => by cases x; intro A E Q q; cases n <;> exact wpAny_pure q
  | .num i, _, n, x, _ => by cases x <;> (intro A E Q q; cases n <;> exact wpAny_pure q)
  | .text y, _, n, x, _ => by cases x; intro A E Q q; cases n <;> exact wpAny_pure q
  | .tup ks, _, n, x, hn => by
    cases x with
    | tup ho hc hd hk =>
      have hn : NestedKey.depthAll ks + 1 ≤ n := hn
      cases n with
      | zero => omega
      | succ n => exact .tup ho hc hd (cls_keys ks _ n hk (by omega))
theorem cls_keys : ∀ (ks : List NestedKey) (vs : List Value) (n : Nat), NestedAll s.heap ks vs → NestedKey.depthAll ks ≤ n → ∀ v ∈ vs, ClsNo P w s n v
  | [], _, n, x, _, v, hv => by cases x; cases hv
  | k :: ks, _, n, x, hn, v, hv => by
    cases x with
    | cons x1 x2 =>
      have hn : max k.depth (NestedKey.depthAll ks) ≤ n := hn
      rcases List.mem_cons.mp hv with e | hv
      · rw [e]; exact cls_key k _ n x1 (by omega)
      · exact cls_keys ks _ n x2 (by omega) v hv
end
mutual
theorem hby_key : ∀ (k : NestedKey) (v : Value) (n : Nat), NestedIs s.heap k v → ∃ c, HByV P w s n v c
  | .none, _, n, x => by cases x; exact ⟨true, fun A E Q q => by cases n <;> exact wpAny_pure q⟩
  | .num i, _, n, x => by cases x <;> exact ⟨true, fun A E Q q => by cases n <;> exact wpAny_pure q⟩
  | .text y, _, n, x => by cases x; exact ⟨false, fun A E Q q => by cases n <;> exact wpAny_pure q⟩
  | .tup ks, _, n, x => by
    cases x with
    | tup ho hc hd hk =>
      cases n with
      | zero => exact ⟨false, fun A E Q q => wpAny_pure q⟩
      | succ n => exact HByV.tup ho hc hd (hby_keys ks _ n hk)
theorem hby_keys : ∀ (ks : List NestedKey) (vs : List Value) (n : Nat), NestedAll s.heap ks vs → ∀ v ∈ vs, ∃ c, HByV P w s n v c
  | [], _, n, x, v, hv => by cases x; cases hv
  | k :: ks, _, n, x, v, hv => by
    cases x with
    | cons x1 x2 =>
      rcases List.mem_cons.mp hv with e | hv
      · rw [e]; exact hby_key k _ n x1
      · exact hby_keys ks _ n x2 v hv
end
variable {A : Around} {E : Value → Shared → Prop}
end
end Sm
set_option Elab.async false
set_option linter.all false
set_option maxRecDepth 100000
set_option maxHeartbeats 400000
namespace Sm
open PySem PySem.Spec PyProof.Rows L2
abbrev LNK := List (Addr × NestedKey)
def rowsN (w : World) (L : LNK) : List (Int × Value) := L.map fun p => (p.2.hash w, Value.ref p.1)
structure SetN (w : World) (h : Heap) (a : Addr) (L : LNK) (es : Array (Int × Value)) (ep : Nat) (t : SetTable) : Prop where
  obj : ∃ o, h.get? a = some o ∧ o.ExactSet ∧ o.data = .set es ep t
  rows : es.toList = rowsN w L
  tab : TabG t (L.map fun p => p.2.hash w)
  nd : (L.map (·.2)).Nodup
  keys : ∀ p ∈ L, NIs h p.2 p.1
  led : w.params.followText "set-order" = true ∨ t.led = true
  room : L.length * 5 < t.mask * 3
  few : L.length ≤ 300
section
variable {P : Program} {w : World} {A : Around} {E : Value → Shared → Prop} {s : Shared} {a : Addr} {L : LNK} {es : Array (Int × Value)} {ep : Nat} {t : SetTable}
theorem rowsN_len : (rowsN w L).length = L.length := List.length_map _
theorem size_rows (h : es.toList = rowsN w L) : es.size = L.length := by rw [← Array.length_toList, h, rowsN_len]
theorem fits_tab {hs : List Int} (T : TabG t hs) (hz : es.size = hs.length) (hl : hs.length ≤ t.mask) : t.fits es.size = true := by
  have z := T.size
  unfold SetTable.fits SetTable.fill
  rw [T.no, Bool.and_eq_true, beq_iff_eq, decide_eq_true_eq]
  refine ⟨z.trans hz.symm, ?_⟩
  show t.place.size + 0 ≤ t.mask
  omega
theorem SetN.fits (R : SetN w s.heap a L es ep t) : t.fits es.size = true :=
  fits_tab R.tab (by rw [List.length_map]; exact size_rows R.rows) (by have := R.room; rw [List.length_map]; omega)
theorem SetN.stays (R : SetN w s.heap a L es ep t) : ¬ t.gaveWay = true := by
  unfold SetTable.gaveWay
  rw [R.tab.msk.odd]
  decide
end
end Sm
set_option Elab.async false
set_option linter.all false
set_option maxRecDepth 100000
set_option maxHeartbeats 1000000
namespace Sm
open PySem PySem.Spec PyProof.Rows L2
section
variable {P : Program} {w : World} {A : Around} {E : Value → Shared → Prop} {s : Shared} {a : Addr} {L : LNK} {es : Array (Int × Value)} {ep : Nat} {t : SetTable}
end
end Sm
set_option Elab.async false
set_option linter.all false
set_option maxRecDepth 100000
set_option maxHeartbeats 400000
namespace Sm
open PySem PySem.Spec PyProof.Rows L2
structure InSet (ks : LNK) (i : Nat) (L : LNK) : Prop where
  from_ : ∀ p ∈ L, p ∈ ks.take i
  has : ∀ p ∈ ks.take i, p.2 ∈ L.map (·.2)
  few : L.length ≤ i
theorem InSet.start (ks : LNK) : InSet ks 0 [] := ⟨fun p h => (by cases h), fun p h => (by rw [List.take_zero] at h; cases h), Nat.le_refl 0⟩
theorem InSet.step {ks L L' : LNK} {i : Nat} {x : Addr × NestedKey} (g : InSet ks i L) (h : ks[i]? = some x) (c1 : x.2 ∈ L.map (·.2) → L' = L) (c2 : x.2 ∉ L.map (·.2) → L'.Perm (x :: L)) : InSet ks (i + 1) L' := by
  have tk := take_next h
  rcases Classical.em (x.2 ∈ L.map (·.2)) with c | c
  · rw [c1 c]
    refine ⟨fun p hp => tk ▸ List.mem_append_left _ (g.from_ p hp), fun p hp => ?_, Nat.le_succ_of_le g.few⟩
    rcases List.mem_append.mp (tk ▸ hp : p ∈ ks.take i ++ [x]) with z | z
    · exact g.has p z
    · exact List.mem_singleton.mp z ▸ c
  · have pm := c2 c
    refine ⟨fun p hp => ?_, fun p hp => ?_, by rw [pm.length_eq]; exact Nat.succ_le_succ g.few⟩
    · rw [tk]
      rcases List.mem_cons.mp (pm.mem_iff.mp hp) with e | z
      · exact List.mem_append_right _ (e ▸ List.mem_cons_self)
      · exact List.mem_append_left _ (g.from_ p z)
    · rw [(pm.map (·.2)).mem_iff]
      rcases List.mem_append.mp (tk ▸ hp : p ∈ ks.take i ++ [x]) with z | z
      · exact List.mem_cons_of_mem _ (g.has p z)
      · exact List.mem_singleton.mp z ▸ List.mem_cons_self
section
variable {P : Program} {w : World} {A : Around} {E : Value → Shared → Prop} {s : Shared}
theorem SetN.keep {h h' : Heap} {a : Addr} {L : LNK} {es : Array (Int × Value)} {ep : Nat} {t : SetTable} (R : SetN w h a L es ep t) (ha : ∀ o, h.get? a = some o → h'.get? a = some o) (hk : ∀ p ∈ L, NIs h' p.2 p.1) : SetN w h' a L es ep t := by
  obtain ⟨o, ho, r⟩ := R.obj
  exact ⟨⟨o, ha o ho, r⟩, R.rows, R.tab, R.nd, hk, R.led, R.room, R.few⟩
set_option maxHeartbeats 3200000 in
end
end Sm
set_option Elab.async false
set_option linter.all false
set_option maxRecDepth 100000
set_option maxHeartbeats 1000000
namespace Sm
open PySem PySem.Spec PySem.Calls PyProof.Rows L2
section
variable {L : Lay} {P : Pa} {X : Cx} {W : WX} {H H1 H2 : Hp} {σ : L2.St} {τ τ1 : List Sl} {i : Nat} {l a : Addr}
end
end Sm
set_option Elab.async false
set_option linter.all false
set_option maxRecDepth 100000
set_option maxHeartbeats 400000
namespace Sm
open PySem PySem.Spec PyProof.Rows L2
section
variable {P : Program} {w : World} {A : Around} {E : Value → Shared → Prop} {s : Shared}
set_option maxHeartbeats 3200000 in
end
end Sm
set_option Elab.async false
set_option linter.all false
set_option maxRecDepth 100000
set_option maxHeartbeats 1000000
namespace Sm
open PySem PySem.Spec PySem.Calls PyProof.Rows L2
section
variable {L : Lay} {P : Pa} {X : Cx} {W : WX} {E : L2.St → XK} {pos pos' : Pos} {e a b : Expr} {m ma mb : M D}
end
end Sm
set_option Elab.async false
set_option linter.all false
set_option maxRecDepth 100000
set_option maxHeartbeats 1000000
namespace Sm
open PySem PySem.Spec PySem.Calls PyProof.Rows L2
section
variable {L : Lay} {P : Pa} {X : Cx} {E : L2.St → XK} {pos : Pos} {σ : L2.St} {vs vs1 : List Nat}
theorem PI.exB {X : Cx} {tg e : Expr} {m : M (List D)} {A : List V} (h : ∀ P : Pa, PI X tg e (tI L P E m)) : PI X tg e (fun σ H R => ∃ B, tI L ⟨A, B⟩ E m σ H R) := ⟨fun pins s σ H R I ⟨B, q⟩ => (h ⟨A, B⟩).run pins s σ H R I q⟩
end
end Sm
set_option Elab.async false
set_option linter.all false
set_option maxRecDepth 100000
set_option maxHeartbeats 1000000
namespace Sm
open PySem PySem.Spec PySem.Calls PyProof.Rows L2
mutual
def hshK : NestedKey → Option Int
  | .num i => some (hashInt i)
  | .tup ks => (hshKs ks).map fun hs => reduceHash (Builtin.Tuple.tupleHashOf hs)
  | .none => none
  | .text _ => none
def hshKs : List NestedKey → Option (List Int)
  | [] => some []
  | k :: ks => (hshK k).bind fun h => (hshKs ks).map fun hs => h :: hs
end
mutual
theorem hshK_ok (w : World) : ∀ {k : NestedKey} {h : Int}, hshK k = some h → k.hash w = h
  | .num i, h, e => by unfold hshK at e; cases e; unfold NestedKey.hash; rfl
  | .tup ks, h, e => by
    unfold hshK at e
    obtain ⟨hs, e1, rfl⟩ := Option.map_eq_some_iff.mp e
    unfold NestedKey.hash
    rw [hshKs_ok w e1]
  | .none, _, e => by unfold hshK at e; cases e
  | .text _, _, e => by unfold hshK at e; cases e
theorem hshKs_ok (w : World) : ∀ {ks : List NestedKey} {hs : List Int}, hshKs ks = some hs → NestedKey.hashes w ks = hs
  | [], _, e => by unfold hshKs at e; cases e; unfold NestedKey.hashes; rfl
  | k :: ks, _, e => by
    unfold hshKs at e
    obtain ⟨h, e1, e2⟩ := Option.bind_eq_some_iff.mp e
    obtain ⟨hs, e3, rfl⟩ := Option.map_eq_some_iff.mp e2
    unfold NestedKey.hashes
    rw [hshK_ok w e1, hshKs_ok w e3]
end
section
variable {prog : Program} {w : World} {A : Around} {E : Value → Shared → Prop} {s : Shared} {K : Type} [DecidableEq K]
end
section
variable {L : Lay} {X : Cx}
variable {P : Pa} {E : L2.St → XK} {pos : Pos} {e : Expr} {es : List Expr} {ms : M (List D)}
end
end Sm
set_option Elab.async false
set_option linter.all false
set_option maxRecDepth 100000
set_option maxHeartbeats 1000000
namespace Sm
open PySem PySem.Spec PySem.Calls PyProof.Rows L2
abbrev Mat := List (List Int)
abbrev iv (r : List Int) : List V := r.map V.int
structure Mt (H : Hp) (a : Addr) (bs : List Addr) (M : Mat) : Prop where
  top : H a = some (.lst (bs.map V.ref))
  len : bs.length = M.length
  row : ∀ (i : Nat) b r, bs[i]? = some b → M[i]? = some r → H b = some (.lst (iv r))
theorem Mt.get {H : Hp} {a : Addr} {bs : List Addr} {M : Mat} (h : Mt H a bs M) {i : Nat} {r : List Int} (e : M[i]? = some r) : ∃ b, bs[i]? = some b ∧ H b = some (.lst (iv r)) ∧ b ∈ bs := by
  have hi : i < bs.length := by rw [h.len]; exact (List.getElem?_eq_some_iff.mp e).1
  exact ⟨bs[i], List.getElem?_eq_getElem hi, h.row i _ r (List.getElem?_eq_getElem hi) e, List.getElem_mem hi⟩
theorem Kin.keep {H H' : Hp} (k : Kin H H') (x : Addr) (o : HO) (e : H x = some o) (m : ¬ MkH o := by first | assumption | exact NoMk.no) : H' x = some o := k.tr.keep x o e (fun z => z) m
theorem Kin.hid {H H' : Hp} (k : Kin H H') {A : Addr → Prop} : Same (hid H A) H' := fun b o e => by
  obtain ⟨g1, _, g3⟩ := hid_some.mp e
  exact k.keep b o g1
theorem Kin.upd {H H' : Hp} (k : Kin H H') {b : Addr} (hb : H b = none) (o : HO) : Kin H (upd H' b o) :=
  ⟨⟨fun x u e n => by rw [upd_ne (ne_of_none e hb)]; exact k.tr.keep0 x u e n, fun _ z => z.elim, fun x u e => by rw [upd_ne (ne_of_none e hb)]; exact k.tr.there x u e⟩⟩
theorem Mt.same {H H' : Hp} {a : Addr} {bs : List Addr} {M : Mat} (h : Mt H a bs M) (e : Kin H H') : Mt H' a bs M := ⟨e.keep _ _ h.top, h.len, fun i b r h1 h2 => e.keep _ _ (h.row i b r h1 h2)⟩
theorem Mt.other {H : Hp} {a : Addr} {bs : List Addr} {M : Mat} (h : Mt H a bs M) {x : Addr} {o : HO} (n : x ∉ a :: bs) : Mt (upd H x o) a bs M :=
  ⟨by rw [upd_ne (fun z => n (by rw [← z]; exact List.mem_cons_self))]; exact h.top, h.len, fun i b r h1 h2 => by
    rw [upd_ne (fun z => n (by rw [← z]; exact List.mem_cons_of_mem _ (List.mem_of_getElem? h1)))]; exact h.row i b r h1 h2⟩
theorem Mt.set {H : Hp} {a : Addr} {bs : List Addr} {M : Mat} (h : Mt H a bs M) (nd : (a :: bs).Nodup) {i : Nat} {b : Addr} {r : List Int} (e : bs[i]? = some b) : Mt (upd H b (.lst (iv r))) a bs (M.set i r) := by
  have n := List.nodup_cons.mp nd
  have ba : a ≠ b := fun z => n.1 (by rw [z]; exact List.mem_of_getElem? e)
  have il : i < M.length := by rw [← h.len]; exact (List.getElem?_eq_some_iff.mp e).1
  refine ⟨by rw [upd_ne ba]; exact h.top, by rw [List.length_set]; exact h.len, fun j c q h1 h2 => ?_⟩
  by_cases hj : i = j
  · subst hj
    rw [List.getElem?_set_self il] at h2
    rw [e] at h1
    cases h1
    cases h2
    exact upd_same
  · rw [List.getElem?_set_ne hj] at h2
    have : c ≠ b := fun z => hj ((List.getElem?_inj (List.getElem?_eq_some_iff.mp e).1 n.2).mp (by rw [e, h1, z]))
    rw [upd_ne this]
    exact h.row j c q h1 h2
section
variable {X : Cx}
def gapN : List Str := ["rows", "ticks", "top", "counts", "first", "last", "number", "found", "low", "run", "high", "turn"]
def gapL : List Str := ["rows", "ticks", "counts", "first", "last", "number", "found", "low", "run", "high"]
structure GapX (X : Cx) : Prop where
  calm : X.calm = true
  n : X.N = gapN
  loc : ∀ x ∈ gapL, X.env.scope.names.lookup x = some .local
  top : Loc X.env.scope "top"
  topf : X.fn "top" = true ∨ X.env.scope.names.lookup ("top" : Str) = some .local
  rg : Gl X "range"
  rm : X.mg "range" = none
  pass : PassesOwn (model X.prog X.w) X.A X.env X.xe
variable (G : GapX X)
include G
theorem GapX.nd : X.N.Nodup := by rw [G.n]; decide
theorem GapX.at {i : Nat} {x : Str} (h : gapN[i]? = some x) : X.N[i]? = some x := by rw [G.n]; exact h
end
end Sm
set_option Elab.async false
set_option linter.all false
set_option maxRecDepth 100000
set_option maxHeartbeats 1000000
namespace Sm
open PySem PySem.Spec PySem.Calls PyProof.Rows L2
structure Zs (top : Nat) (a1 a2 : Addr) (σ : L2.St) : Prop where
  len : σ.length = 12
  s2 : σ[2]? = some (some (.int top))
  s3 : σ[3]? = some (some (.ref a1))
  s7 : σ[7]? = some (some (.ref a2))
theorem Zs.set {top : Nat} {a1 a2 : Addr} {σ : L2.St} (z : Zs top a1 a2 σ) {i : Nat} {v : Option V} (hi : i ∈ [8, 9, 10]) : Zs top a1 a2 (σ.set i v) := by
  have h2 : i ≠ 2 := fun e => by subst e; revert hi; decide
  have h3 : i ≠ 3 := fun e => by subst e; revert hi; decide
  have h7 : i ≠ 7 := fun e => by subst e; revert hi; decide
  exact ⟨by rw [List.length_set]; exact z.len, by rw [List.getElem?_set_ne h2]; exact z.s2, by rw [List.getElem?_set_ne h3]; exact z.s3, by rw [List.getElem?_set_ne h7]; exact z.s7⟩
structure Two (H0 H : Hp) (a1 : Addr) (bs1 : List Addr) (C : Mat) (a2 : Addr) (bs2 : List Addr) (M : Mat) : Prop where
  m1 : Mt H a1 bs1 C
  m2 : Mt H a2 bs2 M
  same : Kin H0 H
section
variable {X : Cx} (G : GapX X)
include G
end
end Sm
set_option Elab.async false
set_option linter.all false
set_option maxRecDepth 100000
set_option maxHeartbeats 1000000
namespace Sm
open PySem PySem.Spec PySem.Calls PyProof.Rows L2
section
variable {X : Cx} (G : GapX X)
include G
end
section
variable {L : Lay}
variable {P : Pa} {W : WX} {X : Cx} {e1 e2 : Expr} {m1 m2 : M D}
end
end Sm
set_option Elab.async false
set_option linter.all false
set_option maxRecDepth 100000
set_option maxHeartbeats 1000000
namespace Sm
open PySem PySem.Spec PyProof.Rows L2 SlX
section
variable {X : Cx} {pins : List (Addr × Obj)} {σ : L2.St} {H : Hp} {s : Shared} {b p : Addr} {o' : HO}
theorem redesc (I : Inv X pins σ H s) (mu : L2.Mut (H b)) (hs : ∃ u, s.heap.get? b = some u) (new : ObjOk X.prog X.w (upd H b o') s.heap b o') : Inv X pins σ (upd H b o') s :=
  I.write (t' := s.toks) mu (.inl rfl) (fun _ _ _ e => e) hs new
theorem thawI {its : List Value} {m : Nat} {ws : List V} (I : Inv X pins σ H s) (hb : H b = some (MkO b its m p)) (hv : Vals ws its) (hz : ws.length ≤ sizeLine) : Inv X pins σ (upd H b (.lst ws)) s := by
  obtain ⟨⟨n, _, e⟩, _⟩ := I.hok b _ hb
  exact redesc I (by rw [hb]; trivial) ⟨_, e⟩ ⟨hz, its, n, hv, e⟩
end
mutual
def D.but (cs : List Nat) : D → Bool
  | .non => true
  | .bl _ => true
  | .int _ => true
  | .str _ => true
  | .tup ds => D.buts cs ds
  | .ptup ds => D.buts cs ds
  | .obj _ fs => D.buts cs fs
  | .ins c _ fs => decide (c ∈ cs) && D.buts cs fs
  | .dct ks us => D.buts cs ks && D.buts cs us
  | .dki _ us => D.buts cs us
  | _ => false
def D.buts (cs : List Nat) : List D → Bool
  | [] => true
  | d :: ds => D.but cs d && D.buts cs ds
end
def ButO (C : Addr) (F F2 : Hp) : Prop := ∀ x o, F x = some o → F2 x = some o ∨ (∃ ws, o = .lst ws) ∨ ∃ dx fs, o = .ins C dx fs
section
variable {L : Lay} {C : Addr} {F F2 : Hp} {cs : List Nat}
theorem ButO.tup {K : PySem.W.Frag} {a : Addr} {xs : List V} (k : ButO C F F2) (q : SqT K F a xs) : SqT K F2 a xs := by
  rcases q with (q | ⟨o, q⟩) | q
  · rcases k _ _ q with z | ⟨_, z⟩ | ⟨_, _, z⟩
    · exact .inl (.inl z)
    · cases z
    · cases z
  · rcases k _ _ q with z | ⟨_, z⟩ | ⟨_, _, z⟩
    · exact .inl (.inr ⟨o, z⟩)
    · cases z
    · cases z
  · exact .inr q
theorem ButO.xd {a : Addr} {x} (k : ButO C F F2) (q : F a = some (.xd x)) : F2 a = some (.xd x) := by
  rcases k _ _ q with z | ⟨_, z⟩ | ⟨_, _, z⟩
  · exact z
  · cases z
  · cases z
theorem ButO.ext {a : Addr} {φ : Heap → Prop} (k : ButO C F F2) (q : F a = some (.ext φ)) : F2 a = some (.ext φ) := by
  rcases k _ _ q with z | ⟨_, z⟩ | ⟨_, _, z⟩
  · exact z
  · cases z
  · cases z
theorem ButO.ins {a C' dx : Addr} {fs : List (Str × V)} (k : ButO C F F2) (n : C' ≠ C) (q : F a = some (.ins C' dx fs)) : F2 a = some (.ins C' dx fs) := by
  rcases k _ _ q with z | ⟨_, z⟩ | ⟨_, _, z⟩
  · exact z
  · cases z
  · cases z; exact absurd rfl n
mutual
theorem Rp.but (k : ButO C F F2) (hc : ∀ c ∈ cs, L.cls c ≠ C) : ∀ {d : D} {v : V}, D.but cs d = true → Rp L F d v → Rp L F2 d v
  | .non, _, _, r => Rp.non_iff.mpr (Rp.non_iff.mp r)
  | .bl _, _, _, r => Rp.bl_iff.mpr (Rp.bl_iff.mp r)
  | .int _, _, _, r => Rp.int_iff.mpr (Rp.int_iff.mp r)
  | .str _, _, _, r => Rp.str_iff.mpr (Rp.str_iff.mp r)
  | .tup ds, _, e, r => by
    obtain ⟨p, vs, e1, q, rr⟩ := Rp.tup_iff.mp r
    exact Rp.tup_iff.mpr ⟨p, vs, e1, k.tup q, Rps.but k hc (by unfold D.but at e; exact e) rr⟩
  | .ptup ds, _, e, r => by
    obtain ⟨p, vs, e1, ⟨o, z, q⟩, rr⟩ := Rp.ptup_iff.mp r
    refine Rp.ptup_iff.mpr ⟨p, vs, e1, ⟨o, z, ?_⟩, Rps.but k hc (by unfold D.but at e; exact e) rr⟩
    rcases k _ _ q with y | ⟨_, y⟩ | ⟨_, _, y⟩
    · exact y
    · cases y
    · cases y
  | .obj c fs, _, e, r => by
    unfold D.but at e
    rcases Rp.obj_iff.mp r with ⟨p, dx, vs, e1, q, q2, rr, h6⟩ | r
    · exact Rp.obj_iff.mpr (.inl ⟨p, dx, vs, e1, k.ext q, k.xd q2, Rps.but k hc e rr, h6⟩)
    · exact Rp.obj_iff.mpr (.inr r)
  | .ins c ns fs, _, e, r => by
    unfold D.but at e
    obtain ⟨g1, g2⟩ := Bool.and_eq_true_iff.mp e
    obtain ⟨p, dx, vs, e1, q, l, rr⟩ := Rp.ins_iff.mp r
    exact Rp.ins_iff.mpr ⟨p, dx, vs, e1, k.ins (hc c (of_decide_eq_true g1)) q, l, Rps.but k hc g2 rr⟩
  | .dct ks us, _, e, r => by
    unfold D.but at e
    obtain ⟨g1, g2⟩ := Bool.and_eq_true_iff.mp e
    obtain ⟨p, es, e1, ⟨o, q⟩, r1, r2, r3, r4⟩ := Rp.dct_iff.mp r
    exact Rp.dct_iff.mpr ⟨p, es, e1, ⟨o, k.ext q⟩, r1, r2, Rps.but k hc g1 r3, Rps.but k hc g2 r4⟩
  | .dki _ us, _, e, r => by
    obtain ⟨p, kvs, e1, ⟨o, q⟩, e2, rr⟩ := Rp.dki_iff.mp r
    exact Rp.dki_iff.mpr ⟨p, kvs, e1, ⟨o, k.ext q⟩, e2, Rps.but k hc (by unfold D.but at e; exact e) rr⟩
  | .lst _, _, e, _ => by unfold D.but at e; cases e
  | .scr _, _, e, _ => by unfold D.but at e; cases e
  | .set _, _, e, _ => by unfold D.but at e; cases e
  | .exc _ _ _, _, e, _ => by unfold D.but at e; cases e
  | .obo _ _ _, _, e, _ => by unfold D.but at e; cases e
theorem Rps.but (k : ButO C F F2) (hc : ∀ c ∈ cs, L.cls c ≠ C) : ∀ {ds : List D} {vs : List V}, D.buts cs ds = true → Rps L F ds vs → Rps L F2 ds vs
  | [], _, _, r => by unfold Rps at r ⊢; exact r
  | d :: ds, _, e, r => by
    unfold Rps at r ⊢
    unfold D.buts at e
    obtain ⟨g1, g2⟩ := Bool.and_eq_true_iff.mp e
    obtain ⟨v, r0, e1, q, rr⟩ := r
    exact ⟨v, r0, e1, Rp.but k hc g1 q, Rps.but k hc g2 rr⟩
end
end
def noLst : D → Bool
  | .lst _ => false
  | _ => true
def splitL : List D → Option (List D × List D × List D)
  | [] => none
  | .lst ds :: r => if r.all noLst = true then some ([], ds, r) else none
  | d :: r => (splitL r).map fun x => (d :: x.1, x.2.1, x.2.2)
theorem splitL_some : ∀ {fs pre ds post : List D}, splitL fs = some (pre, ds, post) → fs = pre ++ .lst ds :: post ∧ pre.all noLst = true ∧ post.all noLst = true
  | [], _, _, _, h => by cases h
  | d :: r, pre, ds, post, h => by
    cases d with
    | lst es =>
      have h : (if r.all noLst = true then some (([] : List D), es, r) else none) = some (pre, ds, post) := h
      split at h
      · rename_i z; cases h; exact ⟨rfl, rfl, z⟩
      · cases h
    | _ =>
      obtain ⟨⟨a, b, c⟩, h1, h2⟩ := Option.map_eq_some_iff.mp h
      cases h2
      obtain ⟨e1, e2, e3⟩ := splitL_some h1
      exact ⟨by rw [e1]; rfl, by rw [List.all_cons, e2]; rfl, e3⟩
section
variable {L : Lay} {F H : Hp} {p : Addr}
theorem FlR.frz {d : D} {v : V} (h : FlR L F H p d v) (n : noLst d = true) : Rp L F d v := by
  cases d with
  | lst ds => cases n
  | _ => exact h
theorem FlR.of {d : D} {v : V} (h : Rp L F d v) (n : noLst d = true) : FlR L F H p d v := by
  cases d with
  | lst ds => cases n
  | _ => exact h
theorem FlRs.frz : ∀ {fs : List D} {vs : List V}, FlRs L F H p fs vs → fs.all noLst = true → Rps L F fs vs
  | [], _, h, _ => by cases h; exact .nil
  | d :: fs, _, ⟨v, r, e, h1, h2⟩, n => by
    obtain ⟨n1, n2⟩ := Bool.and_eq_true_iff.mp n
    rw [e]
    exact .cons (h1.frz n1) (h2.frz n2)
theorem FlRs.of : ∀ {fs : List D} {vs : List V}, Rps L F fs vs → fs.all noLst = true → FlRs L F H p fs vs
  | [], _, h, _ => by unfold Rps at h; exact h
  | d :: fs, _, h, n => by
    obtain ⟨n1, n2⟩ := Bool.and_eq_true_iff.mp n
    unfold Rps at h
    obtain ⟨v, r, e, h1, h2⟩ := h
    exact ⟨v, r, e, FlR.of h1 n1, FlRs.of h2 n2⟩
theorem FlRs.app : ∀ {fs gs : List D} {vs us : List V}, FlRs L F H p fs vs → FlRs L F H p gs us → FlRs L F H p (fs ++ gs) (vs ++ us)
  | [], _, _, _, h, t => by cases h; exact t
  | _ :: fs, _, _, _, ⟨v, r, e, h1, h2⟩, t => ⟨v, r ++ _, by rw [e]; rfl, h1, h2.app t⟩
theorem FlRs.cut : ∀ {fs gs : List D} {vs : List V}, FlRs L F H p (fs ++ gs) vs → ∃ us ws, vs = us ++ ws ∧ us.length = fs.length ∧ FlRs L F H p fs us ∧ FlRs L F H p gs ws
  | [], gs, vs, h => ⟨[], vs, rfl, rfl, rfl, h⟩
  | _ :: fs, gs, vs, ⟨v, r, e, h1, h2⟩ => by
    obtain ⟨us, ws, e1, e2, e3, e4⟩ := FlRs.cut h2
    exact ⟨v :: us, ws, by rw [e, e1]; rfl, by rw [List.length_cons, List.length_cons, e2], ⟨v, us, rfl, h1, e3⟩, e4⟩
structure Ob1 (L : Lay) (F H : Hp) (c : Nat) (ns : List Str) (p dx b : Addr) (pre ds post : List D) (us : List V) (ws : List V) (ts : List V) (its : List Value) (m : Nat) : Prop where
  at_ : H p = some (.ins (L.cls c) dx (ns.zip (us ++ .ref b :: ts)))
  nl : ns.length = (us ++ .ref b :: ts).length
  n1 : pre.all noLst = true
  n2 : post.all noLst = true
  hl : us.length = pre.length
  r1 : Rps L F pre us
  r2 : Rps L F post ts
  mrk : H b = some (MkO b its m p)
  vs : Vals ws its
  hz : ws.length ≤ sizeLine
  rl : Rps L F ds ws
theorem ob1_of {c : Nat} {ns : List Str} {fs pre ds post : List D} (e : splitL fs = some (pre, ds, post)) (h : ObR L F H c ns fs p) : ∃ dx b us ws ts its m, Ob1 L F H c ns p dx b pre ds post us ws ts its m := by
  obtain ⟨rfl, n1, n2⟩ := splitL_some e
  obtain ⟨dx, vs, h1, h3, h4, _⟩ : ObI L F H c ns (pre ++ .lst ds :: post) p := h.elim id fun z => absurd (show D.lst ds ∈ [D.obo 0 [] []] from by rw [← z.2.1]; exact List.mem_append_right _ List.mem_cons_self) (by simp)
  obtain ⟨us, ts0, rfl, hl, g1, ⟨v, ts, rfl, ⟨b, ws, its, m, rfl, k1, k2, k3, k4⟩, g3⟩⟩ := FlRs.cut h4
  exact ⟨dx, b, us, ws, ts, its, m, h1, h3, n1, n2, hl, g1.frz n1, g3.frz n2, k1, k2, k3, k4⟩
theorem Ob1.ob {c : Nat} {ns : List Str} {dx b : Addr} {pre ds post : List D} {us ws ts : List V} {its : List Value} {m : Nat} (o : Ob1 L F H c ns p dx b pre ds post us ws ts its m) : ObR L F H c ns (pre ++ .lst ds :: post) p := by
  refine .inl ⟨dx, us ++ .ref b :: ts, o.at_, o.nl, (FlRs.of o.r1 o.n1).app ⟨.ref b, ts, rfl, ⟨b, ws, its, m, rfl, o.mrk, o.vs, o.hz, o.rl⟩, FlRs.of o.r2 o.n2⟩, ?_⟩
  -- only one list
  have one : ∀ (i : Nat) di, (pre ++ D.lst ds :: post)[i]? = some (.lst di) → i = pre.length := fun i di e => by
    rcases Nat.lt_trichotomy i pre.length with h | h | h
    · rw [List.getElem?_append_left h] at e
      have := List.all_eq_true.mp o.n1 _ (List.mem_of_getElem? e)
      cases this
    · exact h
    · obtain ⟨j, rfl⟩ : ∃ j, i = pre.length + (j + 1) := ⟨i - pre.length - 1, by omega⟩
      rw [List.getElem?_append_right (by omega), Nat.add_sub_cancel_left, List.getElem?_cons_succ] at e
      have := List.all_eq_true.mp o.n2 _ (List.mem_of_getElem? e)
      cases this
  exact fun i j b' di dj e1 e2 _ _ => (one i di e1).trans (one j dj e2).symm
end
end Sm
set_option Elab.async false
set_option linter.all false
set_option maxRecDepth 100000
set_option maxHeartbeats 1000000
namespace Sm
open PySem PySem.Spec PyProof.Rows L2 SlX
def Sl.dark : Sl → Sl
  | .un => .un
  | .fz d => .fz d
  | _ => .un
def hideS (i : Nat) (d : D) (τ : List Sl) : List Sl := (τ.map Sl.dark).set i (.fz d)
theorem dark_own {t : Sl} : t.dark.own = false := by cases t <;> rfl
theorem hideS_own {i : Nat} {d : D} {τ : List Sl} {t : Sl} (h : t ∈ hideS i d τ) : t.own = false := by
  unfold hideS at h
  rcases List.mem_or_eq_of_mem_set h with h | h
  · obtain ⟨u, _, rfl⟩ := List.mem_map.mp h
    exact dark_own
  · rw [h]; rfl
section
variable {L : Lay} {P : Pa} {X : Cx} {E : L2.St → XK} {e : Expr} {m : M D}
abbrev Pa.rest (P : Pa) (σ : L2.St) (τ : List Sl) (p : Addr) : Pa := ⟨P.args, fun a => P.B a ∨ (Own σ τ a ∧ a ≠ p)⟩
end
end Sm
set_option Elab.async false
set_option linter.all false
set_option maxRecDepth 100000
set_option maxHeartbeats 1000000
namespace Sm
open PySem PySem.Spec PyProof.Rows L2 SlX
section
variable {X : Cx} {e : Expr} {t : TE}
end
def putO (i c : Nat) (ns : List Str) (fs : List D) (τ : List Sl) : List Sl := match τ[i]? with
  | some (.io k _) => τ.set i (.io k (.obo c ns fs))
  | _ => τ.set i (.oo (.obo c ns fs))
section
variable {L : Lay} {P : Pa} {X : Cx} {E : L2.St → XK} {e : Expr} {me : M D} {H H1 : Hp} {σ : L2.St} {τ τ1 : List Sl} {i c : Nat} {p dx b : Addr} {t0 : Sl} {ns : List Str} {fs pre ds post : List D} {us ws ts : List V} {its : List Value} {mm : Nat}
structure LO (L : Lay) (P : Pa) (H : Hp) (σ : L2.St) (τ : List Sl) (i c : Nat) (ns : List Str) (fs : List D) (p : Addr) (t0 : Sl) (pre ds post : List D) (dx b : Addr) (us ws ts : List V) (its : List Value) (mm : Nat) : Prop where
  R : StR L P H σ τ
  et0 : τ[i]? = some t0
  ow0 : t0.own = true
  ep : σ[i]? = some (some (.ref p))
  kind : t0 = .oo (.obo c ns fs) ∨ ∃ k, t0 = .io k (.obo c ns fs)
  esp : splitL fs = some (pre, ds, post)
  O : Ob1 L (hid H (Hd P σ τ)) H c ns p dx b pre ds post us ws ts its mm
variable (B : LO L P H σ τ i c ns fs p t0 pre ds post dx b us ws ts its mm)
include B
theorem LO.efs : fs = pre ++ .lst ds :: post := (splitL_some B.esp).1
theorem LO.oP : Own σ τ p := ⟨i, B.ep, t0, B.et0, B.ow0⟩
theorem LO.mb : MkBy (H b) p := ⟨b, its, mm, B.O.mrk⟩
theorem LO.bp {a : Addr} {o : HO} (e : H a = some o) (n : ¬ MkH o) : a ≠ b := fun z => by
  rw [z, B.O.mrk] at e
  cases e
  exact n ⟨p, b, its, mm, rfl⟩
theorem LO.ownb {a : Addr} (z : Own σ τ a) : a ≠ b := let ⟨o, e⟩ := B.R.own_there z; B.bp e (B.R.own_noMk z o e)
theorem LO.noO (fs' : D) (a : Addr) : ¬ Own σ (hideS i fs' τ) a := fun ⟨j, _, t, et, ow⟩ => by
  rw [hideS_own (List.mem_of_getElem? et)] at ow
  cases ow
theorem LO.out (t1 : Tr (upd H b (.lst ws)) (Own σ (hideS i (.ins c ns fs) τ)) H1 (Own σ τ1)) {ds' : List D} {ws' : List V} {its' : List Value} {m' : Nat} (v1 : Vals ws' its') (z1 : ws'.length ≤ sizeLine)
    (rl : Tr H (Own σ τ) (upd H1 b (MkO b its' m' p)) (Own σ (putO i c ns (pre ++ .lst ds' :: post) τ)) → Rps L (hid (upd H1 b (MkO b its' m' p)) (Hd P σ (putO i c ns (pre ++ .lst ds' :: post) τ))) ds' ws') :
    Tr H (Own σ τ) (upd H1 b (MkO b its' m' p)) (Own σ (putO i c ns (pre ++ .lst ds' :: post) τ)) ∧ StR L P (upd H1 b (MkO b its' m' p)) σ (putO i c ns (pre ++ .lst ds' :: post) τ) := by
  have R := B.R
  have oP := B.oP
  have pb : p ≠ b := B.ownb oP
  have noO := B.noO (.ins c ns fs)
  have keepP : H1 p = some (.ins (L.cls c) dx (ns.zip (us ++ .ref b :: ts))) := t1.keep p _ (by rw [upd_ne pb]; exact B.O.at_) (noO p)
  have keep : ∀ x o, H x = some o → ¬ Foot H (fun x => x = p) x → upd H1 b (MkO b its' m' p) x = some o := fun x o ex n => by
    have xb : x ≠ b := fun z => n (by rw [z]; exact .inr ⟨p, B.mb, .inl rfl⟩)
    rw [upd_ne xb]
    refine t1.keep0 x o (by rw [upd_ne xb]; exact ex) fun y => ?_
    rcases y with y | ⟨q, y1, y | y⟩
    · exact noO x y
    · exact noO q y
    · rw [upd_ne xb] at y1
      refine n (.inr ⟨q, y1, .inr ?_⟩)
      by_cases hq : q = b
      · rw [hq, upd_same] at y; cases y
      · rw [upd_ne hq] at y; exact y
  have there : ∀ x o, H x = some o → ∃ o', upd H1 b (MkO b its' m' p) x = some o' := fun x o ex => by
    by_cases xb : x = b
    · exact ⟨_, by rw [xb, upd_same]⟩
    · rw [upd_ne xb]
      exact t1.there x o (by rw [upd_ne xb]; exact ex)
  have ob : ∀ t', putO i c ns (pre ++ .lst ds' :: post) τ = τ.set i t' → (Tr H (Own σ τ) (upd H1 b (MkO b its' m' p)) (Own σ (τ.set i t')) → OwX L (hid (upd H1 b (MkO b its' m' p)) (Hd P σ (τ.set i t'))) (upd H1 b (MkO b its' m' p)) (.obo c ns (pre ++ .lst ds' :: post)) p) := fun t' e tr => by
    rw [← e] at tr ⊢
    have fz := R.fz tr
    exact .inr ⟨c, ns, _, rfl, Ob1.ob (us := us) (ts := ts) ⟨by rw [upd_ne pb]; exact keepP, B.O.nl, B.O.n1, B.O.n2, B.O.hl, Rps.same fz B.O.r1, Rps.same fz B.O.r2, upd_same, v1, z1, rl tr⟩⟩
  rcases B.kind with k | ⟨k, kk⟩
  · have e : putO i c ns (pre ++ .lst ds' :: post) τ = τ.set i (.oo (.obo c ns (pre ++ .lst ds' :: post))) := by unfold putO; rw [B.et0, k]
    rw [e]
    exact R.upd1x ⟨B.ep, t0, B.et0, B.ow0⟩ keep there (.inr ⟨rfl, fun tr => ⟨p, B.ep, ob _ e tr⟩⟩)
  · have e : putO i c ns (pre ++ .lst ds' :: post) τ = τ.set i (.io k (.obo c ns (pre ++ .lst ds' :: post))) := by unfold putO; rw [B.et0, kk]
    rw [e]
    obtain ⟨a0, q1, q2, _⟩ := (by have q := R.sl i _ B.et0; rw [kk] at q; exact q : ∃ a, σ[i]? = some (some (.ref a)) ∧ P.args[k]? = some (.ref a) ∧ OwX L (hid H (Hd P σ τ)) H (.obo c ns fs) a)
    have ea : a0 = p := by rw [B.ep] at q1; cases q1; rfl
    rw [ea] at q2
    exact R.upd1x ⟨B.ep, t0, B.et0, B.ow0⟩ keep there (.inr ⟨rfl, fun tr => ⟨p, B.ep, q2, ob _ e tr⟩⟩)
theorem LO.told {cs : List Nat} {d : D} {v : V} {HF : Hp} {τ' : List Sl} (hcs : ∀ c' ∈ cs, L.cls c' ≠ L.cls c) (hb : d.but cs = true)
    (t1 : Tr (upd H b (.lst ws)) (Own σ (hideS i (.ins c ns fs) τ)) H1 (Own σ τ1)) (r : Rp L (hid H1 (Hd (P.rest σ τ p) σ τ1)) d v) (hF : ∀ x, x ≠ b → HF x = H1 x) (hO : ∀ x, Own σ τ' x → Own σ τ x) : Rp L (hid HF (Hd P σ τ')) d v := by
  have pb : p ≠ b := B.ownb B.oP
  have noO := B.noO (.ins c ns fs)
  have keepP : H1 p = some (.ins (L.cls c) dx (ns.zip (us ++ .ref b :: ts))) := t1.keep p _ (by rw [upd_ne pb]; exact B.O.at_) (noO p)
  have keepB : H1 b = some (.lst ws) := t1.keep b _ upd_same (noO b)
  refine Rp.but (C := L.cls c) (fun x o ex => ?_) hcs hb r
  obtain ⟨g1, g2, g3⟩ := hid_some.mp ex
  by_cases xb : x = b
  · rw [xb, keepB] at g1
    exact .inr (.inl ⟨ws, (Option.some.inj g1).symm⟩)
  · by_cases xp : x = p
    · rw [xp, keepP] at g1
      exact .inr (.inr ⟨_, _, (Option.some.inj g1).symm⟩)
    · refine .inl (hid_some.mpr ⟨by rw [hF x xb]; exact g1, fun y => ?_, g3⟩)
      rcases y with y | y
      · exact g2 (.inr (.inr ⟨hO x y, xp⟩))
      · exact g2 (.inr (.inl y))
omit B in
end
end Sm
set_option Elab.async false
set_option linter.all false
set_option maxRecDepth 100000
set_option maxHeartbeats 1000000
namespace Sm
open PySem PySem.Spec PyProof.Rows L2 SlX
section
variable {L : Lay} {P : Pa} {X : Cx} {E : L2.St → XK} {e : Expr} {es : List Expr} {m : M D} {ms : M (List D)} {pos : Pos}
end
end Sm
set_option Elab.async false
set_option linter.all false
set_option maxRecDepth 100000
set_option maxHeartbeats 1000000
namespace Sm
open PySem PySem.Spec PySem.Calls PyProof.Rows L2 SlX
section
variable {L : Lay} {P : Pa} {X : Cx} {E : L2.St → XK} {pos apos : Pos} {e : Expr} {es : List Expr} {mr : M (List Ar)} {mk : M (List D)}
variable {k n c i : Nat} {f : Addr} {fd : FuncData} {ps ks : List Str} {io : List Bool} {fn : List D → RF} {ix : List Nat} {dds : List D} {x : Str} {px : Pos} {kws : List Keyword} {nm : Str} {pl : Sem Bool}
end
end Sm
set_option Elab.async false
set_option linter.all false
set_option maxRecDepth 100000
set_option maxHeartbeats 1000000
namespace Sm
open PySem PySem.Spec PySem.Calls PyProof.Rows L2
section
variable {L : Lay} {P : Pa} {W : WX} {X : Cx} {e0 e1 e2 : Expr} {m0 m1 m2 : M D}
end
end Sm
set_option Elab.async false
set_option linter.all false
set_option maxRecDepth 100000
set_option maxHeartbeats 400000
namespace Sm
open PySem PySem.Spec PyProof.Rows L2
section
variable {P : Program} {w : World} {A : Around} {E : Value → Shared → Prop} {s : Shared}
set_option maxHeartbeats 3200000 in
end
end Sm
set_option Elab.async false
set_option linter.all false
set_option maxRecDepth 100000
set_option maxHeartbeats 1000000
namespace Sm
open PySem PySem.Spec PySem.Calls PyProof.Rows L2
section
variable {L : Lay} {P : Pa} {X : Cx} {E : L2.St → XK} {pos p : Pos} {e : Expr} {me : M D} {x : Str}
end
end Sm
set_option Elab.async false
set_option linter.all false
set_option maxRecDepth 100000
set_option maxHeartbeats 1000000
namespace Sm
open PySem PySem.Spec PyProof.Rows L2
section
variable {L : Lay} {P : Pa} {W : WX} {X : Cx} {e1 e2 : Expr} {m1 m2 : M D} {i j : Nat} {x y : Str} {px py pt pos : Pos} {kt k2 : Nat} {pt2 : Pos}
end
end Sm
set_option Elab.async false
set_option linter.all false
set_option maxRecDepth 100000
set_option maxHeartbeats 1000000
namespace Sm
open PySem PySem.Spec PySem.Calls PyProof.Rows L2 SlX
section
variable {X : Cx} {o : Expr} {f : Str} {pos : Pos} {to : TE}
end
def putVs {α : Type} (f : Str) (d : α) (ns : List Str) (fs : List α) : List α := if f ∈ ns then fs.set (ns.idxOf f) d else fs ++ [d]
section
variable {L : Lay} {F H : Hp} {p : Addr}
theorem FlRs.length : ∀ {fs : List D} {vs : List V}, FlRs L F H p fs vs → vs.length = fs.length
  | [], _, h => by cases h; rfl
  | _ :: _, _, ⟨v, r, e, _, h⟩ => by rw [e, List.length_cons, List.length_cons, h.length]
theorem FlRs.set {d : D} {v : V} (hd : FlR L F H p d v) : ∀ {fs : List D} {vs : List V} (k : Nat), FlRs L F H p fs vs → FlRs L F H p (fs.set k d) (vs.set k v)
  | [], _, k, h => by cases h; exact rfl
  | _ :: _, _, 0, ⟨u, r, e, h1, h2⟩ => by rw [e]; exact ⟨v, r, rfl, hd, h2⟩
  | _ :: _, _, k + 1, ⟨u, r, e, h1, h2⟩ => by rw [e]; exact ⟨u, _, rfl, h1, h2.set hd k⟩
theorem FlRs.put {d : D} {v : V} {f : Str} {ns : List Str} {fs : List D} {vs : List V} (h : FlRs L F H p fs vs) (hd : FlR L F H p d v) : FlRs L F H p (putVs f d ns fs) (putVs f v ns vs) := by
  unfold putVs
  split
  · exact h.set hd _
  · exact h.app ⟨v, [], rfl, hd, rfl⟩
end
section
variable {L : Lay} {P : Pa} {W : WX} {X : Cx} {E : L2.St → XK} {pos : Pos} {H H1 : Hp} {σ : L2.St} {τ : List Sl} {i c : Nat} {ns : List Str} {fs : List D} {p : Addr}
end
end Sm
set_option Elab.async false
set_option linter.all false
set_option maxRecDepth 100000
set_option maxHeartbeats 1000000
namespace Sm
open PySem PySem.Spec PySem.Calls PyProof.Rows L2 SlX
section
variable {L : Lay} {P : Pa} {W : WX} {X : Cx} {E : L2.St → XK} {e : Expr} {m : M D} {pos : Pos}
def PostN (L : Lay) (P : Pa) (H : Hp) (σ : L2.St) (τ : List Sl) (r : Res D) (Q : VK) (E : XK) : Prop :=
  match r with
  | .ok d τ' => ∀ a H', Tr H (Own σ τ) (rid H' a) (Own σ τ') → StR L P (rid H' a) σ τ' → OwX L (hid (rid H' a) (Hd P σ τ')) H' d a → Q (.ref a) H'
  | .exc c xs τ' => ∀ cls od H', Tr H (Own σ τ) H' (Own σ τ') → StR L P H' σ τ' → ExR L (hid H' (Hd P σ τ')) c xs cls od → E cls od H'
  | .fail => False
def tN (L : Lay) (P : Pa) (E : L2.St → XK) (m : M D) : TE := fun σ H Q => ∃ τ, StR L P H σ τ ∧ PostN L P H σ τ (m τ) Q (E σ)
abbrev SNw (L : Lay) (P : Pa) (E : L2.St → XK) (X : Cx) (e : Expr) (m : M D) : Prop := PE X e (tN L P E m)
theorem SNw.of (h : SF L P E X e m) : SNw L P E X e m :=
  PE.weak h fun σ H Q ⟨τ, R, h⟩ => by
    refine ⟨τ, R, ?_⟩
    revert h
    cases m τ with
    | ok d τ' => exact fun h a H' t R' o => h a H' t R' o.x
    | exc c xs τ' => exact fun h => h
    | fail => exact fun h => h
theorem PostN.from {H H1 : Hp} {σ : L2.St} {τ τ1 : List Sl} {r : Res D} {Q : VK} {E : XK} (h : PostN L P H σ τ r Q E) (x : Tr H (Own σ τ) H1 (Own σ τ1)) : PostN L P H1 σ τ1 r Q E := by
  cases r with
  | ok a τ' => exact fun v H' y z w => h v H' (x.trans y) z w
  | exc c xs τ' => exact fun cls od H' y z w => h cls od H' (x.trans y) z w
  | fail => exact h
theorem PostN.split {α β : Type} {R : Hp → α → β → Prop} {H : Hp} {σ : L2.St} {τ : List Sl} {r : Res α} {f : α → M D} {Q : VK} {E : XK} (h : PostN L P H σ τ (r.bind f) Q E) :
    Post L P R H σ τ r (fun v H1 => ∃ a τ1, Tr H (Own σ τ) H1 (Own σ τ1) ∧ StR L P H1 σ τ1 ∧ R (hid H1 (Hd P σ τ1)) a v ∧ PostN L P H1 σ τ1 (f a τ1) Q E) E := by
  cases r with
  | ok a τ' => exact fun v H' x y z => ⟨a, τ', x, y, z, PostN.from h x⟩
  | exc c xs τ' => exact h
  | fail => exact h
variable {c n k : Nat} {f : Addr} {fd : FuncData} {ps ks : List Str} {fn : List D → RF} {es : List Expr} {ms mk : M (List D)} {x : Str} {p : Pos} {ix : List Nat} {kws : List Keyword}
end
end Sm
set_option Elab.async false
set_option linter.all false
set_option maxRecDepth 100000
set_option maxHeartbeats 1000000
namespace Sm
open PySem PySem.Spec PySem.Calls PyProof.Rows L2 SlX
section
variable {L : Lay} {P : Pa} {W : WX} {X : Cx} {E : L2.St → XK} {e : Expr} {m : M D} {pos : Pos} {x : Str}
def setOo (i : Nat) (d : D) (τ : List Sl) : Option (List Sl) := if i < τ.length then some (τ.set i (.oo d)) else none
theorem StR.setOo {H' : Hp} {σ : L2.St} {τ : List Sl} {i : Nat} {d : D} {a : Addr} (R : StR L P (rid H' a) σ τ) (hi : i < τ.length) (r : OwX L (hid (rid H' a) (Hd P σ τ)) H' d a) :
    Tr (rid H' a) (Own σ τ) H' (Own (σ.set i (some (.ref a))) (τ.set i (.oo d))) ∧ StR L P H' (σ.set i (some (.ref a))) (τ.set i (.oo d)) := by
  have hi' : i < σ.length := by rw [R.len]; exact hi
  have old : ∀ j b, j ≠ i → OwnAt (σ.set i (some (.ref a))) (τ.set i (.oo d)) j b → OwnAt σ τ j b := fun j b hj ⟨e, t, et, ow⟩ => by
    rw [List.getElem?_set_ne (Ne.symm hj)] at et e
    exact ⟨e, t, et, ow⟩
  have new : ∀ b, OwnAt (σ.set i (some (.ref a))) (τ.set i (.oo d)) i b → b = a := fun b ⟨e, _⟩ => by
    rw [List.getElem?_set_self hi'] at e
    cases e; rfl
  have notA : ∀ j b, OwnAt σ τ j b → b ≠ a := fun j b q z => by
    obtain ⟨o, h⟩ := R.own_there ⟨j, q⟩
    rw [z, rid_same] at h; cases h
  have tr : Tr (rid H' a) (Own σ τ) H' (Own (σ.set i (some (.ref a))) (τ.set i (.oo d))) := by
    refine ⟨fun b o q _ => rid_le b o q, fun b ⟨j, q⟩ => ?_, fun b o q => ⟨o, rid_le b o q⟩⟩
    by_cases hj : j = i
    · subst hj; rw [new b q]; exact .inr rid_same
    · exact .inl ⟨j, old j b hj q⟩
  refine ⟨tr, by rw [List.length_set, List.length_set]; exact R.len, fun j k b x y => ?_, fun b ⟨j, q⟩ z => ?_, fun b z => let ⟨o, q, m⟩ := R.bth0 b z; ⟨o, rid_le b o q, m⟩, fun j t ht => ?_⟩
  · by_cases hj : j = i
    · by_cases hk : k = i
      · rw [hj, hk]
      · subst hj
        exact absurd (new b x) (notA k b (old k b hk y))
    · by_cases hk : k = i
      · subst hk
        exact absurd (new b y) (notA j b (old j b hj x))
      · exact R.inj j k b (old j b hj x) (old k b hk y)
  · by_cases hj : j = i
    · subst hj
      rw [new b q] at z
      obtain ⟨o, h⟩ := R.bth a z
      rw [rid_same] at h; cases h
    · exact R.dis b ⟨j, old j b hj q⟩ z
  · by_cases hj : i = j
    · subst hj
      rw [List.getElem?_set_self hi] at ht
      cases ht
      exact ⟨a, List.getElem?_set_self hi', r.step (R.fz tr) rfl⟩
    · rw [List.getElem?_set_ne hj] at ht
      rw [List.getElem?_set_ne hj]
      have q := R.sl j t ht
      have st : ∀ {d' : Sm.D} {b : Addr}, OwR L (hid (rid H' a) (Hd P σ τ)) (rid H' a) d' b → OwR L (hid H' (Hd P (σ.set i (some (.ref a))) (τ.set i (.oo d)))) H' d' b := fun {d' b} q => by
        obtain ⟨o, ho⟩ := q.there
        exact q.step (R.fz tr) (by rw [ho]; exact rid_le b o ho)
      have stx : ∀ {d' : Sm.D} {b : Addr}, OwX L (hid (rid H' a) (Hd P σ τ)) (rid H' a) d' b → OwX L (hid H' (Hd P (σ.set i (some (.ref a))) (τ.set i (.oo d)))) H' d' b := fun {d' b} q => by
        obtain ⟨o, ho⟩ := q.there
        exact q.step (R.fz tr) (by rw [ho]; exact rid_le b o ho) (fun b z => mk_rid z)
      cases t with
      | un => trivial
      | fz d' => obtain ⟨v, e2, r2⟩ := q; exact ⟨v, e2, r2.same (R.fz tr)⟩
      | ow d' => obtain ⟨b, e2, r2⟩ := q; exact ⟨b, e2, st r2⟩
      | le d' => obtain ⟨b, e2, r2⟩ := q; exact ⟨b, e2, st r2⟩
      | io k d' => obtain ⟨b, e2, e3, r2⟩ := q; exact ⟨b, e2, e3, stx r2⟩
      | oo d' => obtain ⟨b, e2, r2⟩ := q; exact ⟨b, e2, stx r2⟩
variable {i j : Nat} {y : Str} {e1 e2 : Expr} {m1 m2 : M D} {px py pt : Pos} {kt k2 : Nat} {pt2 : Pos}
end
end Sm
set_option Elab.async false
set_option linter.all false
set_option maxRecDepth 100000
set_option maxHeartbeats 1000000
namespace Sm
open PySem PySem.Spec PySem.Calls PyProof.Rows L2 SlX
section
variable {L : Lay} {P : Pa} {W : WX} {X : Cx} {E : L2.St → XK} {e : Expr} {es : List Expr} {m mo : M D} {ma : M (List Ar)} {pos apos p : Pos}
def tThawN (t : TE) : TE := fun σ H Q => t σ H fun v H1 => ∃ b its m q ws, H1 b = some (MkO b its m q) ∧ Vals ws its ∧ ws.length ≤ sizeLine ∧ Q v (upd H1 b (.lst ws))
theorem pe_thawN {t : TE} (he : PE X e t) : PE X e (tThawN t) := ⟨fun pins s σ H Q I h =>
  thn (he.run pins s σ H _ I h) fun u s1 ⟨v, H1, I1, r, b, its, m, q, ws, hb, hv, hz, k⟩ => ⟨v, _, thawI I1 hb hv hz, r, k⟩⟩
def mFrzO (m : M D) : M D := fun τ => (m τ).bind fun d => fun τ => match d with
  | .obo c ns fs => if (splitL fs).isSome = true then .ok (.ins c ns fs) τ else .fail
  | _ => .fail
theorem SNw.frz (he : SNw L P E X e m) : SE L P E X e (mFrzO m) := by
  refine PE.weak (pe_thawN he) fun σ H Q ⟨τ, R, h⟩ => ⟨τ, R, ?_⟩
  have h : Post L P (RV L) H σ τ ((m τ).bind fun d => fun τ => match d with
    | .obo c ns fs => if (splitL fs).isSome = true then .ok (.ins c ns fs) τ else .fail
    | _ => .fail) Q (E σ) := h
  revert h
  cases m τ with
  | exc c xs τ' => exact fun h => h
  | fail => exact fun h => h
  | ok d τ' =>
    intro h a H' t R' o
    rcases o with o | ⟨c, ns, fs, rfl, o⟩
    · cases d with
      | obo c ns fs => exact o.elim
      | _ => exact h.elim
    replace h : Post L P (RV L) H σ τ (if (splitL fs).isSome = true then .ok (.ins c ns fs) τ' else .fail) Q (E σ) := h
    split at h
    case isFalse => exact h.elim
    rename_i hs
    cases e3 : splitL fs with
    | none => rw [e3] at hs; cases hs
    | some x =>
      obtain ⟨pre, ds, post⟩ := x
      obtain ⟨dx, b, us, ws, ts, its, mm, O⟩ := ob1_of e3 o
      have efs := (splitL_some e3).1
      have ba : b ≠ a := fun z => by
        have q := O.at_
        have q2 := O.mrk
        rw [z, q] at q2
        have n : ¬ MkH (.ins (L.cls c) dx (ns.zip (us ++ .ref b :: ts))) := NoMk.no
        exact n (by rw [Option.some.inj q2]; exact ⟨a, a, its, mm, rfl⟩)
      have nB : ∀ x, Hd P σ τ' x → x ≠ a ∧ x ≠ b := fun x z => by
        obtain ⟨o1, q1, q2⟩ := R'.hd_there0 z
        refine ⟨fun w => by (rw [w, rid_same] at q1; cases q1), fun w => ?_⟩
        rw [w, rid_ne ba, O.mrk] at q1
        cases q1
        exact q2 ⟨a, b, its, mm, rfl⟩
      have kin : Kin (rid H' a) (upd H' b (.lst ws)) := by
        refine ⟨⟨fun y u hy n => ?_, fun _ z => z.elim, fun y u hy => ?_⟩⟩
        · have ya : y ≠ a := fun z => by rw [z, rid_same] at hy; cases hy
          have yb : y ≠ b := fun z => n (by
            rw [z]
            exact .inr ⟨a, by rw [rid_ne ba]; exact ⟨b, its, mm, O.mrk⟩, .inr rid_same⟩)
          rw [upd_ne yb]
          rw [rid_ne ya] at hy
          exact hy
        · have ya : y ≠ a := fun z => by rw [z, rid_same] at hy; cases hy
          by_cases yb : y = b
          · exact ⟨_, by rw [yb, upd_same]⟩
          · rw [rid_ne ya] at hy
            exact ⟨u, by rw [upd_ne yb]; exact hy⟩
      have s := R'.tr kin.tr fun _ y => y
      have fz := R'.fz s.1
      refine ⟨b, its, mm, a, ws, O.mrk, O.vs, O.hz, h _ _ (t.trans s.1) s.2 ?_⟩
      rw [efs]
      have O' := O
      exact Rp.ins_iff.mpr ⟨a, dx, _, rfl, hid_some.mpr ⟨by rw [upd_ne (Ne.symm ba)]; exact O.at_, fun z => (nB a z).1 rfl, NoMk.no⟩, O.nl,
        (Rps.same fz O.r1).app (.cons (Rp.lst_iff.mpr ⟨b, ws, rfl, hid_some.mpr ⟨upd_same, fun z => (nB b z).2 rfl, NoMk.no⟩, Rps.same fz O.rl⟩) (Rps.same fz O.r2))⟩
variable {k n c : Nat} {f : Addr} {fd : FuncData} {ps : List Str} {io : List Bool} {fn : List D → RF} {ix : List Nat} {dds : List D} {x nm : Str} {pl : Sem Bool}
end
def butF (cs : List Nat) : D → Bool
  | .lst ds => D.buts cs ds
  | d => d.but cs
section
variable {L : Lay} {P : Pa} {X : Cx} {E : L2.St → XK} {e : Expr} {m : M D} {C : Addr} {F F2 H H2 : Hp} {cs : List Nat}
theorem FlR.but {q : Addr} (k : ButO C F F2) (hc : ∀ c ∈ cs, L.cls c ≠ C) (hH : ∀ b its m, H b = some (MkO b its m q) → H2 b = H b) {d : D} {v : V} (hb : butF cs d = true) (h : FlR L F H q d v) : FlR L F2 H2 q d v := by
  cases d with
  | lst ds =>
    obtain ⟨b, ws, its, n, e1, e2, e3, e4, e5⟩ := h
    exact ⟨b, ws, its, n, e1, by rw [hH b its n e2]; exact e2, e3, e4, Rps.but k hc hb e5⟩
  | _ => exact Rp.but k hc hb h
theorem FlRs.but {q : Addr} (k : ButO C F F2) (hc : ∀ c ∈ cs, L.cls c ≠ C) (hH : ∀ b its m, H b = some (MkO b its m q) → H2 b = H b) : ∀ {fs : List D} {vs : List V}, fs.all (butF cs) = true → FlRs L F H q fs vs → FlRs L F2 H2 q fs vs
  | [], _, _, h => h
  | _ :: _, _, hb, ⟨v, r, e1, e2, e3⟩ => by
    obtain ⟨n1, n2⟩ := Bool.and_eq_true_iff.mp hb
    exact ⟨v, r, e1, e2.but k hc hH n1, e3.but k hc hH n2⟩
theorem ObR.but {q : Addr} {c : Nat} {ns : List Str} (k : ButO C F F2) (hc : ∀ c ∈ cs, L.cls c ≠ C) (hH : ∀ b its m, H b = some (MkO b its m q) → H2 b = H b) (hq : H2 q = H q) {fs : List D} (hb : fs.all (butF cs) = true) (h : ObR L F H c ns fs q) : ObR L F2 H2 c ns fs q := by
  rcases h with ⟨dx, vs, h1, h3, h4, h5⟩ | ⟨z1, z2, z0, ps, n, z3, z4, z5, z6⟩
  · exact .inl ⟨dx, vs, by rw [hq]; exact h1, h3, h4.but k hc hH hb, h5⟩
  · exact .inr ⟨z1, z2, z0, ps, n, z3, by rw [hq]; exact z4, z5, fun pos cv z => let ⟨e', w1, w2⟩ := z6 pos cv z; ⟨e', w1, k.ext w2⟩⟩
end
end Sm
set_option Elab.async false
set_option linter.all false
set_option maxRecDepth 100000
set_option maxHeartbeats 1000000
namespace Sm
open PySem PySem.Spec PySem.Calls PyProof.Rows L2 SlX
section
variable {L : Lay} {P : Pa} {X : Cx} {E : L2.St → XK} {e : Expr} {m : M D}
end
end Sm
set_option Elab.async false
set_option linter.all false
set_option maxRecDepth 100000
set_option maxHeartbeats 1000000
namespace Sm
open PySem PySem.Spec PySem.Calls PyProof.Rows L2 SlX
section
variable {L : Lay} {X : Cx} {c n : Nat} {g : Addr} {fd : FuncData} {ps : List Str} {fn : List D → RF}
end
end Sm
set_option Elab.async false
set_option linter.all false
set_option maxRecDepth 100000
set_option maxHeartbeats 1000000
namespace PySem.W
open PySem PySem.Calls PyProof.Rows Builtin
section
variable {prog : Program} {w : World} {A : Around} {E : Value → Shared → Prop} {s : Shared} {K : Frag} {x y C f L : Addr} {h₀ : Heap} {m : Str → Option Value} {ox : Obj} {od : Option Obj} {tb : Value}
end
end PySem.W
namespace Sm
open PySem PySem.Spec PySem.Calls PyProof.Rows L2 SlX
section
variable {L : Lay} {X : Cx} {c n : Nat} {g : Addr} {fd : FuncData} {ps : List Str} {fn : List D → RF}
end
end Sm
set_option Elab.async false
set_option linter.all false
set_option maxRecDepth 100000
set_option maxHeartbeats 1000000
namespace Sm
open PySem PySem.Spec PySem.Calls PyProof.Rows L2 SlX
section
variable {L : Lay} {P : Pa} {X : Cx} {E : L2.St → XK} {pos : Pos} {a b : Expr} {ma mb : M D}
end
end Sm
set_option Elab.async false
set_option linter.all false
set_option maxRecDepth 100000
set_option maxHeartbeats 1000000
namespace Sm
open PySem PySem.Spec PySem.Calls PyProof.Rows L2 SlX
section
variable {L : Lay} {P : Pa} {X : Cx} {E : L2.St → XK} {pos p p' : Pos} {e : Expr} {me : M D} {x y : Str}
end
end Sm
set_option Elab.async false
set_option linter.all false
set_option maxRecDepth 100000
set_option maxHeartbeats 1000000
namespace Sm
open PySem PySem.Spec PySem.Calls PyProof.Rows L2 SlX
section
variable {X : Cx} {p pos : Pos}
end
section
variable {L : Lay} {P : Pa} {X : Cx} {W : WX} {E : L2.St → XK} {pos pos' p p' : Pos} {x : Str} {c n k : Nat} {ns : List Str} {ini : List D → Option (List D)} {fI : Addr} {fd : FuncData} {ps : List Str}
variable {e o a b : Expr} {me mo ma mb : M D} {f g : Str} {nm : Str} {apos : Pos} {es : List Expr} {mr : M (List Ar)} {mk : M (List D)} {kws : List Keyword} {ks : List Str} {io : List Bool} {fn : List D → RF} {ix : List Nat} {dds : List D} {pl : Sem Bool}
structure InsA (K : PySem.W.Frag) (C : Addr) : Prop where
  cl : Cls K C
  ha : PySem.W.findIn K (.ref C) "__class__" = some (some (.builtin "object.__class__"))
  hn : PySem.W.specialIn K (.builtin "object.__class__") "__get__" = some (some (.builtin "getset_descriptor.__get__"))
  htk : PySem.W.takesIn K (.builtin "object.__class__") = some true
  hm : PySem.W.mroIn K C (.type "object") = some true
  me : PySem.W.kitOne K (.ref C) (.ref C) = some true
structure IsA (K : PySem.W.Frag) (C T : Addr) (b : Bool) : Prop where
  cl : SCls K C
  ci : SIsi K C
  ki : PySem.W.kitOne K (.ref C) (.ref T) = some b
end
end Sm
set_option Elab.async false
set_option linter.all false
set_option maxRecDepth 100000
set_option maxHeartbeats 1000000
namespace Sm
open PySem PySem.Spec PySem.Calls PyProof.Rows L2
section
variable {L : Lay} {P : Pa} {X : Cx} {E : L2.St → XK} {pos : Pos} {a : Expr} {md : M D}
end
end Sm
set_option Elab.async false
set_option linter.all false
set_option maxRecDepth 100000
set_option maxHeartbeats 400000
namespace Sm
open PySem PySem.Spec PyProof.Rows L2
section
variable {P : Program} {w : World} {X : Cx} {pins : List (Addr × Obj)} {σ : L2.St} {H : Hp} {s : Shared}
end
section
variable {L : Lay} {P : Pa} {X : Cx} {E : L2.St → XK} {e tg : Expr} {m : M D}
def asK : D → Option (List D)
  | .dct ks _ => some ks
  | _ => none
@[simp] theorem asK_dct {ks us : List D} : asK (.dct ks us) = some ks := rfl
end
end Sm
set_option Elab.async false
set_option linter.all false
set_option maxRecDepth 100000
set_option maxHeartbeats 400000
namespace Sm
open PySem PySem.Spec PyProof.Rows L2
section
variable {prog : Program} {w : World} {A : Around} {E : Value → Shared → Prop} {s : Shared}
end
end Sm
set_option Elab.async false
set_option linter.all false
set_option maxRecDepth 100000
set_option maxHeartbeats 1000000
namespace Sm
open PySem PySem.Spec PySem.Calls PyProof.Rows L2 SlX
section
variable {L : Lay} {P : Pa} {W : WX} {X : Cx} {pos : Pos}
end
end Sm
set_option Elab.async false
set_option linter.all false
set_option maxRecDepth 100000
set_option maxHeartbeats 400000
namespace Sm
open PySem PySem.Spec PyProof.Rows L2
section
variable {L : Lay} {P : Pa} {E : L2.St → XK} {X : Cx} {e : Expr} {m : M D} {pos : Pos}
end
end Sm
set_option Elab.async false
set_option linter.all false
set_option maxRecDepth 100000
set_option maxHeartbeats 400000
namespace Sm
open PySem PySem.Spec PySem.Calls PyProof.Rows L2
section
variable {L : Lay}
end
section
variable {L : Lay} {X : Cx} {pins : List (Addr × Obj)} {σ : L2.St} {H : Hp} {s : Shared}
theorem DkAt.at {a : Addr} {kvs : List (Key × V)} (hL : LX L X) (I : Inv X pins σ H s) (h : DkAt L.pr L.w H a kvs) :
    ∃ vs, KV kvs vs ∧ s.heap.DictOf (mixKind X.prog X.w) a vs ∧ kvs.length ≤ sizeLine ∧ (a == sysModules) = false := by
  obtain ⟨o, h⟩ := h
  obtain ⟨⟨⟨z, hd, vs, rel, dd⟩, g⟩, _⟩ := I.hok a _ h
  rw [← hL.P, ← hL.w] at dd
  exact ⟨vs, rel, dd, z, hd⟩
theorem DkAt.isD {a : Addr} {kvs : List (Key × V)} (hL : LX L X) (I : Inv X pins σ H s) (h : DkAt L.pr L.w H a kvs) :
    s.TypeIs (.ref a) "dict" ∧ (∀ b, Value.ref a = .ref b → ∃ ob, s.heap.get? b = some ob ∧ ob.dict = none) ∧ (a == sysModules) = false := by
  obtain ⟨vs, _, dd, _, hd⟩ := h.at hL I
  refine ⟨dd.typeIs, fun b q => ?_, hd⟩
  cases q
  obtain ⟨ob, _, _, h1, h2, _⟩ := dd
  exact ⟨ob, h1, h2.2.1⟩
end
section
variable {L : Lay} {X : Cx} {o e f : Expr} {apos cpos : Pos} {td ty tx : TE}
end
section
variable {L : Lay} {P : Pa} {W : WX} {X : Cx} {E : L2.St → XK} {pos : Pos} {e a b c : Expr} {m ma mb mc md mk mx : M D}
theorem Bp.dki {F H : Hp} {ks : List Key} {us : List D} {v : V} (h : Bp L F H (.dki ks us) v) : ∃ a kvs, v = .ref a ∧ DkAt L.pr L.w H a kvs ∧ ks = kvs.map (·.1) ∧ Rps L F us (kvs.map (·.2)) := h
def Sl.chgK (f : List Key → List D → Option (List Key × List D)) : Sl → Option Sl
  | .ow (.dki ks us) => (f ks us).map fun n => .ow (.dki n.1 n.2)
  | .le (.dki ks us) => (f ks us).map fun n => .le (.dki n.1 n.2)
  | .io k (.dki ks us) => (f ks us).map fun n => .io k (.dki n.1 n.2)
  | _ => none
def chgK (i : Nat) (f : List Key → List D → Option (List Key × List D)) (τ : List Sl) : Option (List Sl) := (τ[i]?).bind fun t => (t.chgK f).map fun t' => τ.set i t'
theorem StR.chgK {H : Hp} {σ : L2.St} {τ τ' : List Sl} {i : Nat} {f : List Key → List D → Option (List Key × List D)} (R : StR L P H σ τ) (h : Sm.chgK i f τ = some τ') :
    ∃ a kvs us ns, σ[i]? = some (some (.ref a)) ∧ DkAt L.pr L.w H a kvs ∧ Rps L (hid H (Hd P σ τ)) us (kvs.map (·.2)) ∧ f (kvs.map (·.1)) us = some ns ∧
      ∀ kvs' o, ns.1 = kvs'.map (·.1) → Rps L (hid H (Hd P σ τ)) ns.2 (kvs'.map (·.2)) → Tr H (Own σ τ) (upd H a (DkO L.pr L.w a kvs' o)) (Own σ τ') ∧ StR L P (upd H a (DkO L.pr L.w a kvs' o)) σ τ' := by
  obtain ⟨t, et, h⟩ := Option.bind_eq_some_iff.mp h
  obtain ⟨t', e', rfl⟩ := Option.map_eq_some_iff.mp h
  have q := R.sl i t et
  have keep : ∀ (a : Addr) (kvs : List (Key × V)) (ob : Obj) (b : Addr) (o : HO), H b = some o → b ≠ a → upd H a (DkO L.pr L.w a kvs ob) b = some o := fun a kvs ob b o h n => by rw [upd_ne n]; exact h
  cases t with
  | ow d =>
    cases d with
    | dki ks us =>
      obtain ⟨ns, e, rfl⟩ := Option.map_eq_some_iff.mp e'
      obtain ⟨a, e1, kvs, hv, rfl, rr⟩ := q
      exact ⟨a, kvs, us, ns, e1, hv, rr, e, fun kvs' ob z ru => R.upd1 ⟨e1, _, et, rfl⟩ (keep a kvs' ob) ⟨_, upd_same⟩ (.inr ⟨rfl, fun tr => ⟨a, e1, kvs', ⟨ob, upd_same⟩, z, Rps.same (R.fz tr) ru⟩⟩)⟩
    | _ => cases e'
  | le d =>
    cases d with
    | dki ks us =>
      obtain ⟨ns, e, rfl⟩ := Option.map_eq_some_iff.mp e'
      obtain ⟨a, e1, kvs, hv, rfl, rr⟩ := q
      exact ⟨a, kvs, us, ns, e1, hv, rr, e, fun kvs' ob z ru => R.upd1 ⟨e1, _, et, rfl⟩ (keep a kvs' ob) ⟨_, upd_same⟩ (.inr ⟨rfl, fun tr => ⟨a, e1, kvs', ⟨ob, upd_same⟩, z, Rps.same (R.fz tr) ru⟩⟩)⟩
    | _ => cases e'
  | io k d =>
    cases d with
    | dki ks us =>
      obtain ⟨ns, e, rfl⟩ := Option.map_eq_some_iff.mp e'
      obtain ⟨a, e1, e2, q⟩ := q
      obtain ⟨kvs, hv, rfl, rr⟩ := q.list rfl
      exact ⟨a, kvs, us, ns, e1, hv, rr, e, fun kvs' ob z ru => R.upd1 ⟨e1, _, et, rfl⟩ (keep a kvs' ob) ⟨_, upd_same⟩ (.inr ⟨rfl, fun tr => ⟨a, e1, e2, .inl ⟨kvs', ⟨ob, upd_same⟩, z, Rps.same (R.fz tr) ru⟩⟩⟩)⟩
    | _ => cases e'
  | un => cases e'
  | fz d => cases e'
  | oo d => cases e'
end
end Sm
set_option Elab.async false
set_option linter.all false
set_option maxRecDepth 100000
set_option maxHeartbeats 400000
namespace Sm
open PySem PySem.Spec PyProof.Rows L2
section
variable {P : Program} {w : World} {X : Cx} {pins : List (Addr × Obj)} {σ : L2.St} {H : Hp} {s : Shared}
end
section
variable {P : Program} {w : World} {K : PySem.W.Frag} {tg : Expr} {a : Addr} {o : Obj} {es : Array DictEntry} {ep : Nat} {kvs : List (Key × V)}
end
section
variable {L : Lay} {P : Pa} {X : Cx} {E : L2.St → XK} {e tg : Expr} {m : M D}
end
end Sm
set_option Elab.async false
set_option linter.all false
set_option maxRecDepth 100000
set_option maxHeartbeats 2000000
namespace Sm
open PySem PySem.Spec PySem.Calls PyProof.Rows L2
section
variable {L : Lay} {X : Cx}
variable {kx vx tg iter : Expr} {ifs : List Expr} {scope : Scope} {own : List (Str × Nat)} {pos : Pos} {wi : TI} {g : TG} {tt : TT} {tk tv : TE}
variable {R : Result → Shared → Prop} {m0 : Nat}
end
section
variable {L : Lay} {P : Pa} {W : WX} {X : Cx} {E : L2.St → XK} {pos : Pos} {σ : L2.St} {vs : List Nat}
end
end Sm
set_option Elab.async false
set_option linter.all false
set_option maxRecDepth 100000
set_option maxHeartbeats 1000000
namespace Sm
open PySem PySem.Spec PySem.Calls PyProof.Rows L2
section
variable {prog : Program} {w : World} {K : Type} [DecidableEq K] {knd : KeyKind prog w K} {A : Around} {E : Value → Shared → Prop} {s : Shared}
end
end Sm
set_option Elab.async false
set_option linter.all false
set_option maxRecDepth 100000
set_option maxHeartbeats 1000000
namespace Sm
open PySem PySem.Spec PySem.Calls PyProof.Rows L2
section
variable {prog : Program} {w : World} {A : Around} {E : Value → Shared → Prop} {s : Shared}
end
end Sm
set_option Elab.async false
set_option linter.all false
set_option maxRecDepth 100000
set_option maxHeartbeats 1000000
namespace Sm
open PySem PySem.Spec PySem.Calls PyProof.Rows L2 SlX
section
variable {X : Cx} {pins : List (Addr × Obj)} {σ : L2.St} {H : Hp} {s : Shared}
structure PinD (X : Cx) (pins : List (Addr × Obj)) (H : Hp) (s : Shared) (d : Addr) : Prop where
  free : H d = none
  lo : d ≠ X.env.locals
  fs : d ∉ X.fs
  sz : X.s_0.heap.objs.size ≤ d
  cell : ∀ x c, X.env.cells.lookup x = some c → c ≠ d
  pin : ∀ p ∈ X.pn ++ pins, p.1 ≠ d
end
end Sm
set_option Elab.async false
set_option linter.all false
set_option maxRecDepth 100000
set_option maxHeartbeats 400000
namespace Sm
open PySem PySem.Spec PySem.Calls PyProof.Rows L2
section
variable {L : Lay} {X : Cx}
end
section
variable {L : Lay} {P : Pa} {X : Cx} {E : L2.St → XK} {pos : Pos} {a : Expr} {md : M D}
end
section
variable {L : Lay} {X : Cx}
variable {P : Pa} {E : L2.St → XK} {pos : Pos} {e : Expr} {es : List Expr} {ms : M (List D)}
theorem Bp.ptup {F H : Hp} {ds : List D} {v : V} (h : Bp L F H (.ptup ds) v) : ∃ a vs, v = .ref a ∧ TpAt F a vs ∧ Rps L F ds vs := (Rp.ptup_iff (L := L) (F := F)).mp h
end
section
variable {L : Lay} {X : Cx}
end
end Sm
set_option Elab.async false
set_option linter.all false
set_option maxRecDepth 100000
set_option maxHeartbeats 400000
namespace Sm
open PySem PySem.Spec PySem.Calls PyProof.Rows L2
section
variable {L : Lay} {X : Cx}
variable {P : Pa} {E : L2.St → XK} {pos : Pos} {e : Expr} {es : List Expr} {ms : M (List D)}
theorem PostF.newK {H : Hp} {σ : L2.St} {τ : List Sl} {ks : List Key} {us : List D} {Q : VK} {e : XK} (R : StR L P H σ τ) (h : PostF L P H σ τ (.ok (.dki ks us) τ) Q e) {p : Addr} {kvs : List (Key × V)} {ob : Obj} (hp : H p = none) (e1 : ks = kvs.map (·.1)) (r : Rps L (hid H (Hd P σ τ)) us (kvs.map (·.2))) :
    Q (.ref p) (upd H p (DkO L.pr L.w p kvs ob)) := by
  refine h p _ ?_ ?_ ?_
  · rw [rid_upd hp]; exact .refl
  · rw [rid_upd hp]; exact R
  · rw [rid_upd hp]; exact ⟨kvs, ⟨ob, upd_same⟩, e1, r⟩
end
end Sm
set_option Elab.async false
set_option linter.all false
set_option maxRecDepth 100000
set_option maxHeartbeats 1000000
namespace Sm
open PySem PySem.Spec PySem.Calls PyProof.Rows L2 SlX
section
variable {L : Lay} {P : Pa} {X : Cx} {E : L2.St → XK} {pos : Pos}
end
end Sm
set_option Elab.async false
set_option linter.all false
set_option maxRecDepth 100000
set_option maxHeartbeats 1000000
namespace Sm
open PySem PySem.Spec PySem.Calls PyProof.Rows L2
section
variable {L : Lay} {P : Pa} {X : Cx} {E : L2.St → XK} {pos : Pos} {a : Expr} {md : M D} {pins : List (Addr × Obj)} {σ : L2.St} {H : Hp} {s : Shared}
def DEnt (L : Lay) (H : Hp) (a : Addr) (ps : List (V × V)) : Prop :=
  (∃ es, DK L H a es ∧ ps = es.map fun e => (V.ref e.2.1, e.2.2)) ∨ ∃ kvs, DkAt L.pr L.w H a kvs ∧ ps = kvs.map fun kv => (kV kv.1, kv.2)
theorem DEnt.facts (hL : LX L X) (I : Inv X pins σ H s) {a : Addr} {ps : List (V × V)} (h : DEnt L H a ps) :
    s.TypeIs (.ref a) "dict" ∧ (∀ b, Value.ref a = .ref b → ∃ ob, s.heap.get? b = some ob ∧ ob.dict = none) ∧ (a == sysModules) = false := by
  rcases h with ⟨es, h, _⟩ | ⟨kvs, h, _⟩
  · exact h.facts hL I
  · exact h.isD hL I
theorem DEnt.at (hL : LX L X) (I : Inv X pins σ H s) {a : Addr} {ps : List (V × V)} (h : DEnt L H a ps) :
    ∃ ds ep, s.heap.DictRaw a ds ep ∧ ds.size = ps.length ∧ ps.length ≤ sizeLine ∧ ∀ (j : Nat) (hj : j < ds.size), ∃ p, ps[j]? = some p ∧ RelV p.1 ds[j].key ∧ RelV p.2 ds[j].val := by
  rcases h with ⟨es, h, rfl⟩ | ⟨kvs, h, rfl⟩
  · obtain ⟨ys, rel, dd, hz, hd⟩ := h.at hL I
    obtain ⟨ds, ep, raw, he⟩ := raw_of dd
    have l1 : ds.size = ys.length := size_of_entries he
    have l2 : es.length = ys.length := Paired.length rel
    refine ⟨ds, ep, raw, by rw [List.length_map]; omega, by rw [List.length_map]; exact hz, fun j hj => ?_⟩
    obtain ⟨e, x, g3, _, r, g4, g5⟩ := entry_get he rel hj
    refine ⟨(V.ref e.2.1, e.2.2), by rw [List.getElem?_map, g3]; rfl, ?_, ?_⟩
    · rw [g4]; exact rfl
    · rw [g5]; exact r.2.2
  · obtain ⟨vs, kv, dd, z, hd⟩ := h.at hL I
    obtain ⟨o, es, ep, ho, hx, hdt, hk, hp, hn⟩ := dd
    have l1 := hp.length
    rw [Array.length_toList] at l1
    have l2 : kvs.length = vs.length := Paired.length kv
    refine ⟨es, ep, ⟨o, ho, hx, hdt⟩, by rw [List.length_map]; omega, by rw [List.length_map]; exact z, fun j hj => ?_⟩
    obtain ⟨⟨k, v⟩, hkv⟩ : ∃ p, kvs[j]? = some p := ⟨kvs[j]'(by omega), List.getElem?_eq_getElem _⟩
    obtain ⟨u, hu, ru⟩ := kv_get kv hkv
    obtain ⟨hkey, hval⟩ := hp.get? (e := es[j]) (by simp [hj]) hu
    refine ⟨(kV k, v), by rw [List.getElem?_map, hkv]; rfl, relV_key (show keyIs k es[j].key = true from hkey), ?_⟩
    rw [hval]; exact ru
end
end Sm
set_option Elab.async false
set_option linter.all false
set_option maxRecDepth 100000
set_option maxHeartbeats 1000000
namespace Sm
open PySem PySem.Spec PySem.Calls PyProof.Rows L2
section
variable {L : Lay} {P : Pa} {X : Cx} {W : WX} {E : L2.St → XK} {pos tpos p : Pos} {b e : Expr} {mb m : M D} {x : Str}
end
end Sm
set_option Elab.async false
set_option linter.all false
set_option maxRecDepth 100000
set_option maxHeartbeats 1000000
namespace Sm
open PySem PySem.Spec PySem.Calls PyProof.Rows L2
section
variable {L : Lay} {X : Cx} {pins : List (Addr × Obj)} {σ : L2.St} {H : Hp} {s : Shared}
end
end Sm
set_option Elab.async false
set_option linter.all false
set_option maxRecDepth 100000
set_option maxHeartbeats 1000000
namespace Sm
open PySem PySem.Spec PySem.Calls PyProof.Rows L2
section
variable {L : Lay} {X : Cx} {P : Pa} {E : L2.St → XK} {n : Nat} {g : Addr} {fd : FuncData} {ps : List Str} {fn : List D → RF} {a : Expr} {md : M D} {f x : Str} {p fp pos kpos : Pos}
end
end Sm
set_option Elab.async false
set_option linter.all false
set_option maxRecDepth 100000
set_option maxHeartbeats 1000000
namespace Sm
open PySem PySem.Spec PySem.Calls PyProof.Rows L2
section
variable {L : Lay} {X : Cx}
end
end Sm
set_option Elab.async false
set_option linter.all false
set_option maxRecDepth 100000
set_option maxHeartbeats 400000
namespace Sm
open PySem PySem.Spec PySem.Calls PyProof.Rows L2
def SetN0 (w : World) (h : Heap) (a : Addr) (L : LNK) : Prop := ∃ (es : Array (Int × Value)) (ep : Nat) (t : SetTable), (∃ o, h.get? a = some o ∧ o.ExactSet ∧ o.data = .set es ep t) ∧ es.toList = rowsN w L ∧ TabG t (L.map fun p => p.2.hash w) ∧ (L.map (·.2)).Nodup ∧
  (w.params.followText "set-order" = true ∨ t.led = true) ∧ L.length * 5 < t.mask * 3 ∧ L.length ≤ 300
theorem SetN.bare {w : World} {h : Heap} {a : Addr} {L : LNK} {es : Array (Int × Value)} {ep : Nat} {t : SetTable} (R : SetN w h a L es ep t) : SetN0 w h a L := ⟨es, ep, t, R.obj, R.rows, R.tab, R.nd, R.led, R.room, R.few⟩
def SetNO (w : World) (a : Addr) (L : LNK) : HO := .ext fun h => SetN0 w h a L
instance {w : World} {a : Addr} {L : LNK} : NoMk (SetNO w a L) := ⟨nk_ext fun h ⟨es, ep, t, ⟨o, ho, hx, _⟩, _⟩ => ⟨a, o, ho, cls_no hx.1 (by decide)⟩⟩
section
variable {L : Lay} {X : Cx}
variable {P : Pa} {E : L2.St → XK} {pos : Pos} {e : Expr} {ms : M (List D)}
end
end Sm
set_option Elab.async false
set_option linter.all false
set_option maxRecDepth 100000
set_option maxHeartbeats 400000
namespace Sm
open PySem PySem.Spec PySem.Calls PyProof.Rows L2
section
variable {prog : Program} {w : World} {A : Around} {E : Value → Shared → Prop} {s : Shared}
end
section
variable {L : Lay} {X : Cx}
end
end Sm
set_option Elab.async false
set_option linter.all false
set_option maxRecDepth 100000
set_option maxHeartbeats 400000
namespace Sm
open PySem PySem.Spec PySem.Calls PyProof.Rows L2
theorem py_shape : ∀ (d : D) (p : PyData), d.py = some p → (p = .none → d = .non) ∧ (∀ i, p = .int i → d = .int i) ∧ (∀ x, p = .str x → d = .str x) ∧ ∀ ps, p = .tuple ps → ∃ ds, d = .tup ds ∧ D.pys ds = some ps := by
  intro d p e
  cases d with
  | tup ds =>
    obtain ⟨ps, e1, rfl⟩ := Option.map_eq_some_iff.mp (show (D.pys ds).map .tuple = some p from e)
    exact ⟨(fun h => by cases h), (fun _ h => by cases h), (fun _ h => by cases h), (fun _ h => ⟨ds, rfl, (by cases h; exact e1)⟩)⟩
  | lst ds =>
    obtain ⟨ps, e1, rfl⟩ := Option.map_eq_some_iff.mp (show (D.pys ds).map .list = some p from e)
    exact ⟨(fun h => by cases h), (fun _ h => by cases h), (fun _ h => by cases h), (fun _ h => by cases h)⟩
  | non => cases e; exact ⟨fun _ => rfl, (fun _ h => by cases h), (fun _ h => by cases h), (fun _ h => by cases h)⟩
  | bl _ => cases e; exact ⟨(fun h => by cases h), (fun _ h => by cases h), (fun _ h => by cases h), (fun _ h => by cases h)⟩
  | int _ => cases e; exact ⟨(fun h => by cases h), (fun _ h => by cases h; rfl), (fun _ h => by cases h), (fun _ h => by cases h)⟩
  | str _ => cases e; exact ⟨(fun h => by cases h), (fun _ h => by cases h), (fun _ h => by cases h; rfl), (fun _ h => by cases h)⟩
  | _ => cases e
mutual
theorem py_inj : ∀ (p : PyData) (a b : D), plainK p = true → a.py = some p → b.py = some p → a = b
  | .none, a, b, _, h1, h2 => by rw [(py_shape a _ h1).1 rfl, (py_shape b _ h2).1 rfl]
  | .int _, a, b, _, h1, h2 => by rw [(py_shape a _ h1).2.1 _ rfl, (py_shape b _ h2).2.1 _ rfl]
  | .str _, a, b, _, h1, h2 => by rw [(py_shape a _ h1).2.2.1 _ rfl, (py_shape b _ h2).2.2.1 _ rfl]
  | .tuple ps, a, b, k, h1, h2 => by
    obtain ⟨as, rfl, e1⟩ := (py_shape a _ h1).2.2.2 _ rfl
    obtain ⟨bs, rfl, e2⟩ := (py_shape b _ h2).2.2.2 _ rfl
    rw [pys_inj ps as bs (by rw [plainK] at k; exact k) e1 e2]
  | .bool _, _, _, k, _, _ => absurd k (by simp [plainK])
  | .list _, _, _, k, _, _ => absurd k (by simp [plainK])
  | .dict _, _, _, k, _, _ => absurd k (by simp [plainK])
theorem pys_inj : ∀ (ps : List PyData) (as bs : List D), plainKs ps = true → D.pys as = some ps → D.pys bs = some ps → as = bs
  | [], as, bs, _, h1, h2 => by
    have z : ∀ cs : List D, D.pys cs = some [] → cs = [] := fun cs h => by
      cases cs with
      | nil => rfl
      | cons c cs =>
        unfold D.pys at h
        obtain ⟨_, _, h⟩ := Option.bind_eq_some_iff.mp h
        obtain ⟨_, _, h⟩ := Option.map_eq_some_iff.mp h
        cases h
    rw [z as h1, z bs h2]
  | p :: ps, as, bs, k, h1, h2 => by
    have z : ∀ cs : List D, D.pys cs = some (p :: ps) → ∃ c r, cs = c :: r ∧ c.py = some p ∧ D.pys r = some ps := fun cs h => by
      cases cs with
      | nil => cases h
      | cons c cs =>
        unfold D.pys at h
        obtain ⟨_, a1, h⟩ := Option.bind_eq_some_iff.mp h
        obtain ⟨_, a2, h⟩ := Option.map_eq_some_iff.mp h
        cases h
        exact ⟨c, cs, rfl, a1, a2⟩
    obtain ⟨a, r, rfl, a1, a2⟩ := z as h1
    obtain ⟨b, q, rfl, b1, b2⟩ := z bs h2
    obtain ⟨k1, k2⟩ := plainKs_cons k
    rw [py_inj p a b k1 a1 b1, pys_inj ps r q k2 a2 b2]
end
def PlD (d : D) : Prop := ∃ p, d.py = some p ∧ plainK p = true
theorem PlD.tup {ds : List D} (h : PlD (.tup ds)) : ∀ d ∈ ds, PlD d := by
  obtain ⟨p, e, k⟩ := h
  obtain ⟨ps, e1, rfl⟩ := Option.map_eq_some_iff.mp (show (D.pys ds).map .tuple = some p from e)
  rw [plainK] at k
  clear e
  induction ds generalizing ps with
  | nil => exact fun d hd => by cases hd
  | cons d ds ih =>
    unfold D.pys at e1
    obtain ⟨q, a1, e1⟩ := Option.bind_eq_some_iff.mp e1
    obtain ⟨qs, a2, rfl⟩ := Option.map_eq_some_iff.mp e1
    obtain ⟨k1, k2⟩ := plainKs_cons k
    intro x hx
    rcases List.mem_cons.mp hx with rfl | hx
    · exact ⟨q, a1, k1⟩
    · exact ih qs a2 k2 x hx
theorem nk_shape : ∀ (d : D) (p : NestedKey), PlD d → d.nk = some p → (p = .none → d = .non) ∧ (∀ i, p = .num i → d = .int i) ∧ (∀ x, p = .text x → d = .str x) ∧ ∀ ps, p = .tup ps → ∃ ds, d = .tup ds ∧ D.nks ds = some ps := by
  intro d p pl e
  cases d with
  | tup ds =>
    obtain ⟨ps, e1, rfl⟩ := Option.map_eq_some_iff.mp (show (D.nks ds).map .tup = some p from e)
    exact ⟨(fun h => by cases h), (fun _ h => by cases h), (fun _ h => by cases h), (fun _ h => ⟨ds, rfl, (by cases h; exact e1)⟩)⟩
  | non => cases e; exact ⟨fun _ => rfl, (fun _ h => by cases h), (fun _ h => by cases h), (fun _ h => by cases h)⟩
  | bl _ =>
    obtain ⟨q, e1, k⟩ := pl
    cases e1
    exact absurd k (by simp [plainK])
  | int _ => cases e; exact ⟨(fun h => by cases h), (fun _ h => by cases h; rfl), (fun _ h => by cases h), (fun _ h => by cases h)⟩
  | str _ => cases e; exact ⟨(fun h => by cases h), (fun _ h => by cases h), (fun _ h => by cases h; rfl), (fun _ h => by cases h)⟩
  | _ => cases e
mutual
theorem nk_inj : ∀ (k : NestedKey) (a b : D), PlD a → PlD b → a.nk = some k → b.nk = some k → a = b
  | .none, a, b, p, q, h1, h2 => by rw [(nk_shape a _ p h1).1 rfl, (nk_shape b _ q h2).1 rfl]
  | .num _, a, b, p, q, h1, h2 => by rw [(nk_shape a _ p h1).2.1 _ rfl, (nk_shape b _ q h2).2.1 _ rfl]
  | .text _, a, b, p, q, h1, h2 => by rw [(nk_shape a _ p h1).2.2.1 _ rfl, (nk_shape b _ q h2).2.2.1 _ rfl]
  | .tup ks, a, b, p, q, h1, h2 => by
    obtain ⟨as, rfl, e1⟩ := (nk_shape a _ p h1).2.2.2 _ rfl
    obtain ⟨bs, rfl, e2⟩ := (nk_shape b _ q h2).2.2.2 _ rfl
    rw [nks_inj ks as bs p.tup q.tup e1 e2]
theorem nks_inj : ∀ (ks : List NestedKey) (as bs : List D), (∀ a ∈ as, PlD a) → (∀ b ∈ bs, PlD b) → D.nks as = some ks → D.nks bs = some ks → as = bs
  | [], as, bs, _, _, h1, h2 => by
    have z : ∀ cs : List D, D.nks cs = some [] → cs = [] := fun cs h => by
      cases cs with
      | nil => rfl
      | cons c cs =>
        unfold D.nks at h
        obtain ⟨_, _, h⟩ := Option.bind_eq_some_iff.mp h
        obtain ⟨_, _, h⟩ := Option.map_eq_some_iff.mp h
        cases h
    rw [z as h1, z bs h2]
  | k :: ks, as, bs, p, q, h1, h2 => by
    have z : ∀ cs : List D, D.nks cs = some (k :: ks) → ∃ c r, cs = c :: r ∧ c.nk = some k ∧ D.nks r = some ks := fun cs h => by
      cases cs with
      | nil => cases h
      | cons c cs =>
        unfold D.nks at h
        obtain ⟨_, a1, h⟩ := Option.bind_eq_some_iff.mp h
        obtain ⟨_, a2, h⟩ := Option.map_eq_some_iff.mp h
        cases h
        exact ⟨c, cs, rfl, a1, a2⟩
    obtain ⟨a, r, rfl, a1, a2⟩ := z as h1
    obtain ⟨b, t, rfl, b1, b2⟩ := z bs h2
    rw [nk_inj k a b (p a List.mem_cons_self) (q b List.mem_cons_self) a1 b1, nks_inj ks r t (fun x hx => p x (List.mem_cons_of_mem _ hx)) (fun x hx => q x (List.mem_cons_of_mem _ hx)) a2 b2]
end
end Sm
set_option Elab.async false
set_option linter.all false
set_option maxRecDepth 100000
set_option maxHeartbeats 400000
namespace Sm
open PySem PySem.Spec PySem.Calls PyProof.Rows L2
theorem SimAll.sub {xs ys : List PyData} (h : SimAll xs) (s : ∀ y ∈ ys, y ∈ xs) : SimAll ys :=
  ⟨fun d hd => h.plain d (s d hd), fun d hd e he => h.sim d (s d hd) e (s e he), fun d hd => h.tup d (s d hd), fun x r hx y q hy => h.one x r (s _ hx) y q (s _ hy)⟩
section
variable {L : Lay} {X : Cx}
variable {P : Pa} {E : L2.St → XK} {pos : Pos} {e : Expr} {ms : M (List D)}
end
end Sm
set_option Elab.async false
set_option linter.all false
set_option maxRecDepth 100000
set_option maxHeartbeats 400000
namespace Sm
section
open PySem PySem.SeqAt PySem.W PyProof.Rows
def LeGo (A : Around) (s : Shared) : List Value → List Value → Bool → Prop
  | [], _, k => k = true
  | _ :: _, [], k => k = false
  | v :: vs, w :: ws, k => (EqAt A s v w true ∧ LeGo A s vs ws k) ∨ (EqAt A s v w false ∧ Ob.RcOp .LtE A s v w k)
theorem LeGo.ends {A : Around} {s : Shared} : ∀ {vs ws : List Value} {k : Bool}, LeGo A s vs ws k → vs.zip ws = [] → k = decide (vs.length ≤ ws.length)
  | [], _, _, h, _ => h.trans (decide_eq_true (Nat.zero_le _)).symm
  | _ :: _, [], _, h, _ => by rw [show _ = false from h]; exact (decide_eq_false (Nat.not_succ_le_zero _)).symm
  | _ :: _, _ :: _, _, _, z => by cases z
end
end Sm
namespace PySem.SeqAt
open AutoSeq1 (wpAny_loadPart')
open MeetsSeq MeetsSeq2 MeetsSeq3 SeqRoads2
theorem tupLeGo (p q : Addr) (xs ys : Array Value) (cx cy : Nat) (dx dy : Option Addr) (sx sy : Array (Option Value)) (k : Bool) :
    Meets (Builtin.«tuple.__le__» ⟨[.ref p, .ref q], []⟩)
      (fun A R s => s.heap.get? p = some { cls := .type "tuple", dict := dx, data := .seq xs cx, slots := sx } ∧ s.heap.get? q = some { cls := .type "tuple", dict := dy, data := .seq ys cy, slots := sy } ∧
        Sm.LeGo A.in1 s xs.toList ys.toList k ∧ R (.ok (.ret (.bool k))) s) :=
  .of_wp fun prog w A R s hyp => by
    obtain ⟨hp, gg, dr, tk, os⟩ := s
    obtain ⟨hx, hy, go, fin⟩ := hyp
    have tt := AutoSeq1.sub_tuple_tuple
    wp_walk using wpAny_loadPart' hx, wpAny_loadPart' hy, wpAny_forIn_list _ (fun todo acc st => acc.1 = none ∧ st = ⟨hp, gg, dr, tk, os⟩ ∧ ∃ us vs : List Value, todo = us.zip vs ∧ Sm.LeGo A.in1 ⟨hp, gg, dr, tk, os⟩ us vs k ∧
      (us.length ≤ vs.length ↔ xs.size ≤ ys.size)) _
    case turn =>
      rintro ⟨u, v⟩ todo acc st ⟨ea, rfl, us, vs, ez, g, le⟩
      cases us with
      | nil => cases ez
      | cons u' us =>
        cases vs with
        | nil => cases ez
        | cons v' vs =>
          rw [List.zip_cons_cons] at ez
          injection ez with e1 e2
          injection e1 with e3 e4
          subst e3 e4 e2
          rcases g with ⟨ge, gr⟩ | ⟨ge, gr⟩
          · refine wpAny_bind (ge prog w _ _ ?_)
            wp_walk
            exact ⟨rfl, rfl, us, vs, rfl, gr, by rw [← le, List.length_cons, List.length_cons]; omega⟩
          · refine wpAny_bind (ge prog w _ _ ?_)
            have gr' : ∀ (E Q : Value → Shared → Prop), Q (.bool k) ⟨hp, gg, dr, tk, os⟩ → wpAny (model prog w) A.in1 (richCompare .LtE u v) Q E ⟨hp, gg, dr, tk, os⟩ := gr prog w
            generalize richCompare CmpOp.LtE u v = rc at gr' ⊢
            wp_walk
            refine gr' _ _ ?_
            wp_walk
            exact ⟨_, rfl, fin⟩
    case fin =>
      rintro ⟨b1, b2⟩ st ⟨ea, rfl, us, vs, ez, g, le⟩
      simp only at ea
      subst ea
      have ek := g.ends ez.symm
      have ek2 : k = decide (xs.size ≤ ys.size) := by rw [ek]; exact decide_eq_decide.mpr le
      subst ek2
      wp_walk
      exact ⟨_, rfl, by simpa [Builtin.Tuple.tupleCompareSizes] using fin⟩
    case h =>
      exact ⟨rfl, rfl, xs.toList, ys.toList, by simp, go, by simp⟩
theorem rcTupLe {A : Around} {s : Shared} {p q : Addr} {xs ys : Array Value} {k : Bool} (hp : s.heap.IsTuple p xs) (hq : s.heap.IsTuple q ys) (hu : A.units < cLine) (go : Sm.LeGo A.in1 s xs.toList ys.toList k) : Ob.RcOp .LtE A s (.ref p) (.ref q) k := fun prog w E Q fin => by
  obtain ⟨⟨c1, d1, t1, s1⟩, ho, e1, n1, f1⟩ := id hp
  obtain ⟨⟨c2, d2, t2, s2⟩, hv, e2, n2, f2⟩ := id hq
  simp only at e1 f1 e2 f2
  subst e1 f1 e2 f2
  exact richCompare_meets_room (op := .LtE) ⟨_, ho, rfl⟩ ⟨_, hv, rfl⟩ F.slot_tuple_le F.entry_tuple_le (F.args_tuple_le_2 _ _) (tupLeGo p q xs ys n1 n2 d1 d2 s1 s2 k)
    ⟨ho, hv, go, show Value.bool k ≠ Value.notImplemented ∧ Q (.bool k) s from ⟨(fun z => nomatch z), fin⟩⟩ hu
end PySem.SeqAt
namespace Sm
section
open PySem PySem.SeqAt PySem.W PyProof.Rows
theorem le_atom {x y : PyData} {A : Around} {s : Shared} {a b : Value} {as bs : List Addr} (ra : Reads s.heap a x as) (rb : Reads s.heap b y bs) (h : alike x y = true) (hn : x ≠ .none) (hu : A.units + min x.depth y.depth < cLine) :
    Ob.RcOp .LtE A s a b (!dataLt y x) := fun prog w E Q hq => le_data ra rb h hn hu hq
mutual
theorem le_sim : ∀ (x y : PyData) (A : Around) (s : Shared) (a b : Value) (as bs : List Addr), Reads s.heap a x as → Reads s.heap b y bs → plainK x = true → plainK y = true → simD y x = true →
    A.units + min x.depth y.depth < cLine → Ob.RcOp .LtE A s a b (!dataLt y x)
  | .int i, y, A, s, a, b, as, bs, ra, rb, hx, hy, hs, hu => by
    cases y with
    | int j => exact le_atom ra rb (by simp [alike]) (fun z => by cases z) hu
    | _ => exact absurd hs (by simp [simD])
  | .str i, y, A, s, a, b, as, bs, ra, rb, hx, hy, hs, hu => by
    cases y with
    | str j => exact le_atom ra rb (by simp [alike]) (fun z => by cases z) hu
    | _ => exact absurd hs (by simp [simD])
  | .tuple xs, y, A, s, a, b, as, bs, ra, rb, hx, hy, hs, hu => by
    cases y with
    | tuple ys =>
      cases ra with
      | @tuple l o vs n _ as₁ h1 h2 h3 h4 =>
        cases rb with
        | @tuple l' o' ws n' _ bs₁ k1 k2 k3 k4 =>
          rw [dataLt_tuple]
          exact rcTupLe ⟨_, h1, h2, _, h3⟩ ⟨_, k1, k2, _, k3⟩ (room_here hu) (goLe_sim xs ys A.in1 s _ _ _ _ h4 k4 (by rw [plainK] at hx; exact hx) (by rw [plainK] at hy; exact hy) (by rw [simD] at hs; exact hs) (room_in hu))
    | _ => exact absurd hs (by simp [simD])
  | .none, y, _, _, _, _, _, _, _, _, _, _, hs, _ => by cases y <;> exact absurd hs (by simp [simD])
  | .bool _, _, _, _, _, _, _, _, _, _, h, _, _, _ => absurd h (by simp [plainK])
  | .list _, _, _, _, _, _, _, _, _, _, h, _, _, _ => absurd h (by simp [plainK])
  | .dict _, _, _, _, _, _, _, _, _, _, h, _, _, _ => absurd h (by simp [plainK])
theorem goLe_sim : ∀ (xs ys : List PyData) (A : Around) (s : Shared) (vs ws : List Value) (as bs : List Addr), ReadsAll s.heap vs xs as → ReadsAll s.heap ws ys bs → plainKs xs = true → plainKs ys = true → simDs ys xs = true →
    A.units + min (PyData.depthAll xs) (PyData.depthAll ys) < cLine → LeGo A s vs ws (!PyProof.Rows.lexLt itemOrd (keyToksAll ys) (keyToksAll xs))
  | [], [], A, s, _, _, _, _, ra, rb, _, _, _, _ => by
    cases ra; cases rb
    rw [lex_irrefl]; rfl
  | [], y :: ys, A, s, _, _, _, _, ra, rb, _, _, _, _ => by
    cases ra
    cases rb with
    | cons r rs =>
      rw [toks_all_cons]; simp only [keyToksAll]
      rw [lex_diff (O := itemOrd) (by simp)]
      rfl
  | x :: xs, [], A, s, _, _, _, _, ra, rb, _, _, _, _ => by
    cases rb
    cases ra with
    | cons r rs =>
      rw [toks_all_cons]; simp only [keyToksAll]
      rw [lex_diff (O := itemOrd) (by simp)]
      rfl
  | x :: xs, y :: ys, A, s, _, _, _, _, ra, rb, hx, hy, hs, hu => by
    obtain ⟨h1, h2⟩ := plainKs_cons hx
    obtain ⟨g1, g2⟩ := plainKs_cons hy
    rw [simDs] at hs
    cases ra with
    | cons r rs =>
      cases rb with
      | cons q qs =>
        have eq : EqAt A s _ _ (PyData.eqv x y) := eqAt_plain x y A s _ _ _ _ r q (plain_of_K x h1) (plain_of_K y g1) (room_head hu)
        rw [eqv_comm] at eq
        by_cases z : PyData.eqv y x = true
        · rw [if_pos z] at hs
          rw [z] at eq
          refine .inl ⟨eq, ?_⟩
          rw [toks_same g1 h1 z]
          exact goLe_sim xs ys A s _ _ _ _ rs qs h2 g2 hs (room_tail hu)
        · rw [if_neg z] at hs
          have z' : PyData.eqv y x = false := by cases c : PyData.eqv y x with | true => exact absurd c z | false => rfl
          rw [z'] at eq
          refine .inr ⟨eq, ?_⟩
          rw [toks_diff g1 h1 hs z']
          exact le_sim x y A s _ _ _ _ r q h1 g1 hs (room_head hu)
end
end
open PySem PySem.Spec PySem.Calls PyProof.Rows L2
def dLeN (a b : D) : Option D :=
  match dLeT a b with
  | some d => some d
  | none => match a.py, b.py with
    | some p, some q => if (plainK p && plainK q && simD q p && decide (p.depth ≤ 8)) = true then some (.bl (!PySem.W.dataLt q p)) else none
    | _, _ => none
section
variable {L : Lay} {X : Cx}
def rLeN (K : PySem.W.Frag) : R2 := fun x y H Q => ∃ p q : PyData, Dp K H x p ∧ Dp K H y q ∧ plainK p = true ∧ plainK q = true ∧ simD q p = true ∧ p.depth ≤ 8 ∧ Q (.bl (!PySem.W.dataLt q p)) H
theorem op_leN (hK : X.K = L.K) (hu : X.A.units + 64 < cLine) : OpR X (compareOp .LtE) (fun x y H Q => rLe2 L.K x y H Q ∨ rLeN L.K x y H Q) := by
  refine (op_le2 hK (by omega)).or ?_
  intro pins s σ H x y v u Q I rx ry h
  obtain ⟨p, q, hp, hq, k1, k2, k3, k4, fin⟩ := h
  rw [← hK] at hp hq
  obtain ⟨as, ra⟩ := Dp.reads I _ _ _ hp rx
  obtain ⟨bs, rb⟩ := Dp.reads I _ _ _ hq ry
  have z : wpAny (model X.prog X.w) X.A (compareOp .LtE v u) (EP X pins σ Q) X.xe s := le_sim p q X.A s _ _ as bs ra rb k1 k2 k3 (by omega) X.prog X.w X.xe (EP X pins σ Q) ⟨.bl _, H, I, rfl, fin⟩
  exact z
theorem os_leN : OpS L (fun x y H Q => rLe2 L.K x y H Q ∨ rLeN L.K x y H Q) dLeN := by
  intro a b d x y H A Q e ra rb hA q
  unfold dLeN at e
  split at e
  · rename_i d' e1
    cases e
    exact .inl (os_le2 (L := L) a b _ x y H A Q e1 ra rb hA q)
  · split at e
    · rename_i p r e1 e2
      split at e
      · rename_i c
        cases e
        rw [Bool.and_eq_true_iff, Bool.and_eq_true_iff, Bool.and_eq_true_iff] at c
        obtain ⟨⟨⟨c1, c2⟩, c3⟩, c4⟩ := c
        exact .inr ⟨p, r, dp_bp hid_le ra e1, dp_bp hid_le rb e2, c1, c2, c3, of_decide_eq_true c4, q _ H (.refl _) .mk_bl⟩
      · cases e
    · cases e
end
end Sm
set_option Elab.async false
set_option linter.all false
set_option maxRecDepth 100000
set_option maxHeartbeats 400000
namespace Sm
open PySem PySem.Spec PyProof.Rows L2
section
variable {τ τ1 τ2 τ3 : List Sl} {ma mb m : M D} {ms : M (List D)} {a b d x y z : D} {o : List (Option D)} {fn : List D → RF} {k : Nat} {xs : List D}
theorem op_of {f : D → D → Option D} (h1 : ma τ = .ok x τ1) (h2 : mb τ1 = .ok y τ2) (h3 : f x y = some z) : mOp f ma mb τ = .ok z τ2 := by
  unfold mOp
  rw [h1]
  show (mb τ1).bind _ = _
  rw [h2]
  show Res.lift (f x y) τ2 = _
  rw [h3]; rfl
theorem pk_of {f : D → D → Option D} {i : Nat} (h0 : peek i τ = some a) (h2 : mb τ = .ok y τ1) (h1 : peek i τ1 = some x) (h3 : f x y = some z) : mPk i f mb τ = .ok z τ1 := by
  unfold mPk
  rw [h0]
  show (mb τ).bind _ = _
  rw [h2]
  show Res.lift ((peek i τ1).bind fun x => f x y) τ1 = _
  rw [h1]
  show Res.lift (f x y) τ1 = _
  rw [h3]; rfl
theorem un_of {g : D → Option D} (h1 : ma τ = .ok x τ1) (h3 : g x = some z) : mUn g ma τ = .ok z τ1 := by
  unfold mUn
  rw [h1]
  show Res.lift (g x) τ1 = _
  rw [h3]; rfl
theorem nil_of : mNil τ = .ok [] τ := rfl
theorem cons_of (h1 : ma τ = .ok x τ1) (h2 : ms τ1 = .ok xs τ2) : mCons ma ms τ = .ok (x :: xs) τ2 := by
  unfold mCons
  rw [h1]
  show (ms τ1).bind _ = _
  rw [h2]; rfl
theorem fn_of' {F : List D → Option D} (h1 : ms τ = .ok xs τ1) (h2 : F xs = some z) : mFn F ms τ = .ok z τ1 := by
  show (ms τ).bind _ = _
  rw [h1]
  show Res.lift (F xs) τ1 = _
  rw [h2]; rfl
theorem fn1_of {F : List D → Option D} (h1 : ma τ = .ok x τ1) (h2 : F [x] = some z) : mFn F (mCons ma mNil) τ = .ok z τ1 := fn_of' (cons_of h1 nil_of) h2
theorem lst_of (h1 : ms τ = .ok xs τ1) (hz : xs.length ≤ 16000000) : mLst ms τ = .ok (.lst xs) τ1 := by
  show (ms τ).bind _ = _
  rw [h1]
  show Res.lift ((small xs).map D.lst) τ1 = _
  rw [small_of hz]; rfl
theorem tup_of (h1 : ms τ = .ok xs τ1) (hz : xs.length ≤ 16000000) : mTup ms τ = .ok (.tup xs) τ1 := by
  show (ms τ).bind _ = _
  rw [h1]
  show Res.lift ((small xs).map D.tup) τ1 = _
  rw [small_of hz]; rfl
theorem call1_of (h1 : ma τ = .ok a τ1) (h : fn [a] = .ok d o) : mCall [false] fn 1 0 [0] [] (aV ma aNil) mNil τ = .ok d τ1 := by
  show ((aV ma aNil τ).bind _) = _
  unfold aV
  rw [h1]
  show callB none (fn [a]) τ1 = _
  rw [h]; rfl
theorem call2_of (h1 : ma τ = .ok a τ1) (h2 : mb τ1 = .ok b τ2) (h : fn [a, b] = .ok d o) : mCall [false, false] fn 2 0 [0, 1] [] (aV ma (aV mb aNil)) mNil τ = .ok d τ2 := by
  show ((aV ma (aV mb aNil) τ).bind _) = _
  unfold aV
  rw [h1]
  show ((((mb τ1).bind fun x => fun τ => (aNil τ).bind fun xs => fun τ => Res.ok (Ar.v x :: xs) τ).bind _).bind _) = _
  rw [h2]
  show callB none (fn [a, b]) τ2 = _
  rw [h]; rfl
theorem ret_of (h1 : m τ = .ok d τ1) : mRet m τ = .rt d τ1 := by
  show (m τ).st _ = _
  rw [h1]; rfl
theorem set_of' {i : Nat} {s : Sl} (h1 : m τ = .ok d τ1) (h2 : τ1[i]? = some s) (h3 : s.free = true) : mSet i m τ = .nx (τ1.set i (.fz d)) := by
  show (m τ).st _ = _
  rw [h1]
  show SR.opt (setFz i d τ1) = _
  unfold setFz
  rw [h2]
  show SR.opt (if s.free = true then some (τ1.set i (.fz d)) else none) = _
  rw [if_pos h3]; rfl
theorem setO_of {i : Nat} {s : Sl} (h1 : m τ = .ok d τ1) (h2 : τ1[i]? = some s) (h3 : s.free = true) : mSetO i m τ = .nx (τ1.set i (.ow d)) := by
  show (m τ).st _ = _
  rw [h1]
  show SR.opt (setOw i d τ1) = _
  unfold setOw
  rw [h2]
  show SR.opt (if s.free = true then some (τ1.set i (.ow d)) else none) = _
  rw [if_pos h3]; rfl
theorem ifS_of {t : M Bool} {sa sb : MS} {c : Bool} (h : t τ = .ok c τ1) : mIfS t sa sb τ = if c = true then sa τ1 else sb τ1 := by
  show (t τ).st _ = _
  rw [h]; rfl
theorem ifT_of {t : M Bool} {sa sb : MS} (h : t τ = .ok true τ1) : mIfS t sa sb τ = sa τ1 := by rw [ifS_of h]; rfl
theorem ifF_of {t : M Bool} {sa sb : MS} (h : t τ = .ok false τ1) : mIfS t sa sb τ = sb τ1 := by rw [ifS_of h]; rfl
theorem bool_of {c : Bool} (h : m τ = .ok (.bl c) τ1) : mB m τ = .ok c τ1 := by
  show (m τ).bind _ = _
  rw [h]; rfl
theorem not_of {t : M Bool} {c : Bool} (h : t τ = .ok c τ1) : mNot t τ = .ok (!c) τ1 := by
  show (t τ).bind _ = _
  rw [h]; rfl
theorem andT_of {s t : M Bool} {c : Bool} (h : s τ = .ok true τ1) (h2 : t τ1 = .ok c τ2) : mAnd s t τ = .ok c τ2 := by
  show (s τ).bind _ = _
  rw [h]
  exact h2
theorem andF_of {s t : M Bool} (h : s τ = .ok false τ1) : mAnd s t τ = .ok false τ1 := by
  show (s τ).bind _ = _
  rw [h]; rfl
theorem orF_of {s t : M Bool} {c : Bool} (h : s τ = .ok false τ1) (h2 : t τ1 = .ok c τ2) : mOr s t τ = .ok c τ2 := by
  show (s τ).bind _ = _
  rw [h]
  exact h2
theorem orT_of {s t : M Bool} (h : s τ = .ok true τ1) : mOr s t τ = .ok true τ1 := by
  show (s τ).bind _ = _
  rw [h]; rfl
theorem andVT_of (h : ma τ = .ok x τ1) (ht : truD x = some true) (h2 : mb τ1 = .ok y τ2) : mAndV ma mb τ = .ok y τ2 := by
  show (ma τ).bind _ = _
  rw [h]
  show (Res.lift (truD x) τ1).bind _ = _
  rw [ht]
  exact h2
theorem seq_of {sa sb : MS} (h : sa τ = .nx τ1) : mSeq sa sb τ = sb τ1 := by
  show (sa τ).then sb = _
  rw [h]; rfl
theorem seqR_of {sa sb : MS} (h : sa τ = .rt d τ1) : mSeq sa sb τ = .rt d τ1 := by
  show (sa τ).then sb = _
  rw [h]; rfl
theorem drop_of (h : m τ = .ok d τ1) : mDrop m τ = .nx τ1 := by
  show (m τ).st _ = _
  rw [h]; rfl
theorem on_of {α β : Type} {f : α → Option β} {mm : M α} {u : α} {v : β} (h : mm τ = .ok u τ1) (h2 : f u = some v) : mOn f mm τ = .ok v τ1 := by
  show (mm τ).bind _ = _
  rw [h]
  show Res.lift (f u) τ1 = _
  rw [h2]; rfl
theorem ons_of {f : List D → Option (List D)} {ys : List D} (h : ms τ = .ok xs τ1) (h2 : f xs = some ys) : mOns f ms τ = .ok ys τ1 := by
  show (ms τ).bind _ = _
  rw [h]
  show Res.lift (f xs) τ1 = _
  rw [h2]; rfl
theorem asg_of {q : MG} (h : m τ = .ok d τ1) (h2 : q d τ1 = some τ2) : mAsg q m τ = .nx τ2 := by
  show (m τ).st _ = _
  rw [h]
  show SR.opt (q d τ1) = _
  rw [h2]; rfl
theorem for_of {mi : M (List D)} {q : MG} {sa : MS} (h : mi τ = .ok xs τ1) : mFor mi q sa τ = mLoop q sa xs τ1 := by
  show (mi τ).st _ = _
  rw [h]; rfl
theorem frz_of {i : Nat} (h : τ[i]? = some (.fz d)) : mVar i τ = .ok d τ := by unfold mVar; rw [h]
theorem own_of {i : Nat} (h : τ[i]? = some (.ow d)) : mVar i τ = .ok d (τ.set i (.fz d)) := by unfold mVar; rw [h]
end
end Sm
set_option Elab.async false
set_option linter.all false
set_option maxRecDepth 100000
set_option maxHeartbeats 400000
namespace Sm
open PySem PySem.Spec PyProof.Rows L2
abbrev PI := Int × Int
abbrev Bit := PI × Int
def ltP (p q : PI) : Prop := p.1 < q.1 ∨ (p.1 = q.1 ∧ p.2 < q.2)
def cnt (bs : List Bit) (k : PI) : Int := ((bs.filter fun b => decide (b.1 = k)).map (·.2)).sum
def getA (rs : List Bit) (k : PI) : Option Int := (rs.find? fun b => decide (b.1 = k)).map (·.2)
def putA : List Bit → PI → Int → List Bit
  | [], k, v => [(k, v)]
  | b :: bs, k, v => if b.1 = k then (k, v) :: bs else b :: putA bs k v
def tStep (acc : List Bit) (b : Bit) : List Bit := putA acc b.1 ((getA acc b.1).getD 0 + b.2)
def tally (bs : List Bit) : List Bit := bs.foldl tStep []
def Rows (rs : List Bit) : Prop := rs.Pairwise fun a b => ltP a.1 b.1
def tab (bs : List Bit) : List Bit := ((isort leP ((tally bs).map (·.1))).filter fun k => decide (0 < cnt bs k)).map fun k => (k, cnt bs k)
end Sm
set_option Elab.async false
set_option linter.all false
set_option maxRecDepth 100000
set_option maxHeartbeats 400000
namespace Sm
open PySem PySem.Spec PyProof.Rows L2
def b_of : MS := (mRet (mPk 1 dIx (mCall [true, false] f_take 2 0 [0, 1] [] (aIo 0 (aV (mFn dLen (mCons (mVar 1) mNil)) aNil)) mNil)))
def f_of : List D → RF := mkF 2 [true, false] b_of
def b_same_o (self_ : List D → RF) : MS := (mSeq (mIfS (mB (mFn (dIsi2 "list" "tuple") (mCons (mVar 1) mNil))) (mSeq (mIfS (mB (mOp dNe (mFn (dIsi "list") (mCons (mVar 0) mNil)) (mFn (dIsi "list") (mCons (mVar 1) mNil)))) (mRet (mC (.bl false))) mNx)
    (mSeq (mIfS (mB (mOp dNe (mFn (dIsi "tuple") (mCons (mVar 0) mNil)) (mFn (dIsi "tuple") (mCons (mVar 1) mNil)))) (mRet (mC (.bl false))) mNx)
    (mRet (mAndV (mOp dEq (mFn dLen (mCons (mVar 0) mNil)) (mFn dLen (mCons (mVar 1) mNil))) (mFn dAll (mCons (mLc (mOns zip2 (mCons (mVar 0) (mCons (mVar 1) mNil))) (gT 2 (Sm.gCons (gN 2) (Sm.gCons (gN 3) Sm.gNil))) mYes (mCall [false, false] self_ 2 0 [0, 1] [] (aV (mVar 2) (aV (mVar 3) aNil)) mNil) [2, 3]) mNil)))))) mNx)
    (mSeq (mIfS (mOr (mB (mOp dIs (mVar 1) (mC .non))) (mB (mFn (dIsi2 "bool" "str") (mCons (mVar 1) mNil)))) (mRet (mAndV (mOp dEq (mVar 0) (mVar 1)) (mAndV (mOp dEq (mFn (dIsi "bool") (mCons (mVar 0) mNil)) (mFn (dIsi "bool") (mCons (mVar 1) mNil))) (mOp dEq (mOp dIs (mVar 0) (mC .non)) (mOp dIs (mVar 1) (mC .non)))))) mNx)
    (mRet (mAndV (mFn (dIsi "int") (mCons (mVar 0) mNil)) (mAndV (mNotV (mFn (dIsi "bool") (mCons (mVar 0) mNil))) (mOp dEq (mVar 0) (mVar 1)))))))
def ff_same_o : Nat → List D → RF
  | 0 => fun _ => .fail
  | n + 1 => mkF 4 [false, false] (b_same_o (ff_same_o n))
abbrev f_same_o : List D → RF := ff_same_o 6
end Sm
set_option Elab.async false
set_option linter.all false
set_option maxRecDepth 100000
set_option maxHeartbeats 400000
namespace Sm
open PySem PySem.Spec PyProof.Rows L2
def okB (b : Bit) : Prop := 0 ≤ b.1.1 ∧ b.1.1 ≤ b.1.2 ∧ 0 ≤ b.2
theorem sum_ints (xs : List Int) : dSum [.lst (xs.map .int)] = some (.int xs.sum) := by
  show (intsD (xs.map .int)).bind _ = _
  rw [intsD_map]; rfl
end Sm
set_option Elab.async false
set_option linter.all false
set_option maxRecDepth 100000
set_option maxHeartbeats 400000
namespace Sm
open PySem PySem.Spec PyProof.Rows L2
structure Enc (k : Nat) {α : Type} (f : α → D) (g : α → PyData) : Prop where
  py : ∀ a, (f a).py = some (g a)
  lay : ∀ a, (g a).canLay0 = true
  dep : ∀ a, (g a).depth ≤ k
  eqv : ∀ a b, (g a).eqv (g b) = true ↔ a = b
section
variable {k : Nat} {α β : Type} {f : α → D} {g : α → PyData} {f' : β → D} {g' : β → PyData}
theorem Enc.int : Enc 0 D.int PyData.int := ⟨fun _ => rfl, fun _ => rfl, fun _ => Nat.le_refl _, fun a b => by
  show (a == b) = true ↔ _
  exact beq_iff_eq⟩
theorem Enc.pys (h : Enc k f g) : ∀ xs : List α, D.pys (xs.map f) = some (xs.map g)
  | [] => rfl
  | x :: xs => by
    show (D.py (f x)).bind _ = _
    rw [h.py, h.pys xs]; rfl
theorem Enc.lays (h : Enc k f g) : ∀ xs : List α, PyData.canLayAll0 (xs.map g) = true
  | [] => rfl
  | x :: xs => by
    show (PyData.canLay0 (g x) && PyData.canLayAll0 (xs.map g)) = true
    rw [h.lay, h.lays xs]; rfl
theorem Enc.deps (h : Enc k f g) : ∀ xs : List α, PyData.depthAll (xs.map g) ≤ k
  | [] => Nat.zero_le _
  | x :: xs => by
    show max (PyData.depth (g x)) (PyData.depthAll (xs.map g)) ≤ k
    exact Nat.max_le.mpr ⟨h.dep x, h.deps xs⟩
theorem Enc.eqvs (h : Enc k f g) : ∀ xs ys : List α, PyData.eqvAll (xs.map g) (ys.map g) = true ↔ xs = ys
  | [], [] => ⟨fun _ => rfl, fun _ => rfl⟩
  | [], y :: ys => ⟨fun z => (by cases z), fun z => (by cases z)⟩
  | x :: xs, [] => ⟨fun z => (by cases z), fun z => (by cases z)⟩
  | x :: xs, y :: ys => by
    show ((g x).eqv (g y) && PyData.eqvAll (xs.map g) (ys.map g)) = true ↔ _
    rw [Bool.and_eq_true_iff, h.eqv, h.eqvs xs ys, List.cons.injEq]
theorem Enc.tup (h : Enc k f g) : Enc (k + 1) (fun xs : List α => .tup (xs.map f)) fun xs => .tuple (xs.map g) :=
  ⟨fun xs => by show (D.pys (xs.map f)).map _ = _; rw [h.pys]; rfl, fun xs => h.lays xs, fun xs => Nat.succ_le_succ (h.deps xs), fun xs ys => h.eqvs xs ys⟩
theorem Enc.lst (h : Enc k f g) : Enc (k + 1) (fun xs : List α => .lst (xs.map f)) fun xs => .list (xs.map g) :=
  ⟨fun xs => by show (D.pys (xs.map f)).map _ = _; rw [h.pys]; rfl, fun xs => h.lays xs, fun xs => Nat.succ_le_succ (h.deps xs), fun xs ys => h.eqvs xs ys⟩
theorem Enc.two (h : Enc k f g) (h' : Enc k f' g') : Enc (k + 1) (fun p : α × β => .tup [f p.1, f' p.2]) fun p => .tuple [g p.1, g' p.2] := by
  refine ⟨fun p => ?_, fun p => ?_, fun p => ?_, fun p q => ?_⟩
  · show (D.pys [f p.1, f' p.2]).map _ = _
    show ((D.py (f p.1)).bind fun a => (D.pys [f' p.2]).map (a :: ·)).map _ = _
    rw [h.py]
    show ((((D.py (f' p.2)).bind fun a => (D.pys []).map (a :: ·))).map (g p.1 :: ·)).map _ = _
    rw [h'.py]; rfl
  · show (PyData.canLay0 (g p.1) && (PyData.canLay0 (g' p.2) && true)) = true
    rw [h.lay, h'.lay]; rfl
  · show max (PyData.depth (g p.1)) (max (PyData.depth (g' p.2)) 0) + 1 ≤ k + 1
    exact Nat.succ_le_succ (Nat.max_le.mpr ⟨h.dep _, Nat.max_le.mpr ⟨h'.dep _, Nat.zero_le _⟩⟩)
  · show ((g p.1).eqv (g q.1) && ((g' p.2).eqv (g' q.2) && true)) = true ↔ _
    rw [Bool.and_true, Bool.and_eq_true_iff, h.eqv, h'.eqv, Prod.ext_iff]
theorem Enc.mono {j : Nat} (h : Enc k f g) (hj : k ≤ j) : Enc j f g := ⟨h.py, h.lay, fun a => Nat.le_trans (h.dep a) hj, h.eqv⟩
theorem Enc.shaped (h : Enc k f g) (hk : k ≤ 40) (a : α) : SeqAt.shaped (g a) = true := Bool.and_eq_true_iff.mpr ⟨h.lay a, decide_eq_true (Nat.le_trans (h.dep a) (Nat.le_trans hk (by decide)))⟩
theorem Enc.eqd (h : Enc k f g) (hk : k ≤ 40) (a b : α) [Decidable (a = b)] : eqD (f a) (f b) = some (decide (a = b)) := by
  unfold eqD
  rw [h.py, h.py]
  show (if SeqAt.shaped (g a) = true ∧ SeqAt.shaped (g b) = true then some (PyData.eqv (g a) (g b)) else none) = _
  rw [if_pos ⟨h.shaped hk a, h.shaped hk b⟩]
  congr 1
  rw [Bool.eq_iff_iff, h.eqv, decide_eq_true_iff]
theorem Enc.eq (h : Enc k f g) (hk : k ≤ 40) (a b : α) [Decidable (a = b)] : dEq (f a) (f b) = some (.bl (decide (a = b))) := by unfold dEq; rw [h.eqd hk]; rfl
theorem Enc.ne (h : Enc k f g) (hk : k ≤ 40) (a b : α) [Decidable (a = b)] : dNe (f a) (f b) = some (.bl (!decide (a = b))) := by unfold dNe; rw [h.eqd hk]; rfl
theorem Enc.any (h : Enc k f g) (a : α) (xs : List α) [Decidable (a ∈ xs)] : ((xs.map g).any fun z => PyData.eqv z (g a)) = decide (a ∈ xs) := by
  rw [Bool.eq_iff_iff, List.any_map, List.any_eq_true, decide_eq_true_iff]
  constructor
  · rintro ⟨x, hx, e⟩
    rw [← (h.eqv x a).mp e]; exact hx
  · intro hx
    exact ⟨a, hx, (h.eqv a a).mpr rfl⟩
end
theorem Enc.pr : Enc 1 ePr pPr := Enc.int.two Enc.int
end Sm
set_option Elab.async false
set_option linter.all false
set_option maxRecDepth 100000
set_option maxHeartbeats 400000
namespace Sm
open PySem PySem.Spec PyProof.Rows L2
theorem callFr_of {τ τ1 : List Sl} {me : M D} {d d' x : D} {fn : List D → RF} (h1 : me τ = .ok d τ1) (h : fn [d] = .ok x [some d']) : mCallFr fn me τ = .ok x τ1 := by
  have e : mCallFr fn me τ = (me τ).bind fun d => fun τ => match fn [d] with | .ok r _ => .ok r τ | .exc c xs => .exc c xs τ | _ => .fail := rfl
  rw [e, h1]
  show (match fn [d] with | .ok r _ => Res.ok r τ1 | .exc c xs => .exc c xs τ1 | _ => .fail) = _
  rw [h]
theorem boxes_of {right : List D → RF} {c : Int} {w : Nat} (hc : 0 ≤ c) (hc2 : c < 1000000) (hw : w ≤ 1000000) (hr : ∀ (k : Nat) d, Box ((k + w : Nat) : Int) d → ∃ d', right [d] = .ok (.bl true) [some d'] ∧ Box (k : Nat) d') {cs : List Int} (cl : cs.length ≤ 900) {s : D} :
    mFn dAll (mCons (mLc (mOns rng1 (mCons (mFn dLen (mCons (mVar 1) mNil)) mNil)) (gN 2) mYes (mCallFr right (mCallF [false, false] (f_boxC c) 2 [0, 1] [] (aV (mVar 1) (aV (mVar 2) aNil)))) [2]) mNil) [.fz s, .fz (.lst (cs.map .int)), .un] = .ok (.bl true) [.fz s, .fz (.lst (cs.map .int)), .un] := by
  have hr1 : rng1 [.int (cs.length : Nat)] = some ((iota (cs.length : Nat)).map .int) := rng1_of (by omega) (by omega)
  have lc : mLc (mOns rng1 (mCons (mFn dLen (mCons (mVar 1) mNil)) mNil)) (gN 2) mYes (mCallFr right (mCallF [false, false] (f_boxC c) 2 [0, 1] [] (aV (mVar 1) (aV (mVar 2) aNil)))) [2] [.fz s, .fz (.lst (cs.map .int)), .un] = .ok (.lst ((iota (cs.length : Nat)).map fun _ => .bl true)) [.fz s, .fz (.lst (cs.map .int)), .un] :=
    lcA_map (f := D.int) (S := [.fz s, .fz (.lst (cs.map .int)), .un]) (xs := iota (cs.length : Nat)) (fun _ => .bl true) (ons_of (cons_of (fn1_of (frz_of rfl) (z := .int (cs.length : Nat)) (by show some (D.int _) = _; rw [List.length_map])) nil_of) hr1) (by rw [iota_len]; omega) rfl fun i hi => by
      obtain ⟨i0, i1⟩ := mem_iota.mp hi
      obtain ⟨m, rfl⟩ : ∃ m : Nat, i = (m : Nat) := ⟨i.toNat, by omega⟩
      obtain ⟨d, b1, b2⟩ := box_ok (cs := cs) (k := m) hc hc2 (by omega) (by omega)
      have eb := ev_callF_v2 (ma := mVar 1) (mb := mVar 2) (τ := [.fz s, .fz (.lst (cs.map .int)), .fz (.int (m : Nat))]) rfl rfl b1 b2.noObo
      obtain ⟨d', r1, _⟩ := hr 0 d (b2.le (by omega))
      exact ⟨[.fz s, .fz (.lst (cs.map .int)), .fz (.int (m : Nat))], [.fz s, .fz (.lst (cs.map .int)), .fz (.int (m : Nat))], [.fz s, .fz (.lst (cs.map .int)), .fz (.int (m : Nat))], rfl, rfl, callFr_of eb r1, rfl⟩
  exact fn1_of lc (all_yes fun y hy => by obtain ⟨_, _, rfl⟩ := List.mem_map.mp hy; rfl)
theorem hand_of {hand : List D → RF} (hh : (hand []).yes = true) (τ : List Sl) : mCall [] hand 0 0 [] [] aNil mNil τ = .ok (.bl true) τ := by
  obtain ⟨oh, e⟩ := yes_ok hh
  show callB none (hand []) τ = _
  rw [e]; rfl
theorem cells_of {ns : List Int} (h : ns.length ≤ 63) : ∃ cs : List Int, cs.length ≤ 3 ∧ cs ≠ [] ∧ ∀ x1 x2 : Sl, mCall [false, false] f_cells 2 0 [0, 1] [] (aV (mVar 0) (aV (mC (.int 3)) aNil)) mNil [.fz (.scr (ns.map .int)), x1, x2] = .ok (.lst (cs.map .int)) [.fz (.scr (ns.map .int)), x1, x2] := by
  obtain ⟨cs, o, e1, ne, cl⟩ := cells_ok (top := 3) (by decide) (by decide) ns h
  exact ⟨cs, cl, ne, fun _ _ => call2_of (frz_of rfl) rfl e1⟩
end Sm
set_option Elab.async false
set_option linter.all false
set_option maxRecDepth 100000
set_option maxHeartbeats 400000
namespace Sm
open PySem PySem.Spec PyProof.Rows L2
theorem same2_seq {n : Nat} {xs : List D} {q : D} (hq : q = .lst xs ∨ q = .tup xs) (hz : xs.length ≤ 16000000) (h : ∀ x ∈ xs, ∃ o, ff_same_o n [x, x] = .ok (.bl true) o) : ∃ o, ff_same_o (n + 1) [q, q] = .ok (.bl true) o := by
  have e : mLc (mOns zip2 (mCons (mVar 0) (mCons (mVar 1) mNil))) (gT 2 (Sm.gCons (gN 2) (Sm.gCons (gN 3) Sm.gNil))) mYes (mCall [false, false] (ff_same_o n) 2 0 [0, 1] [] (aV (mVar 2) (aV (mVar 3) aNil)) mNil) [2, 3] [.fz q, .fz q, .un, .un]
      = .ok (.lst (xs.map fun _ => .bl true)) [.fz q, .fz q, .un, .un] := by
    have z : zip2 [q, q] = some (xs.map fun x => .tup [x, x]) := by
      rcases hq with rfl | rfl
      · rw [zip2_lst, zipD_self]
      · rw [zip2_tup, zipD_self]
    rw [lc_map (ds := xs.map fun x => .tup [x, x]) (S := [.fz q, .fz q, .un, .un]) (y := fun _ => .bl true) (by simp [z]) (by rw [List.length_map]; exact hz) rfl fun d hd => ?_, List.map_map]
    · rfl
    · obtain ⟨x, hx, rfl⟩ := List.mem_map.mp hd
      obtain ⟨o, ho⟩ := h x hx
      exact ⟨_, _, [.fz q, .fz q, .fz x, .fz x], by simp; rfl, rfl, by simp [ho], rfl⟩
  refine ⟨[none, none], ?_⟩
  show mkF _ _ _ _ = _
  have l : (xs.length : Int) = xs.length := rfl
  rcases hq with rfl | rfl
  · simp [mkF, b_same_o, argS, outD, outE, e, all_true]
  · simp [mkF, b_same_o, argS, outD, outE, e, all_true]
theorem same2_int {n : Nat} {b : Int} : ff_same_o (n + 1) [.int b, .int b] = .ok (.bl true) [none, none] := by
  show mkF 4 [false, false] (b_same_o (ff_same_o n)) _ = _
  have e : dEq (.int b) (.int b) = some (.bl true) := eq_self (p := .int b) rfl rfl (by rfl)
  have i1 : dIsi2 "list" "tuple" [.int b] = some (.bl false) := by rfl
  have i2 : dIsi2 "bool" "str" [.int b] = some (.bl false) := by rfl
  have i3 : dIsi "int" [.int b] = some (.bl true) := by rfl
  have i4 : dIsi "bool" [.int b] = some (.bl false) := by rfl
  have i5 : dIs (.int b) .non = some (.bl false) := by rfl
  rw [mkF_fin]
  simp -implicitDefEqProofs [b_same_o, argS, outD, outE, i1, i2, i3, i4, i5, e]
theorem of_ok {k : Int} {d : D} {gs : List D} (h : Box k d) (hk : 1 ≤ k) (h0 : gs ≠ []) (hz : gs.length ≤ 16000000) {q : D} (hq : q = .lst gs ∨ q = .tup gs) : ∃ (g d' : D), f_of [d, q] = .ok g [some d', none] ∧ g ∈ gs ∧ Box (k - 1) d' := by
  have hl : 0 < gs.length := by cases gs with | nil => exact absurd rfl h0 | cons a b => simp
  have dl : dLen [q] = some (.int gs.length) := by rcases hq with rfl | rfl <;> rfl
  obtain ⟨r, d1, e1, r0, r1, h1⟩ := take_ok (n := (gs.length : Int)) h (by omega) (by omega) (by omega)
  obtain ⟨m, rfl⟩ := Int.eq_ofNat_of_zero_le r0
  have hm : m < gs.length := by omega
  have at_ : dIx q (.int (m : Nat)) = some gs[m] := by
    have : L2.atI gs ((m : Nat) : Int) = some gs[m] := by
      unfold L2.atI L2.ixN
      rw [if_pos (by omega), if_pos (by omega)]
      show gs[((m : Nat) : Int).toNat]? = _
      rw [Int.toNat_natCast, List.getElem?_eq_getElem hm]
    rcases hq with rfl | rfl <;> exact this
  refine ⟨gs[m], d1, ?_, List.getElem_mem hm, h1⟩
  rw [f_of, mkF_fin]
  simp -implicitDefEqProofs [b_of, argS, dl, e1, at_, outD, outE]
end Sm
set_option Elab.async false
set_option linter.all false
set_option maxRecDepth 100000
set_option maxHeartbeats 400000
namespace Sm
open PySem PySem.Spec PyProof.Rows L2
end Sm
set_option Elab.async false
set_option linter.all false
set_option maxRecDepth 100000
set_option maxHeartbeats 400000
namespace Sm
open PySem PySem.Spec PyProof.Rows L2
def Drawn (top : Int) (bs : List Bit) : Prop := ∀ b ∈ bs, 0 ≤ b.1.1 ∧ b.1.1 ≤ b.1.2 ∧ b.1.2 < top ∧ 0 ≤ b.2
theorem Drawn.ok {top : Int} {bs : List Bit} (h : Drawn top bs) : ∀ b ∈ bs, okB b := fun b hb => ⟨(h b hb).1, (h b hb).2.1, (h b hb).2.2.2⟩
theorem of_draw {k : Int} {d : D} {τ : List Sl} {gs : List D} {mq : M D} {q : D} (h : Box k d) (hk : 1 ≤ k) (h0 : gs ≠ []) (hz : gs.length ≤ 16000000) (hq : q = .lst gs ∨ q = .tup gs) (hm : mq (.io 0 d :: τ) = .ok q (.io 0 d :: τ)) :
    ∃ (g d' : D), g ∈ gs ∧ Box (k - 1) d' ∧ mCall [true, false] f_of 2 0 [0, 1] [] (aIo 0 (aV mq aNil)) mNil (.io 0 d :: τ) = .ok g (.io 0 d' :: τ) := by
  obtain ⟨g, d', e, hg, hb⟩ := of_ok h hk h0 hz hq
  exact ⟨g, d', hg, hb, ioc2 (τ := .io 0 d :: τ) (i := 0) (j := 0) (mn := mq) e (.inl rfl) hm⟩
theorem take_draw {k n : Int} {d : D} {τ : List Sl} {mq : M D} (h : Box k d) (hk : 1 ≤ k) (hn : 0 < n) (hn2 : n < 2 ^ 62) (hm : mq (.io 0 d :: τ) = .ok (.int n) (.io 0 d :: τ)) :
    ∃ (r : Int) (d' : D), 0 ≤ r ∧ r < n ∧ Box (k - 1) d' ∧ mCall [true, false] f_take 2 0 [0, 1] [] (aIo 0 (aV mq aNil)) mNil (.io 0 d :: τ) = .ok (.int r) (.io 0 d' :: τ) := by
  obtain ⟨r, d', a, b, hb, e⟩ := draw_ok (τ := .io 0 d :: τ) (i := 0) (j := 0) (mn := mq) h hk hn hn2 (.inl rfl) hm
  exact ⟨r, d', a, b, hb, e⟩
theorem box_own {k : Int} {d : D} (h : Box k d) : ownL d = true := by
  obtain ⟨a, b, c, rfl, _⟩ := h
  rfl
end Sm
set_option Elab.async false
set_option linter.all false
set_option maxRecDepth 100000
set_option maxHeartbeats 400000
namespace Sm
open PySem PySem.Spec PyProof.Rows L2
end Sm
set_option Elab.async false
set_option linter.all false
set_option maxRecDepth 100000
set_option maxHeartbeats 400000
namespace Sm
open PySem PySem.Spec PyProof.Rows L2
end Sm
set_option Elab.async false
set_option linter.all false
set_option maxRecDepth 100000
set_option maxHeartbeats 400000
namespace Sm
open PySem PySem.Spec PyProof.Rows L2
end Sm
set_option Elab.async false
set_option linter.all false
set_option maxRecDepth 100000
set_option maxHeartbeats 400000
namespace Sm
open PySem PySem.Spec PyProof.Rows L2
theorem star_of {τ τ1 τ2 : List Sl} {m : M D} {ms : M (List D)} {x : D} {xs ys : List D} (h1 : m τ = .ok x τ1) (hx : asS x = some xs) (h2 : ms τ1 = .ok ys τ2) : mStar m ms τ = .ok (xs ++ ys) τ2 := by
  unfold mStar
  rw [h1]
  show ((Res.lift (asS x) τ1).bind _) = _
  rw [hx]
  show ((ms τ1).bind _) = _
  rw [h2]; rfl
theorem c_of {d : D} {τ : List Sl} : mC d τ = .ok d τ := rfl
end Sm
set_option Elab.async false
set_option linter.all false
set_option maxRecDepth 100000
set_option maxHeartbeats 400000
namespace Sm
open PySem PySem.Spec PyProof.Rows L2
end Sm
set_option Elab.async false
set_option linter.all false
set_option maxRecDepth 100000
set_option maxHeartbeats 400000
namespace Sm
open PySem PySem.Spec PyProof.Rows L2
def b_number_in_0 : MS := (mIfS (mOr (mB (mOp dEq (mVar 0) (mC (.str "")))) (mOr (mNot (mB (mFn dAll (mCons (mLc (mOn asTx (mVar 0)) (gN 1) mYes (mOp dInSg (mVar 1) (mC (.str "0123456789"))) [1]) mNil)))) (mAnd (mB (mOp dEq (mPk 0 dIx (mC (.int 0))) (mC (.str "0")))) (mB (mOp dNe (mVar 0) (mC (.str "0"))))))) (mRet (mC .non)) mNx)
def b_number_in_1 : MS := (mRet (mFn dIntT (mCons (mVar 0) mNil)))
def b_number_in : MS := (mSeq b_number_in_0 b_number_in_1)
def f_number_in : List D → RF := mkF 2 [false] b_number_in
def b_stay_of_0 : MS := (mSetO 1 (mLc (mOn asS (mTxt1 dSplit (mVar 0) (mC (.str "-")))) (gN 2) mYes (mCall [false] f_number_in 1 0 [0] [] (aV (mVar 2) aNil) mNil) [2]))
def b_stay_of_1 : MS := (mRet (mIf (mOr (mB (mOp dNe (mFn dLen (mCons (mVar 1) mNil)) (mC (.int 2)))) (mOr (mB (mOp dIn2 (mC .non) (mVar 1))) (mB (mOp dGt (mPk 1 dIx (mC (.int 0))) (mPk 1 dIx (mC (.int 1))))))) (mC .non) (mFn dTuple (mCons (mVar 1) mNil))))
def b_stay_of : MS := (mSeq b_stay_of_0 b_stay_of_1)
def f_stay_of : List D → RF := mkF 3 [false] b_stay_of
def b_many_of_0 : MS := (mSet 1 (mCall [false] f_number_in 1 0 [0] [] (aV (mVar 0) aNil) mNil))
def b_many_of_1 : MS := (mRet (mIf (mB (mOp dEq (mVar 1) (mC (.int 0)))) (mC .non) (mVar 1)))
def b_many_of : MS := (mSeq b_many_of_0 b_many_of_1)
def f_many_of : List D → RF := mkF 2 [false] b_many_of
end Sm
set_option Elab.async false
set_option linter.all false
set_option maxRecDepth 100000
set_option maxHeartbeats 400000
namespace Sm
open PySem PySem.Spec PyProof.Rows L2
def numT (i : Int) : Str := toString i
def ok40 (i : Int) : Prop := 0 ≤ i ∧ i < 10 ^ 40
theorem ok40_nat {i : Int} (h : ok40 i) : ∃ n : Nat, i = (n : Nat) ∧ n < 10 ^ 40 := by
  obtain ⟨h0, h1⟩ := h
  obtain ⟨n, rfl⟩ := Int.eq_ofNat_of_zero_le h0
  refine ⟨n, rfl, ?_⟩
  have : ((n : Nat) : Int) < ((10 ^ 40 : Nat) : Int) := by simpa using h1
  omega
theorem tl_num' {n : Nat} : TL.tl (numT ((n : Nat) : Int)) = TL.numL n := TL.tl_num n
theorem tI_len {i : Int} (h : ok40 i) : (numT i).length ≤ 40 := by
  obtain ⟨n, rfl, hn⟩ := ok40_nat h
  rw [TL.len_tl, tl_num']
  exact TL.numL_len (by decide) hn
theorem ok40_log {i : Int} (h : ok40 i) : i.natAbs.log2 < 1920 := by
  obtain ⟨n, rfl, hn⟩ := ok40_nat h
  by_cases z : ((n : Nat) : Int).natAbs = 0
  · rw [z]; decide
  · rw [Nat.log2_lt z]
    exact Nat.lt_trans (show ((n : Nat) : Int).natAbs < 10 ^ 40 by omega) (by decide)
theorem str_int {i : Int} (h : ok40 i) : dStr [.int i] = some (.str (numT i)) := if_pos (ok40_log h)
theorem add_str' {a b : Str} (h : a.length + b.length ≤ 10000) : dAdd (.str a) (.str b) = some (.str (a ++ b)) := if_pos (Nat.le_trans h (by decide))
def okT (b : Str) : Bool := PyData.strOk b
theorem shaped_str {b : Str} (h : okT b = true) : SeqAt.shaped (.str b) = true := by
  have e : SeqAt.shaped (.str b) = (okT b && true) := rfl
  rw [e, h]; rfl
theorem okT_tl {b : Str} (h : ∀ c ∈ TL.tl b, c < 1000) : okT b = true := by
  show b.cps.all (· < 0x110000) = true
  rw [Array.all_eq_true_iff_forall_mem]
  intro c hc
  have := h c (Array.mem_toList_iff.mpr hc)
  simp only [decide_eq_true_eq]
  omega
theorem num_small {i : Int} (h : ok40 i) : ∀ c ∈ TL.tl (numT i), 48 ≤ c ∧ c ≤ 57 := by
  obtain ⟨n, rfl, hn⟩ := ok40_nat h
  rw [tl_num']
  exact TL.numL_digits n
theorem okT_num {i : Int} (h : ok40 i) : okT (numT i) = true := okT_tl fun c hc => by have := num_small h c hc; omega
theorem eq_str {a b : Str} (ha : okT a = true) (hb : okT b = true) : dEq (.str a) (.str b) = some (.bl (decide (a = b))) := by
  show ((if SeqAt.shaped (.str a) = true ∧ SeqAt.shaped (.str b) = true then some (PyData.eqv (.str a) (.str b)) else none).map D.bl) = _
  rw [if_pos ⟨shaped_str ha, shaped_str hb⟩]; rfl
theorem ne_str {a b : Str} (ha : okT a = true) (hb : okT b = true) : dNe (.str a) (.str b) = some (.bl (!decide (a = b))) := by
  show ((if SeqAt.shaped (.str a) = true ∧ SeqAt.shaped (.str b) = true then some (PyData.eqv (.str a) (.str b)) else none).map fun k => D.bl (!k)) = _
  rw [if_pos ⟨shaped_str ha, shaped_str hb⟩]; rfl
theorem eq_tl {a b : Str} (h : TL.tl a ≠ TL.tl b) : decide (a = b) = false := decide_eq_false fun e => h (by rw [e])
theorem digits_tl : TL.tl ("0123456789" : Str) = [48, 49, 50, 51, 52, 53, 54, 55, 56, 57] := by decide +kernel
theorem zero_tl : TL.tl ("0" : Str) = [48] := by decide +kernel
theorem nil_tl : TL.tl ("" : Str) = [] := by decide +kernel
theorem okT_c0 : okT ("" : Str) = true := by decide +kernel
theorem okT_c1 : okT ("0" : Str) = true := by decide +kernel
theorem numL_zero : ∀ {n : Nat} {r : List Nat}, TL.numL n = 48 :: r → n = 0 := by
  intro n
  induction n using Nat.strongRecOn with
  | _ n ih =>
    intro r h
    by_cases hn : n < 10
    · rw [TL.numL_lt hn] at h
      injection h with h1 h2
      omega
    · rw [TL.numL_step (by omega)] at h
      cases e : TL.numL (n / 10) with
      | nil => exact absurd e (TL.numL_ne _)
      | cons c s =>
        rw [e, List.cons_append] at h
        injection h with h1 h2
        subst h1
        have := ih (n / 10) (by omega) e
        omega
theorem in_digits {c : Nat} (h : 48 ≤ c ∧ c ≤ 57) : dInSg (.str ⟨#[c]⟩) (.str "0123456789") = some (.bl true) := by
  show some (D.bl (decide (c ∈ TL.tl ("0123456789" : Str)))) = _
  rw [digits_tl, decide_eq_true]
  obtain ⟨h1, h2⟩ := h
  simp only [List.mem_cons, List.not_mem_nil, or_false]
  omega
theorem digs_ok {w : Str} (h : ∀ c ∈ TL.tl w, 48 ≤ c ∧ c ≤ 57) (hz : w.length ≤ 16000000) : mFn dAll (mCons (mLc (mOn asTx (mVar 0)) (gN 1) mYes (mOp dInSg (mVar 1) (mC (.str "0123456789"))) [1]) mNil) [.fz (.str w), .un] = .ok (.bl true) [.fz (.str w), .un] := by
  have lc : mLc (mOn asTx (mVar 0)) (gN 1) mYes (mOp dInSg (mVar 1) (mC (.str "0123456789"))) [1] [.fz (.str w), .un] = .ok (.lst ((TL.tl w).map fun _ => .bl true)) [.fz (.str w), .un] :=
    lcA_map (f := fun c => D.str ⟨#[c]⟩) (S := [.fz (.str w), .un]) (xs := TL.tl w) (fun _ => .bl true) rfl (by rw [← TL.len_tl]; exact hz) rfl fun c hc =>
      ⟨[.fz (.str w), .fz (.str ⟨#[c]⟩)], [.fz (.str w), .fz (.str ⟨#[c]⟩)], [.fz (.str w), .fz (.str ⟨#[c]⟩)], rfl, rfl, op_of (frz_of (i := 1) rfl) rfl (in_digits (h c hc)), rfl⟩
  exact fn1_of lc (by
    have := all_true ((TL.tl w).map fun _ => D.non)
    rw [List.map_map] at this
    exact this)
theorem number_ok {i : Int} (h : ok40 i) : f_number_in [.str (numT i)] = .ok (.int i) [none] := by
  have hl := tI_len h
  have hs := num_small h
  have ok := okT_num h
  have hlog := h
  obtain ⟨n, rfl, hn⟩ := ok40_nat h
  have e0 : TL.tl (numT ((n : Nat) : Int)) = TL.numL n := tl_num'
  have it : intText? (numT ((n : Nat) : Int)) = some ((n : Nat) : Int) := TL.int_num (Nat.le_trans (TL.numL_len (k := 40) (by decide) hn) (by decide))
  generalize hw : numT ((n : Nat) : Int) = w at hl hs ok e0 it
  obtain ⟨c0, r, ec⟩ : ∃ c0 r, TL.tl w = c0 :: r := by
    cases e : TL.tl w with
    | nil => rw [e0] at e; exact absurd e (TL.numL_ne n)
    | cons c r => exact ⟨c, r, rfl⟩
  have ix : dIx (.str w) (.int 0) = some (.str ⟨#[c0]⟩) := by
    show (if w.length ≤ 16000000 then (L2.atI (TL.tl w) 0).map fun c => D.str ⟨#[c]⟩ else none) = _
    rw [if_pos (by omega), ec, show L2.atI (c0 :: r) 0 = some c0 from atI_nat (xs := c0 :: r) (j := 0) (v := c0) rfl]; rfl
  have q1 : mB (mOp dEq (mVar 0) (mC (.str ""))) [.fz (.str w), .un] = .ok false [.fz (.str w), .un] := by
    refine bool_of (op_of (frz_of (i := 0) rfl) rfl ?_)
    rw [eq_str ok okT_c0, eq_tl (by rw [ec, nil_tl]; exact fun h => nomatch h)]
  have q3 : mAnd (mB (mOp dEq (mPk 0 dIx (mC (.int 0))) (mC (.str "0")))) (mB (mOp dNe (mVar 0) (mC (.str "0")))) [.fz (.str w), .un] = .ok false [.fz (.str w), .un] := by
    have okc : okT ⟨#[c0]⟩ = true := okT_tl fun c hc => by
      have : c = c0 := by simpa [TL.tl] using hc
      subst this
      have := hs c (by rw [ec]; exact List.mem_cons_self)
      omega
    have a1 : mB (mOp dEq (mPk 0 dIx (mC (.int 0))) (mC (.str "0"))) [.fz (.str w), .un] = .ok (decide ((⟨#[c0]⟩ : Str) = "0")) [.fz (.str w), .un] :=
      bool_of (op_of (pk_of (a := .str w) (x := .str w) rfl rfl rfl ix) rfl (eq_str okc okT_c1))
    by_cases hc : (⟨#[c0]⟩ : Str) = "0"
    · rw [decide_eq_true hc] at a1
      have hc0 : c0 = 48 := by
        have := congrArg TL.tl hc
        rw [zero_tl] at this
        simpa [TL.tl] using this
      rw [e0] at ec
      subst hc0
      have n0 := numL_zero ec
      subst n0
      have w0 : w = "0" := by rw [← hw]; decide +kernel
      refine andT_of a1 (bool_of (op_of (frz_of (i := 0) rfl) rfl ?_))
      rw [ne_str ok okT_c1, w0]; rfl
    · rw [decide_eq_false hc] at a1
      exact andF_of a1
  have q2 := digs_ok hs (w := w) (by omega)
  rw [f_number_in, mkF_fin]
  show fin [false] (b_number_in [.fz (.str w), .un]) = _
  rw [b_number_in, seq_of (τ1 := [.fz (.str w), .un]) (by
    unfold b_number_in_0
    rw [ifF_of (orF_of q1 (orF_of (not_of (bool_of q2)) q3))]; rfl), b_number_in_1, ret_of (fn1_of (frz_of (i := 0) rfl) (z := .int (n : Nat)) (by
    show (if w.length ≤ 640 then (PySem.intText? w).map D.int else none) = _
    rw [if_pos (by omega), it]; rfl))]
  rfl
end Sm
set_option Elab.async false
set_option linter.all false
set_option maxRecDepth 100000
set_option maxHeartbeats 400000
namespace Sm
open PySem PySem.Spec PyProof.Rows L2
section
variable {τ τ1 τ2 τ3 : List Sl} {ma mb mc m : M D} {ms : M (List D)} {a b c d x y z : D} {o : List (Option D)} {fn : List D → RF} {k : Nat} {xs : List D}
theorem call3_of (h1 : ma τ = .ok a τ1) (h2 : mb τ1 = .ok b τ2) (h3 : mc τ2 = .ok c τ3) (h : fn [a, b, c] = .ok d o) : mCall [false, false, false] fn 3 0 [0, 1, 2] [] (aV ma (aV mb (aV mc aNil))) mNil τ = .ok d τ3 := by
  show ((aV ma (aV mb (aV mc aNil)) τ).bind _) = _
  unfold aV
  rw [h1]
  show ((((mb τ1).bind fun x => fun τ => ((mc τ).bind fun x => fun τ => (aNil τ).bind fun xs => fun τ => Res.ok (Ar.v x :: xs) τ).bind fun xs => fun τ => Res.ok (Ar.v x :: xs) τ).bind _).bind _) = _
  rw [h2]
  show (((((mc τ2).bind fun x => fun τ => (aNil τ).bind fun xs => fun τ => Res.ok (Ar.v x :: xs) τ).bind _).bind _).bind _) = _
  rw [h3]
  show callB none (fn [a, b, c]) τ3 = _
  rw [h]; rfl
theorem app_of {i : Nat} {ds ds' : List D} (h0 : τ[i]? = some (.ow (.lst ds))) (h1 : m τ = .ok d τ1) (h3 : τ1[i]? = some (.ow (.lst ds'))) (hz : ds'.length < 16000000) : mApp i m τ = .ok .non (τ1.set i (.ow (.lst (ds' ++ [d])))) := by
  unfold mApp
  have e1 : peek i τ = some (.lst ds) := by unfold peek; rw [h0]; rfl
  rw [e1, if_pos (show isLst (some (D.lst ds)) = true from rfl), h1]
  show Res.opt (chgS i (fApp d) τ1) = _
  unfold chgS
  rw [h3]
  show Res.opt (((fApp d ds').map fun ns => Sl.ow (.lst ns)).map fun t' => τ1.set i t') = _
  unfold fApp
  rw [if_pos hz]
  rfl
theorem setX_of {i : Nat} {s : Sl} (h1 : m τ = .ok d τ1) (h2 : τ1[i]? = some s) (h3 : s.free = true) (h4 : τ1.set i (.fz d) = τ2) : mSet i m τ = .nx τ2 := by rw [← h4]; exact set_of' h1 h2 h3
theorem setOX_of {i : Nat} {s : Sl} (h1 : m τ = .ok d τ1) (h2 : τ1[i]? = some s) (h3 : s.free = true) (h4 : τ1.set i (.ow d) = τ2) : mSetO i m τ = .nx τ2 := by rw [← h4]; exact setO_of h1 h2 h3
theorem appX_of {i : Nat} {ds ds' : List D} (h0 : τ[i]? = some (.ow (.lst ds))) (h1 : m τ = .ok d τ1) (h3 : τ1[i]? = some (.ow (.lst ds'))) (hz : ds'.length < 16000000) (h4 : τ1.set i (.ow (.lst (ds' ++ [d]))) = τ2) : mDrop (mApp i m) τ = .nx τ2 := by
  rw [← h4]; exact drop_of (app_of h0 h1 h3 hz)
theorem if_of {t : M Bool} {α : Type} {u v : M α} {k : Bool} (h : t τ = .ok k τ1) : mIf t u v τ = if k = true then u τ1 else v τ1 := by
  show (t τ).bind _ = _
  rw [h]; rfl
end
mutual
def D.eqb : D → D → Bool
  | .non, .non => true
  | .bl a, .bl b => a == b
  | .int a, .int b => decide (a = b)
  | .str a, .str b => decide (a = b)
  | .tup a, .tup b => D.eqbs a b
  | .lst a, .lst b => D.eqbs a b
  | _, _ => false
def D.eqbs : List D → List D → Bool
  | [], [] => true
  | a :: as, b :: bs => D.eqb a b && D.eqbs as bs
  | _, _ => false
end
mutual
theorem D.eqb_eq : ∀ {a b : D}, D.eqb a b = true → a = b
  | .non, .non, _ => rfl
  | .bl a, .bl b, h => by unfold D.eqb at h; rw [beq_iff_eq.mp h]
  | .int a, .int b, h => by unfold D.eqb at h; rw [of_decide_eq_true h]
  | .str a, .str b, h => by unfold D.eqb at h; rw [of_decide_eq_true h]
  | .tup a, .tup b, h => by unfold D.eqb at h; rw [D.eqbs_eq h]
  | .lst a, .lst b, h => by unfold D.eqb at h; rw [D.eqbs_eq h]
  | .non, .bl _, h | .non, .int _, h | .non, .str _, h | .non, .tup _, h | .non, .lst _, h | .non, .dct _ _, h | .non, .set _, h | .non, .obj _ _, h | .non, .scr _, h | .non, .dki _ _, h | .non, .ptup _, h | .non, .exc _ _ _, h => by unfold D.eqb at h; cases h
  | .bl _, .non, h | .bl _, .int _, h | .bl _, .str _, h | .bl _, .tup _, h | .bl _, .lst _, h | .bl _, .dct _ _, h | .bl _, .set _, h | .bl _, .obj _ _, h | .bl _, .scr _, h | .bl _, .dki _ _, h | .bl _, .ptup _, h | .bl _, .exc _ _ _, h => by unfold D.eqb at h; cases h
  | .int _, .non, h | .int _, .bl _, h | .int _, .str _, h | .int _, .tup _, h | .int _, .lst _, h | .int _, .dct _ _, h | .int _, .set _, h | .int _, .obj _ _, h | .int _, .scr _, h | .int _, .dki _ _, h | .int _, .ptup _, h | .int _, .exc _ _ _, h => by unfold D.eqb at h; cases h
  | .str _, .non, h | .str _, .bl _, h | .str _, .int _, h | .str _, .tup _, h | .str _, .lst _, h | .str _, .dct _ _, h | .str _, .set _, h | .str _, .obj _ _, h | .str _, .scr _, h | .str _, .dki _ _, h | .str _, .ptup _, h | .str _, .exc _ _ _, h => by unfold D.eqb at h; cases h
  | .tup _, .non, h | .tup _, .bl _, h | .tup _, .int _, h | .tup _, .str _, h | .tup _, .lst _, h | .tup _, .dct _ _, h | .tup _, .set _, h | .tup _, .obj _ _, h | .tup _, .scr _, h | .tup _, .dki _ _, h | .tup _, .ptup _, h | .tup _, .exc _ _ _, h => by unfold D.eqb at h; cases h
  | .lst _, .non, h | .lst _, .bl _, h | .lst _, .int _, h | .lst _, .str _, h | .lst _, .tup _, h | .lst _, .dct _ _, h | .lst _, .set _, h | .lst _, .obj _ _, h | .lst _, .scr _, h | .lst _, .dki _ _, h | .lst _, .ptup _, h | .lst _, .exc _ _ _, h => by unfold D.eqb at h; cases h
  | .dki _ _, _, h | .ptup _, _, h | .dct _ _, _, h | .set _, _, h | .obj _ _, _, h | .scr _, _, h | .exc _ _ _, _, h => by unfold D.eqb at h; cases h
theorem D.eqbs_eq : ∀ {a b : List D}, D.eqbs a b = true → a = b
  | [], [], _ => rfl
  | a :: as, b :: bs, h => by
    unfold D.eqbs at h
    obtain ⟨h1, h2⟩ := Bool.and_eq_true_iff.mp h
    rw [D.eqb_eq h1, D.eqbs_eq h2]
  | [], _ :: _, h | _ :: _, [], h => by unfold D.eqbs at h; cases h
end
end Sm
set_option Elab.async false
set_option linter.all false
set_option maxRecDepth 100000
set_option maxHeartbeats 400000
namespace Sm
open PySem PySem.Spec PyProof.Rows L2
section
variable {τ τ1 τ2 : List Sl} {mo me : M D}
theorem kC_of {d : D} : mC d τ = .ok d τ := rfl
theorem txt1_of {f : Str → D → Option D} {a : Str} {y z : D} (h1 : mo τ = .ok (.str a) τ1) (h2 : me τ1 = .ok y τ2) (h3 : f a y = some z) : mTxt1 f mo me τ = .ok z τ2 := by
  unfold mTxt1
  rw [h1]
  show (me τ1).bind _ = _
  rw [h2]
  show Res.lift (f a y) τ2 = _
  rw [h3]; rfl
end
theorem strsD_map : ∀ xs : List Str, strsD (xs.map .str) = some xs
  | [] => rfl
  | x :: xs => by
    show (strsD (xs.map .str)).map (x :: ·) = _
    rw [strsD_map xs]; rfl
def sumLen (xs : List Str) (g : Str) : Nat := (xs.map (·.length)).sum + xs.length * g.length
theorem joinD_ok {g : Str} {xs : List Str} (h : sumLen xs g ≤ 16000000) : joinD g (xs.map .str) = some (.str (Txt.join g xs)) := by
  unfold joinD
  rw [strsD_map]
  exact if_pos h
theorem sumLen_le {xs : List Str} {g : Str} {n k : Nat} (hn : xs.length ≤ n) (hk : ∀ x ∈ xs, x.length + g.length ≤ k) : sumLen xs g ≤ n * k := by
  have : ∀ xs : List Str, (∀ x ∈ xs, x.length + g.length ≤ k) → (xs.map (·.length)).sum + xs.length * g.length ≤ xs.length * k := by
    intro xs
    induction xs with
    | nil => intro _; simp
    | cons x xs ih =>
      intro h
      have h1 := h x List.mem_cons_self
      have h2 := ih fun z hz => h z (List.mem_cons_of_mem _ hz)
      rw [List.map_cons, List.sum_cons, List.length_cons, Nat.succ_mul, Nat.succ_mul]
      omega
  exact Nat.le_trans (this xs hk) (Nat.mul_le_mul_right k hn)
theorem join_len : ∀ (g : Str) (xs : List Str), (Txt.join g xs).length ≤ sumLen xs g := by
  intro g xs
  rw [TL.join_eq]
  induction xs with
  | nil => exact Nat.zero_le _
  | cons x xs ih =>
    cases xs with
    | nil =>
      show x.length ≤ ([x].map (·.length)).sum + 1 * g.length
      simp
    | cons y ys =>
      show (x ++ g ++ Str.join g (y :: ys)).length ≤ _
      rw [Str.length_append, Str.length_append]
      unfold sumLen at ih ⊢
      rw [List.map_cons, List.sum_cons, List.length_cons, Nat.succ_mul]
      omega
theorem split_ok {w y : Str} {parts : List Str} (h : Txt.split w y = parts) (hy : (y.length == 0) = false) (hz : w.length ≤ 16000000) : dSplit w (.str y) = some (.lst (parts.map .str)) := by
  show (if (y.length == 0) = false ∧ w.length ≤ 16000000 then some (D.lst ((Txt.split w y).map .str)) else none) = _
  rw [if_pos ⟨hy, hz⟩, h]
theorem dash_tl : TL.tl ("-" : Str) = 45 :: [] := by decide +kernel
theorem blank_tl : TL.tl (" " : Str) = 32 :: [] := by decide +kernel
theorem times_tl : TL.tl (" x " : Str) = 32 :: [120, 32] := by decide +kernel
theorem semi_tl : TL.tl ("; " : Str) = 59 :: [32] := by decide +kernel
theorem dash_k : ("-" : Str).cps.all (· < 256) = true := by decide +kernel
theorem blank_k : (" " : Str).cps.all (· < 256) = true := by decide +kernel
theorem times_k : (" x " : Str).cps.all (· < 256) = true := by decide +kernel
theorem semi_k : ("; " : Str).cps.all (· < 256) = true := by decide +kernel
theorem dash_n : (("-" : Str).length == 0) = false := by decide +kernel
theorem blank_n : ((" " : Str).length == 0) = false := by decide +kernel
theorem times_n : ((" x " : Str).length == 0) = false := by decide +kernel
theorem semi_n : (("; " : Str).length == 0) = false := by decide +kernel
theorem dash_len : (("-" : Str)).length = 1 := by decide +kernel
theorem blank_len : ((" " : Str)).length = 1 := by decide +kernel
theorem times_len : ((" x " : Str)).length = 3 := by decide +kernel
theorem semi_len : (("; " : Str)).length = 2 := by decide +kernel
theorem num_free {i : Int} (h : ok40 i) {c : Nat} (hc : c < 48 ∨ 57 < c) : c ∉ TL.tl (numT i) := fun hm => by have := num_small h c hm; omega
abbrev PQ := Int × Int
def spanT (p : PQ) : Str := numT p.1 ++ "-" ++ numT p.2
def okP (p : PQ) : Prop := ok40 p.1 ∧ ok40 p.2
abbrev sP (p : PQ) : D := .tup [.int p.1, .int p.2]
abbrev sL (p : PQ) : D := .lst [.int p.1, .int p.2]
theorem span_join (p : PQ) : spanT p = Txt.join "-" [numT p.1, numT p.2] := by rw [TL.join_eq]; rfl
theorem spanT_len {p : PQ} (h : okP p) : (spanT p).length ≤ 81 := by
  have h1 := tI_len h.1
  have h2 := tI_len h.2
  unfold spanT
  rw [Str.length_append, Str.length_append, dash_len]; omega
theorem span_split {p : PQ} (h : okP p) : Txt.split (spanT p) "-" = [numT p.1, numT p.2] := by
  rw [span_join]
  refine TL.split_join dash_tl dash_k (by simp) fun x hx => ?_
  rcases List.mem_cons.mp hx with rfl | hx
  · exact num_free h.1 (by omega)
  · rw [List.mem_singleton.mp hx]; exact num_free h.2 (by omega)
theorem stay_of_ok {p : PQ} (h : okP p) (hp : p.1 ≤ p.2) : f_stay_of [.str (spanT p)] = .ok (sP p) [none] := by
  have hz := spanT_len h
  have lc : mLc (mOn asS (mTxt1 dSplit (mVar 0) (mC (.str "-")))) (gN 2) mYes (mCall [false] f_number_in 1 0 [0] [] (aV (mVar 2) aNil) mNil) [2] [.fz (.str (spanT p)), .un, .un] = .ok (.lst ([p.1, p.2].map D.int)) [.fz (.str (spanT p)), .un, .un] :=
    lcA_map (f := fun i => D.str (numT i)) (S := [.fz (.str (spanT p)), .un, .un]) (xs := [p.1, p.2]) D.int (on_of (txt1_of (frz_of (i := 0) rfl) rfl (split_ok (span_split h) dash_n (by omega))) rfl) (Nat.le_of_ble_eq_true rfl) rfl fun i hi => by
      have oi : ok40 i := by
        rcases List.mem_cons.mp hi with rfl | hi
        · exact h.1
        · rw [List.mem_singleton.mp hi]; exact h.2
      exact ⟨[.fz (.str (spanT p)), .un, .fz (.str (numT i))], [.fz (.str (spanT p)), .un, .fz (.str (numT i))], [.fz (.str (spanT p)), .un, .fz (.str (numT i))], rfl, rfl, call1_of (frz_of (i := 2) rfl) (number_ok oi), rfl⟩
  have s0 : b_stay_of_0 [.fz (.str (spanT p)), .un, .un] = .nx [.fz (.str (spanT p)), .ow (sL p), .un] := setOX_of lc rfl rfl rfl
  have s1 : b_stay_of_1 [.fz (.str (spanT p)), .ow (sL p), .un] = .rt (sP p) [.fz (.str (spanT p)), .fz (sL p), .un] := by
    have t1 : mB (mOp dNe (mFn dLen (mCons (mVar 1) mNil)) (mC (.int 2))) [.fz (.str (spanT p)), .ow (sL p), .un] = .ok false [.fz (.str (spanT p)), .fz (sL p), .un] :=
      bool_of (op_of (fn1_of (own_of (i := 1) rfl) (z := .int 2) rfl) rfl (by kernel_rfl))
    have t2 : mB (mOp dIn2 (mC .non) (mVar 1)) [.fz (.str (spanT p)), .fz (sL p), .un] = .ok false [.fz (.str (spanT p)), .fz (sL p), .un] :=
      bool_of (op_of rfl (frz_of (i := 1) rfl) (by kernel_rfl))
    have t3 : mB (mOp dGt (mPk 1 dIx (mC (.int 0))) (mPk 1 dIx (mC (.int 1)))) [.fz (.str (spanT p)), .fz (sL p), .un] = .ok false [.fz (.str (spanT p)), .fz (sL p), .un] := by
      refine bool_of (op_of (pk_of (a := sL p) (x := sL p) (z := .int p.1) rfl rfl rfl (by kernel_rfl)) (pk_of (a := sL p) (x := sL p) (z := .int p.2) rfl rfl rfl (by kernel_rfl)) ?_)
      rw [dd_gt, decide_eq_false (by omega)]
    unfold b_stay_of_1
    refine ret_of ?_
    rw [if_of (orF_of t1 (orF_of t2 t3)), if_neg (by decide)]
    exact fn1_of (frz_of (i := 1) rfl) rfl
  rw [f_stay_of, mkF_fin]
  show fin [false] (b_stay_of [.fz (.str (spanT p)), .un, .un]) = _
  rw [b_stay_of, seq_of s0, s1]
  rfl
theorem many_of_ok {i : Int} (h : ok40 i) (hi : i ≠ 0) : f_many_of [.str (numT i)] = .ok (.int i) [none] := by
  have s0 : b_many_of_0 [.fz (.str (numT i)), .un] = .nx [.fz (.str (numT i)), .fz (.int i)] := setX_of (call1_of (frz_of (i := 0) rfl) (number_ok h)) rfl rfl rfl
  have e : dEq (.int i) (.int 0) = some (.bl false) := by
    show ((if SeqAt.shaped (.int i) = true ∧ SeqAt.shaped (.int 0) = true then some (PyData.eqv (.int i) (.int 0)) else none).map D.bl) = _
    rw [if_pos ⟨rfl, rfl⟩]
    show some (D.bl (i == 0)) = _
    rw [beq_false_of_ne hi]
  rw [f_many_of, mkF_fin]
  show fin [false] (b_many_of [.fz (.str (numT i)), .un]) = _
  have r : (mIf (mB (mOp dEq (mVar 1) (mC (.int 0)))) (mC .non) (mVar 1)) [.fz (.str (numT i)), .fz (.int i)] = .ok (.int i) [.fz (.str (numT i)), .fz (.int i)] := by
    rw [if_of (bool_of (op_of (frz_of (i := 1) rfl) (kC_of (d := .int 0)) e))]; rfl
  rw [b_many_of, seq_of s0, b_many_of_1, ret_of r]
  rfl
end Sm
set_option Elab.async false
set_option linter.all false
set_option maxRecDepth 100000
set_option maxHeartbeats 400000
namespace Sm
open PySem PySem.Spec PyProof.Rows L2
def pGet : MG := (gT 2 (Sm.gCons (gN 5) (Sm.gCons (gN 6) Sm.gNil)))
def pIter : M (List D) := (mOns enum2 (mCons (mIf (mB (mOp dNe (mVar 0) (mC (.str "-")))) (mTxt1 dSplit (mVar 0) (mVar 1)) (mLst mNil)) mNil))
abbrev S8 (w g : Str) (r : Nat) (fs ks : List D) (a b c : Sl) : List Sl := [.fz (.str w), .fz (.str g), .fz (.obj r []), .ow (.lst fs), .ow (.lst ks), a, b, c]
theorem callV_of {i : Nat} {tb : List (Nat × (List D → RF))} {fn : List D → RF} {τ τ1 : List Sl} {m : M D} {a d : D} {o : List (Option D)} (hf : funAt i tb τ = some fn) (h1 : m τ = .ok a τ1) (h : fn [a] = .ok d o) : mCallV i tb 1 (aV m aNil) τ = .ok d τ1 := by
  unfold mCallV
  rw [hf]
  show ((aV m aNil τ).bind _) = _
  unfold aV
  rw [h1]
  show callB none (fn [a]) τ1 = _
  rw [h]; rfl
theorem mark7 {τ : List Sl} {i : Nat} {d x z : D} {f : D → D → Option D} (h : τ[i]? = some (.fz d)) (h2 : f d x = some z) : mPk i f (mC x) τ = .ok z τ := by
  have p : peek i τ = some d := by unfold peek; rw [h]; rfl
  exact pk_of p rfl p h2
variable {tb : List (Nat × (List D → RF))} {c r : Nat} {fn : List D → RF} {w g : Str}
def cutOf (w g : Str) : List Str := if w = "-" then [] else Txt.split w g
end Sm
set_option Elab.async false
set_option linter.all false
set_option maxRecDepth 100000
set_option maxHeartbeats 400000
namespace Sm
open PySem PySem.Spec PyProof.Rows L2
def pBodyC (cf : D → D → Option D) (tb : List (Nat × (List D → RF))) (c : Nat) : MS := (mSeq (mSet 7 (mCallV 2 tb 1 (aV (mVar 6) aNil)))
    (mSeq (mIfS (mOr (mB (mOp dIs (mVar 7) (mC .non))) (mAnd (mB (mOp dGt (mFnP dLen 4) (mC (.int 0)))) (mB (mOp cf (mPk 7 dIx (mC (.int 0))) (mPk 4 dIx (mUn dNeg (mC (.int 1)))))))) (mRaise c 1 ["piece"] ini1 (mCons (mVar 5) mNil)) mNx)
    (mSeq (mDrop (mApp 4 (mPk 7 dIx (mC (.int 0)))))
    (mDrop (mApp 3 (mPk 7 dIx (mC (.int 1))))))))
def bPiecesC (cf : D → D → Option D) (tb : List (Nat × (List D → RF))) (c : Nat) : MS := mSeq (mParG true true 3 4 (mLst mNil) (mLst mNil)) (mSeq (mFor pIter pGet (pBodyC cf tb c)) (mRet (mFnP dTuple 3)))
variable {tb : List (Nat × (List D → RF))} {c r : Nat} {fn : List D → RF} {w g : Str}
section
variable {κ : Type} {kd : κ → D} {le : κ → κ → Bool} {cf : D → D → Option D}
theorem lastK (hle : ∀ a b, cf (kd a) (kd b) = some (.bl (le a b))) {fs : List D} {ks : List κ} {x : Str} {k : κ} {v j : D} :
    (ks = [] ∧ mOr (mB (mOp dIs (mVar 7) (mC .non))) (mAnd (mB (mOp dGt (mFnP dLen 4) (mC (.int 0)))) (mB (mOp cf (mPk 7 dIx (mC (.int 0))) (mPk 4 dIx (mUn dNeg (mC (.int 1))))))) (S8 w g r fs (ks.map kd) (.fz j) (.fz (.str x)) (.fz (.tup [kd k, v]))) = .ok false (S8 w g r fs (ks.map kd) (.fz j) (.fz (.str x)) (.fz (.tup [kd k, v])))) ∨
    ∃ init l, ks = init ++ [l] ∧ mOr (mB (mOp dIs (mVar 7) (mC .non))) (mAnd (mB (mOp dGt (mFnP dLen 4) (mC (.int 0)))) (mB (mOp cf (mPk 7 dIx (mC (.int 0))) (mPk 4 dIx (mUn dNeg (mC (.int 1))))))) (S8 w g r fs (ks.map kd) (.fz j) (.fz (.str x)) (.fz (.tup [kd k, v]))) = .ok (le k l) (S8 w g r fs (ks.map kd) (.fz j) (.fz (.str x)) (.fz (.tup [kd k, v]))) := by
  have k0 : mPk 7 dIx (mC (.int 0)) (S8 w g r fs (ks.map kd) (.fz j) (.fz (.str x)) (.fz (.tup [kd k, v]))) = .ok (kd k) (S8 w g r fs (ks.map kd) (.fz j) (.fz (.str x)) (.fz (.tup [kd k, v]))) := mark7 rfl rfl
  have ln : mFnP dLen 4 (S8 w g r fs (ks.map kd) (.fz j) (.fz (.str x)) (.fz (.tup [kd k, v]))) = .ok (.int (ks.length : Nat)) (S8 w g r fs (ks.map kd) (.fz j) (.fz (.str x)) (.fz (.tup [kd k, v]))) := by
    show Res.lift (some (D.int ((ks.map kd).length : Nat))) _ = _
    rw [List.length_map]; rfl
  have nn : mB (mOp dIs (mVar 7) (mC .non)) (S8 w g r fs (ks.map kd) (.fz j) (.fz (.str x)) (.fz (.tup [kd k, v]))) = .ok false (S8 w g r fs (ks.map kd) (.fz j) (.fz (.str x)) (.fz (.tup [kd k, v]))) := bool_of (op_of (frz_of (i := 7) rfl) (kC_of (d := .non)) rfl)
  rcases List.eq_nil_or_concat ks with rfl | ⟨init, l, hc⟩
  · exact .inl ⟨rfl, orF_of nn (andF_of (bool_of (op_of ln (kC_of (d := .int 0)) rfl)))⟩
  · rw [List.concat_eq_append] at hc
    subst hc
    have la : dIx (.lst ((init ++ [l]).map kd)) (.int (-1)) = some (kd l) := by
      rw [List.map_append]
      exact L2.atI_last (init.map kd) (kd l)
    have p4 : peek 4 (S8 w g r fs ((init ++ [l]).map kd) (.fz j) (.fz (.str x)) (.fz (.tup [kd k, v]))) = some (.lst ((init ++ [l]).map kd)) := rfl
    refine .inr ⟨init, l, rfl, orF_of nn (andT_of (bool_of (op_of ln (kC_of (d := .int 0)) ?_)) (bool_of (op_of k0 (pk_of p4 (un_of (kC_of (d := .int 1)) rfl) p4 la) (hle k l))))⟩
    rw [dd_gt, decide_eq_true (by rw [List.length_append, List.length_singleton]; omega)]
theorem fa_of (hr : 1000000 < r) (hf : tb.lookup r = some fn) {fs ks : List D} {a b t : Sl} : funAt 2 tb (S8 w g r fs ks a b t) = some fn := by
  show (if 1000000 < r ∧ ([] : List D).isEmpty = true then tb.lookup r else none) = _
  rw [if_pos ⟨hr, rfl⟩, hf]
theorem turnK_of (hle : ∀ a b, cf (kd a) (kd b) = some (.bl (le a b))) {fs : List D} {ks : List κ} {x : Str} {k : κ} {v : D} {o : List (Option D)} {j : D} {t : Sl} (hr : 1000000 < r) (hf : tb.lookup r = some fn) (h : fn [.str x] = .ok (.tup [kd k, v]) o) (hk : ∀ l ∈ ks, le k l = false) (h1 : ks.length < 10000000) (h2 : fs.length < 10000000) (ht : t.free = true) :
    pBodyC cf tb c (S8 w g r fs (ks.map kd) (.fz j) (.fz (.str x)) t) = .nx (S8 w g r (fs ++ [v]) ((ks ++ [k]).map kd) (.fz j) (.fz (.str x)) (.fz (.tup [kd k, v]))) := by
  have s1 : (mSet 7 (mCallV 2 tb 1 (aV (mVar 6) aNil))) (S8 w g r fs (ks.map kd) (.fz j) (.fz (.str x)) t) = .nx (S8 w g r fs (ks.map kd) (.fz j) (.fz (.str x)) (.fz (.tup [kd k, v]))) :=
    setX_of (callV_of (fa_of hr hf) (frz_of (i := 6) rfl) h) rfl ht rfl
  have t1 : mOr (mB (mOp dIs (mVar 7) (mC .non))) (mAnd (mB (mOp dGt (mFnP dLen 4) (mC (.int 0)))) (mB (mOp cf (mPk 7 dIx (mC (.int 0))) (mPk 4 dIx (mUn dNeg (mC (.int 1))))))) (S8 w g r fs (ks.map kd) (.fz j) (.fz (.str x)) (.fz (.tup [kd k, v]))) = .ok false (S8 w g r fs (ks.map kd) (.fz j) (.fz (.str x)) (.fz (.tup [kd k, v]))) := by
    rcases lastK (w := w) (g := g) (r := r) (fs := fs) (ks := ks) (x := x) (k := k) (v := v) (j := j) hle with ⟨_, e⟩ | ⟨init, l, rfl, e⟩
    · exact e
    · rw [e, hk l (List.mem_append_right _ (List.mem_singleton.mpr rfl))]
  have k0 : mPk 7 dIx (mC (.int 0)) (S8 w g r fs (ks.map kd) (.fz j) (.fz (.str x)) (.fz (.tup [kd k, v]))) = .ok (kd k) (S8 w g r fs (ks.map kd) (.fz j) (.fz (.str x)) (.fz (.tup [kd k, v]))) := mark7 rfl rfl
  have s3 : (mDrop (mApp 4 (mPk 7 dIx (mC (.int 0))))) (S8 w g r fs (ks.map kd) (.fz j) (.fz (.str x)) (.fz (.tup [kd k, v]))) = .nx (S8 w g r fs ((ks ++ [k]).map kd) (.fz j) (.fz (.str x)) (.fz (.tup [kd k, v]))) :=
    appX_of rfl k0 rfl (by rw [List.length_map]; omega) (by rw [List.map_append]; rfl)
  have s4 : (mDrop (mApp 3 (mPk 7 dIx (mC (.int 1))))) (S8 w g r fs ((ks ++ [k]).map kd) (.fz j) (.fz (.str x)) (.fz (.tup [kd k, v]))) = .nx (S8 w g r (fs ++ [v]) ((ks ++ [k]).map kd) (.fz j) (.fz (.str x)) (.fz (.tup [kd k, v]))) :=
    appX_of rfl (mark7 (x := .int 1) rfl rfl) rfl (by omega) rfl
  unfold pBodyC
  rw [seq_of s1, seq_of (τ1 := S8 w g r fs (ks.map kd) (.fz j) (.fz (.str x)) (.fz (.tup [kd k, v]))) (by rw [ifF_of t1]; rfl), seq_of s3, s4]
theorem mseq_exc {sa sb : MS} {τ τ1 : List Sl} {i : Nat} {xs : List D} (h : sa τ = .exc i xs τ1) : mSeq sa sb τ = .exc i xs τ1 := by
  show (sa τ).then sb = _
  rw [h]; rfl
theorem turnN_of {fs ks : List D} {x : Str} {o : List (Option D)} {j : D} {t : Sl} (hr : 1000000 < r) (hf : tb.lookup r = some fn) (h : fn [.str x] = .ok .non o) (ht : t.free = true) :
    ∃ τ', pBodyC cf tb c (S8 w g r fs ks (.fz j) (.fz (.str x)) t) = .exc c [.exc c ["piece"] [j]] τ' := by
  have s1 : (mSet 7 (mCallV 2 tb 1 (aV (mVar 6) aNil))) (S8 w g r fs ks (.fz j) (.fz (.str x)) t) = .nx (S8 w g r fs ks (.fz j) (.fz (.str x)) (.fz .non)) :=
    setX_of (callV_of (fa_of hr hf) (frz_of (i := 6) rfl) h) rfl ht rfl
  have t1 : mOr (mB (mOp dIs (mVar 7) (mC .non))) (mAnd (mB (mOp dGt (mFnP dLen 4) (mC (.int 0)))) (mB (mOp cf (mPk 7 dIx (mC (.int 0))) (mPk 4 dIx (mUn dNeg (mC (.int 1))))))) (S8 w g r fs ks (.fz j) (.fz (.str x)) (.fz .non)) = .ok true (S8 w g r fs ks (.fz j) (.fz (.str x)) (.fz .non)) :=
    orT_of (bool_of (op_of (frz_of (i := 7) rfl) (kC_of (d := .non)) rfl))
  refine ⟨S8 w g r fs ks (.fz j) (.fz (.str x)) (.fz .non), ?_⟩
  unfold pBodyC
  rw [seq_of s1]
  refine mseq_exc ?_
  rw [ifT_of t1]
  rfl
theorem turnL_of (hle : ∀ a b, cf (kd a) (kd b) = some (.bl (le a b))) {fs : List D} {init : List κ} {l : κ} {x : Str} {k : κ} {v : D} {o : List (Option D)} {j : D} {t : Sl} (hr : 1000000 < r) (hf : tb.lookup r = some fn) (h : fn [.str x] = .ok (.tup [kd k, v]) o) (hk : le k l = true) (ht : t.free = true) :
    ∃ τ', pBodyC cf tb c (S8 w g r fs ((init ++ [l]).map kd) (.fz j) (.fz (.str x)) t) = .exc c [.exc c ["piece"] [j]] τ' := by
  have s1 : (mSet 7 (mCallV 2 tb 1 (aV (mVar 6) aNil))) (S8 w g r fs ((init ++ [l]).map kd) (.fz j) (.fz (.str x)) t) = .nx (S8 w g r fs ((init ++ [l]).map kd) (.fz j) (.fz (.str x)) (.fz (.tup [kd k, v]))) :=
    setX_of (callV_of (fa_of hr hf) (frz_of (i := 6) rfl) h) rfl ht rfl
  refine ⟨S8 w g r fs ((init ++ [l]).map kd) (.fz j) (.fz (.str x)) (.fz (.tup [kd k, v])), ?_⟩
  unfold pBodyC
  rw [seq_of s1]
  rcases lastK (w := w) (g := g) (r := r) (fs := fs) (ks := init ++ [l]) (x := x) (k := k) (v := v) (j := j) hle with ⟨z, _⟩ | ⟨i2, l2, z, e⟩
  · exact absurd z (by simp)
  · have : l = l2 := by
      have := congrArg List.getLast? z
      simpa using this
    subst this
    rw [hk] at e
    refine mseq_exc ?_
    rw [ifT_of e]
    rfl
theorem enumD_append {xs ys : List D} : ∀ (k : Int), enumD k (xs ++ ys) = enumD k xs ++ enumD (k + xs.length) ys := by
  induction xs with
  | nil => intro k; show enumD k ys = enumD (k + ((0 : Nat) : Int)) ys; rw [show k + ((0 : Nat) : Int) = k by omega]
  | cons x xs ih =>
    intro k
    show D.tup [.int k, x] :: enumD (k + 1) (xs ++ ys) = _
    rw [ih]
    show _ = D.tup [.int k, x] :: (enumD (k + 1) xs ++ _)
    rw [List.length_cons, show k + 1 + (xs.length : Int) = k + ((xs.length + 1 : Nat) : Int) by omega]
theorem get_of {fs ks : List D} {a b t : Sl} {k0 : Int} {x : Str} (fa : a.free = true) (fb : b.free = true) : pGet (.tup [.int k0, .str x]) (S8 w g r fs ks a b t) = some (S8 w g r fs ks (.fz (.int k0)) (.fz (.str x)) t) := by
  show ((if a.free = true then some _ else none).bind _) = _
  rw [if_pos fa]
  show ((if b.free = true then some _ else none).bind _) = _
  rw [if_pos fb]; rfl
theorem loopK_of {α : Type} {tx : α → Str} {ky : α → κ} {vl : α → D} (hle : ∀ a b, cf (kd a) (kd b) = some (.bl (le a b))) (hr : 1000000 < r) (hf : tb.lookup r = some fn) (rest : List D) : ∀ (ps : List α) (k0 : Int) (fs : List D) (ks : List κ) (a b t : Sl), (∀ p ∈ ps, ∃ o, fn [.str (tx p)] = .ok (.tup [kd (ky p), vl p]) o) → ps.Pairwise (fun p q => le (ky q) (ky p) = false) → (∀ l ∈ ks, ∀ p ∈ ps, le (ky p) l = false) →
    ks.length + ps.length < 10000000 → fs.length + ps.length < 10000000 → a.free = true → b.free = true → t.free = true →
    ∃ a' b' t', a'.free = true ∧ b'.free = true ∧ t'.free = true ∧ mLoop pGet (pBodyC cf tb c) (enumD k0 (ps.map fun p => .str (tx p)) ++ rest) (S8 w g r fs (ks.map kd) a b t) = mLoop pGet (pBodyC cf tb c) rest (S8 w g r (fs ++ ps.map vl) ((ks ++ ps.map ky).map kd) a' b' t')
  | [], k0, fs, ks, a, b, t, _, _, _, _, _, fa, fb, ft => ⟨a, b, t, fa, fb, ft, by simp only [List.map_nil, List.append_nil]; rfl⟩
  | p :: ps, k0, fs, ks, a, b, t, h, hp, hk, h1, h2, fa, fb, ft => by
    rw [List.length_cons] at h1 h2
    obtain ⟨o, e⟩ := h p List.mem_cons_self
    obtain ⟨hp1, hp2⟩ := List.pairwise_cons.mp hp
    obtain ⟨a', b', t', fa', fb', ft', ih⟩ := loopK_of hle hr hf rest ps (k0 + 1) (fs ++ [vl p]) (ks ++ [ky p]) (.fz (.int k0)) (.fz (.str (tx p))) (.fz (.tup [kd (ky p), vl p])) (fun q hq => h q (List.mem_cons_of_mem _ hq)) hp2 (fun l hl q hq => by
      rcases List.mem_append.mp hl with hl | hl
      · exact hk l hl q (List.mem_cons_of_mem _ hq)
      · rw [List.mem_singleton.mp hl]; exact hp1 q hq) (by rw [List.length_append, List.length_singleton]; omega) (by rw [List.length_append, List.length_singleton]; omega) rfl rfl rfl
    refine ⟨a', b', t', fa', fb', ft', ?_⟩
    rw [List.map_cons]
    show mLoop pGet (pBodyC cf tb c) (.tup [.int k0, .str (tx p)] :: (enumD (k0 + 1) (ps.map fun p => .str (tx p)) ++ rest)) _ = _
    unfold mLoop
    rw [get_of fa fb]
    show (match pBodyC cf tb c _ with | .nx τ => mLoop pGet (pBodyC cf tb c) _ τ | .ct τ => mLoop pGet (pBodyC cf tb c) _ τ | .bk τ => .nx τ | r => r) = _
    rw [turnK_of hle hr hf e (fun l hl => hk l hl p List.mem_cons_self) (by omega) (by omega) ft]
    refine Eq.trans ih ?_
    simp only [List.map_cons, List.append_assoc, List.singleton_append]
    cases rest <;> rfl
theorem iter_of {xs : List Str} (hw : okT w = true) (hc : cutOf w g = xs) (hg : (g.length == 0) = false) (hz : w.length ≤ 1000000) (hn : xs.length ≤ 1000000) :
    pIter (S8 w g r [] [] .un .un .un) = .ok (enumD 0 (xs.map .str)) (S8 w g r [] [] .un .un .un) := by
  have ok2 : okT ("-" : Str) = true := by decide +kernel
  have e : mIf (mB (mOp dNe (mVar 0) (mC (.str "-")))) (mTxt1 dSplit (mVar 0) (mVar 1)) (mLst mNil) (S8 w g r [] [] .un .un .un) = .ok (.lst (xs.map .str)) (S8 w g r [] [] .un .un .un) := by
    rw [if_of (bool_of (op_of (frz_of (i := 0) rfl) (kC_of (d := .str "-")) (ne_str hw ok2)))]
    unfold cutOf at hc
    by_cases hd : w = "-"
    · rw [if_pos hd] at hc
      rw [decide_eq_true hd, ← hc]; rfl
    · rw [if_neg hd] at hc
      rw [decide_eq_false hd]
      exact txt1_of (f := dSplit) (mo := mVar 0) (me := mVar 1) (τ := S8 w g r [] [] .un .un .un) (frz_of (i := 0) rfl) (frz_of (i := 1) rfl) (split_ok hc hg (by omega))
  unfold pIter
  exact ons_of (cons_of e nil_of) rfl
theorem piecesK_of {α : Type} {tx : α → Str} {ky : α → κ} {vl : α → D} {ps : List α} (hle : ∀ a b, cf (kd a) (kd b) = some (.bl (le a b))) (hr : 1000000 < r) (hf : tb.lookup r = some fn) (hw : okT w = true) (hc : cutOf w g = ps.map tx) (hg : (g.length == 0) = false) (hz : w.length ≤ 1000000) (hn : ps.length ≤ 1000000)
    (h : ∀ p ∈ ps, ∃ o, fn [.str (tx p)] = .ok (.tup [kd (ky p), vl p]) o) (hp : ps.Pairwise (fun p q => le (ky q) (ky p) = false)) :
    mkF 8 [false, false, false] (bPiecesC cf tb c) [.str w, .str g, .obj r []] = .ok (.tup (ps.map vl)) [none, none, none] := by
  have it := iter_of (r := r) hw hc hg hz (by rw [List.length_map]; exact hn)
  rw [List.map_map] at it
  obtain ⟨a', b', t', _, _, _, lp⟩ := loopK_of (w := w) (g := g) (c := c) (tx := tx) (ky := ky) (vl := vl) hle hr hf [] ps 0 [] [] .un .un .un h hp (fun l hl => nomatch hl) (by simp; omega) (by simp; omega) rfl rfl rfl
  rw [List.append_nil] at lp
  rw [mkF_fin]
  refine Eq.trans (if_pos rfl) ?_
  show fin [false, false, false] (bPiecesC cf tb c [.fz (.str w), .fz (.str g), .fz (.obj r []), .un, .un, .un, .un, .un]) = _
  have s0 : (mParG true true 3 4 (mLst mNil) (mLst mNil)) [.fz (.str w), .fz (.str g), .fz (.obj r []), .un, .un, .un, .un, .un] = .nx (S8 w g r [] [] .un .un .un) := rfl
  have s1 : mFor pIter pGet (pBodyC cf tb c) (S8 w g r [] [] .un .un .un) = .nx (S8 w g r (ps.map vl) ((ps.map ky).map kd) a' b' t') := by
    rw [for_of it]
    exact lp
  unfold bPiecesC
  rw [seq_of s0, seq_of s1]
  rfl
theorem pieces_bad {α : Type} {tx : α → Str} {ky : α → κ} {vl : α → D} {ps : List α} {x : Str} {more : List Str} (hle : ∀ a b, cf (kd a) (kd b) = some (.bl (le a b))) (hr : 1000000 < r) (hf : tb.lookup r = some fn) (hw : okT w = true) (hc : cutOf w g = ps.map tx ++ x :: more) (hg : (g.length == 0) = false) (hz : w.length ≤ 1000000) (hn : ps.length + more.length < 1000000)
    (h : ∀ p ∈ ps, ∃ o, fn [.str (tx p)] = .ok (.tup [kd (ky p), vl p]) o) (hp : ps.Pairwise (fun p q => le (ky q) (ky p) = false))
    (hx : (∃ o, fn [.str x] = .ok .non o) ∨ ∃ o k v init l, fn [.str x] = .ok (.tup [kd k, v]) o ∧ ps = init ++ [l] ∧ le k (ky l) = true) :
    mkF 8 [false, false, false] (bPiecesC cf tb c) [.str w, .str g, .obj r []] = .exc c [.exc c ["piece"] [.int (ps.length : Nat)]] := by
  have it := iter_of (r := r) hw hc hg hz (by rw [List.length_append, List.length_map, List.length_cons]; omega)
  rw [List.map_append, List.map_map, enumD_append, List.length_map] at it
  obtain ⟨a', b', t', fa, fb, ft, lp⟩ := loopK_of (w := w) (g := g) (c := c) (tx := tx) (ky := ky) (vl := vl) hle hr hf (enumD (0 + (ps.length : Nat)) ((x :: more).map .str)) ps 0 [] [] .un .un .un h hp (fun l hl => nomatch hl) (by simp; omega) (by simp; omega) rfl rfl rfl
  rw [mkF_fin]
  refine Eq.trans (if_pos rfl) ?_
  show fin [false, false, false] (bPiecesC cf tb c [.fz (.str w), .fz (.str g), .fz (.obj r []), .un, .un, .un, .un, .un]) = _
  have s0 : (mParG true true 3 4 (mLst mNil) (mLst mNil)) [.fz (.str w), .fz (.str g), .fz (.obj r []), .un, .un, .un, .un, .un] = .nx (S8 w g r [] [] .un .un .un) := rfl
  have bd : ∃ τ', pBodyC cf tb c (S8 w g r (ps.map vl) ((ps.map ky).map kd) (.fz (.int (0 + (ps.length : Nat)))) (.fz (.str x)) t') = .exc c [.exc c ["piece"] [.int (0 + (ps.length : Nat))]] τ' := by
    rcases hx with ⟨o, e⟩ | ⟨o, k, v, init, l, e, rfl, hl⟩
    · exact turnN_of hr hf e ft
    · have := turnL_of (w := w) (g := g) (c := c) (fs := (init ++ [l]).map vl) (init := init.map ky) (l := ky l) (j := .int (0 + ((init ++ [l]).length : Nat))) hle hr hf e hl ft
      rw [List.map_append (f := ky)]
      exact this
  obtain ⟨τ', bd⟩ := bd
  have s1 : mFor pIter pGet (pBodyC cf tb c) (S8 w g r [] [] .un .un .un) = .exc c [.exc c ["piece"] [.int (ps.length : Nat)]] τ' := by
    rw [for_of it]
    refine Eq.trans lp ?_
    rw [List.map_cons]
    show mLoop pGet (pBodyC cf tb c) (.tup [.int (0 + (ps.length : Nat)), .str x] :: enumD (0 + (ps.length : Nat) + 1) (more.map .str)) _ = _
    unfold mLoop
    rw [get_of fa fb]
    show (match pBodyC cf tb c _ with | .nx τ => mLoop pGet (pBodyC cf tb c) _ τ | .ct τ => mLoop pGet (pBodyC cf tb c) _ τ | .bk τ => .nx τ | r => r) = _
    rw [List.nil_append, List.nil_append, bd, Int.zero_add]
  unfold bPiecesC
  rw [seq_of s0, mseq_exc s1]
  rfl
end
end Sm
set_option Elab.async false
set_option linter.all false
set_option maxRecDepth 100000
set_option maxHeartbeats 400000
namespace Sm
open PySem PySem.Spec PyProof.Rows L2
theorem dd_fdivB {a b : Int} (h : 0 < b) (h2 : b.natAbs < 2 ^ 4000) : dFdiv (.int a) (.int b) = some (.int (a / b)) := by
  have u : ∀ x y : Int, dFdiv (.int x) (.int y) = if 0 < y ∧ y.natAbs < 2 ^ 8000 then some (D.int (x / y)) else none := fun _ _ => rfl
  rw [u, if_pos ⟨h, Nat.lt_of_lt_of_le h2 (Nat.pow_le_pow_right (by decide) (by decide))⟩]
theorem take_big {k n : Int} {d : D} (h : Box k d) (hk : 1 ≤ k) (hn : 0 < n) (hn2 : n.natAbs < 2 ^ 4000) : ∃ r d', f_take [d, .int n] = .ok (.int r) [some d', none] ∧ 0 ≤ r ∧ r < n ∧ Box (k - 1) d' := by
  obtain ⟨a, b, c, rfl, h1, h2, h3, h4, h5⟩ := h
  by_cases ha : 0 < a
  · have t : f_take [bx a b c, .int n] = .ok (.int (a % n)) [some (bx (a / n) b c), none] := by
      simp [f_take, mkF, b_take, argS, bx, ha, hn, dd_fdivB hn hn2, outD, outE]
    exact ⟨_, _, t, Int.emod_nonneg _ (by omega), Int.emod_lt_of_pos _ hn, a / n, b, c, rfl, Int.ediv_nonneg h1 (by omega), h2, h3, h4, by omega⟩
  · exact ⟨_, _, take2 (by omega) h2 h3 h4 (by omega) hn, Int.emod_nonneg _ (by omega), Int.emod_lt_of_pos _ hn, a, b, c + 1, rfl, h1, h2, h3, by omega, by omega⟩
theorem take_bigD {k n : Int} {d : D} {τ : List Sl} {mq : M D} (h : Box k d) (hk : 1 ≤ k) (hn : 0 < n) (hn2 : n.natAbs < 2 ^ 4000) (hm : mq (.io 0 d :: τ) = .ok (.int n) (.io 0 d :: τ)) :
    ∃ (r : Int) (d' : D), 0 ≤ r ∧ r < n ∧ Box (k - 1) d' ∧ mCall [true, false] f_take 2 0 [0, 1] [] (aIo 0 (aV mq aNil)) mNil (.io 0 d :: τ) = .ok (.int r) (.io 0 d' :: τ) := by
  obtain ⟨r, d', e, a, b, hb⟩ := take_big h hk hn hn2
  exact ⟨r, d', a, b, hb, ioc2 (τ := .io 0 d :: τ) (i := 0) (j := 0) (mn := mq) e (.inl rfl) hm⟩
theorem par2_of {τ τ1 τ2 τ3 : List Sl} {i j : Nat} {ma mb : M D} {a b : D} (h1 : ma τ = .ok a τ1) (h2 : mb τ1 = .ok b τ2) (h3 : (setFz i a τ2).bind (setFz j b) = some τ3) : mPar i j ma mb τ = .nx τ3 := by
  show (ma τ).st _ = _
  rw [h1]
  show (mb τ1).st _ = _
  rw [h2]
  show SR.opt _ = _
  rw [h3]; rfl
theorem join_tl_mem {g : Str} {P : Nat → Prop} (hg : ∀ c ∈ TL.tl g, P c) : ∀ {xs : List Str}, (∀ x ∈ xs, ∀ c ∈ TL.tl x, P c) → ∀ c ∈ TL.tl (Txt.join g xs), P c := by
  intro xs h
  rw [TL.join_eq]
  induction xs with
  | nil => intro c hc; cases hc
  | cons x xs ih =>
    cases xs with
    | nil => exact h x List.mem_cons_self
    | cons y ys =>
      intro c hc
      have hc : c ∈ TL.tl (x ++ g ++ Str.join g (y :: ys)) := hc
      rw [TL.tl_append, TL.tl_append] at hc
      rcases List.mem_append.mp hc with hc | hc
      · rcases List.mem_append.mp hc with hc | hc
        · exact h x List.mem_cons_self c hc
        · exact hg c hc
      · exact ih (fun z hz => h z (List.mem_cons_of_mem _ hz)) c hc
theorem num_head {i : Int} (h : ok40 i) : ∃ c r, TL.tl (numT i) = c :: r ∧ 48 ≤ c := by
  obtain ⟨n, rfl, hn⟩ := ok40_nat h
  rw [tl_num']
  cases e : TL.numL n with
  | nil => exact absurd e (TL.numL_ne n)
  | cons c r =>
    have := TL.numL_digits n c (by rw [e]; exact List.mem_cons_self)
    exact ⟨c, r, rfl, this.1⟩
theorem ioc2d {fn : List D → RF} {d d1 a v d' : D} {τ : List Sl} {mn : M D} (hm : mn (.io 0 d :: τ) = .ok a (.io 0 d1 :: τ)) (h : fn [d1, a] = .ok v [some d', none]) :
    mCall [true, false] fn 2 0 [0, 1] [] (aIo 0 (aV mn aNil)) mNil (.io 0 d :: τ) = .ok v (.io 0 d' :: τ) := by
  have c : callR [true, false] fn [.io 0, .v a] (.io 0 d1 :: τ) = .ok v (.io 0 d' :: τ) := by
    rw [call_io_v (τ := .io 0 d1 :: τ) (i := 0) rfl rfl, h]; rfl
  have s : aIo 0 (aV mn aNil) (.io 0 d :: τ) = .ok [.io 0, .v a] (.io 0 d1 :: τ) := by
    unfold aIo
    show ((aV mn aNil (.io 0 d :: τ)).bind _) = _
    unfold aV
    rw [hm]; rfl
  show ((aIo 0 (aV mn aNil) (.io 0 d :: τ)).bind _) = _
  rw [s]
  exact c
theorem lc_go {g : MG} {tt : M Bool} {m : M D} {vs : List Nat} {mi : M (List D)} {S0 S S' : List Sl} {ds ys : List D} (h1 : mi S0 = .ok ds S) (hz : ds.length ≤ 16000000) (hu : allUn S vs = true) (h : mLcGo g tt m vs ds S = .ok ys S') : mLc mi g tt m vs S0 = .ok (.lst ys) S' := by
  show (mi S0).bind _ = _
  rw [h1]
  show lcEnd g tt m vs ds S = _
  unfold lcEnd
  rw [if_pos ⟨hz, hu⟩, h]
  rfl
theorem pre_free {c : Nat} {S p : List Nat} (h : c ∈ S) (hp : c ∉ p) (i : Nat) : TL.pre S (p.drop i) = false := by
  cases e : TL.pre S (p.drop i) with
  | false => rfl
  | true =>
    have e1 : (p.drop i).take S.length = S := eq_of_beq e
    exact absurd (List.mem_of_mem_drop (List.mem_of_mem_take (by rw [e1]; exact h))) hp
theorem in_digitsB (c : Nat) : dInSg (.str ⟨#[c]⟩) (.str "0123456789") = some (.bl (decide (48 ≤ c ∧ c ≤ 57))) := by
  show some (D.bl (decide (c ∈ TL.tl ("0123456789" : Str)))) = _
  rw [digits_tl]
  congr 2
  refine decide_eq_decide.mpr ?_
  simp only [List.mem_cons, List.not_mem_nil, or_false]
  omega
theorem digs_not {w : Str} {c : Nat} (hc : c ∈ TL.tl w) (h : ¬ (48 ≤ c ∧ c ≤ 57)) (hz : w.length ≤ 16000000) : mFn dAll (mCons (mLc (mOn asTx (mVar 0)) (gN 1) mYes (mOp dInSg (mVar 1) (mC (.str "0123456789"))) [1]) mNil) [.fz (.str w), .un] = .ok (.bl false) [.fz (.str w), .un] := by
  have lc : mLc (mOn asTx (mVar 0)) (gN 1) mYes (mOp dInSg (mVar 1) (mC (.str "0123456789"))) [1] [.fz (.str w), .un] = .ok (.lst ((TL.tl w).map fun c => .bl (decide (48 ≤ c ∧ c ≤ 57)))) [.fz (.str w), .un] :=
    lcA_map (f := fun c => D.str ⟨#[c]⟩) (S := [.fz (.str w), .un]) (xs := TL.tl w) (fun c => .bl (decide (48 ≤ c ∧ c ≤ 57))) rfl (by rw [← TL.len_tl]; exact hz) rfl fun c hc =>
      ⟨[.fz (.str w), .fz (.str ⟨#[c]⟩)], [.fz (.str w), .fz (.str ⟨#[c]⟩)], [.fz (.str w), .fz (.str ⟨#[c]⟩)], rfl, rfl, op_of (frz_of (i := 1) rfl) rfl (in_digitsB c), rfl⟩
  refine fn1_of lc ?_
  rw [all_of]
  congr 2
  cases e : (TL.tl w).all fun c => decide (48 ≤ c ∧ c ≤ 57) with
  | false => rfl
  | true => exact absurd (of_decide_eq_true (List.all_eq_true.mp e c hc)) h
theorem number_none {w : Str} {c : Nat} (ok : okT w = true) (hc : c ∈ TL.tl w) (h : ¬ (48 ≤ c ∧ c ≤ 57)) (hz : w.length ≤ 16000000) : f_number_in [.str w] = .ok .non [none] := by
  have q1 : mB (mOp dEq (mVar 0) (mC (.str ""))) [.fz (.str w), .un] = .ok false [.fz (.str w), .un] := by
    refine bool_of (op_of (frz_of (i := 0) rfl) rfl ?_)
    rw [eq_str ok okT_c0, eq_tl (by rw [nil_tl]; exact fun e => by rw [e] at hc; cases hc)]
  have q2 := digs_not hc h hz
  rw [f_number_in, mkF_fin]
  show fin [false] (b_number_in [.fz (.str w), .un]) = _
  have s0 : b_number_in_0 [.fz (.str w), .un] = .rt .non [.fz (.str w), .un] := by
    unfold b_number_in_0
    rw [ifT_of (orF_of q1 (orT_of (not_of (bool_of q2))))]; rfl
  show fin [false] ((b_number_in_0 [.fz (.str w), .un]).then b_number_in_1) = _
  rw [s0]; rfl
theorem number_zero {w : Str} {r : List Nat} (h : ∀ c ∈ TL.tl w, 48 ≤ c ∧ c ≤ 57) (hw : TL.tl w = 48 :: r) (hr : r ≠ []) (hz : w.length ≤ 16000000) : f_number_in [.str w] = .ok .non [none] := by
  have ok : okT w = true := okT_tl fun c hc => by have := h c hc; omega
  have ix : dIx (.str w) (.int 0) = some (.str ⟨#[48]⟩) := by
    show (if w.length ≤ 16000000 then (L2.atI (TL.tl w) 0).map fun c => D.str ⟨#[c]⟩ else none) = _
    rw [if_pos hz, hw, show L2.atI (48 :: r) 0 = some 48 from atI_nat (xs := 48 :: r) (j := 0) (v := 48) rfl]; rfl
  have q1 : mB (mOp dEq (mVar 0) (mC (.str ""))) [.fz (.str w), .un] = .ok false [.fz (.str w), .un] := by
    refine bool_of (op_of (frz_of (i := 0) rfl) rfl ?_)
    rw [eq_str ok okT_c0, eq_tl (by rw [hw, nil_tl]; exact fun h => nomatch h)]
  have q2 := digs_ok h hz
  have okc : okT (⟨#[48]⟩ : Str) = true := by decide +kernel
  have z0 : (⟨#[48]⟩ : Str) = "0" := by decide +kernel
  have q3 : mAnd (mB (mOp dEq (mPk 0 dIx (mC (.int 0))) (mC (.str "0")))) (mB (mOp dNe (mVar 0) (mC (.str "0")))) [.fz (.str w), .un] = .ok true [.fz (.str w), .un] := by
    refine andT_of (bool_of (op_of (pk_of (a := .str w) (x := .str w) rfl rfl rfl ix) rfl ?_)) (bool_of (op_of (frz_of (i := 0) rfl) rfl ?_))
    · rw [eq_str okc okT_c1, decide_eq_true z0]
    · rw [ne_str ok okT_c1, eq_tl (by rw [hw, zero_tl]; exact fun e => hr (by injection e))]; rfl
  rw [f_number_in, mkF_fin]
  show fin [false] (b_number_in [.fz (.str w), .un]) = _
  have s0 : b_number_in_0 [.fz (.str w), .un] = .rt .non [.fz (.str w), .un] := by
    unfold b_number_in_0
    rw [ifT_of (orF_of q1 (orF_of (not_of (bool_of q2)) q3))]; rfl
  show fin [false] ((b_number_in_0 [.fz (.str w), .un]).then b_number_in_1) = _
  rw [s0]; rfl
end Sm
set_option Elab.async false
set_option linter.all false
set_option maxRecDepth 100000
set_option maxHeartbeats 400000
namespace Sm
open PySem PySem.Spec PyProof.Rows L2
def b_is_number : MS := (mRet (mAndV (mFn (dIsi "int") (mCons (mVar 0) mNil)) (mNotV (mFn (dIsi "bool") (mCons (mVar 0) mNil)))))
def f_is_number : List D → RF := mkF 1 [false] b_is_number
def b_is_tick : MS := (mRet (mAndV (mCall [false] f_is_number 1 0 [0] [] (aV (mVar 0) aNil) mNil) (mOp dGe (mVar 0) (mC (.int 0)))))
def f_is_tick : List D → RF := mkF 1 [false] b_is_tick
def b_is_stay_0 : MS := (mIfS (mOr (mNot (mB (mFn (dIsi "tuple") (mCons (mVar 0) mNil)))) (mOr (mB (mOp dNe (mFn dLen (mCons (mVar 0) mNil)) (mC (.int 2)))) (mNot (mB (mFn dAll (mCons (mLc (mOn asS (mVar 0)) (gN 1) mYes (mCall [false] f_is_tick 1 0 [0] [] (aV (mVar 1) aNil) mNil) [1]) mNil)))))) (mRet (mC (.bl false))) mNx)
def b_is_stay_1 : MS := (mRet (mOp dLe (mPk 0 dIx (mC (.int 0))) (mPk 0 dIx (mC (.int 1)))))
def b_is_stay : MS := (mSeq b_is_stay_0 b_is_stay_1)
def f_is_stay : List D → RF := mkF 2 [false] b_is_stay
def b_lies_in : MS := (mRet (mAndV (mOp dLe (mPk 1 dIx (mC (.int 0))) (mPk 0 dIx (mC (.int 0)))) (mOp dLe (mPk 0 dIx (mC (.int 1))) (mPk 1 dIx (mC (.int 1))))))
def f_lies_in : List D → RF := mkF 2 [false, false] b_lies_in
def b_size_of : MS := (mRet (mOp dAdd (mOp dSub (mPk 0 dIx (mC (.int 1))) (mPk 0 dIx (mC (.int 0)))) (mC (.int 1))))
def f_size_of : List D → RF := mkF 1 [false] b_size_of
def b_is_wider : MS := (mRet (mAndV (mCall [false, false] f_lies_in 2 0 [0, 1] [] (aV (mVar 0) (aV (mVar 1) aNil)) mNil) (mOp dLt (mCall [false] f_size_of 1 0 [0] [] (aV (mVar 0) aNil) mNil) (mCall [false] f_size_of 1 0 [0] [] (aV (mVar 1) aNil) mNil))))
def f_is_wider : List D → RF := mkF 2 [false, false] b_is_wider
def b_is_move_0 : MS := (mIfS (mOr (mNot (mB (mFn (dIsi "tuple") (mCons (mVar 0) mNil)))) (mOr (mNot (mB (mCh dLe dLe (mC (.int 2)) (mFn dLen (mCons (mVar 0) mNil)) (mC (.int 3))))) (mNot (mB (mCall [false] f_is_stay 1 0 [0] [] (aV (mPk 0 dIx (mC (.int 1))) aNil) mNil))))) (mRet (mC (.bl false))) mNx)
def b_is_move_1 : MS := (mIfS (mB (mOp dEq (mFn dLen (mCons (mVar 0) mNil)) (mC (.int 2)))) (mRet (mAndV (mFn (dIsi "str") (mCons (mPk 0 dIx (mC (.int 0))) mNil)) (mOp dEq (mPk 0 dIx (mC (.int 0))) (mC (.str "new"))))) mNx)
def b_is_move_2 : MS := (mAsg (gT 3 (Sm.gCons (gN 1) (Sm.gCons (gN 2) (Sm.gCons (gN 3) Sm.gNil)))) (mVar 0))
def b_is_move_3 : MS := (mIfS (mNot (mB (mFn (dIsi "str") (mCons (mVar 1) mNil)))) (mRet (mC (.bl false))) mNx)
def b_is_move_4 : MS := (mIfS (mB (mOp dEq (mVar 1) (mC (.str "split")))) (mRet (mAndV (mCall [false] f_is_tick 1 0 [0] [] (aV (mVar 3) aNil) mNil) (mCh dLe dLt (mPk 2 dIx (mC (.int 0))) (mVar 3) (mPk 2 dIx (mC (.int 1)))))) mNx)
def b_is_move_5 : MS := (mIfS (mOr (mB (mOp dNotIn2 (mVar 1) (mTup (mCons (mC (.str "longer")) (mCons (mC (.str "cross")) mNil))))) (mNot (mB (mCall [false] f_is_stay 1 0 [0] [] (aV (mVar 3) aNil) mNil)))) (mRet (mC (.bl false))) mNx)
def b_is_move_6 : MS := (mRet (mIf (mB (mOp dEq (mVar 1) (mC (.str "longer")))) (mCall [false, false] f_is_wider 2 0 [0, 1] [] (aV (mVar 2) (aV (mVar 3) aNil)) mNil) (mAndV (mOp dLt (mPk 2 dIx (mC (.int 0))) (mPk 3 dIx (mC (.int 0)))) (mOp dLt (mPk 3 dIx (mC (.int 1))) (mPk 2 dIx (mC (.int 1)))))))
def b_is_move : MS := (mSeq b_is_move_0 (mSeq b_is_move_1 (mSeq b_is_move_2 (mSeq b_is_move_3 (mSeq b_is_move_4 (mSeq b_is_move_5 b_is_move_6))))))
def f_is_move : List D → RF := mkF 4 [false] b_is_move
def b_part_of : MS := (mRet (mIf (mB (mOp dInSg (mC (.str "-")) (mVar 0))) (mCall [false] f_stay_of 1 0 [0] [] (aV (mVar 0) aNil) mNil) (mCall [false] f_number_in 1 0 [0] [] (aV (mVar 0) aNil) mNil)))
def f_part_of : List D → RF := mkF 1 [false] b_part_of
def b_move_of_0 : MS := (mSet 1 (mTxt1 dSplit (mVar 0) (mC (.str " "))))
def b_move_of_1 : MS := (mSet 2 (mTup (mCons (mPk 1 dIx (mC (.int 0))) (mStar (mLc (mOn asS (mSlP 1 (oSome (mC (.int 1))) oNone)) (gN 3) mYes (mCall [false] f_part_of 1 0 [0] [] (aV (mVar 3) aNil) mNil) [3]) mNil))))
def b_move_of_2 : MS := (mRet (mIf (mB (mCall [false] f_is_move 1 0 [0] [] (aV (mVar 2) aNil) mNil)) (mVar 2) (mC .non)))
def b_move_of : MS := (mSeq b_move_of_0 (mSeq b_move_of_1 b_move_of_2))
def f_move_of : List D → RF := mkF 4 [false] b_move_of
def b_paper_piece_0 : MS := (mSet 1 (mTxt1 dSplit (mVar 0) (mC (.str " x "))))
def b_paper_piece_1 : MS := (mIfS (mB (mOp dNe (mFn dLen (mCons (mVar 1) mNil)) (mC (.int 2)))) (mRet (mC .non)) mNx)
def b_paper_piece_2 : MS := (mPar 2 3 (mCall [false] f_move_of 1 0 [0] [] (aV (mPk 1 dIx (mC (.int 0))) aNil) mNil) (mCall [false] f_many_of 1 0 [0] [] (aV (mPk 1 dIx (mC (.int 1))) aNil) mNil))
def b_paper_piece_3 : MS := (mRet (mIf (mOr (mB (mOp dIs (mVar 2) (mC .non))) (mB (mOp dIs (mVar 3) (mC .non)))) (mC .non) (mTup (mCons (mVar 2) (mCons (mTup (mCons (mVar 2) (mCons (mVar 3) mNil))) mNil)))))
def b_paper_piece : MS := (mSeq b_paper_piece_0 (mSeq b_paper_piece_1 (mSeq b_paper_piece_2 b_paper_piece_3)))
def f_paper_piece : List D → RF := mkF 4 [false] b_paper_piece
def b_pieces_in_0 : MS := (mParG true true 3 4 (mLst mNil) (mLst mNil))
def b_pieces_in_1 : MS := (mFor (mOns enum2 (mCons (mIf (mB (mOp dNe (mVar 0) (mC (.str "-")))) (mTxt1 dSplit (mVar 0) (mVar 1)) (mLst mNil)) mNil)) (gT 2 (Sm.gCons (gN 5) (Sm.gCons (gN 6) Sm.gNil))) (mSeq (mSet 7 (mCallV 2 [(1000001, f_paper_piece)] 1 (aV (mVar 6) aNil)))
    (mSeq (mIfS (mOr (mB (mOp dIs (mVar 7) (mC .non))) (mAnd (mB (mOp dGt (mFnP dLen 4) (mC (.int 0)))) (mB (mOp dLeN (mPk 7 dIx (mC (.int 0))) (mPk 4 dIx (mUn dNeg (mC (.int 1)))))))) (mRaise 1 1 ["piece"] ini1 (mCons (mVar 5) mNil)) mNx)
    (mSeq (mDrop (mApp 4 (mPk 7 dIx (mC (.int 0)))))
    (mDrop (mApp 3 (mPk 7 dIx (mC (.int 1)))))))))
def b_pieces_in_2 : MS := (mRet (mFnP dTuple 3))
def b_pieces_in : MS := (mSeq b_pieces_in_0 (mSeq b_pieces_in_1 b_pieces_in_2))
def f_pieces_in : List D → RF := mkF 8 [false, false, false] b_pieces_in
def b_sole_0 : MS := (mIfS (mB (mOp dIs (mVar 0) (mC .non))) (mRaise 1 1 ["piece"] ini1 (mCons (mC (.int 0)) mNil)) mNx)
def b_sole_1 : MS := (mRet (mVar 0))
def b_sole : MS := (mSeq b_sole_0 b_sole_1)
def f_sole : List D → RF := mkF 1 [false] b_sole
def b_move_in : MS := (mRet (mCall [false] f_sole 1 0 [0] [] (aV (mCall [false] f_move_of 1 0 [0] [] (aV (mVar 0) aNil) mNil) aNil) mNil))
def f_move_in : List D → RF := mkF 1 [false] b_move_in
def b_paper_in : MS := (mRet (mCall [false, false, false] f_pieces_in 3 0 [0, 1, 2] [] (aV (mVar 0) (aV (mC (.str "; ")) (aV (mC (.obj 1000001 [])) aNil))) mNil))
def f_paper_in : List D → RF := mkF 1 [false] b_paper_in
abbrev b_box : MS := b_boxC 61704
abbrev f_box : List D → RF := f_boxC 61704
def b_heard_0 : MS := (mAsg (gT 2 (Sm.gCons (gN 2) (Sm.gCons (gN 3) Sm.gNil))) (mTup (mCons (mC .non) (mCons (mC .non) mNil))))
def b_heard_1 : MS := (mTry [(1, true)] 4 (mSet 3 (mIf (mB (mVar 1)) (mCall [false] f_paper_in 1 0 [0] [] (aV (mVar 0) aNil) mNil) (mCall [false] f_move_in 1 0 [0] [] (aV (mVar 0) aNil) mNil))) (mSet 2 (mVar 4)))
def b_heard_2 : MS := (mRet (mIf (mB (mOp dIs (mVar 2) (mC .non))) (mVar 3) (mLst (mCons (mUn (dXf [1] "piece") (mVar 2)) mNil))))
def b_heard : MS := (mSeq b_heard_0 (mSeq b_heard_1 b_heard_2))
def f_heard : List D → RF := mkF 5 [false, false] b_heard
def b_bare_right_0 : MS := (mSet 0 (mLst (mCons (mC (.str "")) (mCons (mC (.str " ")) (mCons (mC (.str "-")) (mCons (mC (.str "new")) (mCons (mC (.str "new ")) (mCons (mC (.str "new 3")) (mCons (mC (.str "new 9-2")) (mCons (mC (.str "new 1-1 ")) (mCons (mC (.str " new 1-1")) (mCons (mC (.str "new  1-1")) (mCons (mC (.str "New 1-1")) mNil)))))))))))))
def b_bare_right_1 : MS := (mSet 0 (mOp dAdd (mVar 0) (mLst (mCons (mC (.str "new 1-1 2-2")) mNil))))
def b_bare_right_2 : MS := (mSet 0 (mOp dAdd (mVar 0) (mLst (mCons (mC (.str "new 01-1")) (mCons (mC (.str "new 1-1; new 2-2")) (mCons (mC (.str "new 1-1 x 2")) (mCons (mC (.str "old 1-1")) (mCons (mC (.str "1-1")) (mCons (mC (.str "new 1 1")) (mCons (mC (.str "new 1-1\n")) mNil))))))))))
def b_bare_right_3 : MS := (mSet 0 (mOp dAdd (mVar 0) (mLst (mCons (mC (.str "new 1_0-20")) mNil))))
def b_bare_right_4 : MS := (mSet 0 (mOp dAdd (mVar 0) (mLst (mCons (mC (.str "longer 4-6")) (mCons (mC (.str "longer 4-6 4-6")) (mCons (mC (.str "longer 4-6 4-5")) (mCons (mC (.str "longer 4-6 5-9")) (mCons (mC (.str "longer 4-6 7-9")) mNil))))))))
def b_bare_right_5 : MS := (mSet 0 (mOp dAdd (mVar 0) (mLst (mCons (mC (.str "longer 4-6 9")) mNil))))
def b_bare_right_6 : MS := (mSet 0 (mOp dAdd (mVar 0) (mLst (mCons (mC (.str "longer 4-6 3-5")) (mCons (mC (.str "longer 4 4-9")) (mCons (mC (.str "longer 4-6 4-9 4-10")) (mCons (mC (.str "longer 4-6  4-9")) mNil)))))))
def b_bare_right_7 : MS := (mSet 0 (mOp dAdd (mVar 0) (mLst (mCons (mC (.str "longer 4-6 9-4")) mNil))))
def b_bare_right_8 : MS := (mSet 0 (mOp dAdd (mVar 0) (mLst (mCons (mC (.str "split 2-9")) (mCons (mC (.str "split 2-9 9")) (mCons (mC (.str "split 2-9 1")) (mCons (mC (.str "split 2-9 10")) (mCons (mC (.str "split 2-9 5-5")) mNil))))))))
def b_bare_right_9 : MS := (mSet 0 (mOp dAdd (mVar 0) (mLst (mCons (mC (.str "split 3-3 3")) (mCons (mC (.str "split 2-9 05")) mNil)))))
def b_bare_right_10 : MS := (mSet 0 (mOp dAdd (mVar 0) (mLst (mCons (mC (.str "split 2-9 5 6")) (mCons (mC (.str "split 5 2-9")) (mCons (mC (.str "split 2-9 -5")) (mCons (mC (.str "split 2-9 x")) (mCons (mC (.str "split 9-2 5")) mNil))))))))
def b_bare_right_11 : MS := (mSet 0 (mOp dAdd (mVar 0) (mLst (mCons (mC (.str "cross 2-9")) (mCons (mC (.str "cross 4-6 2-9")) (mCons (mC (.str "cross 2-9 2-6")) (mCons (mC (.str "cross 2-9 4-9")) (mCons (mC (.str "cross 2-9 2-9")) mNil))))))))
def b_bare_right_12 : MS := (mSet 0 (mOp dAdd (mVar 0) (mLst (mCons (mC (.str "cross 2-9 1-6")) mNil))))
def b_bare_right_13 : MS := (mSet 0 (mOp dAdd (mVar 0) (mLst (mCons (mC (.str "cross 2-9 4-10")) (mCons (mC (.str "cross 2-9 5")) (mCons (mC (.str "cross 2-9 6-4")) (mCons (mC (.str "cross 2-9 4-6 5")) (mCons (mC (.str "cross 2-9 11-12")) mNil))))))))
def b_bare_right_14 : MS := (mSet 0 (mOp dAdd (mVar 0) (mLst (mCons (mC (.str "cross")) mNil))))
def b_bare_right_15 : MS := (mSetO 1 (mLc (mOn asS (mVar 0)) (gN 2) mYes (mCall [false, false] f_heard 2 0 [0, 1] [] (aV (mVar 2) (aV (mC (.bl false)) aNil)) mNil) [2]))
def b_bare_right_16 : MS := (mRet (mCall [false, false] f_same_o 2 0 [0, 1] [] (aV (mVar 1) (aV (mOp dMul (mLst (mCons (mLst (mCons (mC (.int 0)) mNil)) mNil)) (mFn dLen (mCons (mVar 0) mNil))) aNil)) mNil))
def b_bare_right : MS := (mSeq b_bare_right_0 (mSeq b_bare_right_1 (mSeq b_bare_right_2 (mSeq b_bare_right_3 (mSeq b_bare_right_4 (mSeq b_bare_right_5 (mSeq b_bare_right_6 (mSeq b_bare_right_7 (mSeq b_bare_right_8 (mSeq b_bare_right_9 (mSeq b_bare_right_10 (mSeq b_bare_right_11 (mSeq b_bare_right_12 (mSeq b_bare_right_13 (mSeq b_bare_right_14 (mSeq b_bare_right_15 b_bare_right_16))))))))))))))))
def f_bare_right : List D → RF := mkF 3 [] b_bare_right
def b_by_hand_right_0 : MS := (mSet 0 (mLst (mCons (mTup (mCons (mC (.str "")) (mCons (mC (.int 0)) mNil))) (mCons (mTup (mCons (mC (.str "new 1-1")) (mCons (mC (.int 0)) mNil))) (mCons (mTup (mCons (mC (.str "new 1-1 x")) (mCons (mC (.int 0)) mNil))) (mCons (mTup (mCons (mC (.str "new 1-1 x 0")) (mCons (mC (.int 0)) mNil))) (mCons (mTup (mCons (mC (.str "new 1-1 x all")) (mCons (mC (.int 0)) mNil))) mNil)))))))
def b_by_hand_right_1 : MS := (mSet 0 (mOp dAdd (mVar 0) (mLst (mCons (mTup (mCons (mC (.str "new 1-1 x 01")) (mCons (mC (.int 0)) mNil))) mNil))))
def b_by_hand_right_2 : MS := (mSet 0 (mOp dAdd (mVar 0) (mLst (mCons (mTup (mCons (mC (.str "new 1-1 x 1; new 1-1 x 2")) (mCons (mC (.int 1)) mNil))) (mCons (mTup (mCons (mC (.str "new 2-2 x 1; new 1-1 x 1")) (mCons (mC (.int 1)) mNil))) (mCons (mTup (mCons (mC (.str "new 1-1 x 1;")) (mCons (mC (.int 0)) mNil))) mNil))))))
def b_by_hand_right_3 : MS := (mSet 0 (mOp dAdd (mVar 0) (mLst (mCons (mTup (mCons (mC (.str "new 1-1 x 1; ")) (mCons (mC (.int 1)) mNil))) (mCons (mTup (mCons (mC (.str "new 1-1 x 1;new 2-2 x 1")) (mCons (mC (.int 0)) mNil))) (mCons (mTup (mCons (mC (.str "new 1-1 x 1 x 1")) (mCons (mC (.int 0)) mNil))) mNil))))))
def b_by_hand_right_4 : MS := (mSet 0 (mOp dAdd (mVar 0) (mLst (mCons (mTup (mCons (mC (.str "x 1")) (mCons (mC (.int 0)) mNil))) (mCons (mTup (mCons (mC (.str " x 1")) (mCons (mC (.int 0)) mNil))) mNil)))))
def b_by_hand_right_5 : MS := (mSet 0 (mOp dAdd (mVar 0) (mLst (mCons (mTup (mCons (mC (.str "split 2-9 5 x 1; new 1-1 x 1")) (mCons (mC (.int 1)) mNil))) (mCons (mTup (mCons (mC (.str "split 2-9 5 x 1; split 2-9 4 x 1")) (mCons (mC (.int 1)) mNil))) mNil)))))
def b_by_hand_right_6 : MS := (mSet 0 (mOp dAdd (mVar 0) (mLst (mCons (mTup (mCons (mC (.str "new 1-1 x 1; -")) (mCons (mC (.int 1)) mNil))) mNil))))
def b_by_hand_right_7 : MS := (mSet 0 (mOp dAdd (mVar 0) (mLst (mCons (mTup (mCons (mC (.str "new 1-1 x 1; cross 4-6 2-9 x 1")) (mCons (mC (.int 1)) mNil))) (mCons (mTup (mCons (mC (.str "cross 2-9 4-6 x 1; longer 4-6 4-6 x 1; a")) (mCons (mC (.int 1)) mNil))) mNil)))))
def b_by_hand_right_8 : MS := (mSet 0 (mOp dAdd (mVar 0) (mLst (mCons (mTup (mCons (mC (.str "new 9-9 x 1; new 10-10 x 1; new 9-10 x 1")) (mCons (mC (.int 2)) mNil))) (mCons (mTup (mCons (mC (.str "new 1-1 x 1\n")) (mCons (mC (.int 0)) mNil))) mNil)))))
def b_by_hand_right_9 : MS := (mSet 0 (mOp dAdd (mVar 0) (mLst (mCons (mTup (mCons (mC (.str "new 1-1 x 1_0")) (mCons (mC (.int 0)) mNil))) mNil))))
def b_by_hand_right_10 : MS := (mSet 0 (mOp dAdd (mVar 0) (mLst (mCons (mTup (mCons (mC (.str "new 2-2 x 1; new 1-1 x 1; a")) (mCons (mC (.int 1)) mNil))) (mCons (mTup (mCons (mC (.str "new 2-2 x 1; new 2-2 x 1; x 1")) (mCons (mC (.int 1)) mNil))) mNil)))))
def b_by_hand_right_11 : MS := (mSet 0 (mOp dAdd (mVar 0) (mLst (mCons (mTup (mCons (mC (.str "new 1-1  x 1")) (mCons (mC (.int 0)) mNil))) (mCons (mTup (mCons (mC (.str "new 1-1 x +1")) (mCons (mC (.int 0)) mNil))) (mCons (mTup (mCons (mC (.str "new 1-1 x -1")) (mCons (mC (.int 0)) mNil))) (mCons (mTup (mCons (mC (.str "new 1-1 X 1")) (mCons (mC (.int 0)) mNil))) mNil)))))))
def b_by_hand_right_12 : MS := (mSet 0 (mOp dAdd (mVar 0) (mLst (mCons (mTup (mCons (mTxt1 dJoin (mC (.str "; ")) (mLc (mOns rng1 (mCons (mC (.int 12)) mNil)) (gN 5) mYes (mOp dAdd (mOp dAdd (mOp dAdd (mOp dAdd (mOp dAdd (mC (.str "new ")) (mFn dStr (mCons (mVar 5) mNil))) (mC (.str "-"))) (mFn dStr (mCons (mVar 5) mNil))) (mC (.str " x "))) (mFn dStr (mCons (mOp dSub (mC (.int 11)) (mVar 5)) mNil))) [5])) (mCons (mC (.int 11)) mNil))) mNil))))
def b_by_hand_right_13 : MS := (mSetO 1 (mLc (mOn asS (mVar 0)) (gT 2 (Sm.gCons (gN 3) (Sm.gCons (gN 4) Sm.gNil))) mYes (mCall [false, false] f_heard 2 0 [0, 1] [] (aV (mVar 3) (aV (mC (.bl true)) aNil)) mNil) [3, 4]))
def b_by_hand_right_14 : MS := (mIfS (mNot (mB (mLend 1 (mCall [false, false] f_same_o 2 0 [0, 1] [] (aV (mVar 1) (aV (mLc (mOn asS (mVar 0)) (gT 2 (Sm.gCons (gN 3) (Sm.gCons (gN 4) Sm.gNil))) mYes (mLst (mCons (mVar 4) mNil)) [3, 4]) aNil)) mNil)))) (mRet (mC (.bl false))) mNx)
def b_by_hand_right_15 : MS := (mSetO 1 (mLst (mCons (mCall [false, false] f_heard 2 0 [0, 1] [] (aV (mC (.str "cross 2-9 3-8")) (aV (mC (.bl false)) aNil)) mNil) (mCons (mCall [false, false] f_heard 2 0 [0, 1] [] (aV (mC (.str "split 2-9 2")) (aV (mC (.bl false)) aNil)) mNil) mNil))))
def b_by_hand_right_16 : MS := (mSetO 1 (mPk 1 dAddF (mLst (mCons (mCall [false, false] f_heard 2 0 [0, 1] [] (aV (mC (.str "longer 4-6 4-7")) (aV (mC (.bl false)) aNil)) mNil) mNil))))
def b_by_hand_right_17 : MS := (mSet 2 (mLst (mCons (mTup (mCons (mC (.str "cross")) (mCons (mTup (mCons (mC (.int 2)) (mCons (mC (.int 9)) mNil))) (mCons (mTup (mCons (mC (.int 3)) (mCons (mC (.int 8)) mNil))) mNil)))) (mCons (mTup (mCons (mC (.str "split")) (mCons (mTup (mCons (mC (.int 2)) (mCons (mC (.int 9)) mNil))) (mCons (mC (.int 2)) mNil)))) (mCons (mTup (mCons (mC (.str "longer")) (mCons (mTup (mCons (mC (.int 4)) (mCons (mC (.int 6)) mNil))) (mCons (mTup (mCons (mC (.int 4)) (mCons (mC (.int 7)) mNil))) mNil)))) mNil)))))
def b_by_hand_right_18 : MS := (mDrop (mApp 1 (mCall [false, false] f_heard 2 0 [0, 1] [] (aV (mC (.str "new 9-9 x 1; new 9-10 x 2; new 10-10 x 1")) (aV (mC (.bl true)) aNil)) mNil)))
def b_by_hand_right_19 : MS := (mRet (mCall [false, false] f_same_o 2 0 [0, 1] [] (aV (mVar 1) (aV (mOp dAdd (mVar 2) (mLst (mCons (mTup (mCons (mTup (mCons (mTup (mCons (mC (.str "new")) (mCons (mTup (mCons (mC (.int 9)) (mCons (mC (.int 9)) mNil))) mNil))) (mCons (mC (.int 1)) mNil))) (mCons (mTup (mCons (mTup (mCons (mC (.str "new")) (mCons (mTup (mCons (mC (.int 9)) (mCons (mC (.int 10)) mNil))) mNil))) (mCons (mC (.int 2)) mNil))) (mCons (mTup (mCons (mTup (mCons (mC (.str "new")) (mCons (mTup (mCons (mC (.int 10)) (mCons (mC (.int 10)) mNil))) mNil))) (mCons (mC (.int 1)) mNil))) mNil)))) mNil))) aNil)) mNil))
def b_by_hand_right : MS := (mSeq b_by_hand_right_0 (mSeq b_by_hand_right_1 (mSeq b_by_hand_right_2 (mSeq b_by_hand_right_3 (mSeq b_by_hand_right_4 (mSeq b_by_hand_right_5 (mSeq b_by_hand_right_6 (mSeq b_by_hand_right_7 (mSeq b_by_hand_right_8 (mSeq b_by_hand_right_9 (mSeq b_by_hand_right_10 (mSeq b_by_hand_right_11 (mSeq b_by_hand_right_12 (mSeq b_by_hand_right_13 (mSeq b_by_hand_right_14 (mSeq b_by_hand_right_15 (mSeq b_by_hand_right_16 (mSeq b_by_hand_right_17 (mSeq b_by_hand_right_18 b_by_hand_right_19)))))))))))))))))))
def f_by_hand_right : List D → RF := mkF 6 [] b_by_hand_right
def b_bent_0 : MS := (mSet 2 (mCall [true, false] f_take 2 0 [0, 1] [] (aIo 0 (aV (mC (.int 5)) aNil)) mNil))
def b_bent_1 : MS := (mIfS (mB (mOp dEq (mVar 2) (mC (.int 0)))) (mRet (mOp dAdd (mVar 1) (mCall [true, false] f_of 2 0 [0, 1] [] (aIo 0 (aV (mLst (mCons (mC (.str "x")) (mCons (mC (.str ";")) (mCons (mC (.str " 1")) (mCons (mC (.str " x 1")) (mCons (mC (.str " ")) mNil)))))) aNil)) mNil))) mNx)
def b_bent_2 : MS := (mIfS (mB (mOp dEq (mVar 2) (mC (.int 1)))) (mRet (mRepl " x " (mVar 1) (mOfL f_of 0 ["  x ", "x", " x 0", " 7 x "]))) mNx)
def b_bent_3 : MS := (mIfS (mB (mOp dEq (mVar 2) (mC (.int 2)))) (mRet (mCall [true, false] f_of 2 0 [0, 1] [] (aIo 0 (aV (mLst (mCons (mC (.str "")) (mCons (mC (.str "-")) (mCons (mC (.str "a")) (mCons (mC (.str "new")) (mCons (mC (.str "new 1-1")) (mCons (mC (.str "new 2-1 x 1")) (mCons (mC (.str "all")) mNil)))))))) aNil)) mNil)) mNx)
def b_bent_4 : MS := (mIfS (mB (mOp dEq (mVar 2) (mC (.int 3)))) (mRet (mReplN "-" (mVar 1) (mOfL f_of 0 ["--", " ", "-0", ""]))) mNx)
def b_bent_5 : MS := (mRet (mOp dAdd (mC (.str " ")) (mVar 1)))
def b_bent : MS := (mSeq b_bent_0 (mSeq b_bent_1 (mSeq b_bent_2 (mSeq b_bent_3 (mSeq b_bent_4 b_bent_5)))))
def f_bent : List D → RF := mkF 3 [true, false] b_bent
def b_case_right_0 : MS := (mParG false true 1 2 (mLc (mOns rng1 (mCons (mOp dAdd (mC (.int 2)) (mCall [true, false] f_take 2 0 [0, 1] [] (aIo 0 (aV (mC (.int 4)) aNil)) mNil)) mNil)) (gN 8) mYes (mCall [true, false] f_take 2 0 [0, 1] [] (aIo 0 (aV (mC (.int 9)) aNil)) mNil) [8]) (mLst mNil))
def b_case_right_1 : MS := (mSet 3 (mCall [true, false] f_of 2 0 [0, 1] [] (aIo 0 (aV (mLst (mCons (mC (.str "new")) (mCons (mC (.str "split")) mNil))) aNil)) mNil))
def b_case_right_2 : MS := (mFor (mOns rng1 (mCons (mFn dLen (mCons (mVar 1) mNil)) mNil)) (gN 4) (mSeq (mSet 5 (mOp dAdd (mFn dSum (mCons (mSlP 1 oNone (oSome (mVar 4))) mNil)) (mVar 4)))
    (mSeq (mSet 6 (mOp dAdd (mOp dAdd (mVar 5) (mC (.int 1))) (mCall [true, false] f_take 2 0 [0, 1] [] (aIo 0 (aV (mC (.int 5)) aNil)) mNil)))
    (mSeq (mSet 7 (mOp dAdd (mLst (mCons (mVar 3) (mCons (mOp dAdd (mOp dAdd (mFn dStr (mCons (mVar 5) mNil)) (mC (.str "-"))) (mFn dStr (mCons (mVar 6) mNil))) mNil))) (mIf (mB (mOp dEq (mVar 3) (mC (.str "split")))) (mLst (mCons (mFn dStr (mCons (mVar 5) mNil)) mNil)) (mLst mNil))))
    (mDrop (mApp 2 (mOp dAdd (mOp dAdd (mTxt1 dJoin (mC (.str " ")) (mVar 7)) (mC (.str " x "))) (mFn dStr (mCons (mOp dAdd (mC (.int 1)) (mCall [true, false] f_take 2 0 [0, 1] [] (aIo 0 (aV (mC (.int 12)) aNil)) mNil)) mNil)))))))))
def b_case_right_3 : MS := (mIfS (mB (mFn (dIsi "list") (mCons (mLend 2 (mCall [false, false] f_heard 2 0 [0, 1] [] (aV (mTxt1 dJoin (mC (.str "; ")) (mVar 2)) (aV (mC (.bl true)) aNil)) mNil)) mNil))) (mRet (mC (.bl false))) mNx)
def b_case_right_4 : MS := (mSet 4 (mCall [true, false] f_take 2 0 [0, 1] [] (aIo 0 (aV (mFnP dLen 2) aNil)) mNil))
def b_case_right_5 : MS := (mIfS (mB (mOp dGt (mCall [true, false] f_take 2 0 [0, 1] [] (aIo 0 (aV (mC (.int 3)) aNil)) mNil) (mC (.int 0)))) (mAsg (gIx 2 (mVar 4)) (mCall [true, false] f_bent 2 0 [0, 1] [] (aIo 0 (aV (mPk 2 dIx (mVar 4)) aNil)) mNil)) (mSeq (mSet 4 (mOp dAdd (mC (.int 1)) (mCall [true, false] f_take 2 0 [0, 1] [] (aIo 0 (aV (mOp dSub (mFnP dLen 2) (mC (.int 1))) aNil)) mNil)))
    (mAsg (gT 2 (Sm.gCons (gIx 2 (mOp dSub (mVar 4) (mC (.int 1)))) (Sm.gCons (gIx 2 (mVar 4)) Sm.gNil))) (mTup (mCons (mPk 2 dIx (mVar 4)) (mCons (mPk 2 dIx (mOp dSub (mVar 4) (mC (.int 1)))) mNil))))))
def b_case_right_6 : MS := (mRet (mCall [false, false] f_same_o 2 0 [0, 1] [] (aV (mCall [false, false] f_heard 2 0 [0, 1] [] (aV (mTxt1 dJoin (mC (.str "; ")) (mVar 2)) (aV (mC (.bl true)) aNil)) mNil) (aV (mLst (mCons (mVar 4) mNil)) aNil)) mNil))
def b_case_right : MS := (mSeq b_case_right_0 (mSeq b_case_right_1 (mSeq b_case_right_2 (mSeq b_case_right_3 (mSeq b_case_right_4 (mSeq b_case_right_5 b_case_right_6))))))
def f_case_right : List D → RF := mkF 9 [true] b_case_right
def b_right_0 : MS := (mSet 1 (mAndV (mCall [] f_bare_right 0 0 [] [] aNil mNil) (mCall [] f_by_hand_right 0 0 [] [] aNil mNil)))
def b_right_1 : MS := (mRet (mAndV (mVar 1) (mFn dAll (mCons (mLc (mOns rng1 (mCons (mC (.int 4)) mNil)) (gN 2) mYes (mCall [true] f_case_right 1 0 [0] [] (aIo 0 aNil) mNil) [2]) mNil))))
def b_right : MS := (mSeq b_right_0 b_right_1)
def f_right : List D → RF := mkF 3 [true] b_right
def b_law_0 : MS := (mSet 1 (mCall [false, false] f_cells 2 0 [0, 1] [] (aV (mVar 0) (aV (mC (.int 3)) aNil)) mNil))
def b_law_1 : MS := (mRet (mFn dAll (mCons (mLc (mOns rng1 (mCons (mFn dLen (mCons (mVar 1) mNil)) mNil)) (gN 2) mYes (mCallFr f_right (mCallF [false, false] f_box 2 [0, 1] [] (aV (mVar 1) (aV (mVar 2) aNil)))) [2]) mNil)))
def b_law : MS := (mSeq b_law_0 b_law_1)
def f_law : List D → RF := mkF 3 [false] b_law
end Sm
set_option Elab.async false
set_option linter.all false
set_option maxRecDepth 100000
set_option maxHeartbeats 400000
namespace Sm
open PySem PySem.Spec PyProof.Rows L2
def topS (i : Nat) : Stmt := PySem.Challenge.pw_staysmet_k04_wrong_texts_of_moves.main.body.getD i (.Pass ⟨0, 0, 0, 0⟩)
def clsS (s : Stmt) (j : Nat) : Stmt := match s with
  | .ClassDef (body := b) .. => b.getD j (.Pass ⟨0, 0, 0, 0⟩)
  | s => s
abbrev s_is_number : Stmt := topS 5
abbrev s_number_in : Stmt := topS 6
abbrev s_is_tick : Stmt := topS 10
abbrev s_is_stay : Stmt := topS 11
abbrev s_lies_in : Stmt := topS 12
abbrev s_size_of : Stmt := topS 13
abbrev s_is_wider : Stmt := topS 14
abbrev s_is_move : Stmt := topS 15
abbrev s_stay_of : Stmt := topS 23
abbrev s_part_of : Stmt := topS 24
abbrev s_move_of : Stmt := topS 25
abbrev s_many_of : Stmt := topS 26
abbrev s_paper_piece : Stmt := topS 27
abbrev s_BadText___init__ : Stmt := clsS (topS 2) 0
abbrev s_pieces_in : Stmt := topS 28
abbrev s_sole : Stmt := topS 29
abbrev s_move_in : Stmt := topS 30
abbrev s_paper_in : Stmt := topS 31
abbrev s_box : Stmt := topS 33
abbrev s_take : Stmt := topS 34
abbrev s_cells : Stmt := topS 35
abbrev s_of : Stmt := topS 36
abbrev s_same_o : Stmt := topS 37
abbrev s_heard : Stmt := topS 38
abbrev s_bare_right : Stmt := topS 39
abbrev s_by_hand_right : Stmt := topS 40
abbrev s_bent : Stmt := topS 41
abbrev s_case_right : Stmt := topS 42
abbrev s_right : Stmt := topS 43
abbrev s_law : Stmt := topS 44
structure Top (L : Lay) (mg : Str → Option Value) where
  a_is_number : Addr
  d_is_number : FuncData
  F_is_number : Fun L.K "is_number" "is_number" s_is_number a_is_number d_is_number
  m_is_number : mg "is_number" = some (.ref a_is_number)
  a_number_in : Addr
  d_number_in : FuncData
  F_number_in : Fun L.K "number_in" "number_in" s_number_in a_number_in d_number_in
  m_number_in : mg "number_in" = some (.ref a_number_in)
  a_is_tick : Addr
  d_is_tick : FuncData
  F_is_tick : Fun L.K "is_tick" "is_tick" s_is_tick a_is_tick d_is_tick
  m_is_tick : mg "is_tick" = some (.ref a_is_tick)
  a_is_stay : Addr
  d_is_stay : FuncData
  F_is_stay : Fun L.K "is_stay" "is_stay" s_is_stay a_is_stay d_is_stay
  m_is_stay : mg "is_stay" = some (.ref a_is_stay)
  a_lies_in : Addr
  d_lies_in : FuncData
  F_lies_in : Fun L.K "lies_in" "lies_in" s_lies_in a_lies_in d_lies_in
  m_lies_in : mg "lies_in" = some (.ref a_lies_in)
  a_size_of : Addr
  d_size_of : FuncData
  F_size_of : Fun L.K "size_of" "size_of" s_size_of a_size_of d_size_of
  m_size_of : mg "size_of" = some (.ref a_size_of)
  a_is_wider : Addr
  d_is_wider : FuncData
  F_is_wider : Fun L.K "is_wider" "is_wider" s_is_wider a_is_wider d_is_wider
  m_is_wider : mg "is_wider" = some (.ref a_is_wider)
  a_is_move : Addr
  d_is_move : FuncData
  F_is_move : Fun L.K "is_move" "is_move" s_is_move a_is_move d_is_move
  m_is_move : mg "is_move" = some (.ref a_is_move)
  a_stay_of : Addr
  d_stay_of : FuncData
  F_stay_of : Fun L.K "stay_of" "stay_of" s_stay_of a_stay_of d_stay_of
  m_stay_of : mg "stay_of" = some (.ref a_stay_of)
  a_part_of : Addr
  d_part_of : FuncData
  F_part_of : Fun L.K "part_of" "part_of" s_part_of a_part_of d_part_of
  m_part_of : mg "part_of" = some (.ref a_part_of)
  a_move_of : Addr
  d_move_of : FuncData
  F_move_of : Fun L.K "move_of" "move_of" s_move_of a_move_of d_move_of
  m_move_of : mg "move_of" = some (.ref a_move_of)
  a_many_of : Addr
  d_many_of : FuncData
  F_many_of : Fun L.K "many_of" "many_of" s_many_of a_many_of d_many_of
  m_many_of : mg "many_of" = some (.ref a_many_of)
  a_paper_piece : Addr
  d_paper_piece : FuncData
  F_paper_piece : Fun L.K "paper_piece" "paper_piece" s_paper_piece a_paper_piece d_paper_piece
  m_paper_piece : mg "paper_piece" = some (.ref a_paper_piece)
  e_paper_piece : L.cls 1000001 = a_paper_piece
  a_BadText___init__ : Addr
  d_BadText___init__ : FuncData
  F_BadText___init__ : Fun L.K "__init__" "BadText.__init__" s_BadText___init__ a_BadText___init__ d_BadText___init__
  a_pieces_in : Addr
  d_pieces_in : FuncData
  F_pieces_in : Fun L.K "pieces_in" "pieces_in" s_pieces_in a_pieces_in d_pieces_in
  m_pieces_in : mg "pieces_in" = some (.ref a_pieces_in)
  a_sole : Addr
  d_sole : FuncData
  F_sole : Fun L.K "sole" "sole" s_sole a_sole d_sole
  m_sole : mg "sole" = some (.ref a_sole)
  a_move_in : Addr
  d_move_in : FuncData
  F_move_in : Fun L.K "move_in" "move_in" s_move_in a_move_in d_move_in
  m_move_in : mg "move_in" = some (.ref a_move_in)
  a_paper_in : Addr
  d_paper_in : FuncData
  F_paper_in : Fun L.K "paper_in" "paper_in" s_paper_in a_paper_in d_paper_in
  m_paper_in : mg "paper_in" = some (.ref a_paper_in)
  a_box : Addr
  d_box : FuncData
  F_box : Fun L.K "_law_box" "_law_box" s_box a_box d_box
  m_box : mg "_law_box" = some (.ref a_box)
  a_take : Addr
  d_take : FuncData
  F_take : Fun L.K "_law_take" "_law_take" s_take a_take d_take
  m_take : mg "_law_take" = some (.ref a_take)
  a_cells : Addr
  d_cells : FuncData
  F_cells : Fun L.K "_law_cells" "_law_cells" s_cells a_cells d_cells
  m_cells : mg "_law_cells" = some (.ref a_cells)
  a_of : Addr
  d_of : FuncData
  F_of : Fun L.K "_law_of" "_law_of" s_of a_of d_of
  m_of : mg "_law_of" = some (.ref a_of)
  a_same_o : Addr
  d_same_o : FuncData
  F_same_o : Fun L.K "_law_same" "_law_same" s_same_o a_same_o d_same_o
  m_same_o : mg "_law_same" = some (.ref a_same_o)
  a_heard : Addr
  d_heard : FuncData
  F_heard : Fun L.K "_law_heard" "_law_heard" s_heard a_heard d_heard
  m_heard : mg "_law_heard" = some (.ref a_heard)
  a_bare_right : Addr
  d_bare_right : FuncData
  F_bare_right : Fun L.K "_law_bare_right" "_law_bare_right" s_bare_right a_bare_right d_bare_right
  m_bare_right : mg "_law_bare_right" = some (.ref a_bare_right)
  a_by_hand_right : Addr
  d_by_hand_right : FuncData
  F_by_hand_right : Fun L.K "_law_by_hand_right" "_law_by_hand_right" s_by_hand_right a_by_hand_right d_by_hand_right
  m_by_hand_right : mg "_law_by_hand_right" = some (.ref a_by_hand_right)
  a_bent : Addr
  d_bent : FuncData
  F_bent : Fun L.K "_law_bent" "_law_bent" s_bent a_bent d_bent
  m_bent : mg "_law_bent" = some (.ref a_bent)
  a_case_right : Addr
  d_case_right : FuncData
  F_case_right : Fun L.K "_law_case_right" "_law_case_right" s_case_right a_case_right d_case_right
  m_case_right : mg "_law_case_right" = some (.ref a_case_right)
  a_right : Addr
  d_right : FuncData
  F_right : Fun L.K "_law_right" "_law_right" s_right a_right d_right
  m_right : mg "_law_right" = some (.ref a_right)
  a_law : Addr
  d_law : FuncData
  F_law : Fun L.K "law" "law" s_law a_law d_law
  m_law : mg "law" = some (.ref a_law)
  mg_BadText : mg "BadText" = some (.ref (L.cls 1))
  xk_BadText : ExK L.K (L.cls 1)
  xa_BadText : PySem.W.findIn L.K (.ref (L.cls 1)) "__init__" = some (some (.ref a_BadText___init__))
  xt_BadText : PySem.W.typeIn L.K (.ref a_BadText___init__) = some (.type "function")
  no_BadText_piece : PySem.W.findIn L.K (.ref (L.cls 1)) "piece" = some none
  ex_BadText_BadText : PySem.W.exmOne L.K (.ref (L.cls 1)) (.ref (L.cls 1)) = some true
  z_abs : mg "abs" = none
  z_all : mg "all" = none
  z_bool : mg "bool" = none
  z_enumerate : mg "enumerate" = none
  z_int : mg "int" = none
  z_isinstance : mg "isinstance" = none
  z_len : mg "len" = none
  z_list : mg "list" = none
  z_range : mg "range" = none
  z_str : mg "str" = none
  z_sum : mg "sum" = none
  z_tuple : mg "tuple" = none
  z_zip : mg "zip" = none
  t_BETWEEN : Tok
  v_BETWEEN : mg "BETWEEN" = some (.str "; " t_BETWEEN)
  t_BLANK : Tok
  v_BLANK : mg "BLANK" = some (.str " " t_BLANK)
  t_DIGITS : Tok
  v_DIGITS : mg "DIGITS" = some (.str "0123456789" t_DIGITS)
  t_NOTHING : Tok
  v_NOTHING : mg "NOTHING" = some (.str "-" t_NOTHING)
  t_PAIR_stays : Tok
  v_PAIR_stays : mg "PAIR_stays" = some (.int 2 t_PAIR_stays)
  t_PAIR_texts : Tok
  v_PAIR_texts : mg "PAIR_texts" = some (.int 2 t_PAIR_texts)
  t_STROKE : Tok
  v_STROKE : mg "STROKE" = some (.str "-" t_STROKE)
  t_TIMES : Tok
  v_TIMES : mg "TIMES" = some (.str " x " t_TIMES)
  t_TRIPLE : Tok
  v_TRIPLE : mg "TRIPLE" = some (.int 3 t_TRIPLE)
section
variable {L : Lay} {mg : Str → Option Value} {w : World} {base : Heap}
theorem xf_piece (g : Top L mg) : ∀ c ∈ ([1] : List Nat), XfC L.K (L.cls c) ∧ PySem.W.findIn L.K (.ref (L.cls c)) "piece" = some none := by
  simp only [List.forall_mem_cons]
  exact ⟨⟨g.xk_BadText.xf, g.no_BadText_piece⟩, fun _ h => nomatch h⟩
theorem xt_BadText (g : Top L mg) : ∀ p ∈ ([(1, true)] : List (Nat × Bool)), PySem.W.exmOne L.K (.ref (L.cls p.1)) (.ref (L.cls 1)) = some p.2 := by
  simp only [List.forall_mem_cons]
  exact ⟨g.ex_BadText_BadText, fun _ h => nomatch h⟩
theorem bn_BadText___init__ (g : Top L mg) : Binds L.K g.d_BadText___init__ ["self", "piece"] [] := by
  obtain ⟨oc, od, kV, doc, pm, an, cdv, ct, osl, e, lk, hcd⟩ := g.F_BadText___init__.ex
  rw [e]
  exact .all fun us h => match us, h with | [_, _], _ => rfl
theorem bd_is_number_1 (g : Top L mg) : Bd L g.d_is_number ["value"] 1 [] [0] [] := bd_of g.F_is_number 1 [] [0] fun _ _ _ _ _ _ us ws h1 h2 => match us, ws, h1, h2 with | [_], [], _, _ => rfl
theorem bd_is_tick_1 (g : Top L mg) : Bd L g.d_is_tick ["thing"] 1 [] [0] [] := bd_of g.F_is_tick 1 [] [0] fun _ _ _ _ _ _ us ws h1 h2 => match us, ws, h1, h2 with | [_], [], _, _ => rfl
theorem bd_lies_in_2 (g : Top L mg) : Bd L g.d_lies_in ["stay", "other"] 2 [] [0, 1] [] := bd_of g.F_lies_in 2 [] [0, 1] fun _ _ _ _ _ _ us ws h1 h2 => match us, ws, h1, h2 with | [_, _], [], _, _ => rfl
theorem bd_size_of_1 (g : Top L mg) : Bd L g.d_size_of ["stay"] 1 [] [0] [] := bd_of g.F_size_of 1 [] [0] fun _ _ _ _ _ _ us ws h1 h2 => match us, ws, h1, h2 with | [_], [], _, _ => rfl
theorem bd_is_wider_2 (g : Top L mg) : Bd L g.d_is_wider ["stay", "later"] 2 [] [0, 1] [] := bd_of g.F_is_wider 2 [] [0, 1] fun _ _ _ _ _ _ us ws h1 h2 => match us, ws, h1, h2 with | [_, _], [], _, _ => rfl
theorem bd_is_stay_1 (g : Top L mg) : Bd L g.d_is_stay ["thing"] 1 [] [0] [] := bd_of g.F_is_stay 1 [] [0] fun _ _ _ _ _ _ us ws h1 h2 => match us, ws, h1, h2 with | [_], [], _, _ => rfl
theorem bd_number_in_1 (g : Top L mg) : Bd L g.d_number_in ["word"] 1 [] [0] [] := bd_of g.F_number_in 1 [] [0] fun _ _ _ _ _ _ us ws h1 h2 => match us, ws, h1, h2 with | [_], [], _, _ => rfl
theorem bd_stay_of_1 (g : Top L mg) : Bd L g.d_stay_of ["word"] 1 [] [0] [] := bd_of g.F_stay_of 1 [] [0] fun _ _ _ _ _ _ us ws h1 h2 => match us, ws, h1, h2 with | [_], [], _, _ => rfl
theorem bd_is_move_1 (g : Top L mg) : Bd L g.d_is_move ["thing"] 1 [] [0] [] := bd_of g.F_is_move 1 [] [0] fun _ _ _ _ _ _ us ws h1 h2 => match us, ws, h1, h2 with | [_], [], _, _ => rfl
theorem bd_part_of_1 (g : Top L mg) : Bd L g.d_part_of ["word"] 1 [] [0] [] := bd_of g.F_part_of 1 [] [0] fun _ _ _ _ _ _ us ws h1 h2 => match us, ws, h1, h2 with | [_], [], _, _ => rfl
theorem bd_move_of_1 (g : Top L mg) : Bd L g.d_move_of ["piece"] 1 [] [0] [] := bd_of g.F_move_of 1 [] [0] fun _ _ _ _ _ _ us ws h1 h2 => match us, ws, h1, h2 with | [_], [], _, _ => rfl
theorem bd_many_of_1 (g : Top L mg) : Bd L g.d_many_of ["word"] 1 [] [0] [] := bd_of g.F_many_of 1 [] [0] fun _ _ _ _ _ _ us ws h1 h2 => match us, ws, h1, h2 with | [_], [], _, _ => rfl
theorem bd_paper_piece_1 (g : Top L mg) : Bd L g.d_paper_piece ["piece"] 1 [] [0] [] := bd_of g.F_paper_piece 1 [] [0] fun _ _ _ _ _ _ us ws h1 h2 => match us, ws, h1, h2 with | [_], [], _, _ => rfl
theorem bd_sole_1 (g : Top L mg) : Bd L g.d_sole ["found"] 1 [] [0] [] := bd_of g.F_sole 1 [] [0] fun _ _ _ _ _ _ us ws h1 h2 => match us, ws, h1, h2 with | [_], [], _, _ => rfl
theorem bd_pieces_in_3 (g : Top L mg) : Bd L g.d_pieces_in ["text", "gap", "reader"] 3 [] [0, 1, 2] [] := bd_of g.F_pieces_in 3 [] [0, 1, 2] fun _ _ _ _ _ _ us ws h1 h2 => match us, ws, h1, h2 with | [_, _, _], [], _, _ => rfl
theorem bd_take_2 (g : Top L mg) : Bd L g.d_take ["_law_box_here", "_law_size_so"] 2 [] [0, 1] [] := bd_of g.F_take 2 [] [0, 1] fun _ _ _ _ _ _ us ws h1 h2 => match us, ws, h1, h2 with | [_, _], [], _, _ => rfl
theorem bd_same_o_2 (g : Top L mg) : Bd L g.d_same_o ["_law_got", "_law_due"] 2 [] [0, 1] [] := bd_of g.F_same_o 2 [] [0, 1] fun _ _ _ _ _ _ us ws h1 h2 => match us, ws, h1, h2 with | [_, _], [], _, _ => rfl
theorem bd_paper_in_1 (g : Top L mg) : Bd L g.d_paper_in ["text"] 1 [] [0] [] := bd_of g.F_paper_in 1 [] [0] fun _ _ _ _ _ _ us ws h1 h2 => match us, ws, h1, h2 with | [_], [], _, _ => rfl
theorem bd_move_in_1 (g : Top L mg) : Bd L g.d_move_in ["text"] 1 [] [0] [] := bd_of g.F_move_in 1 [] [0] fun _ _ _ _ _ _ us ws h1 h2 => match us, ws, h1, h2 with | [_], [], _, _ => rfl
theorem bd_heard_2 (g : Top L mg) : Bd L g.d_heard ["_law_flat", "_law_is_paper_so"] 2 [] [0, 1] [] := bd_of g.F_heard 2 [] [0, 1] fun _ _ _ _ _ _ us ws h1 h2 => match us, ws, h1, h2 with | [_, _], [], _, _ => rfl
theorem bd_of_2 (g : Top L mg) : Bd L g.d_of ["_law_box_here", "_law_goods_so"] 2 [] [0, 1] [] := bd_of g.F_of 2 [] [0, 1] fun _ _ _ _ _ _ us ws h1 h2 => match us, ws, h1, h2 with | [_, _], [], _, _ => rfl
theorem bd_bent_2 (g : Top L mg) : Bd L g.d_bent ["_law_box_here", "_law_piece_so"] 2 [] [0, 1] [] := bd_of g.F_bent 2 [] [0, 1] fun _ _ _ _ _ _ us ws h1 h2 => match us, ws, h1, h2 with | [_, _], [], _, _ => rfl
theorem bd_case_right_1 (g : Top L mg) : Bd L g.d_case_right ["_law_box_here"] 1 [] [0] [] := bd_of g.F_case_right 1 [] [0] fun _ _ _ _ _ _ us ws h1 h2 => match us, ws, h1, h2 with | [_], [], _, _ => rfl
theorem bd_bare_right_0 (g : Top L mg) : Bd L g.d_bare_right [] 0 [] [] [] := bd_of g.F_bare_right 0 [] [] fun _ _ _ _ _ _ us ws h1 h2 => match us, ws, h1, h2 with | [], [], _, _ => rfl
theorem bd_by_hand_right_0 (g : Top L mg) : Bd L g.d_by_hand_right [] 0 [] [] [] := bd_of g.F_by_hand_right 0 [] [] fun _ _ _ _ _ _ us ws h1 h2 => match us, ws, h1, h2 with | [], [], _, _ => rfl
theorem bd_right_1 (g : Top L mg) : Bd L g.d_right ["_law_box_here"] 1 [] [0] [] := bd_of g.F_right 1 [] [0] fun _ _ _ _ _ _ us ws h1 h2 => match us, ws, h1, h2 with | [_], [], _, _ => rfl
theorem bd_box_2 (g : Top L mg) : Bd L g.d_box ["_law_script", "_law_k"] 2 [] [0, 1] [] := bd_of g.F_box 2 [] [0, 1] fun _ _ _ _ _ _ us ws h1 h2 => match us, ws, h1, h2 with | [_, _], [], _, _ => rfl
theorem bd_cells_2 (g : Top L mg) : Bd L g.d_cells ["_law_script", "_law_top_so"] 2 [] [0, 1] [] := bd_of g.F_cells 2 [] [0, 1] fun _ _ _ _ _ _ us ws h1 h2 => match us, ws, h1, h2 with | [_, _], [], _, _ => rfl
theorem mv_paper_piece (g : Top L mg) : mg "paper_piece" = some (.ref (L.cls 1000001)) := by rw [g.e_paper_piece]; exact g.m_paper_piece
theorem sc_is_number : FnScope ["value"] ["value"] (defScope s_is_number) := ⟨rfl, rfl, rfl, by decide +kernel, rfl, by decide +kernel, by decide +kernel⟩
theorem ok_is_number (g : Top L mg) : FnOk L.pr L.w L.K mg base (L2.CX L.pr L.w) 1 g.a_is_number g.d_is_number ["value"] (spF L [false] f_is_number) := by
    have scope := sc_is_number
    exact fn_ok (N := ["value"]) (b := b_is_number) g.F_is_number sc_is_number rfl (by decide) fun cdv A outer s H E P hr =>
      (sS_one (sS_ret (sE_andC rfl (sE_isi (t := "int") rfl (by rfl) g.z_isinstance (pe_bltn (by rfl) g.z_int (by decide +kernel) rfl) (sE_var 0)) (sE_one (sE_notV rfl (sE_isi (t := "bool") rfl (by rfl) g.z_isinstance (pe_bltn (by rfl) g.z_bool (by decide +kernel) rfl) (sE_var 0)))))))
theorem sc_number_in : FnScope ["word", "sign"] ["word"] (defScope s_number_in) := ⟨rfl, rfl, rfl, by decide +kernel, rfl, by decide +kernel, by decide +kernel⟩
theorem ok_number_in (g : Top L mg) : FnOk L.pr L.w L.K mg base (L2.CX L.pr L.w) 1 g.a_number_in g.d_number_in ["word"] (spF L [false] f_number_in) := by
    have scope := sc_number_in
    exact fn_ok (N := ["word", "sign"]) (b := b_number_in) g.F_number_in sc_number_in rfl (by decide) fun cdv A outer s H E P hr =>
      (sS_cons (sS_if (sT_w (sW_or (sT_cmp (op_eqD hr.units) os_eq (sE_var 0) sE_str (nomark _)) (sW_or (sT_not (sT_val (sE_callB (cr_all rfl) fs_all (by rfl) g.z_all bt_all (sA_cons (SE.of (sF_lc (own := [("sign", 1)]) rfl scope.nd (sI_txt (sE_var 0)) (blkOk_by (by kernel_rfl)) (fun _ _ _ _ _ _ => (sC_name scope.nd (i := 1) (by rfl) (.inl rfl) (by decide))) (fun _ _ _ _ _ _ => sTs_nil) (fun _ _ _ _ _ _ => (sE_cmp op_in_sign os_inSg (sE_var 1) (sE_gstr rfl g.v_DIGITS) (by with_unfolding_all rfl))))) sA_nil)))) (sW_or1 (sT_w (sW_and (sT_cmp (op_eqD hr.units) os_eq (sE_ixP 0 rfl sE_int) sE_str (nomark _)) (sW_and1 (sT_cmp (op_neD hr.units) os_ne (sE_var 0) sE_str (nomark _))))))))) (sS_one (sS_ret sE_non)) sS_nil)
      (sS_one (sS_ret (sE_callTy call_intT fs_intT (by rfl) g.z_int bt_int (sA_cons (sE_var 0) sA_nil)))))
theorem sc_is_tick : FnScope ["thing"] ["thing"] (defScope s_is_tick) := ⟨rfl, rfl, rfl, by decide +kernel, rfl, by decide +kernel, by decide +kernel⟩
theorem ok_is_tick (g : Top L mg) : FnOk L.pr L.w L.K mg base (L2.CX L.pr L.w) 2 g.a_is_tick g.d_is_tick ["thing"] (spF L [false] f_is_tick) := by
    have scope := sc_is_tick
    exact fn_ok (N := ["thing"]) (b := b_is_tick) g.F_is_tick sc_is_tick rfl (by decide) fun cdv A outer s H E P hr =>
      (sS_one (sS_ret (sE_andC rfl (sE_call rfl ((ok_is_number g).mono (by decide)) hr (by rfl) g.m_is_number g.F_is_number.kp (bd_is_number_1 g) passB (sAr_v (sE_var 0) sAr_nil)) (sE_one (sE_cmp op_ge os_ge (sE_var 0) sE_int (nomark _))))))
theorem sc_is_stay : FnScope ["thing", "tick"] ["thing"] (defScope s_is_stay) := ⟨rfl, rfl, rfl, by decide +kernel, rfl, by decide +kernel, by decide +kernel⟩
theorem ok_is_stay (g : Top L mg) : FnOk L.pr L.w L.K mg base (L2.CX L.pr L.w) 3 g.a_is_stay g.d_is_stay ["thing"] (spF L [false] f_is_stay) := by
    have scope := sc_is_stay
    exact fn_ok (N := ["thing", "tick"]) (b := b_is_stay) g.F_is_stay sc_is_stay rfl (by decide) fun cdv A outer s H E P hr =>
      (sS_cons (sS_if (sT_w (sW_or (sT_not (sT_val (sE_isi (t := "tuple") rfl (by rfl) g.z_isinstance (pe_bltn (by rfl) g.z_tuple (by decide +kernel) rfl) (sE_var 0)))) (sW_or (sT_cmp (op_neD hr.units) os_ne (sE_callB call_len fs_len (by rfl) g.z_len bt_len (sA_cons (sE_var 0) sA_nil)) (sE_gint rfl g.v_PAIR_stays) (nomark _)) (sW_or1 (sT_not (sT_val (sE_callB (cr_all rfl) fs_all (by rfl) g.z_all bt_all (sA_cons (SE.of (sF_lc (own := [("tick", 1)]) rfl scope.nd (sI_seq rfl (sE_var 0)) (blkOk_by (by kernel_rfl)) (fun _ _ _ _ _ _ => (sC_name scope.nd (i := 1) (by rfl) (.inl rfl) (by decide))) (fun _ _ _ _ _ _ => sTs_nil) (fun _ _ _ _ _ _ => (sE_call rfl ((ok_is_tick g).mono (by decide)) hr (by rfl) g.m_is_tick g.F_is_tick.kp (bd_is_tick_1 g) passNo (sAr_v (sE_var 1) sAr_nil))))) sA_nil)))))))) (sS_one (sS_ret sE_bl)) sS_nil)
      (sS_one (sS_ret (sE_cmp op_le os_le (sE_ixP 0 rfl sE_int) (sE_ixP 0 rfl sE_int) (nomark _)))))
theorem sc_lies_in : FnScope ["stay", "other"] ["stay", "other"] (defScope s_lies_in) := ⟨rfl, rfl, rfl, by decide +kernel, rfl, by decide +kernel, by decide +kernel⟩
theorem ok_lies_in (g : Top L mg) : FnOk L.pr L.w L.K mg base (L2.CX L.pr L.w) 1 g.a_lies_in g.d_lies_in ["stay", "other"] (spF L [false, false] f_lies_in) := by
    have scope := sc_lies_in
    exact fn_ok (N := ["stay", "other"]) (b := b_lies_in) g.F_lies_in sc_lies_in rfl (by decide) fun cdv A outer s H E P hr =>
      (sS_one (sS_ret (sE_andC rfl (sE_cmp op_le os_le (sE_ixP 1 rfl sE_int) (sE_ixP 0 rfl sE_int) (nomark _)) (sE_one (sE_cmp op_le os_le (sE_ixP 0 rfl sE_int) (sE_ixP 1 rfl sE_int) (nomark _))))))
theorem sc_size_of : FnScope ["stay"] ["stay"] (defScope s_size_of) := ⟨rfl, rfl, rfl, by decide +kernel, rfl, by decide +kernel, by decide +kernel⟩
theorem ok_size_of (g : Top L mg) : FnOk L.pr L.w L.K mg base (L2.CX L.pr L.w) 1 g.a_size_of g.d_size_of ["stay"] (spF L [false] f_size_of) := by
    have scope := sc_size_of
    exact fn_ok (N := ["stay"]) (b := b_size_of) g.F_size_of sc_size_of rfl (by decide) fun cdv A outer s H E P hr =>
      (sS_one (sS_ret (sE_op or_add os_add (sE_op op_sub os_sub (sE_ixP 0 rfl sE_int) (sE_ixP 0 rfl sE_int)) sE_int)))
theorem sc_is_wider : FnScope ["stay", "later"] ["stay", "later"] (defScope s_is_wider) := ⟨rfl, rfl, rfl, by decide +kernel, rfl, by decide +kernel, by decide +kernel⟩
theorem ok_is_wider (g : Top L mg) : FnOk L.pr L.w L.K mg base (L2.CX L.pr L.w) 2 g.a_is_wider g.d_is_wider ["stay", "later"] (spF L [false, false] f_is_wider) := by
    have scope := sc_is_wider
    exact fn_ok (N := ["stay", "later"]) (b := b_is_wider) g.F_is_wider sc_is_wider rfl (by decide) fun cdv A outer s H E P hr =>
      (sS_one (sS_ret (sE_andC rfl (sE_call rfl ((ok_lies_in g).mono (by decide)) hr (by rfl) g.m_lies_in g.F_lies_in.kp (bd_lies_in_2 g) passB (sAr_v (sE_var 0) (sAr_v (sE_var 1) sAr_nil))) (sE_one (sE_cmp op_lt os_lt (sE_call rfl ((ok_size_of g).mono (by decide)) hr (by rfl) g.m_size_of g.F_size_of.kp (bd_size_of_1 g) passB (sAr_v (sE_var 0) sAr_nil)) (sE_call rfl ((ok_size_of g).mono (by decide)) hr (by rfl) g.m_size_of g.F_size_of.kp (bd_size_of_1 g) passB (sAr_v (sE_var 1) sAr_nil)) (nomark _))))))
theorem sc_is_move : FnScope ["thing", "word", "stay", "more"] ["thing"] (defScope s_is_move) := ⟨rfl, rfl, rfl, by decide +kernel, rfl, by decide +kernel, by decide +kernel⟩
theorem ok_is_move (g : Top L mg) : FnOk L.pr L.w L.K mg base (L2.CX L.pr L.w) 4 g.a_is_move g.d_is_move ["thing"] (spF L [false] f_is_move) := by
    have scope := sc_is_move
    exact fn_ok (N := ["thing", "word", "stay", "more"]) (b := b_is_move) g.F_is_move sc_is_move rfl (by decide) fun cdv A outer s H E P hr =>
      (sS_cons (sS_if (sT_w (sW_or (sT_not (sT_val (sE_isi (t := "tuple") rfl (by rfl) g.z_isinstance (pe_bltn (by rfl) g.z_tuple (by decide +kernel) rfl) (sE_var 0)))) (sW_or (sT_not (sT_chain op_le op_le os_le os_le (sE_gint rfl g.v_PAIR_stays) (sE_callB call_len fs_len (by rfl) g.z_len bt_len (sA_cons (sE_var 0) sA_nil)) (sE_gint rfl g.v_TRIPLE))) (sW_or1 (sT_not (sT_val (sE_call rfl ((ok_is_stay g).mono (by decide)) hr (by rfl) g.m_is_stay g.F_is_stay.kp (bd_is_stay_1 g) passB (sAr_v (sE_ixP 0 rfl sE_int) sAr_nil)))))))) (sS_one (sS_ret sE_bl)) sS_nil)
      (sS_cons (sS_if (sT_cmp (op_eqD hr.units) os_eq (sE_callB call_len fs_len (by rfl) g.z_len bt_len (sA_cons (sE_var 0) sA_nil)) (sE_gint rfl g.v_PAIR_stays) (nomark _)) (sS_one (sS_ret (sE_andC rfl (sE_isi (t := "str") rfl (by rfl) g.z_isinstance (pe_bltn (by rfl) g.z_str (by decide +kernel) rfl) (sE_ixP 0 rfl sE_int)) (sE_one (sE_cmp (op_eqD hr.units) os_eq (sE_ixP 0 rfl sE_int) sE_str (nomark _)))))) sS_nil)
      (sS_cons (sS_asg (sE_var 0) (sG_tup rfl rfl (sGs_cons (sG_name (i := 1) scope.nd (by rfl) (.inl rfl)) (sGs_cons (sG_name (i := 2) scope.nd (by rfl) (.inl rfl)) (sGs_cons (sG_name (i := 3) scope.nd (by rfl) (.inl rfl)) sGs_nil)))))
      (sS_cons (sS_if (sT_not (sT_val (sE_isi (t := "str") rfl (by rfl) g.z_isinstance (pe_bltn (by rfl) g.z_str (by decide +kernel) rfl) (sE_var 1)))) (sS_one (sS_ret sE_bl)) sS_nil)
      (sS_cons (sS_if (sT_cmp (op_eqD hr.units) os_eq (sE_var 1) sE_str (nomark _)) (sS_one (sS_ret (sE_andC rfl (sE_call rfl ((ok_is_tick g).mono (by decide)) hr (by rfl) g.m_is_tick g.F_is_tick.kp (bd_is_tick_1 g) passB (sAr_v (sE_var 3) sAr_nil)) (sE_one (sE_chain op_le op_lt os_le os_lt (sE_ixP 2 rfl sE_int) (sE_var 3) (sE_ixP 2 rfl sE_int)))))) sS_nil)
      (sS_cons (sS_if (sT_w (sW_or (sT_cmp (op_notIn2 (room65 hr)) os_notIn2 (sE_var 1) (sE_tup (sA_cons sE_str (sA_cons sE_str sA_nil))) (by with_unfolding_all rfl)) (sW_or1 (sT_not (sT_val (sE_call rfl ((ok_is_stay g).mono (by decide)) hr (by rfl) g.m_is_stay g.F_is_stay.kp (bd_is_stay_1 g) passB (sAr_v (sE_var 3) sAr_nil))))))) (sS_one (sS_ret sE_bl)) sS_nil)
      (sS_one (sS_ret (sE_if (sT_cmp (op_eqD hr.units) os_eq (sE_var 1) sE_str (nomark _)) (sE_call rfl ((ok_is_wider g).mono (by decide)) hr (by rfl) g.m_is_wider g.F_is_wider.kp (bd_is_wider_2 g) passB (sAr_v (sE_var 2) (sAr_v (sE_var 3) sAr_nil))) (sE_andC rfl (sE_cmp op_lt os_lt (sE_ixP 2 rfl sE_int) (sE_ixP 3 rfl sE_int) (nomark _)) (sE_one (sE_cmp op_lt os_lt (sE_ixP 3 rfl sE_int) (sE_ixP 2 rfl sE_int) (nomark _)))))))))))))
theorem sc_stay_of : FnScope ["word", "ends", "part"] ["word"] (defScope s_stay_of) := ⟨rfl, rfl, rfl, by decide +kernel, rfl, by decide +kernel, by decide +kernel⟩
theorem ok_stay_of (g : Top L mg) : FnOk L.pr L.w L.K mg base (L2.CX L.pr L.w) 2 g.a_stay_of g.d_stay_of ["word"] (spF L [false] f_stay_of) := by
    have scope := sc_stay_of
    exact fn_ok (N := ["word", "ends", "part"]) (b := b_stay_of) g.F_stay_of sc_stay_of rfl (by decide) fun cdv A outer s H E P hr =>
      (sS_cons (sS_setLcO (i := 1) (own := [("part", 2)]) rfl scope.nd (by rfl) rfl (sI_seq rfl (sE_split (sE_var 0) (sE_gstr rfl g.v_STROKE))) (blkOk_by (by kernel_rfl)) (fun _ _ _ _ _ _ => (sC_name scope.nd (i := 2) (by rfl) (.inl rfl) (by decide))) (fun _ _ _ _ _ _ => sTs_nil) (fun _ _ _ _ _ _ => (sE_call rfl ((ok_number_in g).mono (by decide)) hr (by rfl) g.m_number_in g.F_number_in.kp (bd_number_in_1 g) passNo (sAr_v (sE_var 2) sAr_nil))) (by rfl))
      (sS_one (sS_ret (sE_if (sT_w (sW_or (sT_cmp (op_neD hr.units) os_ne (sE_callB call_len fs_len (by rfl) g.z_len bt_len (sA_cons (sE_var 1) sA_nil)) (sE_gint rfl g.v_PAIR_texts) (nomark _)) (sW_or (sT_cmp (op_in2 (room65 hr)) os_in2 sE_non (sE_var 1) (by with_unfolding_all rfl)) (sW_or1 (sT_cmp op_gt os_gt (sE_ixP 1 rfl sE_int) (sE_ixP 1 rfl sE_int) (nomark _)))))) sE_non (sE_callTy call_tuple_of fs_tuple (by rfl) g.z_tuple bt_tuple (sA_cons (sE_var 1) sA_nil))))))
theorem sc_part_of : FnScope ["word"] ["word"] (defScope s_part_of) := ⟨rfl, rfl, rfl, by decide +kernel, rfl, by decide +kernel, by decide +kernel⟩
theorem ok_part_of (g : Top L mg) : FnOk L.pr L.w L.K mg base (L2.CX L.pr L.w) 3 g.a_part_of g.d_part_of ["word"] (spF L [false] f_part_of) := by
    have scope := sc_part_of
    exact fn_ok (N := ["word"]) (b := b_part_of) g.F_part_of sc_part_of rfl (by decide) fun cdv A outer s H E P hr =>
      (sS_one (sS_ret (sE_if (sT_cmp op_in_sign os_inSg (sE_gstr rfl g.v_STROKE) (sE_var 0) (by with_unfolding_all rfl)) (sE_call rfl ((ok_stay_of g).mono (by decide)) hr (by rfl) g.m_stay_of g.F_stay_of.kp (bd_stay_of_1 g) passB (sAr_v (sE_var 0) sAr_nil)) (sE_call rfl ((ok_number_in g).mono (by decide)) hr (by rfl) g.m_number_in g.F_number_in.kp (bd_number_in_1 g) passB (sAr_v (sE_var 0) sAr_nil)))))
theorem sc_move_of : FnScope ["piece", "words", "found", "word"] ["piece"] (defScope s_move_of) := ⟨rfl, rfl, rfl, by decide +kernel, rfl, by decide +kernel, by decide +kernel⟩
theorem ok_move_of (g : Top L mg) : FnOk L.pr L.w L.K mg base (L2.CX L.pr L.w) 5 g.a_move_of g.d_move_of ["piece"] (spF L [false] f_move_of) := by
    have scope := sc_move_of
    exact fn_ok (N := ["piece", "words", "found", "word"]) (b := b_move_of) g.F_move_of sc_move_of rfl (by decide) fun cdv A outer s H E P hr =>
      (sS_cons (sS_set (i := 1) scope.nd (by rfl) (.inl rfl) (sE_split (sE_var 0) (sE_gstr rfl g.v_BLANK)))
      (sS_cons (sS_set (i := 2) scope.nd (by rfl) (.inl rfl) (sE_tup (sA_cons (sE_ixP 1 rfl sE_int) (sA_star rfl (SE.of (sF_lc (own := [("word", 3)]) rfl scope.nd (sI_seq rfl (sE_slP 1 rfl (sO_some sE_int) sO_none)) (blkOk_by (by kernel_rfl)) (fun _ _ _ _ _ _ => (sC_name scope.nd (i := 3) (by rfl) (.inl rfl) (by decide))) (fun _ _ _ _ _ _ => sTs_nil) (fun _ _ _ _ _ _ => (sE_call rfl ((ok_part_of g).mono (by decide)) hr (by rfl) g.m_part_of g.F_part_of.kp (bd_part_of_1 g) passNo (sAr_v (sE_var 3) sAr_nil))))) sA_nil))))
      (sS_one (sS_ret (sE_if (sT_val (sE_call rfl ((ok_is_move g).mono (by decide)) hr (by rfl) g.m_is_move g.F_is_move.kp (bd_is_move_1 g) passB (sAr_v (sE_var 2) sAr_nil))) (sE_var 2) sE_non)))))
theorem sc_many_of : FnScope ["word", "number"] ["word"] (defScope s_many_of) := ⟨rfl, rfl, rfl, by decide +kernel, rfl, by decide +kernel, by decide +kernel⟩
theorem ok_many_of (g : Top L mg) : FnOk L.pr L.w L.K mg base (L2.CX L.pr L.w) 2 g.a_many_of g.d_many_of ["word"] (spF L [false] f_many_of) := by
    have scope := sc_many_of
    exact fn_ok (N := ["word", "number"]) (b := b_many_of) g.F_many_of sc_many_of rfl (by decide) fun cdv A outer s H E P hr =>
      (sS_cons (sS_set (i := 1) scope.nd (by rfl) (.inl rfl) (sE_call rfl ((ok_number_in g).mono (by decide)) hr (by rfl) g.m_number_in g.F_number_in.kp (bd_number_in_1 g) passB (sAr_v (sE_var 0) sAr_nil)))
      (sS_one (sS_ret (sE_if (sT_cmp (op_eqD hr.units) os_eq (sE_var 1) sE_int (nomark _)) sE_non (sE_var 1)))))
theorem sc_paper_piece : FnScope ["piece", "parts", "move", "many"] ["piece"] (defScope s_paper_piece) := ⟨rfl, rfl, rfl, by decide +kernel, rfl, by decide +kernel, by decide +kernel⟩
theorem ok_paper_piece (g : Top L mg) : FnOk L.pr L.w L.K mg base (L2.CX L.pr L.w) 6 g.a_paper_piece g.d_paper_piece ["piece"] (spF L [false] f_paper_piece) := by
    have scope := sc_paper_piece
    exact fn_ok (N := ["piece", "parts", "move", "many"]) (b := b_paper_piece) g.F_paper_piece sc_paper_piece rfl (by decide) fun cdv A outer s H E P hr =>
      (sS_cons (sS_set (i := 1) scope.nd (by rfl) (.inl rfl) (sE_split (sE_var 0) (sE_gstr rfl g.v_TIMES)))
      (sS_cons (sS_if (sT_cmp (op_neD hr.units) os_ne (sE_callB call_len fs_len (by rfl) g.z_len bt_len (sA_cons (sE_var 1) sA_nil)) (sE_gint rfl g.v_PAIR_texts) (nomark _)) (sS_one (sS_ret sE_non)) sS_nil)
      (sS_cons (sS_par (i := 2) (j := 3) rfl scope.nd (by rfl) (by rfl) (by decide) rfl rfl (sE_call rfl ((ok_move_of g).mono (by decide)) hr (by rfl) g.m_move_of g.F_move_of.kp (bd_move_of_1 g) passB (sAr_v (sE_ixP 1 rfl sE_int) sAr_nil)) (sE_call rfl ((ok_many_of g).mono (by decide)) hr (by rfl) g.m_many_of g.F_many_of.kp (bd_many_of_1 g) passB (sAr_v (sE_ixP 1 rfl sE_int) sAr_nil)) (by rfl))
      (sS_one (sS_ret (sE_if (sT_w (sW_or (sT_cmp op_isN os_is (sE_var 2) sE_non (nomark _)) (sW_or1 (sT_cmp op_isN os_is (sE_var 3) sE_non (nomark _))))) sE_non (sE_tup (sA_cons (sE_var 2) (sA_cons (sE_tup (sA_cons (sE_var 2) (sA_cons (sE_var 3) sA_nil))) sA_nil)))))))))
theorem sc_BadText___init__ : FnScope ["self", "piece"] ["self", "piece"] (defScope s_BadText___init__) := ⟨rfl, rfl, rfl, by decide +kernel, rfl, by decide +kernel, by decide +kernel⟩
theorem ok_BadText___init__ (g : Top L mg) : FnOk L.pr L.w L.K mg base (L2.CX L.pr L.w) 1 g.a_BadText___init__ g.d_BadText___init__ ["self", "piece"] (spX L 1 1 ["piece"] ini1) :=
  initX1 (N := ["self", "piece"]) g.F_BadText___init__ (by rfl) sc_BadText___init__ rfl g.xk_BadText.oe g.no_BadText_piece fun cdv A outer s H E => ⟨pe_var (by rfl) (Or.inl rfl), pe_var (by rfl) (Or.inl rfl), by rfl⟩
theorem ft_pieces_in_reader (g : Top L mg) : ∀ q ∈ ([(1000001, f_paper_piece)] : List (Nat × (List D → RF))), PySem.W.keepIn L.K (.ref (L.cls q.1)) = true ∧ ∃ fd ps, FnOk L.pr L.w L.K mg base (L2.CX L.pr L.w) 6 (L.cls q.1) fd ps (spF L (List.replicate 1 false) q.2) ∧ Bd L fd ps 1 [] (List.range 1) [] := by
  simp only [List.forall_mem_cons]
  exact ⟨⟨by rw [g.e_paper_piece]; exact g.F_paper_piece.kp, g.d_paper_piece, _, by rw [g.e_paper_piece]; exact (ok_paper_piece g).mono (by decide), bd_paper_piece_1 g⟩, fun _ h => nomatch h⟩
theorem sc_pieces_in : FnScope ["text", "gap", "reader", "found", "keys", "place", "piece", "told"] ["text", "gap", "reader"] (defScope s_pieces_in) := ⟨rfl, rfl, rfl, by decide +kernel, rfl, by decide +kernel, by decide +kernel⟩
theorem ok_pieces_in (g : Top L mg) : FnOk L.pr L.w L.K mg base (L2.CX L.pr L.w) 7 g.a_pieces_in g.d_pieces_in ["text", "gap", "reader"] (spF L [false, false, false] f_pieces_in) := by
    have scope := sc_pieces_in
    exact fn_ok (N := ["text", "gap", "reader", "found", "keys", "place", "piece", "told"]) (b := b_pieces_in) g.F_pieces_in sc_pieces_in rfl (by decide) fun cdv A outer s H E P hr =>
      (sS_cons (sS_parOO (i := 3) (j := 4) rfl scope.nd (by rfl) (by rfl) (by decide) rfl rfl (tLst_fresh sA_nil) (fun P => (tLst_fresh sA_nil)) (by rfl))
      (sS_cons (sS_for ownB rfl (sI_enum2 rfl (by rfl) g.z_enumerate (sA_cons (sE_if (sT_cmp (op_neD hr.units) os_ne (sE_var 0) (sE_gstr rfl g.v_NOTHING) (nomark _)) (sE_split (sE_var 0) (sE_var 1)) (sE_lst sA_nil)) sA_nil)) (sG_tup rfl rfl (sGs_cons (sG_name (i := 5) scope.nd (by rfl) (.inl rfl)) (sGs_cons (sG_name (i := 6) scope.nd (by rfl) (.inl rfl)) sGs_nil))) (sS_cons (sS_set (i := 7) scope.nd (by rfl) (.inl rfl) (sE_callV 2 rfl (fun q hq => ⟨(ft_pieces_in_reader (base := base) g q hq).1, (ft_pieces_in_reader (base := base) g q hq).2⟩) hr (by rfl) (by first | exact Or.inl rfl | exact Or.inr (Or.inl rfl) | exact Or.inr (Or.inr rfl)) passB (sAr_v (sE_var 6) sAr_nil)))
      (sS_cons (sS_if (sT_w (sW_or (sT_cmp op_isN os_is (sE_var 7) sE_non (nomark _)) (sW_or1 (sT_w (sW_and (sT_cmp op_gt os_gt (sE_callBP 4 call_len fs_len (by rfl) g.z_len bt_len (pv 4)) sE_int (nomark _)) (sW_and1 (sT_cmp (op_leN rfl hr.units) os_leN (sE_ixP 7 rfl sE_int) (sE_ixP 4 rfl (sE_un un_neg us_neg sE_int)) (nomark _)))))))) (sS_one (sS_raise ⟨rfl, rfl, rfl⟩ rfl takB (by decide) g.xk_BadText.oe g.xa_BadText g.xt_BadText ((ok_BadText___init__ g).mono (by decide)) hr (by rfl) g.mg_BadText (bn_BadText___init__ g) (sA_cons (sE_var 5) sA_nil))) sS_nil)
      (sS_cons (sS_expr (sE_app 4 (sE_ixP 7 rfl sE_int)))
      (sS_one (sS_expr (sE_app 3 (sE_ixP 7 rfl sE_int))))))))
      (sS_one (sS_ret (sE_callTyP 3 call_tuple_of fs_tuple (by rfl) g.z_tuple bt_tuple (pv 3))))))
theorem sc_sole : FnScope ["found"] ["found"] (defScope s_sole) := ⟨rfl, rfl, rfl, by decide +kernel, rfl, by decide +kernel, by decide +kernel⟩
theorem ok_sole (g : Top L mg) : FnOk L.pr L.w L.K mg base (L2.CX L.pr L.w) 3 g.a_sole g.d_sole ["found"] (spF L [false] f_sole) := by
    have scope := sc_sole
    exact fn_ok (N := ["found"]) (b := b_sole) g.F_sole sc_sole rfl (by decide) fun cdv A outer s H E P hr =>
      (sS_cons (sS_if (sT_cmp op_isN os_is (sE_var 0) sE_non (nomark _)) (sS_one (sS_raise ⟨rfl, rfl, rfl⟩ rfl takB (by decide) g.xk_BadText.oe g.xa_BadText g.xt_BadText ((ok_BadText___init__ g).mono (by decide)) hr (by rfl) g.mg_BadText (bn_BadText___init__ g) (sA_cons sE_int sA_nil))) sS_nil)
      (sS_one (sS_ret (sE_var 0))))
theorem sc_move_in : FnScope ["text"] ["text"] (defScope s_move_in) := ⟨rfl, rfl, rfl, by decide +kernel, rfl, by decide +kernel, by decide +kernel⟩
theorem ok_move_in (g : Top L mg) : FnOk L.pr L.w L.K mg base (L2.CX L.pr L.w) 6 g.a_move_in g.d_move_in ["text"] (spF L [false] f_move_in) := by
    have scope := sc_move_in
    exact fn_ok (N := ["text"]) (b := b_move_in) g.F_move_in sc_move_in rfl (by decide) fun cdv A outer s H E P hr =>
      (sS_one (sS_ret (sE_call rfl ((ok_sole g).mono (by decide)) hr (by rfl) g.m_sole g.F_sole.kp (bd_sole_1 g) passB (sAr_v (sE_call rfl ((ok_move_of g).mono (by decide)) hr (by rfl) g.m_move_of g.F_move_of.kp (bd_move_of_1 g) passB (sAr_v (sE_var 0) sAr_nil)) sAr_nil))))
theorem sc_paper_in : FnScope ["text"] ["text"] (defScope s_paper_in) := ⟨rfl, rfl, rfl, by decide +kernel, rfl, by decide +kernel, by decide +kernel⟩
theorem ok_paper_in (g : Top L mg) : FnOk L.pr L.w L.K mg base (L2.CX L.pr L.w) 8 g.a_paper_in g.d_paper_in ["text"] (spF L [false] f_paper_in) := by
    have scope := sc_paper_in
    exact fn_ok (N := ["text"]) (b := b_paper_in) g.F_paper_in sc_paper_in rfl (by decide) fun cdv A outer s H E P hr =>
      (sS_one (sS_ret (sE_call rfl ((ok_pieces_in g).mono (by decide)) hr (by rfl) g.m_pieces_in g.F_pieces_in.kp (bd_pieces_in_3 g) passB (sAr_v (sE_var 0) (sAr_v (sE_gstr rfl g.v_BETWEEN) (sAr_v (sE_fun (by decide) (by rfl) (mv_paper_piece g)) sAr_nil))))))
theorem sc_box : FnScope ["_law_script", "_law_k", "_law_cell"] ["_law_script", "_law_k"] (defScope s_box) := ⟨rfl, rfl, rfl, by decide +kernel, rfl, by decide +kernel, by decide +kernel⟩
theorem ok_box (g : Top L mg) : FnOk L.pr L.w L.K mg base (L2.CX L.pr L.w) 1 g.a_box g.d_box ["_law_script", "_law_k"] (spF L [false, false] f_box) := by
    have scope := sc_box
    exact fn_ok (N := ["_law_script", "_law_k", "_law_cell"]) (b := b_box) g.F_box sc_box rfl (by decide) fun cdv A outer s H E P hr =>
      (sS_cons (sS_set (i := 2) scope.nd (by rfl) (.inl rfl) (sE_if (sT_cmp op_lt os_lt (sE_var 1) (sE_callB call_len fs_len (by rfl) g.z_len bt_len (sA_cons (sE_var 0) sA_nil)) (nomark _)) (sE_ixP 0 rfl (sE_var 1)) sE_int))
      (sS_one (sS_retO (tLst_fresh (sA_cons (sE_op or_mul os_mul (sE_callB call_abs fs_abs (by rfl) g.z_abs bt_abs (sA_cons (sE_var 2) sA_nil)) (sE_callTy call_int1 fs_int (by rfl) g.z_int bt_int (sA_cons (sE_cmp op_ge os_ge (sE_callB call_abs fs_abs (by rfl) g.z_abs bt_abs (sA_cons (sE_var 2) sA_nil)) (sE_op op_pow os_pow sE_int sE_int) (nomark _)) sA_nil))) (sA_cons (sE_op or_add os_add (sE_op or_add os_add (sE_op op_mod os_mod (sE_callTy call_int1 fs_int (by rfl) g.z_int bt_int (sA_cons (sE_var 2) sA_nil)) sE_int) (sE_op or_mul os_mul sE_int (sE_var 1))) sE_int) (sA_cons sE_int sA_nil)))))))
theorem sc_take : FnScope ["_law_box_here", "_law_size_so", "_law_some", "_law_once", "_law_far", "_law_again"] ["_law_box_here", "_law_size_so"] (defScope s_take) := ⟨rfl, rfl, rfl, by decide +kernel, rfl, by decide +kernel, by decide +kernel⟩
theorem ok_take (g : Top L mg) : FnOk L.pr L.w L.K mg base (L2.CX L.pr L.w) 1 g.a_take g.d_take ["_law_box_here", "_law_size_so"] (spF L [true, false] f_take) := by
    have scope := sc_take
    exact fn_ok (N := ["_law_box_here", "_law_size_so", "_law_some", "_law_once", "_law_far", "_law_again"]) (b := b_take) g.F_take sc_take rfl (by decide) fun cdv A outer s H E P hr =>
      (sS_cons (sS_if (sT_cmp op_gt os_gt (sE_ixP 0 rfl sE_int) sE_int (nomark _)) (sS_cons (sS_set (i := 2) scope.nd (by rfl) (.inl rfl) (sE_op op_mod os_mod (sE_callTy call_int1 fs_int (by rfl) g.z_int bt_int (sA_cons (sE_ixP 0 rfl sE_int) sA_nil)) (sE_var 1)))
      (sS_cons (sS_asg (sE_op op_fdivW os_fdiv (sE_ixP 0 rfl sE_int) (sE_var 1)) (sG_ix (W := (Wof E)) 0 sE_int))
      (sS_one (sS_ret (sE_var 2))))) sS_nil)
      (sS_cons (sS_asg (sE_op or_add os_add (sE_ixP 0 rfl sE_int) sE_int) (sG_ix (W := (Wof E)) 0 sE_int))
      (sS_cons (sS_set (i := 3) scope.nd (by rfl) (.inl rfl) (sE_op op_mod os_mod (sE_callTy call_int1 fs_int (by rfl) g.z_int bt_int (sA_cons (sE_op or_mul os_mul (sE_op or_add os_add (sE_ixP 0 rfl sE_int) (sE_op or_mul os_mul sE_int (sE_ixP 0 rfl sE_int))) (sE_op or_add os_add sE_int (sE_ixP 0 rfl sE_int))) sA_nil)) sE_int))
      (sS_cons (sS_set (i := 4) scope.nd (by rfl) (.inl rfl) (sE_op or_add os_add (sE_op op_mod os_mod (sE_callTy call_int1 fs_int (by rfl) g.z_int bt_int (sA_cons (sE_var 3) sA_nil)) sE_int) sE_int))
      (sS_cons (sS_set (i := 5) scope.nd (by rfl) (.inl rfl) (sE_op op_mod os_mod (sE_callTy call_int1 fs_int (by rfl) g.z_int bt_int (sA_cons (sE_op or_mul os_mul (sE_op or_add os_add (sE_op or_add os_add (sE_var 3) (sE_ixP 0 rfl sE_int)) (sE_op op_fdivW os_fdiv (sE_ixP 0 rfl sE_int) sE_int)) (sE_var 4)) sA_nil)) sE_int))
      (sS_one (sS_ret (sE_op op_mod os_mod (sE_callTy call_int1 fs_int (by rfl) g.z_int bt_int (sA_cons (sE_op op_fdivW os_fdiv (sE_op op_mod os_mod (sE_callTy call_int1 fs_int (by rfl) g.z_int bt_int (sA_cons (sE_op or_add os_add (sE_op or_mul os_mul (sE_var 5) sE_int) (sE_var 3)) sA_nil)) sE_int) sE_int) sA_nil)) (sE_var 1)))))))))
theorem sc_cells : FnScope ["_law_script", "_law_top_so", "_law_cells_so", "_law_k", "_law_cell", "_law_at_so"] ["_law_script", "_law_top_so"] (defScope s_cells) := ⟨rfl, rfl, rfl, by decide +kernel, rfl, by decide +kernel, by decide +kernel⟩
theorem ok_cells (g : Top L mg) : FnOk L.pr L.w L.K mg base (L2.CX L.pr L.w) 1 g.a_cells g.d_cells ["_law_script", "_law_top_so"] (spF L [false, false] f_cells) := by
    have scope := sc_cells
    exact fn_ok (N := ["_law_script", "_law_top_so", "_law_cells_so", "_law_k", "_law_cell", "_law_at_so"]) (b := b_cells) g.F_cells sc_cells rfl (by decide) fun cdv A outer s H E P hr =>
      (sS_cons (sS_setO (i := 2) scope.nd (by rfl) (.inl rfl) (sF_or rfl (sF_callTy call_list_of ff_list (by rfl) g.z_list bt_list (sA_cons (sE_slP 0 rfl sO_none (sO_some (sE_var 1))) sA_nil)) (tLst_fresh (sA_cons sE_int sA_nil))))
      (sS_cons (sS_for ownB rfl (sI_enum2 rfl (by rfl) g.z_enumerate (sA_cons (sE_slP 0 rfl (sO_some (sE_var 1)) (sO_some sE_int)) sA_nil)) (sG_tup rfl rfl (sGs_cons (sG_name (i := 3) scope.nd (by rfl) (.inl rfl)) (sGs_cons (sG_name (i := 4) scope.nd (by rfl) (.inl rfl)) sGs_nil))) (sS_cons (sS_set (i := 5) scope.nd (by rfl) (.inl rfl) (sE_op op_mod os_mod (sE_callTy call_int1 fs_int (by rfl) g.z_int bt_int (sA_cons (sE_var 3) sA_nil)) (sE_var 1)))
      (sS_one (sS_asg (sE_op or_add os_add (sE_ixP 2 rfl (sE_var 5)) (sE_op or_mul os_mul (sE_var 4) (sE_op or_add os_add (sE_var 3) sE_int))) (sG_ix (W := (Wof E)) 2 (sE_var 5))))))
      (sS_one (sS_ret (sE_var 2)))))
theorem sc_of : FnScope ["_law_box_here", "_law_goods_so"] ["_law_box_here", "_law_goods_so"] (defScope s_of) := ⟨rfl, rfl, rfl, by decide +kernel, rfl, by decide +kernel, by decide +kernel⟩
theorem ok_of (g : Top L mg) : FnOk L.pr L.w L.K mg base (L2.CX L.pr L.w) 2 g.a_of g.d_of ["_law_box_here", "_law_goods_so"] (spF L [true, false] f_of) := by
    have scope := sc_of
    exact fn_ok (N := ["_law_box_here", "_law_goods_so"]) (b := b_of) g.F_of sc_of rfl (by decide) fun cdv A outer s H E P hr =>
      (sS_one (sS_ret (sE_ixP 1 rfl (sE_call rfl ((ok_take g).mono (by decide)) hr (by rfl) g.m_take g.F_take.kp (bd_take_2 g) passB (sAr_io 0 (sAr_v (sE_callB call_len fs_len (by rfl) g.z_len bt_len (sA_cons (sE_var 1) sA_nil)) sAr_nil))))))
theorem ofk_of (g : Top L mg) : OfOk L.pr L.w L.K mg base (L2.CX L.pr L.w) 2 g.a_of g.d_of ["_law_box_here", "_law_goods_so"] (spF L [true, false] f_of) := by
    have scope := sc_of
    exact of_okR (bx := "_law_box_here") (gx := "_law_goods_so") g.F_of sc_of rfl (by intro _ _; rfl) (Or.inl rfl) (by decide) (by decide) fun cdv A outer s H E P hr =>
      (sE_call rfl ((ok_take g).mono (by decide)) hr (by rfl) g.m_take g.F_take.kp (bd_take_2 g) passB (sAr_io 0 (sAr_v (sE_callB call_len fs_len (by rfl) g.z_len bt_len (sA_cons (sE_var 1) sA_nil)) sAr_nil)))
theorem sc_same_o : FnScope ["_law_got", "_law_due", "_law_mine", "_law_its"] ["_law_got", "_law_due"] (defScope s_same_o) := ⟨rfl, rfl, rfl, by decide +kernel, rfl, by decide +kernel, by decide +kernel⟩
theorem okn_same_o (g : Top L mg) : ∀ n : Nat, FnOk L.pr L.w L.K mg base (L2.CX L.pr L.w) (n + 0) g.a_same_o g.d_same_o ["_law_got", "_law_due"] (spF L [false, false] (ff_same_o n))
  | 0 => fn_fail
  | n + 1 => by
    have self := okn_same_o g n
    have scope := sc_same_o
    rw [show n + 1 + 0 = (n + 0) + 1 by omega]
    exact fn_ok (N := ["_law_got", "_law_due", "_law_mine", "_law_its"]) (b := b_same_o (ff_same_o n)) g.F_same_o sc_same_o rfl (by decide) fun cdv A outer s H E P hr =>
      (sS_cons (sS_if (sT_val (sE_isi2 (t := "list") (t' := "tuple") rfl (by rfl) g.z_isinstance (pe_bltn (by rfl) g.z_list (by decide +kernel) rfl) (pe_bltn (by rfl) g.z_tuple (by decide +kernel) rfl) (sE_var 1))) (sS_cons (sS_if (sT_cmp (op_neD hr.units) os_ne (sE_isi (t := "list") rfl (by rfl) g.z_isinstance (pe_bltn (by rfl) g.z_list (by decide +kernel) rfl) (sE_var 0)) (sE_isi (t := "list") rfl (by rfl) g.z_isinstance (pe_bltn (by rfl) g.z_list (by decide +kernel) rfl) (sE_var 1)) (nomark _)) (sS_one (sS_ret sE_bl)) sS_nil)
      (sS_cons (sS_if (sT_cmp (op_neD hr.units) os_ne (sE_isi (t := "tuple") rfl (by rfl) g.z_isinstance (pe_bltn (by rfl) g.z_tuple (by decide +kernel) rfl) (sE_var 0)) (sE_isi (t := "tuple") rfl (by rfl) g.z_isinstance (pe_bltn (by rfl) g.z_tuple (by decide +kernel) rfl) (sE_var 1)) (nomark _)) (sS_one (sS_ret sE_bl)) sS_nil)
      (sS_one (sS_ret (sE_andC rfl (sE_cmp (op_eqD hr.units) os_eq (sE_callB call_len fs_len (by rfl) g.z_len bt_len (sA_cons (sE_var 0) sA_nil)) (sE_callB call_len fs_len (by rfl) g.z_len bt_len (sA_cons (sE_var 1) sA_nil)) (nomark _)) (sE_one (sE_callB (cr_all rfl) fs_all (by rfl) g.z_all bt_all (sA_cons (SE.of (sF_lc (own := [("_law_mine", 2), ("_law_its", 3)]) rfl scope.nd (sI_zip rfl (by rfl) g.z_zip (sA_cons (sE_var 0) (sA_cons (sE_var 1) sA_nil))) (blkOk_by (by kernel_rfl)) (fun _ _ _ _ _ _ => (sC_tup rfl rfl (sCs_cons (sC_name scope.nd (i := 2) (by rfl) (.inl rfl) (by decide)) (sCs_cons (sC_name scope.nd (i := 3) (by rfl) (.inl rfl) (by decide)) sCs_nil)))) (fun _ _ _ _ _ _ => sTs_nil) (fun _ _ _ _ _ _ => (sE_call rfl self hr (by rfl) g.m_same_o g.F_same_o.kp (bd_same_o_2 g) passNo (sAr_v (sE_var 2) (sAr_v (sE_var 3) sAr_nil)))))) sA_nil)))))))) sS_nil)
      (sS_cons (sS_if (sT_w (sW_or (sT_cmp op_isN os_is (sE_var 1) sE_non (nomark _)) (sW_or1 (sT_val (sE_isi2 (t := "bool") (t' := "str") rfl (by rfl) g.z_isinstance (pe_bltn (by rfl) g.z_bool (by decide +kernel) rfl) (pe_bltn (by rfl) g.z_str (by decide +kernel) rfl) (sE_var 1)))))) (sS_one (sS_ret (sE_andC rfl (sE_cmp (op_eqD hr.units) os_eq (sE_var 0) (sE_var 1) (nomark _)) (sE_andC rfl (sE_cmp (op_eqD hr.units) os_eq (sE_isi (t := "bool") rfl (by rfl) g.z_isinstance (pe_bltn (by rfl) g.z_bool (by decide +kernel) rfl) (sE_var 0)) (sE_isi (t := "bool") rfl (by rfl) g.z_isinstance (pe_bltn (by rfl) g.z_bool (by decide +kernel) rfl) (sE_var 1)) (nomark _)) (sE_one (sE_cmp (op_eqD hr.units) os_eq (sE_cmp op_isN os_is (sE_var 0) sE_non (nomark _)) (sE_cmp op_isN os_is (sE_var 1) sE_non (nomark _)) (nomark _))))))) sS_nil)
      (sS_one (sS_ret (sE_andC rfl (sE_isi (t := "int") rfl (by rfl) g.z_isinstance (pe_bltn (by rfl) g.z_int (by decide +kernel) rfl) (sE_var 0)) (sE_andC rfl (sE_notV rfl (sE_isi (t := "bool") rfl (by rfl) g.z_isinstance (pe_bltn (by rfl) g.z_bool (by decide +kernel) rfl) (sE_var 0))) (sE_one (sE_cmp (op_eqD hr.units) os_eq (sE_var 0) (sE_var 1) (nomark _)))))))))
theorem ok_same_o (g : Top L mg) : FnOk L.pr L.w L.K mg base (L2.CX L.pr L.w) 6 g.a_same_o g.d_same_o ["_law_got", "_law_due"] (spF L [false, false] f_same_o) := okn_same_o g 6
theorem sc_heard : FnScope ["_law_flat", "_law_is_paper_so", "_law_caught", "_law_told_so", "error_so"] ["_law_flat", "_law_is_paper_so"] (defScope s_heard) := ⟨rfl, rfl, rfl, by decide +kernel, rfl, by decide +kernel, by decide +kernel⟩
theorem ok_heard (g : Top L mg) : FnOk L.pr L.w L.K mg base (L2.CX L.pr L.w) 9 g.a_heard g.d_heard ["_law_flat", "_law_is_paper_so"] (spF L [false, false] f_heard) := by
    have scope := sc_heard
    exact fn_ok (N := ["_law_flat", "_law_is_paper_so", "_law_caught", "_law_told_so", "error_so"]) (b := b_heard) g.F_heard sc_heard rfl (by decide) fun cdv A outer s H E P hr =>
      (sS_cons (sS_asg (sE_tup (sA_cons sE_non (sA_cons sE_non sA_nil))) (sG_tup rfl rfl (sGs_cons (sG_name (i := 2) scope.nd (by rfl) (.inl rfl)) (sGs_cons (sG_name (i := 3) scope.nd (by rfl) (.inl rfl)) sGs_nil))))
      (sS_cons (sS_try (i := 4) [(1, true)] ⟨rfl, rfl, rfl⟩ rfl rfl rfl scope.nd (by rfl) rfl (names_own (by rfl) g.mg_BadText) takB (xt_BadText g) (fun W pn xe tk po => (sS_one (sS_set (i := 3) scope.nd (by rfl) (.inl rfl) (sE_if (sT_val (sE_var 1)) (sE_call rfl ((ok_paper_in g).mono (by decide)) hr (by rfl) g.m_paper_in g.F_paper_in.kp (bd_paper_in_1 g) (passAt tk) (sAr_v (sE_var 0) sAr_nil)) (sE_call rfl ((ok_move_in g).mono (by decide)) hr (by rfl) g.m_move_in g.F_move_in.kp (bd_move_in_1 g) (passAt tk) (sAr_v (sE_var 0) sAr_nil)))))) (fun a pn => (sS_one (sS_set (i := 2) scope.nd (by rfl) (.inl rfl) (sE_var 4)))))
      (sS_one (sS_ret (sE_if (sT_cmp op_isN os_is (sE_var 2) sE_non (nomark _)) (sE_var 3) (sE_lst (sA_cons (sE_xfld ⟨rfl, rfl, rfl⟩ (xf_piece g) (sE_var 2)) sA_nil)))))))
theorem sc_bare_right : FnScope ["_law_bare", "_law_got", "_law_flat"] [] (defScope s_bare_right) := ⟨rfl, rfl, rfl, by decide +kernel, rfl, by decide +kernel, by decide +kernel⟩
theorem ok_bare_right (g : Top L mg) : FnOk L.pr L.w L.K mg base (L2.CX L.pr L.w) 10 g.a_bare_right g.d_bare_right [] (spF L [] f_bare_right) := by
    have scope := sc_bare_right
    exact fn_ok (N := ["_law_bare", "_law_got", "_law_flat"]) (b := b_bare_right) g.F_bare_right sc_bare_right rfl (by decide) fun cdv A outer s H E P hr =>
      (sS_cons (sS_set (i := 0) scope.nd (by rfl) (.inl rfl) (sE_lst (sA_cons sE_str (sA_cons sE_str (sA_cons sE_str (sA_cons sE_str (sA_cons sE_str (sA_cons sE_str (sA_cons sE_str (sA_cons sE_str (sA_cons sE_str (sA_cons sE_str (sA_cons sE_str sA_nil)))))))))))))
      (sS_cons (sS_set (i := 0) scope.nd (by rfl) (.inl rfl) (sE_op or_add os_add (sE_var 0) (sE_lst (sA_cons sE_str sA_nil))))
      (sS_cons (sS_set (i := 0) scope.nd (by rfl) (.inl rfl) (sE_op or_add os_add (sE_var 0) (sE_lst (sA_cons sE_str (sA_cons sE_str (sA_cons sE_str (sA_cons sE_str (sA_cons sE_str (sA_cons sE_str (sA_cons sE_str sA_nil))))))))))
      (sS_cons (sS_set (i := 0) scope.nd (by rfl) (.inl rfl) (sE_op or_add os_add (sE_var 0) (sE_lst (sA_cons sE_str sA_nil))))
      (sS_cons (sS_set (i := 0) scope.nd (by rfl) (.inl rfl) (sE_op or_add os_add (sE_var 0) (sE_lst (sA_cons sE_str (sA_cons sE_str (sA_cons sE_str (sA_cons sE_str (sA_cons sE_str sA_nil))))))))
      (sS_cons (sS_set (i := 0) scope.nd (by rfl) (.inl rfl) (sE_op or_add os_add (sE_var 0) (sE_lst (sA_cons sE_str sA_nil))))
      (sS_cons (sS_set (i := 0) scope.nd (by rfl) (.inl rfl) (sE_op or_add os_add (sE_var 0) (sE_lst (sA_cons sE_str (sA_cons sE_str (sA_cons sE_str (sA_cons sE_str sA_nil)))))))
      (sS_cons (sS_set (i := 0) scope.nd (by rfl) (.inl rfl) (sE_op or_add os_add (sE_var 0) (sE_lst (sA_cons sE_str sA_nil))))
      (sS_cons (sS_set (i := 0) scope.nd (by rfl) (.inl rfl) (sE_op or_add os_add (sE_var 0) (sE_lst (sA_cons sE_str (sA_cons sE_str (sA_cons sE_str (sA_cons sE_str (sA_cons sE_str sA_nil))))))))
      (sS_cons (sS_set (i := 0) scope.nd (by rfl) (.inl rfl) (sE_op or_add os_add (sE_var 0) (sE_lst (sA_cons sE_str (sA_cons sE_str sA_nil)))))
      (sS_cons (sS_set (i := 0) scope.nd (by rfl) (.inl rfl) (sE_op or_add os_add (sE_var 0) (sE_lst (sA_cons sE_str (sA_cons sE_str (sA_cons sE_str (sA_cons sE_str (sA_cons sE_str sA_nil))))))))
      (sS_cons (sS_set (i := 0) scope.nd (by rfl) (.inl rfl) (sE_op or_add os_add (sE_var 0) (sE_lst (sA_cons sE_str (sA_cons sE_str (sA_cons sE_str (sA_cons sE_str (sA_cons sE_str sA_nil))))))))
      (sS_cons (sS_set (i := 0) scope.nd (by rfl) (.inl rfl) (sE_op or_add os_add (sE_var 0) (sE_lst (sA_cons sE_str sA_nil))))
      (sS_cons (sS_set (i := 0) scope.nd (by rfl) (.inl rfl) (sE_op or_add os_add (sE_var 0) (sE_lst (sA_cons sE_str (sA_cons sE_str (sA_cons sE_str (sA_cons sE_str (sA_cons sE_str sA_nil))))))))
      (sS_cons (sS_set (i := 0) scope.nd (by rfl) (.inl rfl) (sE_op or_add os_add (sE_var 0) (sE_lst (sA_cons sE_str sA_nil))))
      (sS_cons (sS_setLcO (i := 1) (own := [("_law_flat", 2)]) rfl scope.nd (by rfl) rfl (sI_seq rfl (sE_var 0)) (blkOk_by (by kernel_rfl)) (fun _ _ _ _ _ _ => (sC_name scope.nd (i := 2) (by rfl) (.inl rfl) (by decide))) (fun _ _ _ _ _ _ => sTs_nil) (fun _ _ _ _ _ _ => (sE_call rfl ((ok_heard g).mono (by decide)) hr (by rfl) g.m_heard g.F_heard.kp (bd_heard_2 g) passNo (sAr_v (sE_var 2) (sAr_v sE_bl sAr_nil)))) (by rfl))
      (sS_one (sS_ret (sE_call rfl ((ok_same_o g).mono (by decide)) hr (by rfl) g.m_same_o g.F_same_o.kp (bd_same_o_2 g) passB (sAr_v (sE_var 1) (sAr_v (sE_op or_mul os_mul (sE_lst (sA_cons (sE_lst (sA_cons sE_int sA_nil)) sA_nil)) (sE_callB call_len fs_len (by rfl) g.z_len bt_len (sA_cons (sE_var 0) sA_nil))) sAr_nil)))))))))))))))))))))
theorem sc_by_hand_right : FnScope ["_law_wrong", "_law_got", "_law_due", "_law_flat", "_law_at_so", "_law_k"] [] (defScope s_by_hand_right) := ⟨rfl, rfl, rfl, by decide +kernel, rfl, by decide +kernel, by decide +kernel⟩
theorem ok_by_hand_right (g : Top L mg) : FnOk L.pr L.w L.K mg base (L2.CX L.pr L.w) 10 g.a_by_hand_right g.d_by_hand_right [] (spF L [] f_by_hand_right) := by
    have scope := sc_by_hand_right
    exact fn_ok (N := ["_law_wrong", "_law_got", "_law_due", "_law_flat", "_law_at_so", "_law_k"]) (b := b_by_hand_right) g.F_by_hand_right sc_by_hand_right rfl (by decide) fun cdv A outer s H E P hr =>
      (sS_cons (sS_set (i := 0) scope.nd (by rfl) (.inl rfl) (sE_lst (sA_cons (sE_tup (sA_cons sE_str (sA_cons sE_int sA_nil))) (sA_cons (sE_tup (sA_cons sE_str (sA_cons sE_int sA_nil))) (sA_cons (sE_tup (sA_cons sE_str (sA_cons sE_int sA_nil))) (sA_cons (sE_tup (sA_cons sE_str (sA_cons sE_int sA_nil))) (sA_cons (sE_tup (sA_cons sE_str (sA_cons sE_int sA_nil))) sA_nil)))))))
      (sS_cons (sS_set (i := 0) scope.nd (by rfl) (.inl rfl) (sE_op or_add os_add (sE_var 0) (sE_lst (sA_cons (sE_tup (sA_cons sE_str (sA_cons sE_int sA_nil))) sA_nil))))
      (sS_cons (sS_set (i := 0) scope.nd (by rfl) (.inl rfl) (sE_op or_add os_add (sE_var 0) (sE_lst (sA_cons (sE_tup (sA_cons sE_str (sA_cons sE_int sA_nil))) (sA_cons (sE_tup (sA_cons sE_str (sA_cons sE_int sA_nil))) (sA_cons (sE_tup (sA_cons sE_str (sA_cons sE_int sA_nil))) sA_nil))))))
      (sS_cons (sS_set (i := 0) scope.nd (by rfl) (.inl rfl) (sE_op or_add os_add (sE_var 0) (sE_lst (sA_cons (sE_tup (sA_cons sE_str (sA_cons sE_int sA_nil))) (sA_cons (sE_tup (sA_cons sE_str (sA_cons sE_int sA_nil))) (sA_cons (sE_tup (sA_cons sE_str (sA_cons sE_int sA_nil))) sA_nil))))))
      (sS_cons (sS_set (i := 0) scope.nd (by rfl) (.inl rfl) (sE_op or_add os_add (sE_var 0) (sE_lst (sA_cons (sE_tup (sA_cons sE_str (sA_cons sE_int sA_nil))) (sA_cons (sE_tup (sA_cons sE_str (sA_cons sE_int sA_nil))) sA_nil)))))
      (sS_cons (sS_set (i := 0) scope.nd (by rfl) (.inl rfl) (sE_op or_add os_add (sE_var 0) (sE_lst (sA_cons (sE_tup (sA_cons sE_str (sA_cons sE_int sA_nil))) (sA_cons (sE_tup (sA_cons sE_str (sA_cons sE_int sA_nil))) sA_nil)))))
      (sS_cons (sS_set (i := 0) scope.nd (by rfl) (.inl rfl) (sE_op or_add os_add (sE_var 0) (sE_lst (sA_cons (sE_tup (sA_cons sE_str (sA_cons sE_int sA_nil))) sA_nil))))
      (sS_cons (sS_set (i := 0) scope.nd (by rfl) (.inl rfl) (sE_op or_add os_add (sE_var 0) (sE_lst (sA_cons (sE_tup (sA_cons sE_str (sA_cons sE_int sA_nil))) (sA_cons (sE_tup (sA_cons sE_str (sA_cons sE_int sA_nil))) sA_nil)))))
      (sS_cons (sS_set (i := 0) scope.nd (by rfl) (.inl rfl) (sE_op or_add os_add (sE_var 0) (sE_lst (sA_cons (sE_tup (sA_cons sE_str (sA_cons sE_int sA_nil))) (sA_cons (sE_tup (sA_cons sE_str (sA_cons sE_int sA_nil))) sA_nil)))))
      (sS_cons (sS_set (i := 0) scope.nd (by rfl) (.inl rfl) (sE_op or_add os_add (sE_var 0) (sE_lst (sA_cons (sE_tup (sA_cons sE_str (sA_cons sE_int sA_nil))) sA_nil))))
      (sS_cons (sS_set (i := 0) scope.nd (by rfl) (.inl rfl) (sE_op or_add os_add (sE_var 0) (sE_lst (sA_cons (sE_tup (sA_cons sE_str (sA_cons sE_int sA_nil))) (sA_cons (sE_tup (sA_cons sE_str (sA_cons sE_int sA_nil))) sA_nil)))))
      (sS_cons (sS_set (i := 0) scope.nd (by rfl) (.inl rfl) (sE_op or_add os_add (sE_var 0) (sE_lst (sA_cons (sE_tup (sA_cons sE_str (sA_cons sE_int sA_nil))) (sA_cons (sE_tup (sA_cons sE_str (sA_cons sE_int sA_nil))) (sA_cons (sE_tup (sA_cons sE_str (sA_cons sE_int sA_nil))) (sA_cons (sE_tup (sA_cons sE_str (sA_cons sE_int sA_nil))) sA_nil)))))))
      (sS_cons (sS_set (i := 0) scope.nd (by rfl) (.inl rfl) (sE_op or_add os_add (sE_var 0) (sE_lst (sA_cons (sE_tup (sA_cons (sE_joinT rfl sE_str (SE.of (sF_lc (own := [("_law_k", 5)]) rfl scope.nd (sI_range1 (by rfl) g.z_range (sA_cons sE_int sA_nil)) (blkOk_by (by kernel_rfl)) (fun _ _ _ _ _ _ => (sC_name scope.nd (i := 5) (by rfl) (.inl rfl) (by decide))) (fun _ _ _ _ _ _ => sTs_nil) (fun _ _ _ _ _ _ => (sE_op or_add os_add (sE_op or_add os_add (sE_op or_add os_add (sE_op or_add os_add (sE_op or_add os_add sE_str (sE_callTy call_str_int fs_str (by rfl) g.z_str bt_str (sA_cons (sE_var 5) sA_nil))) sE_str) (sE_callTy call_str_int fs_str (by rfl) g.z_str bt_str (sA_cons (sE_var 5) sA_nil))) sE_str) (sE_callTy call_str_int fs_str (by rfl) g.z_str bt_str (sA_cons (sE_op op_sub os_sub sE_int (sE_var 5)) sA_nil))))))) (sA_cons sE_int sA_nil))) sA_nil))))
      (sS_cons (sS_setLcO (i := 1) (own := [("_law_flat", 3), ("_law_at_so", 4)]) rfl scope.nd (by rfl) rfl (sI_seq rfl (sE_var 0)) (blkOk_by (by kernel_rfl)) (fun _ _ _ _ _ _ => (sC_tup rfl rfl (sCs_cons (sC_name scope.nd (i := 3) (by rfl) (.inl rfl) (by decide)) (sCs_cons (sC_name scope.nd (i := 4) (by rfl) (.inl rfl) (by decide)) sCs_nil)))) (fun _ _ _ _ _ _ => sTs_nil) (fun _ _ _ _ _ _ => (sE_call rfl ((ok_heard g).mono (by decide)) hr (by rfl) g.m_heard g.F_heard.kp (bd_heard_2 g) passNo (sAr_v (sE_var 3) (sAr_v sE_bl sAr_nil)))) (by rfl))
      (sS_cons (sS_if (sT_not (sT_val (sE_lend 1 (sE_call rfl ((ok_same_o g).mono (by decide)) hr (by rfl) g.m_same_o g.F_same_o.kp (bd_same_o_2 g) passB (sAr_v (sE_var 1) (sAr_v (SE.of (sF_lc (own := [("_law_flat", 3), ("_law_at_so", 4)]) rfl scope.nd (sI_seq rfl (sE_var 0)) (blkOk_by (by kernel_rfl)) (fun _ _ _ _ _ _ => (sC_tup rfl rfl (sCs_cons (sC_name scope.nd (i := 3) (by rfl) (.inl rfl) (by decide)) (sCs_cons (sC_name scope.nd (i := 4) (by rfl) (.inl rfl) (by decide)) sCs_nil)))) (fun _ _ _ _ _ _ => sTs_nil) (fun _ _ _ _ _ _ => (sE_lst (sA_cons (sE_var 4) sA_nil))))) sAr_nil)))))) (sS_one (sS_ret sE_bl)) sS_nil)
      (sS_cons (sS_setO (i := 1) scope.nd (by rfl) (.inl rfl) (tLst_fresh (sA_cons (sE_call rfl ((ok_heard g).mono (by decide)) hr (by rfl) g.m_heard g.F_heard.kp (bd_heard_2 g) passB (sAr_v sE_str (sAr_v sE_bl sAr_nil))) (sA_cons (sE_call rfl ((ok_heard g).mono (by decide)) hr (by rfl) g.m_heard g.F_heard.kp (bd_heard_2 g) passB (sAr_v sE_str (sAr_v sE_bl sAr_nil))) sA_nil))))
      (sS_cons (sS_setO (i := 1) scope.nd (by rfl) (.inl rfl) (sF_addP 1 (sE_lst (sA_cons (sE_call rfl ((ok_heard g).mono (by decide)) hr (by rfl) g.m_heard g.F_heard.kp (bd_heard_2 g) passB (sAr_v sE_str (sAr_v sE_bl sAr_nil))) sA_nil))))
      (sS_cons (sS_set (i := 2) scope.nd (by rfl) (.inl rfl) (sE_lst (sA_cons (sE_tup (sA_cons sE_str (sA_cons (sE_tup (sA_cons sE_int (sA_cons sE_int sA_nil))) (sA_cons (sE_tup (sA_cons sE_int (sA_cons sE_int sA_nil))) sA_nil)))) (sA_cons (sE_tup (sA_cons sE_str (sA_cons (sE_tup (sA_cons sE_int (sA_cons sE_int sA_nil))) (sA_cons sE_int sA_nil)))) (sA_cons (sE_tup (sA_cons sE_str (sA_cons (sE_tup (sA_cons sE_int (sA_cons sE_int sA_nil))) (sA_cons (sE_tup (sA_cons sE_int (sA_cons sE_int sA_nil))) sA_nil)))) sA_nil)))))
      (sS_cons (sS_expr (sE_app 1 (sE_call rfl ((ok_heard g).mono (by decide)) hr (by rfl) g.m_heard g.F_heard.kp (bd_heard_2 g) passB (sAr_v sE_str (sAr_v sE_bl sAr_nil)))))
      (sS_one (sS_ret (sE_call rfl ((ok_same_o g).mono (by decide)) hr (by rfl) g.m_same_o g.F_same_o.kp (bd_same_o_2 g) passB (sAr_v (sE_var 1) (sAr_v (sE_op or_add os_add (sE_var 2) (sE_lst (sA_cons (sE_tup (sA_cons (sE_tup (sA_cons (sE_tup (sA_cons sE_str (sA_cons (sE_tup (sA_cons sE_int (sA_cons sE_int sA_nil))) sA_nil))) (sA_cons sE_int sA_nil))) (sA_cons (sE_tup (sA_cons (sE_tup (sA_cons sE_str (sA_cons (sE_tup (sA_cons sE_int (sA_cons sE_int sA_nil))) sA_nil))) (sA_cons sE_int sA_nil))) (sA_cons (sE_tup (sA_cons (sE_tup (sA_cons sE_str (sA_cons (sE_tup (sA_cons sE_int (sA_cons sE_int sA_nil))) sA_nil))) (sA_cons sE_int sA_nil))) sA_nil)))) sA_nil))) sAr_nil))))))))))))))))))))))))
theorem sc_bent : FnScope ["_law_box_here", "_law_piece_so", "_law_way_so"] ["_law_box_here", "_law_piece_so"] (defScope s_bent) := ⟨rfl, rfl, rfl, by decide +kernel, rfl, by decide +kernel, by decide +kernel⟩
theorem ok_bent (g : Top L mg) : FnOk L.pr L.w L.K mg base (L2.CX L.pr L.w) 3 g.a_bent g.d_bent ["_law_box_here", "_law_piece_so"] (spF L [true, false] f_bent) := by
    have scope := sc_bent
    exact fn_okQ (N := ["_law_box_here", "_law_piece_so", "_law_way_so"]) (b := b_bent) g.F_bent sc_bent (by decide +kernel) (by decide) rfl (by decide) fun cdv A outer s H E P hr =>
      (sST_cons (sST_of (sS_set (i := 2) scope.nd (by rfl) (.inl rfl) (sE_call rfl ((ok_take g).mono (by decide)) hr (by rfl) g.m_take g.F_take.kp (bd_take_2 g) passB (sAr_io 0 (sAr_v sE_int sAr_nil)))))
      (sST_cons (sST_of (sS_if (sT_cmp (op_eqD hr.units) os_eq (sE_var 2) sE_int (nomark _)) (sS_one (sS_ret (sE_op or_add os_add (sE_var 1) (sE_call rfl ((ok_of g).mono (by decide)) hr (by rfl) g.m_of g.F_of.kp (bd_of_2 g) passB (sAr_io 0 (sAr_v (sE_lst (sA_cons sE_str (sA_cons sE_str (sA_cons sE_str (sA_cons sE_str (sA_cons sE_str sA_nil)))))) sAr_nil)))))) sS_nil))
      (sST_cons (sST_if (sT_cmp (op_eqD hr.units) os_eq (sE_var 2) sE_int (nomark _)) (sST_one (sST_ret (sET_repl (sE_var 1) rfl ((ofk_of g).mono (by decide)) hr (by rfl) g.m_of g.F_of.kp (bd_of_2 g) passB 0 (.cons (.cons (.cons (.cons .nil))))))) (sSsT_of sS_nil))
      (sST_cons (sST_of (sS_if (sT_cmp (op_eqD hr.units) os_eq (sE_var 2) sE_int (nomark _)) (sS_one (sS_ret (sE_call rfl ((ok_of g).mono (by decide)) hr (by rfl) g.m_of g.F_of.kp (bd_of_2 g) passB (sAr_io 0 (sAr_v (sE_lst (sA_cons sE_str (sA_cons sE_str (sA_cons sE_str (sA_cons sE_str (sA_cons sE_str (sA_cons sE_str (sA_cons sE_str sA_nil)))))))) sAr_nil))))) sS_nil))
      (sST_cons (sST_if (sT_cmp (op_eqD hr.units) os_eq (sE_var 2) sE_int (nomark _)) (sST_one (sST_ret (sET_replN (sE_var 1) rfl ((ofk_of g).mono (by decide)) hr (by rfl) g.m_of g.F_of.kp (bd_of_2 g) passB 0 (.cons (.cons (.cons (.cons .nil))))))) (sSsT_of sS_nil))
      (sST_one (sST_of (sS_ret (sE_op or_add os_add sE_str (sE_var 1))))))))))
theorem sc_case_right : FnScope ["_law_box_here", "_law_steps_so", "_law_pieces", "_law_word", "_law_k", "_law_low", "_law_high", "_law_words", "_law_turn"] ["_law_box_here"] (defScope s_case_right) := ⟨rfl, rfl, rfl, by decide +kernel, rfl, by decide +kernel, by decide +kernel⟩
theorem ok_case_right (g : Top L mg) : FnOk L.pr L.w L.K mg base (L2.CX L.pr L.w) 10 g.a_case_right g.d_case_right ["_law_box_here"] (spF L [true] f_case_right) := by
    have scope := sc_case_right
    exact fn_ok (N := ["_law_box_here", "_law_steps_so", "_law_pieces", "_law_word", "_law_k", "_law_low", "_law_high", "_law_words", "_law_turn"]) (b := b_case_right) g.F_case_right sc_case_right rfl (by decide) fun cdv A outer s H E P hr =>
      (sS_cons (sS_parFO (i := 1) (j := 2) rfl scope.nd (by rfl) (by rfl) (by decide) rfl rfl (SE.of (sF_lc (own := [("_law_turn", 8)]) rfl scope.nd (sI_range1 (by rfl) g.z_range (sA_cons (sE_op or_add os_add sE_int (sE_call rfl ((ok_take g).mono (by decide)) hr (by rfl) g.m_take g.F_take.kp (bd_take_2 g) passB (sAr_io 0 (sAr_v sE_int sAr_nil)))) sA_nil)) (blkOk_by (by kernel_rfl)) (fun _ _ _ _ _ _ => (sC_name scope.nd (i := 8) (by rfl) (.inl rfl) (by decide))) (fun _ _ _ _ _ _ => sTs_nil) (fun _ _ _ _ _ _ => (sE_call rfl ((ok_take g).mono (by decide)) hr (by rfl) g.m_take g.F_take.kp (bd_take_2 g) passNo (sAr_io 0 (sAr_v sE_int sAr_nil)))))) (tLst_fresh sA_nil) (by rfl))
      (sS_cons (sS_set (i := 3) scope.nd (by rfl) (.inl rfl) (sE_call rfl ((ok_of g).mono (by decide)) hr (by rfl) g.m_of g.F_of.kp (bd_of_2 g) passB (sAr_io 0 (sAr_v (sE_lst (sA_cons sE_str (sA_cons sE_str sA_nil))) sAr_nil))))
      (sS_cons (sS_for ownB rfl (sI_range1 (by rfl) g.z_range (sA_cons (sE_callB call_len fs_len (by rfl) g.z_len bt_len (sA_cons (sE_var 1) sA_nil)) sA_nil)) (sG_name (i := 4) scope.nd (by rfl) (.inl rfl)) (sS_cons (sS_set (i := 5) scope.nd (by rfl) (.inl rfl) (sE_op or_add os_add (sE_callB (cr_sum rfl) fs_sum (by rfl) g.z_sum bt_sum (sA_cons (sE_slP 1 rfl sO_none (sO_some (sE_var 4))) sA_nil)) (sE_var 4)))
      (sS_cons (sS_set (i := 6) scope.nd (by rfl) (.inl rfl) (sE_op or_add os_add (sE_op or_add os_add (sE_var 5) sE_int) (sE_call rfl ((ok_take g).mono (by decide)) hr (by rfl) g.m_take g.F_take.kp (bd_take_2 g) passB (sAr_io 0 (sAr_v sE_int sAr_nil)))))
      (sS_cons (sS_set (i := 7) scope.nd (by rfl) (.inl rfl) (sE_op or_add os_add (sE_lst (sA_cons (sE_var 3) (sA_cons (sE_op or_add os_add (sE_op or_add os_add (sE_callTy call_str_int fs_str (by rfl) g.z_str bt_str (sA_cons (sE_var 5) sA_nil)) sE_str) (sE_callTy call_str_int fs_str (by rfl) g.z_str bt_str (sA_cons (sE_var 6) sA_nil))) sA_nil))) (sE_if (sT_cmp (op_eqD hr.units) os_eq (sE_var 3) sE_str (nomark _)) (sE_lst (sA_cons (sE_callTy call_str_int fs_str (by rfl) g.z_str bt_str (sA_cons (sE_var 5) sA_nil)) sA_nil)) (sE_lst sA_nil))))
      (sS_one (sS_expr (sE_app 2 (sE_op or_add os_add (sE_op or_add os_add (sE_joinT rfl sE_str (sE_var 7)) sE_str) (sE_callTy call_str_int fs_str (by rfl) g.z_str bt_str (sA_cons (sE_op or_add os_add sE_int (sE_call rfl ((ok_take g).mono (by decide)) hr (by rfl) g.m_take g.F_take.kp (bd_take_2 g) passB (sAr_io 0 (sAr_v sE_int sAr_nil)))) sA_nil))))))))))
      (sS_cons (sS_if (sT_val (sE_isi (t := "list") rfl (by rfl) g.z_isinstance (pe_bltn (by rfl) g.z_list (by decide +kernel) rfl) (sE_lend 2 (sE_call rfl ((ok_heard g).mono (by decide)) hr (by rfl) g.m_heard g.F_heard.kp (bd_heard_2 g) passB (sAr_v (sE_joinT rfl sE_str (sE_var 2)) (sAr_v sE_bl sAr_nil)))))) (sS_one (sS_ret sE_bl)) sS_nil)
      (sS_cons (sS_set (i := 4) scope.nd (by rfl) (.inl rfl) (sE_call rfl ((ok_take g).mono (by decide)) hr (by rfl) g.m_take g.F_take.kp (bd_take_2 g) passB (sAr_io 0 (sAr_v (sE_callBP 2 call_len fs_len (by rfl) g.z_len bt_len (pv 2)) sAr_nil))))
      (sS_cons (sS_if (sT_cmp op_gt os_gt (sE_call rfl ((ok_take g).mono (by decide)) hr (by rfl) g.m_take g.F_take.kp (bd_take_2 g) passB (sAr_io 0 (sAr_v sE_int sAr_nil))) sE_int (nomark _)) (sS_one (sS_asg (sE_call rfl ((ok_bent g).mono (by decide)) hr (by rfl) g.m_bent g.F_bent.kp (bd_bent_2 g) passB (sAr_io 0 (sAr_v (sE_ixP 2 rfl (sE_var 4)) sAr_nil))) (sG_ix (W := (Wof E)) 2 (sE_var 4)))) (sS_cons (sS_set (i := 4) scope.nd (by rfl) (.inl rfl) (sE_op or_add os_add sE_int (sE_call rfl ((ok_take g).mono (by decide)) hr (by rfl) g.m_take g.F_take.kp (bd_take_2 g) passB (sAr_io 0 (sAr_v (sE_op op_sub os_sub (sE_callBP 2 call_len fs_len (by rfl) g.z_len bt_len (pv 2)) sE_int) sAr_nil)))))
      (sS_one (sS_asg (sE_tup (sA_cons (sE_ixP 2 rfl (sE_var 4)) (sA_cons (sE_ixP 2 rfl (sE_op op_sub os_sub (sE_var 4) sE_int)) sA_nil))) (sG_tup rfl rfl (sGs_cons (sG_ix (W := (Wof E)) 2 (sE_op op_sub os_sub (sE_var 4) sE_int)) (sGs_cons (sG_ix (W := (Wof E)) 2 (sE_var 4)) sGs_nil)))))))
      (sS_one (sS_ret (sE_call rfl ((ok_same_o g).mono (by decide)) hr (by rfl) g.m_same_o g.F_same_o.kp (bd_same_o_2 g) passB (sAr_v (sE_call rfl ((ok_heard g).mono (by decide)) hr (by rfl) g.m_heard g.F_heard.kp (bd_heard_2 g) passB (sAr_v (sE_joinT rfl sE_str (sE_var 2)) (sAr_v sE_bl sAr_nil))) (sAr_v (sE_lst (sA_cons (sE_var 4) sA_nil)) sAr_nil)))))))))))
theorem sc_right : FnScope ["_law_box_here", "_law_right_so", "_law_turn"] ["_law_box_here"] (defScope s_right) := ⟨rfl, rfl, rfl, by decide +kernel, rfl, by decide +kernel, by decide +kernel⟩
theorem ok_right (g : Top L mg) : FnOk L.pr L.w L.K mg base (L2.CX L.pr L.w) 11 g.a_right g.d_right ["_law_box_here"] (spF L [true] f_right) := by
    have scope := sc_right
    exact fn_ok (N := ["_law_box_here", "_law_right_so", "_law_turn"]) (b := b_right) g.F_right sc_right rfl (by decide) fun cdv A outer s H E P hr =>
      (sS_cons (sS_set (i := 1) scope.nd (by rfl) (.inl rfl) (sE_andC rfl (sE_call0 rfl ((ok_bare_right g).mono (by decide)) hr (by rfl) g.m_bare_right g.F_bare_right.kp (bd_bare_right_0 g) passB) (sE_one (sE_call0 rfl ((ok_by_hand_right g).mono (by decide)) hr (by rfl) g.m_by_hand_right g.F_by_hand_right.kp (bd_by_hand_right_0 g) passB))))
      (sS_one (sS_ret (sE_andC rfl (sE_var 1) (sE_one (sE_callB (cr_all rfl) fs_all (by rfl) g.z_all bt_all (sA_cons (SE.of (sF_lc (own := [("_law_turn", 2)]) rfl scope.nd (sI_range1 (by rfl) g.z_range (sA_cons sE_int sA_nil)) (blkOk_by (by kernel_rfl)) (fun _ _ _ _ _ _ => (sC_name scope.nd (i := 2) (by rfl) (.inl rfl) (by decide))) (fun _ _ _ _ _ _ => sTs_nil) (fun _ _ _ _ _ _ => (sE_call rfl ((ok_case_right g).mono (by decide)) hr (by rfl) g.m_case_right g.F_case_right.kp (bd_case_right_1 g) passNo (sAr_io 0 sAr_nil))))) sA_nil)))))))
theorem sc_law : FnScope ["_law_script", "_law_cells_here", "_law_k"] ["_law_script"] (defScope s_law) := ⟨rfl, rfl, rfl, by decide +kernel, rfl, by decide +kernel, by decide +kernel⟩
theorem ok_law (g : Top L mg) : FnOk L.pr L.w L.K mg base (L2.CX L.pr L.w) 12 g.a_law g.d_law ["_law_script"] (spF L [false] f_law) := by
    have scope := sc_law
    exact fn_ok (N := ["_law_script", "_law_cells_here", "_law_k"]) (b := b_law) g.F_law sc_law rfl (by decide) fun cdv A outer s H E P hr =>
      (sS_cons (sS_set (i := 1) scope.nd (by rfl) (.inr rfl) (sE_call rfl ((ok_cells g).mono (by decide)) hr (by rfl) g.m_cells g.F_cells.kp (bd_cells_2 g) passB (sAr_v (sE_var 0) (sAr_v sE_int sAr_nil))))
      (sS_one (sS_ret (sE_callB (cr_all rfl) fs_all (by rfl) g.z_all bt_all (sA_cons (SE.of (sF_lc (own := [("_law_k", 2)]) rfl scope.nd (sI_range1 (by rfl) g.z_range (sA_cons (sE_callB call_len fs_len (by rfl) g.z_len bt_len (sA_cons (sE_var 1) sA_nil)) sA_nil)) (blkOk_by (by kernel_rfl)) (fun _ _ _ _ _ _ => (sC_name scope.nd (i := 2) (by rfl) (.inl rfl) (by decide))) (fun _ _ _ _ _ _ => sTs_nil) (fun _ _ _ _ _ _ => (sE_callFr rfl ((ok_right g).mono (by decide)) hr (by rfl) g.m_right g.F_right.kp (bd_right_1 g) passNo (sF_call rfl ((ok_box g).mono (by decide)) hr (by rfl) g.m_box g.F_box.kp (bd_box_2 g) passNo (sAr_v (sE_var 1) (sAr_v (sE_var 2) sAr_nil))))))) sA_nil)))))
end
def spAny (K : PySem.W.Frag) (w : World) (pr : Program) : Sp := fun vs H Q E => ∀ C : Nat → Addr, spF ⟨K, w, C, pr, 0⟩ [false] f_law vs H Q E
theorem all_mk {l : PySem.W.OpenLaw} {w : World} {K : PySem.W.Frag} {h : Heap} {mg : Str → Option Value} {fa : Addr} (X : K.In h) (G : h.Ns mainGlobals mg) (hfa : mg "law" = some (.ref fa))
    {C_BadText : Addr}
    {nm_BadText qn_BadText : Str} {N_BadText : Addr} {bs_BadText bm_BadText : List Value} {sn_BadText : List Str} {sb_BadText : List Value} {ab_BadText : Bool} {cl_BadText : Option Bool} {dd_BadText : Option Addr} {k0_BadText k1_BadText k2_BadText k3_BadText k5_BadText : Option Value}
    {a_is_number : Addr} {od_is_number an_is_number : Option Addr} {sl_is_number : Array (Option Value)} {oc_is_number kV_is_number dc_is_number pm_is_number cd_is_number ct_is_number : Value}
    {a_number_in : Addr} {od_number_in an_number_in : Option Addr} {sl_number_in : Array (Option Value)} {oc_number_in kV_number_in dc_number_in pm_number_in cd_number_in ct_number_in : Value}
    {a_is_tick : Addr} {od_is_tick an_is_tick : Option Addr} {sl_is_tick : Array (Option Value)} {oc_is_tick kV_is_tick dc_is_tick pm_is_tick cd_is_tick ct_is_tick : Value}
    {a_is_stay : Addr} {od_is_stay an_is_stay : Option Addr} {sl_is_stay : Array (Option Value)} {oc_is_stay kV_is_stay dc_is_stay pm_is_stay cd_is_stay ct_is_stay : Value}
    {a_lies_in : Addr} {od_lies_in an_lies_in : Option Addr} {sl_lies_in : Array (Option Value)} {oc_lies_in kV_lies_in dc_lies_in pm_lies_in cd_lies_in ct_lies_in : Value}
    {a_size_of : Addr} {od_size_of an_size_of : Option Addr} {sl_size_of : Array (Option Value)} {oc_size_of kV_size_of dc_size_of pm_size_of cd_size_of ct_size_of : Value}
    {a_is_wider : Addr} {od_is_wider an_is_wider : Option Addr} {sl_is_wider : Array (Option Value)} {oc_is_wider kV_is_wider dc_is_wider pm_is_wider cd_is_wider ct_is_wider : Value}
    {a_is_move : Addr} {od_is_move an_is_move : Option Addr} {sl_is_move : Array (Option Value)} {oc_is_move kV_is_move dc_is_move pm_is_move cd_is_move ct_is_move : Value}
    {a_stay_of : Addr} {od_stay_of an_stay_of : Option Addr} {sl_stay_of : Array (Option Value)} {oc_stay_of kV_stay_of dc_stay_of pm_stay_of cd_stay_of ct_stay_of : Value}
    {a_part_of : Addr} {od_part_of an_part_of : Option Addr} {sl_part_of : Array (Option Value)} {oc_part_of kV_part_of dc_part_of pm_part_of cd_part_of ct_part_of : Value}
    {a_move_of : Addr} {od_move_of an_move_of : Option Addr} {sl_move_of : Array (Option Value)} {oc_move_of kV_move_of dc_move_of pm_move_of cd_move_of ct_move_of : Value}
    {a_many_of : Addr} {od_many_of an_many_of : Option Addr} {sl_many_of : Array (Option Value)} {oc_many_of kV_many_of dc_many_of pm_many_of cd_many_of ct_many_of : Value}
    {a_paper_piece : Addr} {od_paper_piece an_paper_piece : Option Addr} {sl_paper_piece : Array (Option Value)} {oc_paper_piece kV_paper_piece dc_paper_piece pm_paper_piece cd_paper_piece ct_paper_piece : Value}
    {a_BadText___init__ : Addr} {od_BadText___init__ an_BadText___init__ : Option Addr} {sl_BadText___init__ : Array (Option Value)} {oc_BadText___init__ kV_BadText___init__ dc_BadText___init__ pm_BadText___init__ cd_BadText___init__ ct_BadText___init__ : Value}
    {a_pieces_in : Addr} {od_pieces_in an_pieces_in : Option Addr} {sl_pieces_in : Array (Option Value)} {oc_pieces_in kV_pieces_in dc_pieces_in pm_pieces_in cd_pieces_in ct_pieces_in : Value}
    {a_sole : Addr} {od_sole an_sole : Option Addr} {sl_sole : Array (Option Value)} {oc_sole kV_sole dc_sole pm_sole cd_sole ct_sole : Value}
    {a_move_in : Addr} {od_move_in an_move_in : Option Addr} {sl_move_in : Array (Option Value)} {oc_move_in kV_move_in dc_move_in pm_move_in cd_move_in ct_move_in : Value}
    {a_paper_in : Addr} {od_paper_in an_paper_in : Option Addr} {sl_paper_in : Array (Option Value)} {oc_paper_in kV_paper_in dc_paper_in pm_paper_in cd_paper_in ct_paper_in : Value}
    {a_box : Addr} {od_box an_box : Option Addr} {sl_box : Array (Option Value)} {oc_box kV_box dc_box pm_box cd_box ct_box : Value}
    {a_take : Addr} {od_take an_take : Option Addr} {sl_take : Array (Option Value)} {oc_take kV_take dc_take pm_take cd_take ct_take : Value}
    {a_cells : Addr} {od_cells an_cells : Option Addr} {sl_cells : Array (Option Value)} {oc_cells kV_cells dc_cells pm_cells cd_cells ct_cells : Value}
    {a_of : Addr} {od_of an_of : Option Addr} {sl_of : Array (Option Value)} {oc_of kV_of dc_of pm_of cd_of ct_of : Value}
    {a_same_o : Addr} {od_same_o an_same_o : Option Addr} {sl_same_o : Array (Option Value)} {oc_same_o kV_same_o dc_same_o pm_same_o cd_same_o ct_same_o : Value}
    {a_heard : Addr} {od_heard an_heard : Option Addr} {sl_heard : Array (Option Value)} {oc_heard kV_heard dc_heard pm_heard cd_heard ct_heard : Value}
    {a_bare_right : Addr} {od_bare_right an_bare_right : Option Addr} {sl_bare_right : Array (Option Value)} {oc_bare_right kV_bare_right dc_bare_right pm_bare_right cd_bare_right ct_bare_right : Value}
    {a_by_hand_right : Addr} {od_by_hand_right an_by_hand_right : Option Addr} {sl_by_hand_right : Array (Option Value)} {oc_by_hand_right kV_by_hand_right dc_by_hand_right pm_by_hand_right cd_by_hand_right ct_by_hand_right : Value}
    {a_bent : Addr} {od_bent an_bent : Option Addr} {sl_bent : Array (Option Value)} {oc_bent kV_bent dc_bent pm_bent cd_bent ct_bent : Value}
    {a_case_right : Addr} {od_case_right an_case_right : Option Addr} {sl_case_right : Array (Option Value)} {oc_case_right kV_case_right dc_case_right pm_case_right cd_case_right ct_case_right : Value}
    {a_right : Addr} {od_right an_right : Option Addr} {sl_right : Array (Option Value)} {oc_right kV_right dc_right pm_right cd_right ct_right : Value}
    {a_law : Addr} {od_law an_law : Option Addr} {sl_law : Array (Option Value)} {oc_law kV_law dc_law pm_law cd_law ct_law : Value}
    {t_BETWEEN : Tok}
    {t_BLANK : Tok}
    {t_DIGITS : Tok}
    {t_NOTHING : Tok}
    {t_PAIR_stays : Tok}
    {t_PAIR_texts : Tok}
    {t_STROKE : Tok}
    {t_TIMES : Tok}
    {t_TRIPLE : Tok}
    (mg_BadText : PySem.W.nsIn K mainGlobals "BadText" = some (some (.ref C_BadText)))
    (tc_BadText : PySem.W.typeIn K (.ref C_BadText) = some (.type "type"))
    (hd_BadText : PySem.W.hasDictIn K C_BadText = true)
    (lx_BadText : K.lookup C_BadText = some (excClassObj nm_BadText qn_BadText C_BadText N_BadText bs_BadText bm_BadText true sn_BadText sb_BadText ab_BadText cl_BadText dd_BadText k0_BadText k1_BadText k2_BadText k3_BadText k5_BadText "ValueError.__new__"))
    (rv_BadText : PySem.HandSPX.refsVE bm_BadText = true)
    (sa_BadText : PySem.W.findIn K (.ref C_BadText) "__setattr__" = some (some (.builtin "object.__setattr__")))
    (ga_BadText : PySem.W.findIn K (.ref C_BadText) "__getattribute__" = some (some (.builtin "BaseException.__getattribute__")))
    (gg_BadText : PySem.W.findIn K (.ref C_BadText) "__getattr__" = some none)
    (ca_BadText : PySem.W.findIn K (.ref C_BadText) "__class__" = some (some (.builtin "object.__class__")))
    (eb_BadText : PySem.W.subIn K (.ref C_BadText) (.type "BaseException") = some true)
    (kc_BadText : PySem.W.keepIn K (.ref C_BadText) = true)
    (cm_BadText : PySem.W.mroIn K C_BadText (.type "object") = some true)
    (cn_BadText : PySem.W.specialIn K (.builtin "object.__class__") "__get__" = some (some (.builtin "getset_descriptor.__get__")))
    (ct_BadText : PySem.W.takesIn K (.builtin "object.__class__") = some true)
    (xa_BadText : PySem.W.findIn K (.ref C_BadText) "__init__" = some (some (.ref a_BadText___init__)))
    (xt_BadText : PySem.W.typeIn K (.ref a_BadText___init__) = some (.type "function"))
    (no_BadText_piece : PySem.W.findIn K (.ref C_BadText) "piece" = some none)
    (ss_BadText : PySem.W.subIn K (.ref C_BadText) (.ref C_BadText) = some true)
    (n_is_number : PySem.W.nsIn K mainGlobals "is_number" = some (some (.ref a_is_number)))
    (l_is_number : K.lookup a_is_number = some ⟨oc_is_number, od_is_number, .func (PySem.W.fnOf "is_number" "is_number" (defArgs s_is_number) (defBody s_is_number) (defScope s_is_number) .none kV_is_number dc_is_number pm_is_number an_is_number cd_is_number ct_is_number), sl_is_number⟩)
    (c_is_number : PySem.W.codeIn K cd_is_number "is_number" = true)
    (k_is_number : PySem.W.keepIn K (.ref a_is_number) = true)
    (n_number_in : PySem.W.nsIn K mainGlobals "number_in" = some (some (.ref a_number_in)))
    (l_number_in : K.lookup a_number_in = some ⟨oc_number_in, od_number_in, .func (PySem.W.fnOf "number_in" "number_in" (defArgs s_number_in) (defBody s_number_in) (defScope s_number_in) .none kV_number_in dc_number_in pm_number_in an_number_in cd_number_in ct_number_in), sl_number_in⟩)
    (c_number_in : PySem.W.codeIn K cd_number_in "number_in" = true)
    (k_number_in : PySem.W.keepIn K (.ref a_number_in) = true)
    (n_is_tick : PySem.W.nsIn K mainGlobals "is_tick" = some (some (.ref a_is_tick)))
    (l_is_tick : K.lookup a_is_tick = some ⟨oc_is_tick, od_is_tick, .func (PySem.W.fnOf "is_tick" "is_tick" (defArgs s_is_tick) (defBody s_is_tick) (defScope s_is_tick) .none kV_is_tick dc_is_tick pm_is_tick an_is_tick cd_is_tick ct_is_tick), sl_is_tick⟩)
    (c_is_tick : PySem.W.codeIn K cd_is_tick "is_tick" = true)
    (k_is_tick : PySem.W.keepIn K (.ref a_is_tick) = true)
    (n_is_stay : PySem.W.nsIn K mainGlobals "is_stay" = some (some (.ref a_is_stay)))
    (l_is_stay : K.lookup a_is_stay = some ⟨oc_is_stay, od_is_stay, .func (PySem.W.fnOf "is_stay" "is_stay" (defArgs s_is_stay) (defBody s_is_stay) (defScope s_is_stay) .none kV_is_stay dc_is_stay pm_is_stay an_is_stay cd_is_stay ct_is_stay), sl_is_stay⟩)
    (c_is_stay : PySem.W.codeIn K cd_is_stay "is_stay" = true)
    (k_is_stay : PySem.W.keepIn K (.ref a_is_stay) = true)
    (n_lies_in : PySem.W.nsIn K mainGlobals "lies_in" = some (some (.ref a_lies_in)))
    (l_lies_in : K.lookup a_lies_in = some ⟨oc_lies_in, od_lies_in, .func (PySem.W.fnOf "lies_in" "lies_in" (defArgs s_lies_in) (defBody s_lies_in) (defScope s_lies_in) .none kV_lies_in dc_lies_in pm_lies_in an_lies_in cd_lies_in ct_lies_in), sl_lies_in⟩)
    (c_lies_in : PySem.W.codeIn K cd_lies_in "lies_in" = true)
    (k_lies_in : PySem.W.keepIn K (.ref a_lies_in) = true)
    (n_size_of : PySem.W.nsIn K mainGlobals "size_of" = some (some (.ref a_size_of)))
    (l_size_of : K.lookup a_size_of = some ⟨oc_size_of, od_size_of, .func (PySem.W.fnOf "size_of" "size_of" (defArgs s_size_of) (defBody s_size_of) (defScope s_size_of) .none kV_size_of dc_size_of pm_size_of an_size_of cd_size_of ct_size_of), sl_size_of⟩)
    (c_size_of : PySem.W.codeIn K cd_size_of "size_of" = true)
    (k_size_of : PySem.W.keepIn K (.ref a_size_of) = true)
    (n_is_wider : PySem.W.nsIn K mainGlobals "is_wider" = some (some (.ref a_is_wider)))
    (l_is_wider : K.lookup a_is_wider = some ⟨oc_is_wider, od_is_wider, .func (PySem.W.fnOf "is_wider" "is_wider" (defArgs s_is_wider) (defBody s_is_wider) (defScope s_is_wider) .none kV_is_wider dc_is_wider pm_is_wider an_is_wider cd_is_wider ct_is_wider), sl_is_wider⟩)
    (c_is_wider : PySem.W.codeIn K cd_is_wider "is_wider" = true)
    (k_is_wider : PySem.W.keepIn K (.ref a_is_wider) = true)
    (n_is_move : PySem.W.nsIn K mainGlobals "is_move" = some (some (.ref a_is_move)))
    (l_is_move : K.lookup a_is_move = some ⟨oc_is_move, od_is_move, .func (PySem.W.fnOf "is_move" "is_move" (defArgs s_is_move) (defBody s_is_move) (defScope s_is_move) .none kV_is_move dc_is_move pm_is_move an_is_move cd_is_move ct_is_move), sl_is_move⟩)
    (c_is_move : PySem.W.codeIn K cd_is_move "is_move" = true)
    (k_is_move : PySem.W.keepIn K (.ref a_is_move) = true)
    (n_stay_of : PySem.W.nsIn K mainGlobals "stay_of" = some (some (.ref a_stay_of)))
    (l_stay_of : K.lookup a_stay_of = some ⟨oc_stay_of, od_stay_of, .func (PySem.W.fnOf "stay_of" "stay_of" (defArgs s_stay_of) (defBody s_stay_of) (defScope s_stay_of) .none kV_stay_of dc_stay_of pm_stay_of an_stay_of cd_stay_of ct_stay_of), sl_stay_of⟩)
    (c_stay_of : PySem.W.codeIn K cd_stay_of "stay_of" = true)
    (k_stay_of : PySem.W.keepIn K (.ref a_stay_of) = true)
    (n_part_of : PySem.W.nsIn K mainGlobals "part_of" = some (some (.ref a_part_of)))
    (l_part_of : K.lookup a_part_of = some ⟨oc_part_of, od_part_of, .func (PySem.W.fnOf "part_of" "part_of" (defArgs s_part_of) (defBody s_part_of) (defScope s_part_of) .none kV_part_of dc_part_of pm_part_of an_part_of cd_part_of ct_part_of), sl_part_of⟩)
    (c_part_of : PySem.W.codeIn K cd_part_of "part_of" = true)
    (k_part_of : PySem.W.keepIn K (.ref a_part_of) = true)
    (n_move_of : PySem.W.nsIn K mainGlobals "move_of" = some (some (.ref a_move_of)))
    (l_move_of : K.lookup a_move_of = some ⟨oc_move_of, od_move_of, .func (PySem.W.fnOf "move_of" "move_of" (defArgs s_move_of) (defBody s_move_of) (defScope s_move_of) .none kV_move_of dc_move_of pm_move_of an_move_of cd_move_of ct_move_of), sl_move_of⟩)
    (c_move_of : PySem.W.codeIn K cd_move_of "move_of" = true)
    (k_move_of : PySem.W.keepIn K (.ref a_move_of) = true)
    (n_many_of : PySem.W.nsIn K mainGlobals "many_of" = some (some (.ref a_many_of)))
    (l_many_of : K.lookup a_many_of = some ⟨oc_many_of, od_many_of, .func (PySem.W.fnOf "many_of" "many_of" (defArgs s_many_of) (defBody s_many_of) (defScope s_many_of) .none kV_many_of dc_many_of pm_many_of an_many_of cd_many_of ct_many_of), sl_many_of⟩)
    (c_many_of : PySem.W.codeIn K cd_many_of "many_of" = true)
    (k_many_of : PySem.W.keepIn K (.ref a_many_of) = true)
    (n_paper_piece : PySem.W.nsIn K mainGlobals "paper_piece" = some (some (.ref a_paper_piece)))
    (l_paper_piece : K.lookup a_paper_piece = some ⟨oc_paper_piece, od_paper_piece, .func (PySem.W.fnOf "paper_piece" "paper_piece" (defArgs s_paper_piece) (defBody s_paper_piece) (defScope s_paper_piece) .none kV_paper_piece dc_paper_piece pm_paper_piece an_paper_piece cd_paper_piece ct_paper_piece), sl_paper_piece⟩)
    (c_paper_piece : PySem.W.codeIn K cd_paper_piece "paper_piece" = true)
    (k_paper_piece : PySem.W.keepIn K (.ref a_paper_piece) = true)
    (l_BadText___init__ : K.lookup a_BadText___init__ = some ⟨oc_BadText___init__, od_BadText___init__, .func (PySem.W.fnOf "__init__" "BadText.__init__" (defArgs s_BadText___init__) (defBody s_BadText___init__) (defScope s_BadText___init__) .none kV_BadText___init__ dc_BadText___init__ pm_BadText___init__ an_BadText___init__ cd_BadText___init__ ct_BadText___init__), sl_BadText___init__⟩)
    (c_BadText___init__ : PySem.W.codeIn K cd_BadText___init__ "BadText.__init__" = true)
    (k_BadText___init__ : PySem.W.keepIn K (.ref a_BadText___init__) = true)
    (n_pieces_in : PySem.W.nsIn K mainGlobals "pieces_in" = some (some (.ref a_pieces_in)))
    (l_pieces_in : K.lookup a_pieces_in = some ⟨oc_pieces_in, od_pieces_in, .func (PySem.W.fnOf "pieces_in" "pieces_in" (defArgs s_pieces_in) (defBody s_pieces_in) (defScope s_pieces_in) .none kV_pieces_in dc_pieces_in pm_pieces_in an_pieces_in cd_pieces_in ct_pieces_in), sl_pieces_in⟩)
    (c_pieces_in : PySem.W.codeIn K cd_pieces_in "pieces_in" = true)
    (k_pieces_in : PySem.W.keepIn K (.ref a_pieces_in) = true)
    (n_sole : PySem.W.nsIn K mainGlobals "sole" = some (some (.ref a_sole)))
    (l_sole : K.lookup a_sole = some ⟨oc_sole, od_sole, .func (PySem.W.fnOf "sole" "sole" (defArgs s_sole) (defBody s_sole) (defScope s_sole) .none kV_sole dc_sole pm_sole an_sole cd_sole ct_sole), sl_sole⟩)
    (c_sole : PySem.W.codeIn K cd_sole "sole" = true)
    (k_sole : PySem.W.keepIn K (.ref a_sole) = true)
    (n_move_in : PySem.W.nsIn K mainGlobals "move_in" = some (some (.ref a_move_in)))
    (l_move_in : K.lookup a_move_in = some ⟨oc_move_in, od_move_in, .func (PySem.W.fnOf "move_in" "move_in" (defArgs s_move_in) (defBody s_move_in) (defScope s_move_in) .none kV_move_in dc_move_in pm_move_in an_move_in cd_move_in ct_move_in), sl_move_in⟩)
    (c_move_in : PySem.W.codeIn K cd_move_in "move_in" = true)
    (k_move_in : PySem.W.keepIn K (.ref a_move_in) = true)
    (n_paper_in : PySem.W.nsIn K mainGlobals "paper_in" = some (some (.ref a_paper_in)))
    (l_paper_in : K.lookup a_paper_in = some ⟨oc_paper_in, od_paper_in, .func (PySem.W.fnOf "paper_in" "paper_in" (defArgs s_paper_in) (defBody s_paper_in) (defScope s_paper_in) .none kV_paper_in dc_paper_in pm_paper_in an_paper_in cd_paper_in ct_paper_in), sl_paper_in⟩)
    (c_paper_in : PySem.W.codeIn K cd_paper_in "paper_in" = true)
    (k_paper_in : PySem.W.keepIn K (.ref a_paper_in) = true)
    (n_box : PySem.W.nsIn K mainGlobals "_law_box" = some (some (.ref a_box)))
    (l_box : K.lookup a_box = some ⟨oc_box, od_box, .func (PySem.W.fnOf "_law_box" "_law_box" (defArgs s_box) (defBody s_box) (defScope s_box) .none kV_box dc_box pm_box an_box cd_box ct_box), sl_box⟩)
    (c_box : PySem.W.codeIn K cd_box "_law_box" = true)
    (k_box : PySem.W.keepIn K (.ref a_box) = true)
    (n_take : PySem.W.nsIn K mainGlobals "_law_take" = some (some (.ref a_take)))
    (l_take : K.lookup a_take = some ⟨oc_take, od_take, .func (PySem.W.fnOf "_law_take" "_law_take" (defArgs s_take) (defBody s_take) (defScope s_take) .none kV_take dc_take pm_take an_take cd_take ct_take), sl_take⟩)
    (c_take : PySem.W.codeIn K cd_take "_law_take" = true)
    (k_take : PySem.W.keepIn K (.ref a_take) = true)
    (n_cells : PySem.W.nsIn K mainGlobals "_law_cells" = some (some (.ref a_cells)))
    (l_cells : K.lookup a_cells = some ⟨oc_cells, od_cells, .func (PySem.W.fnOf "_law_cells" "_law_cells" (defArgs s_cells) (defBody s_cells) (defScope s_cells) .none kV_cells dc_cells pm_cells an_cells cd_cells ct_cells), sl_cells⟩)
    (c_cells : PySem.W.codeIn K cd_cells "_law_cells" = true)
    (k_cells : PySem.W.keepIn K (.ref a_cells) = true)
    (n_of : PySem.W.nsIn K mainGlobals "_law_of" = some (some (.ref a_of)))
    (l_of : K.lookup a_of = some ⟨oc_of, od_of, .func (PySem.W.fnOf "_law_of" "_law_of" (defArgs s_of) (defBody s_of) (defScope s_of) .none kV_of dc_of pm_of an_of cd_of ct_of), sl_of⟩)
    (c_of : PySem.W.codeIn K cd_of "_law_of" = true)
    (k_of : PySem.W.keepIn K (.ref a_of) = true)
    (n_same_o : PySem.W.nsIn K mainGlobals "_law_same" = some (some (.ref a_same_o)))
    (l_same_o : K.lookup a_same_o = some ⟨oc_same_o, od_same_o, .func (PySem.W.fnOf "_law_same" "_law_same" (defArgs s_same_o) (defBody s_same_o) (defScope s_same_o) .none kV_same_o dc_same_o pm_same_o an_same_o cd_same_o ct_same_o), sl_same_o⟩)
    (c_same_o : PySem.W.codeIn K cd_same_o "_law_same" = true)
    (k_same_o : PySem.W.keepIn K (.ref a_same_o) = true)
    (n_heard : PySem.W.nsIn K mainGlobals "_law_heard" = some (some (.ref a_heard)))
    (l_heard : K.lookup a_heard = some ⟨oc_heard, od_heard, .func (PySem.W.fnOf "_law_heard" "_law_heard" (defArgs s_heard) (defBody s_heard) (defScope s_heard) .none kV_heard dc_heard pm_heard an_heard cd_heard ct_heard), sl_heard⟩)
    (c_heard : PySem.W.codeIn K cd_heard "_law_heard" = true)
    (k_heard : PySem.W.keepIn K (.ref a_heard) = true)
    (n_bare_right : PySem.W.nsIn K mainGlobals "_law_bare_right" = some (some (.ref a_bare_right)))
    (l_bare_right : K.lookup a_bare_right = some ⟨oc_bare_right, od_bare_right, .func (PySem.W.fnOf "_law_bare_right" "_law_bare_right" (defArgs s_bare_right) (defBody s_bare_right) (defScope s_bare_right) .none kV_bare_right dc_bare_right pm_bare_right an_bare_right cd_bare_right ct_bare_right), sl_bare_right⟩)
    (c_bare_right : PySem.W.codeIn K cd_bare_right "_law_bare_right" = true)
    (k_bare_right : PySem.W.keepIn K (.ref a_bare_right) = true)
    (n_by_hand_right : PySem.W.nsIn K mainGlobals "_law_by_hand_right" = some (some (.ref a_by_hand_right)))
    (l_by_hand_right : K.lookup a_by_hand_right = some ⟨oc_by_hand_right, od_by_hand_right, .func (PySem.W.fnOf "_law_by_hand_right" "_law_by_hand_right" (defArgs s_by_hand_right) (defBody s_by_hand_right) (defScope s_by_hand_right) .none kV_by_hand_right dc_by_hand_right pm_by_hand_right an_by_hand_right cd_by_hand_right ct_by_hand_right), sl_by_hand_right⟩)
    (c_by_hand_right : PySem.W.codeIn K cd_by_hand_right "_law_by_hand_right" = true)
    (k_by_hand_right : PySem.W.keepIn K (.ref a_by_hand_right) = true)
    (n_bent : PySem.W.nsIn K mainGlobals "_law_bent" = some (some (.ref a_bent)))
    (l_bent : K.lookup a_bent = some ⟨oc_bent, od_bent, .func (PySem.W.fnOf "_law_bent" "_law_bent" (defArgs s_bent) (defBody s_bent) (defScope s_bent) .none kV_bent dc_bent pm_bent an_bent cd_bent ct_bent), sl_bent⟩)
    (c_bent : PySem.W.codeIn K cd_bent "_law_bent" = true)
    (k_bent : PySem.W.keepIn K (.ref a_bent) = true)
    (n_case_right : PySem.W.nsIn K mainGlobals "_law_case_right" = some (some (.ref a_case_right)))
    (l_case_right : K.lookup a_case_right = some ⟨oc_case_right, od_case_right, .func (PySem.W.fnOf "_law_case_right" "_law_case_right" (defArgs s_case_right) (defBody s_case_right) (defScope s_case_right) .none kV_case_right dc_case_right pm_case_right an_case_right cd_case_right ct_case_right), sl_case_right⟩)
    (c_case_right : PySem.W.codeIn K cd_case_right "_law_case_right" = true)
    (k_case_right : PySem.W.keepIn K (.ref a_case_right) = true)
    (n_right : PySem.W.nsIn K mainGlobals "_law_right" = some (some (.ref a_right)))
    (l_right : K.lookup a_right = some ⟨oc_right, od_right, .func (PySem.W.fnOf "_law_right" "_law_right" (defArgs s_right) (defBody s_right) (defScope s_right) .none kV_right dc_right pm_right an_right cd_right ct_right), sl_right⟩)
    (c_right : PySem.W.codeIn K cd_right "_law_right" = true)
    (k_right : PySem.W.keepIn K (.ref a_right) = true)
    (n_law : PySem.W.nsIn K mainGlobals "law" = some (some (.ref a_law)))
    (l_law : K.lookup a_law = some ⟨oc_law, od_law, .func (PySem.W.fnOf "law" "law" (defArgs s_law) (defBody s_law) (defScope s_law) .none kV_law dc_law pm_law an_law cd_law ct_law), sl_law⟩)
    (c_law : PySem.W.codeIn K cd_law "law" = true)
    (k_law : PySem.W.keepIn K (.ref a_law) = true)
    (v_BETWEEN : PySem.W.nsIn K mainGlobals "BETWEEN" = some (some (.str "; " t_BETWEEN)))
    (v_BLANK : PySem.W.nsIn K mainGlobals "BLANK" = some (some (.str " " t_BLANK)))
    (v_DIGITS : PySem.W.nsIn K mainGlobals "DIGITS" = some (some (.str "0123456789" t_DIGITS)))
    (v_NOTHING : PySem.W.nsIn K mainGlobals "NOTHING" = some (some (.str "-" t_NOTHING)))
    (v_PAIR_stays : PySem.W.nsIn K mainGlobals "PAIR_stays" = some (some (.int 2 t_PAIR_stays)))
    (v_PAIR_texts : PySem.W.nsIn K mainGlobals "PAIR_texts" = some (some (.int 2 t_PAIR_texts)))
    (v_STROKE : PySem.W.nsIn K mainGlobals "STROKE" = some (some (.str "-" t_STROKE)))
    (v_TIMES : PySem.W.nsIn K mainGlobals "TIMES" = some (some (.str " x " t_TIMES)))
    (v_TRIPLE : PySem.W.nsIn K mainGlobals "TRIPLE" = some (some (.int 3 t_TRIPLE)))
    (z_abs : PySem.W.nsIn K mainGlobals "abs" = some none)
    (z_all : PySem.W.nsIn K mainGlobals "all" = some none)
    (z_bool : PySem.W.nsIn K mainGlobals "bool" = some none)
    (z_enumerate : PySem.W.nsIn K mainGlobals "enumerate" = some none)
    (z_int : PySem.W.nsIn K mainGlobals "int" = some none)
    (z_isinstance : PySem.W.nsIn K mainGlobals "isinstance" = some none)
    (z_len : PySem.W.nsIn K mainGlobals "len" = some none)
    (z_list : PySem.W.nsIn K mainGlobals "list" = some none)
    (z_range : PySem.W.nsIn K mainGlobals "range" = some none)
    (z_str : PySem.W.nsIn K mainGlobals "str" = some none)
    (z_sum : PySem.W.nsIn K mainGlobals "sum" = some none)
    (z_tuple : PySem.W.nsIn K mainGlobals "tuple" = some none)
    (z_zip : PySem.W.nsIn K mainGlobals "zip" = some none) :
    ∃ fd : FuncData, (∀ (s : Shared) (v : Value), BindsTo s fd ⟨[v], []⟩ [("_law_script", v)]) ∧ ∀ base : Heap, K.In base → base.Ns mainGlobals mg → FnOk l.prog w K mg base (L2.CX l.prog w) 12 fa fd ["_law_script"] (spAny K w l.prog) := by
  have e := hfa.symm.trans (PySem.W.mg_of X G n_law)
  have e2 : a_law = fa := by cases e; rfl
  subst e2
  let g : Top ⟨K, w, (fun k => match k with | 1 => C_BadText | 1000001 => a_paper_piece | _ => C_BadText), l.prog, 0⟩ mg := {
    mg_BadText := PySem.W.mg_of X G mg_BadText,
    xk_BadText := ⟨⟨⟨_, _, _, _, _, _, _, _, _, _, _, _, _, _, _, lx_BadText, rv_BadText⟩, sa_BadText, eb_BadText, tc_BadText, kc_BadText⟩, ⟨ga_BadText, gg_BadText, eb_BadText, hd_BadText⟩, ⟨ga_BadText, gg_BadText, eb_BadText, hd_BadText, ca_BadText, cn_BadText, ct_BadText, cm_BadText⟩⟩,
    xa_BadText := xa_BadText, xt_BadText := xt_BadText,
    no_BadText_piece := no_BadText_piece,
    ex_BadText_BadText := PySem.W.exm_ref eb_BadText hd_BadText tc_BadText ss_BadText,
    a_is_number := a_is_number, d_is_number := _, F_is_number := fun_mk (st := s_is_number) l_is_number c_is_number k_is_number, m_is_number := PySem.W.mg_of X G n_is_number,
    a_number_in := a_number_in, d_number_in := _, F_number_in := fun_mk (st := s_number_in) l_number_in c_number_in k_number_in, m_number_in := PySem.W.mg_of X G n_number_in,
    a_is_tick := a_is_tick, d_is_tick := _, F_is_tick := fun_mk (st := s_is_tick) l_is_tick c_is_tick k_is_tick, m_is_tick := PySem.W.mg_of X G n_is_tick,
    a_is_stay := a_is_stay, d_is_stay := _, F_is_stay := fun_mk (st := s_is_stay) l_is_stay c_is_stay k_is_stay, m_is_stay := PySem.W.mg_of X G n_is_stay,
    a_lies_in := a_lies_in, d_lies_in := _, F_lies_in := fun_mk (st := s_lies_in) l_lies_in c_lies_in k_lies_in, m_lies_in := PySem.W.mg_of X G n_lies_in,
    a_size_of := a_size_of, d_size_of := _, F_size_of := fun_mk (st := s_size_of) l_size_of c_size_of k_size_of, m_size_of := PySem.W.mg_of X G n_size_of,
    a_is_wider := a_is_wider, d_is_wider := _, F_is_wider := fun_mk (st := s_is_wider) l_is_wider c_is_wider k_is_wider, m_is_wider := PySem.W.mg_of X G n_is_wider,
    a_is_move := a_is_move, d_is_move := _, F_is_move := fun_mk (st := s_is_move) l_is_move c_is_move k_is_move, m_is_move := PySem.W.mg_of X G n_is_move,
    a_stay_of := a_stay_of, d_stay_of := _, F_stay_of := fun_mk (st := s_stay_of) l_stay_of c_stay_of k_stay_of, m_stay_of := PySem.W.mg_of X G n_stay_of,
    a_part_of := a_part_of, d_part_of := _, F_part_of := fun_mk (st := s_part_of) l_part_of c_part_of k_part_of, m_part_of := PySem.W.mg_of X G n_part_of,
    a_move_of := a_move_of, d_move_of := _, F_move_of := fun_mk (st := s_move_of) l_move_of c_move_of k_move_of, m_move_of := PySem.W.mg_of X G n_move_of,
    a_many_of := a_many_of, d_many_of := _, F_many_of := fun_mk (st := s_many_of) l_many_of c_many_of k_many_of, m_many_of := PySem.W.mg_of X G n_many_of,
    a_paper_piece := a_paper_piece, d_paper_piece := _, F_paper_piece := fun_mk (st := s_paper_piece) l_paper_piece c_paper_piece k_paper_piece, m_paper_piece := PySem.W.mg_of X G n_paper_piece, e_paper_piece := rfl,
    a_BadText___init__ := a_BadText___init__, d_BadText___init__ := _, F_BadText___init__ := fun_mk (st := s_BadText___init__) l_BadText___init__ c_BadText___init__ k_BadText___init__,
    a_pieces_in := a_pieces_in, d_pieces_in := _, F_pieces_in := fun_mk (st := s_pieces_in) l_pieces_in c_pieces_in k_pieces_in, m_pieces_in := PySem.W.mg_of X G n_pieces_in,
    a_sole := a_sole, d_sole := _, F_sole := fun_mk (st := s_sole) l_sole c_sole k_sole, m_sole := PySem.W.mg_of X G n_sole,
    a_move_in := a_move_in, d_move_in := _, F_move_in := fun_mk (st := s_move_in) l_move_in c_move_in k_move_in, m_move_in := PySem.W.mg_of X G n_move_in,
    a_paper_in := a_paper_in, d_paper_in := _, F_paper_in := fun_mk (st := s_paper_in) l_paper_in c_paper_in k_paper_in, m_paper_in := PySem.W.mg_of X G n_paper_in,
    a_box := a_box, d_box := _, F_box := fun_mk (st := s_box) l_box c_box k_box, m_box := PySem.W.mg_of X G n_box,
    a_take := a_take, d_take := _, F_take := fun_mk (st := s_take) l_take c_take k_take, m_take := PySem.W.mg_of X G n_take,
    a_cells := a_cells, d_cells := _, F_cells := fun_mk (st := s_cells) l_cells c_cells k_cells, m_cells := PySem.W.mg_of X G n_cells,
    a_of := a_of, d_of := _, F_of := fun_mk (st := s_of) l_of c_of k_of, m_of := PySem.W.mg_of X G n_of,
    a_same_o := a_same_o, d_same_o := _, F_same_o := fun_mk (st := s_same_o) l_same_o c_same_o k_same_o, m_same_o := PySem.W.mg_of X G n_same_o,
    a_heard := a_heard, d_heard := _, F_heard := fun_mk (st := s_heard) l_heard c_heard k_heard, m_heard := PySem.W.mg_of X G n_heard,
    a_bare_right := a_bare_right, d_bare_right := _, F_bare_right := fun_mk (st := s_bare_right) l_bare_right c_bare_right k_bare_right, m_bare_right := PySem.W.mg_of X G n_bare_right,
    a_by_hand_right := a_by_hand_right, d_by_hand_right := _, F_by_hand_right := fun_mk (st := s_by_hand_right) l_by_hand_right c_by_hand_right k_by_hand_right, m_by_hand_right := PySem.W.mg_of X G n_by_hand_right,
    a_bent := a_bent, d_bent := _, F_bent := fun_mk (st := s_bent) l_bent c_bent k_bent, m_bent := PySem.W.mg_of X G n_bent,
    a_case_right := a_case_right, d_case_right := _, F_case_right := fun_mk (st := s_case_right) l_case_right c_case_right k_case_right, m_case_right := PySem.W.mg_of X G n_case_right,
    a_right := a_right, d_right := _, F_right := fun_mk (st := s_right) l_right c_right k_right, m_right := PySem.W.mg_of X G n_right,
    a_law := a_law, d_law := _, F_law := fun_mk (st := s_law) l_law c_law k_law, m_law := PySem.W.mg_of X G n_law,
    t_BETWEEN := _, v_BETWEEN := PySem.W.mg_of X G v_BETWEEN,
    t_BLANK := _, v_BLANK := PySem.W.mg_of X G v_BLANK,
    t_DIGITS := _, v_DIGITS := PySem.W.mg_of X G v_DIGITS,
    t_NOTHING := _, v_NOTHING := PySem.W.mg_of X G v_NOTHING,
    t_PAIR_stays := _, v_PAIR_stays := PySem.W.mg_of X G v_PAIR_stays,
    t_PAIR_texts := _, v_PAIR_texts := PySem.W.mg_of X G v_PAIR_texts,
    t_STROKE := _, v_STROKE := PySem.W.mg_of X G v_STROKE,
    t_TIMES := _, v_TIMES := PySem.W.mg_of X G v_TIMES,
    t_TRIPLE := _, v_TRIPLE := PySem.W.mg_of X G v_TRIPLE,
    z_abs := PySem.W.mg_none_of X G z_abs,
    z_all := PySem.W.mg_none_of X G z_all,
    z_bool := PySem.W.mg_none_of X G z_bool,
    z_enumerate := PySem.W.mg_none_of X G z_enumerate,
    z_int := PySem.W.mg_none_of X G z_int,
    z_isinstance := PySem.W.mg_none_of X G z_isinstance,
    z_len := PySem.W.mg_none_of X G z_len,
    z_list := PySem.W.mg_none_of X G z_list,
    z_range := PySem.W.mg_none_of X G z_range,
    z_str := PySem.W.mg_none_of X G z_str,
    z_sum := PySem.W.mg_none_of X G z_sum,
    z_tuple := PySem.W.mg_none_of X G z_tuple,
    z_zip := PySem.W.mg_none_of X G z_zip }
  exact ⟨_, fun s v => .of_eq rfl, fun base _ _ => (ok_law g).imp fun vs H Q E h => h _⟩
end Sm
set_option Elab.async false
set_option linter.all false
set_option maxRecDepth 100000
set_option maxHeartbeats 1000000
namespace Sm
open PySem PySem.Spec PyProof.Rows L2
abbrev Part := PQ ⊕ Int
def eW : Part → D
  | .inl p => sP p
  | .inr m => .int m
def ptxT : Part → Str
  | .inl p => spanT p
  | .inr m => numT m
def okW : Part → Prop
  | .inl p => okP p ∧ p.1 ≤ p.2
  | .inr m => ok40 m
inductive Deed where
  | new (p : PQ) | longer (p q : PQ) | split (p : PQ) (m : Int) | cross (p q : PQ)
  deriving DecidableEq
def word : Deed → Str
  | .new _ => "new"
  | .longer _ _ => "longer"
  | .split _ _ => "split"
  | .cross _ _ => "cross"
def parts : Deed → List Part
  | .new p => [.inl p]
  | .longer p q => [.inl p, .inl q]
  | .split p m => [.inl p, .inr m]
  | .cross p q => [.inl p, .inl q]
def eD (d : Deed) : D := .tup (.str (word d) :: (parts d).map eW)
def deedWs (d : Deed) : List Str := word d :: (parts d).map ptxT
def deedT (d : Deed) : Str := Txt.join " " (deedWs d)
def okD : Deed → Prop
  | .new p => okP p ∧ p.1 ≤ p.2
  | .longer p q => okP p ∧ p.1 ≤ p.2 ∧ okP q ∧ q.1 ≤ p.1 ∧ p.2 ≤ q.2 ∧ p.2 - p.1 < q.2 - q.1
  | .split p m => okP p ∧ p.1 ≤ m ∧ m < p.2
  | .cross p q => okP p ∧ okP q ∧ p.1 < q.1 ∧ q.1 ≤ q.2 ∧ q.2 < p.2
theorem part_ok {d : Deed} (h : okD d) : ∀ u ∈ parts d, okW u := by
  intro u hu
  cases d with
  | new p =>
    rw [List.mem_singleton.mp hu]; exact h
  | longer p q =>
    obtain ⟨a, b, c, e, f, g⟩ := h
    rcases List.mem_cons.mp hu with rfl | hu
    · exact ⟨a, b⟩
    · rw [List.mem_singleton.mp hu]; exact ⟨c, by omega⟩
  | split p m =>
    obtain ⟨a, b, c⟩ := h
    rcases List.mem_cons.mp hu with rfl | hu
    · exact ⟨a, by omega⟩
    · rw [List.mem_singleton.mp hu]
      have h1 := a.1.1
      have h2 := a.2.2
      exact ⟨by omega, by omega⟩
  | cross p q =>
    obtain ⟨a, b, c, e, f⟩ := h
    rcases List.mem_cons.mp hu with rfl | hu
    · exact ⟨a, by omega⟩
    · rw [List.mem_singleton.mp hu]; exact ⟨b, e⟩
theorem parts_len (d : Deed) : (parts d).length ≤ 2 := by cases d <;> simp [parts]
theorem part_tl {u : Part} (h : okW u) : ∀ c ∈ TL.tl (ptxT u), (48 ≤ c ∧ c ≤ 57) ∨ c = 45 := by
  intro c hc
  cases u with
  | inl p =>
    have hc : c ∈ TL.tl (numT p.1 ++ "-" ++ numT p.2) := hc
    rw [TL.tl_append, TL.tl_append, dash_tl] at hc
    rcases List.mem_append.mp hc with hc | hc
    · rcases List.mem_append.mp hc with hc | hc
      · exact .inl (num_small h.1.1 c hc)
      · exact .inr (List.mem_singleton.mp hc)
    · exact .inl (num_small h.1.2 c hc)
  | inr m => exact .inl (num_small h c hc)
theorem part_len {u : Part} (h : okW u) : (ptxT u).length ≤ 81 := by
  cases u with
  | inl p => exact spanT_len h.1
  | inr m => exact Nat.le_trans (tI_len h) (by decide)
def okWord (w : Str) : Bool := (TL.tl w).all (fun c => decide (97 ≤ c ∧ c ≤ 119)) && decide (w.length ≤ 6)
theorem ok_word (d : Deed) : okWord (word d) = true := by
  cases d with
  | new _ => exact (by decide +kernel : okWord "new" = true)
  | longer _ _ => exact (by decide +kernel : okWord "longer" = true)
  | split _ _ => exact (by decide +kernel : okWord "split" = true)
  | cross _ _ => exact (by decide +kernel : okWord "cross" = true)
theorem word_tl (d : Deed) : ∀ c ∈ TL.tl (word d), 97 ≤ c ∧ c ≤ 119 := fun c hc => of_decide_eq_true (List.all_eq_true.mp (Bool.and_eq_true_iff.mp (ok_word d)).1 c hc)
theorem word_len (d : Deed) : (word d).length ≤ 6 := of_decide_eq_true (Bool.and_eq_true_iff.mp (ok_word d)).2
theorem ws_tl {d : Deed} (h : okD d) : ∀ w ∈ deedWs d, ∀ c ∈ TL.tl w, (45 ≤ c ∧ c ≤ 57) ∨ (97 ≤ c ∧ c ≤ 119) := by
  intro w hw c hc
  rcases List.mem_cons.mp hw with rfl | hw
  · exact .inr (word_tl d c hc)
  · obtain ⟨u, hu, rfl⟩ := List.mem_map.mp hw
    have := part_tl (part_ok h u hu) c hc
    omega
theorem deed_tl {d : Deed} (h : okD d) : ∀ c ∈ TL.tl (deedT d), c = 32 ∨ (45 ≤ c ∧ c ≤ 57) ∨ (97 ≤ c ∧ c ≤ 119) :=
  join_tl_mem (P := fun c => c = 32 ∨ (45 ≤ c ∧ c ≤ 57) ∨ (97 ≤ c ∧ c ≤ 119)) (fun c hc => by
    rw [blank_tl] at hc
    exact .inl (List.mem_singleton.mp hc)) fun w hw c hc => .inr (ws_tl h w hw c hc)
theorem deed_sum {d : Deed} (h : okD d) : sumLen (deedWs d) " " ≤ 246 := by
  have hl := parts_len d
  have a : sumLen (deedWs d) " " ≤ 3 * 82 := sumLen_le (by unfold deedWs; rw [List.length_cons, List.length_map]; omega) fun x hx => by
    rw [blank_len]
    rcases List.mem_cons.mp hx with rfl | hx
    · have := word_len d; omega
    · obtain ⟨u, hu, rfl⟩ := List.mem_map.mp hx
      have := part_len (part_ok h u hu)
      omega
  exact a
theorem deed_len {d : Deed} (h : okD d) : (deedT d).length ≤ 246 := Nat.le_trans (join_len _ _) (deed_sum h)
theorem deed_split {d : Deed} (h : okD d) : Txt.split (deedT d) " " = deedWs d :=
  TL.split_join blank_tl blank_k (by unfold deedWs; simp) fun w hw hm => by have := ws_tl h w hw 32 hm; omega
theorem words_ne : ("new" : Str) ≠ "longer" ∧ ("new" : Str) ≠ "split" ∧ ("new" : Str) ≠ "cross" ∧ ("longer" : Str) ≠ "split" ∧ ("longer" : Str) ≠ "cross" ∧ ("split" : Str) ≠ "cross" := by decide +kernel
abbrev pP2 (p : PQ) : PyData := .tuple [.int p.1, .int p.2]
def pE : Deed → PyData
  | .new p => .tuple [.str "new", pP2 p]
  | .longer p q => .tuple [.str "longer", pP2 p, pP2 q]
  | .split p m => .tuple [.str "split", pP2 p, .int m]
  | .cross p q => .tuple [.str "cross", pP2 p, pP2 q]
theorem pyE (d : Deed) : (eD d).py = some (pE d) := by cases d <;> rfl
theorem plainE (d : Deed) : plainK (pE d) = true := by cases d <;> rfl
theorem depthE (d : Deed) : (pE d).depth ≤ 8 := by cases d <;> exact (by decide : 2 ≤ 8)
theorem sim_prs (p q : PQ) (xs ys : List PyData) (h : simDs xs ys = true) : simDs (pP2 p :: xs) (pP2 q :: ys) = true := by
  rw [simDs]
  split
  · exact h
  · show simDs [.int p.1, .int p.2] [.int q.1, .int q.2] = true
    rw [simDs]
    split
    · rw [simDs]
      split
      · rfl
      · rfl
    · rfl
theorem sim_ints (i j : Int) (xs ys : List PyData) (h : simDs xs ys = true) : simDs (.int i :: xs) (.int j :: ys) = true := by
  rw [simDs]
  split
  · exact h
  · rfl
theorem simE (a b : Deed) : simD (pE a) (pE b) = true := by
  have diff : ∀ (u v : Str) (xs ys : List PyData), u ≠ v → simDs (.str u :: xs) (.str v :: ys) = true := fun u v xs ys h => by
    rw [simDs, if_neg (by simp [PyData.eqv]; exact h)]; rfl
  have same : ∀ (u : Str) (xs ys : List PyData), simDs xs ys = true → simDs (.str u :: xs) (.str u :: ys) = true := fun u xs ys h => by
    rw [simDs, if_pos (by simp [PyData.eqv])]; exact h
  obtain ⟨w1, w2, w3, w4, w5, w6⟩ := words_ne
  cases a with
  | new p =>
    cases b with
    | new q => exact same _ _ _ (sim_prs _ _ _ _ rfl)
    | longer _ _ => exact diff _ _ _ _ w1
    | split _ _ => exact diff _ _ _ _ w2
    | cross _ _ => exact diff _ _ _ _ w3
  | longer p p' =>
    cases b with
    | new q => exact diff _ _ _ _ w1.symm
    | longer q q' => exact same _ _ _ (sim_prs _ _ _ _ (sim_prs _ _ _ _ rfl))
    | split _ _ => exact diff _ _ _ _ w4
    | cross _ _ => exact diff _ _ _ _ w5
  | split p m =>
    cases b with
    | new q => exact diff _ _ _ _ w2.symm
    | longer q q' => exact diff _ _ _ _ w4.symm
    | split q m' => exact same _ _ _ (sim_prs _ _ _ _ (sim_ints _ _ _ _ rfl))
    | cross _ _ => exact diff _ _ _ _ w6
  | cross p p' =>
    cases b with
    | new q => exact diff _ _ _ _ w3.symm
    | longer q q' => exact diff _ _ _ _ w5.symm
    | split q m' => exact diff _ _ _ _ w6.symm
    | cross q q' => exact same _ _ _ (sim_prs _ _ _ _ (sim_prs _ _ _ _ rfl))
theorem dle_deeds (a b : Deed) : dle (eD a) (eD b) = !PySem.W.dataLt (pE b) (pE a) := by
  show (!PySem.W.dataLt (pyD (eD b)) (pyD (eD a))) = _
  unfold pyD
  rw [pyE, pyE]; rfl
theorem le_deeds (a b : Deed) : dLeN (eD a) (eD b) = some (.bl (dle (eD a) (eD b))) := by
  have e : dLeT (eD a) (eD b) = none := by cases a <;> cases b <;> rfl
  unfold dLeN
  rw [e]
  show (match (eD a).py, (eD b).py with | some p, some q => _ | _, _ => none) = _
  rw [pyE, pyE]
  show (if (plainK (pE a) && plainK (pE b) && simD (pE b) (pE a) && decide ((pE a).depth ≤ 8)) = true then some (D.bl (!PySem.W.dataLt (pE b) (pE a))) else none) = _
  rw [plainE, plainE, simE, decide_eq_true (depthE a), dle_deeds]; rfl
theorem tick02 {i : Int} : f_is_tick [.int i] = .ok (.bl (decide (0 ≤ i))) [none] := by
  rw [f_is_tick, mkF_fin]
  show fin [false] (b_is_tick [.fz (.int i)]) = _
  have n : f_is_number [.int i] = .ok (.bl true) [none] := rfl
  unfold b_is_tick
  rw [ret_of (andVT_of (call1_of (frz_of (i := 0) rfl) n) rfl (op_of (f := dGe) (z := .bl (decide (0 ≤ i))) (frz_of (i := 0) rfl) kC_of (by rfl)))]
  rfl
theorem stay02 {p : PQ} (h : okP p) (hp : p.1 ≤ p.2) : f_is_stay [sP p] = .ok (.bl true) [none] := by
  have lc : mLc (mOn asS (mVar 0)) (gN 1) mYes (mCall [false] f_is_tick 1 0 [0] [] (aV (mVar 1) aNil) mNil) [1] [.fz (sP p), .un] = .ok (.lst ([p.1, p.2].map fun t => .bl (decide (0 ≤ t)))) [.fz (sP p), .un] :=
    lcA_map (f := D.int) (xs := [p.1, p.2]) (S := [.fz (sP p), .un]) (fun t => .bl (decide (0 ≤ t))) (on_of (frz_of rfl) rfl) (by simp) rfl fun t _ => ⟨[.fz (sP p), .fz (.int t)], [.fz (sP p), .fz (.int t)], [.fz (sP p), .fz (.int t)], rfl, rfl, call1_of (frz_of rfl) tick02, rfl⟩
  have a := all_of (y := fun t : Int => decide (0 ≤ t)) [p.1, p.2]
  have ea : [p.1, p.2].all (fun t => decide (0 ≤ t)) = true := by simp [h.1.1, h.2.1]
  rw [ea] at a
  have c0 : mOr (mNot (mB (mFn (dIsi "tuple") (mCons (mVar 0) mNil)))) (mOr (mB (mOp dNe (mFn dLen (mCons (mVar 0) mNil)) (mC (.int 2)))) (mNot (mB (mFn dAll (mCons (mLc (mOn asS (mVar 0)) (gN 1) mYes (mCall [false] f_is_tick 1 0 [0] [] (aV (mVar 1) aNil) mNil) [1]) mNil))))) [.fz (sP p), .un] = .ok false [.fz (sP p), .un] :=
    orF_of (not_of (c := true) (bool_of (fn1_of (frz_of rfl) rfl))) (orF_of (bool_of (op_of (f := dNe) (x := .int 2) (z := .bl false) (fn1_of (frz_of (d := sP p) rfl) (z := .int 2) rfl) kC_of rfl)) (not_of (c := true) (bool_of (fn1_of lc a))))
  rw [f_is_stay, mkF_fin]
  show fin [false] (b_is_stay [.fz (sP p), .un]) = _
  have s0 : b_is_stay_0 [.fz (sP p), .un] = .nx [.fz (sP p), .un] := by
    unfold b_is_stay_0
    rw [ifF_of c0]; rfl
  rw [b_is_stay, seq_of s0]
  unfold b_is_stay_1
  rw [ret_of (op_of (f := dLe) (z := .bl (decide (p.1 ≤ p.2))) (pk_of (z := .int p.1) rfl kC_of rfl rfl) (pk_of (z := .int p.2) rfl kC_of rfl rfl) rfl), decide_eq_true hp]
  rfl
theorem wider02 {p q : PQ} (h1 : q.1 ≤ p.1) (h2 : p.2 ≤ q.2) (h3 : p.2 - p.1 < q.2 - q.1) : f_is_wider [sP p, sP q] = .ok (.bl true) [none, none] := by
  have l : f_lies_in [sP p, sP q] = .ok (.bl true) [none, none] := by
    have e : f_lies_in [sP p, sP q] = fin [false, false] (b_lies_in [.fz (sP p), .fz (sP q)]) := rfl
    rw [e]
    unfold b_lies_in
    rw [ret_of (andVT_of (x := .bl true) (op_of (f := dLe) (pk_of (z := .int q.1) rfl kC_of rfl rfl) (pk_of (z := .int p.1) rfl kC_of rfl rfl) (by show some (D.bl (decide (q.1 ≤ p.1))) = _; rw [decide_eq_true h1])) rfl (op_of (f := dLe) (z := .bl true) (pk_of (z := .int p.2) rfl kC_of rfl rfl) (pk_of (z := .int q.2) rfl kC_of rfl rfl) (by show some (D.bl (decide (p.2 ≤ q.2))) = _; rw [decide_eq_true h2])))]
    rfl
  have s : ∀ r : PQ, f_size_of [sP r] = .ok (.int (r.2 - r.1 + 1)) [none] := fun r => rfl
  have e : f_is_wider [sP p, sP q] = fin [false, false] (b_is_wider [.fz (sP p), .fz (sP q)]) := rfl
  rw [e]
  unfold b_is_wider
  rw [ret_of (andVT_of (x := .bl true) (call2_of (frz_of (i := 0) rfl) (frz_of (i := 1) rfl) l) rfl (op_of (f := dLt) (z := .bl true) (call1_of (frz_of (i := 0) rfl) (s p)) (call1_of (frz_of (i := 1) rfl) (s q)) (by show some (D.bl (decide (p.2 - p.1 + 1 < q.2 - q.1 + 1))) = _; rw [decide_eq_true (by omega)])))]
  rfl
theorem first02 (d : Deed) : ∃ p : PQ, (∀ τ : List Sl, mPk 0 dIx (mC (.int 1)) (.fz (eD d) :: τ) = .ok (sP p) (.fz (eD d) :: τ)) ∧ .inl p ∈ parts d := by
  cases d with
  | new p => exact ⟨p, fun _ => rfl, List.mem_cons_self⟩
  | longer p _ => exact ⟨p, fun _ => rfl, List.mem_cons_self⟩
  | split p _ => exact ⟨p, fun _ => rfl, List.mem_cons_self⟩
  | cross p _ => exact ⟨p, fun _ => rfl, List.mem_cons_self⟩
theorem okT_words : okT ("new" : Str) = true ∧ okT ("longer" : Str) = true ∧ okT ("split" : Str) = true ∧ okT ("cross" : Str) = true := by decide +kernel
theorem is_move_ok {d : Deed} (h : okD d) : f_is_move [eD d] = .ok (.bl true) [none] := by
  obtain ⟨p0, f1, fm⟩ := first02 d
  obtain ⟨o1, o2⟩ := part_ok h _ fm
  have st := stay02 o1 o2
  have c0 : mOr (mNot (mB (mFn (dIsi "tuple") (mCons (mVar 0) mNil)))) (mOr (mNot (mB (mCh dLe dLe (mC (.int 2)) (mFn dLen (mCons (mVar 0) mNil)) (mC (.int 3))))) (mNot (mB (mCall [false] f_is_stay 1 0 [0] [] (aV (mPk 0 dIx (mC (.int 1))) aNil) mNil)))) [.fz (eD d), .un, .un, .un] = .ok false [.fz (eD d), .un, .un, .un] :=
    orF_of (not_of (c := true) (bool_of (fn1_of (frz_of rfl) rfl))) (orF_of (not_of (c := true) (bool_of (by cases d <;> rfl))) (not_of (c := true) (bool_of (call1_of (f1 _) st))))
  have s0 : b_is_move_0 [.fz (eD d), .un, .un, .un] = .nx [.fz (eD d), .un, .un, .un] := by
    unfold b_is_move_0
    rw [ifF_of c0]; rfl
  obtain ⟨w1, w2, w3, w4, w5, w6⟩ := words_ne
  obtain ⟨k1, k2, k3, k4⟩ := okT_words
  have eqs : ∀ {a b : Str}, okT a = true → okT b = true → a ≠ b → dEq (.str a) (.str b) = some (.bl false) := fun ha hb hn => (eq_str ha hb).trans (by rw [decide_eq_false hn])
  have eqt : ∀ {a : Str}, okT a = true → dEq (.str a) (.str a) = some (.bl true) := fun ha => (eq_str ha ha).trans (by rw [decide_eq_true rfl])
  have e : f_is_move [eD d] = fin [false] (b_is_move [.fz (eD d), .un, .un, .un]) := rfl
  rw [e, b_is_move, seq_of s0]
  cases d with
  | new p =>
    have s1 : b_is_move_1 [.fz (eD (.new p)), .un, .un, .un] = .rt (.bl true) [.fz (eD (.new p)), .un, .un, .un] := by
      unfold b_is_move_1
      rw [ifT_of (bool_of (op_of (f := dEq) (fn1_of (frz_of (i := 0) rfl) (z := .int 2) rfl) kC_of rfl))]
      exact ret_of (andVT_of (x := .bl true) (fn1_of (x := .str "new") rfl rfl) rfl (op_of (f := dEq) (x := .str "new") (y := .str "new") rfl kC_of (eqt k1)))
    rw [seqR_of s1]; rfl
  | longer p q =>
    obtain ⟨a, b, c, g1, g2, g3⟩ := h
    have sq := stay02 (p := q) c (by omega)
    have wd := wider02 g1 g2 g3
    have s1 : b_is_move_1 [.fz (eD (.longer p q)), .un, .un, .un] = .nx [.fz (eD (.longer p q)), .un, .un, .un] := rfl
    have s2 : b_is_move_2 [.fz (eD (.longer p q)), .un, .un, .un] = .nx [.fz (eD (.longer p q)), .fz (.str "longer"), .fz (sP p), .fz (sP q)] := rfl
    have s3 : b_is_move_3 [.fz (eD (.longer p q)), .fz (.str "longer"), .fz (sP p), .fz (sP q)] = .nx [.fz (eD (.longer p q)), .fz (.str "longer"), .fz (sP p), .fz (sP q)] := rfl
    have s4 : b_is_move_4 [.fz (eD (.longer p q)), .fz (.str "longer"), .fz (sP p), .fz (sP q)] = .nx [.fz (eD (.longer p q)), .fz (.str "longer"), .fz (sP p), .fz (sP q)] := by
      unfold b_is_move_4
      rw [ifF_of (bool_of (op_of (f := dEq) (frz_of (i := 1) rfl) kC_of (eqs k2 k3 w4)))]; rfl
    have ni : dNotIn2 (.str ("longer" : Str)) (.tup [.str "longer", .str "cross"]) = some (.bl false) := by kernel_rfl
    have s5 : b_is_move_5 [.fz (eD (.longer p q)), .fz (.str "longer"), .fz (sP p), .fz (sP q)] = .nx [.fz (eD (.longer p q)), .fz (.str "longer"), .fz (sP p), .fz (sP q)] := by
      unfold b_is_move_5
      rw [ifF_of (orF_of (bool_of (op_of (f := dNotIn2) (y := .tup [.str "longer", .str "cross"]) (frz_of (i := 1) rfl) (tup_of (cons_of kC_of (cons_of kC_of nil_of)) (by decide)) ni)) (not_of (c := true) (bool_of (call1_of (frz_of (i := 3) rfl) sq))))]; rfl
    rw [seq_of s1, seq_of s2, seq_of s3, seq_of s4, seq_of s5]
    unfold b_is_move_6
    rw [ret_of (d := .bl true) (τ1 := [.fz (eD (.longer p q)), .fz (.str "longer"), .fz (sP p), .fz (sP q)]) (by
      rw [if_of (bool_of (op_of (f := dEq) (frz_of (i := 1) rfl) kC_of (eqt k2)))]
      exact call2_of (frz_of (i := 2) rfl) (frz_of (i := 3) rfl) wd)]
    rfl
  | split p m =>
    obtain ⟨a, b, c⟩ := h
    have a1 := a.1.1
    have s1 : b_is_move_1 [.fz (eD (.split p m)), .un, .un, .un] = .nx [.fz (eD (.split p m)), .un, .un, .un] := rfl
    have s2 : b_is_move_2 [.fz (eD (.split p m)), .un, .un, .un] = .nx [.fz (eD (.split p m)), .fz (.str "split"), .fz (sP p), .fz (.int m)] := rfl
    have s3 : b_is_move_3 [.fz (eD (.split p m)), .fz (.str "split"), .fz (sP p), .fz (.int m)] = .nx [.fz (eD (.split p m)), .fz (.str "split"), .fz (sP p), .fz (.int m)] := rfl
    have ch : mCh dLe dLt (mPk 2 dIx (mC (.int 0))) (mVar 3) (mPk 2 dIx (mC (.int 1))) [.fz (eD (.split p m)), .fz (.str "split"), .fz (sP p), .fz (.int m)] = .ok (.bl true) [.fz (eD (.split p m)), .fz (.str "split"), .fz (sP p), .fz (.int m)] := by
      simp -implicitDefEqProofs [b, c]
    have s4 : b_is_move_4 [.fz (eD (.split p m)), .fz (.str "split"), .fz (sP p), .fz (.int m)] = .rt (.bl true) [.fz (eD (.split p m)), .fz (.str "split"), .fz (sP p), .fz (.int m)] := by
      unfold b_is_move_4
      rw [ifT_of (bool_of (op_of (f := dEq) (frz_of (i := 1) rfl) kC_of (eqt k3)))]
      exact ret_of (andVT_of (x := .bl true) (call1_of (frz_of (i := 3) rfl) (by rw [tick02, decide_eq_true (by omega)])) rfl ch)
    rw [seq_of s1, seq_of s2, seq_of s3, seqR_of s4]; rfl
  | cross p q =>
    obtain ⟨a, b, g1, g2, g3⟩ := h
    have sq := stay02 (p := q) b g2
    have s1 : b_is_move_1 [.fz (eD (.cross p q)), .un, .un, .un] = .nx [.fz (eD (.cross p q)), .un, .un, .un] := rfl
    have s2 : b_is_move_2 [.fz (eD (.cross p q)), .un, .un, .un] = .nx [.fz (eD (.cross p q)), .fz (.str "cross"), .fz (sP p), .fz (sP q)] := rfl
    have s3 : b_is_move_3 [.fz (eD (.cross p q)), .fz (.str "cross"), .fz (sP p), .fz (sP q)] = .nx [.fz (eD (.cross p q)), .fz (.str "cross"), .fz (sP p), .fz (sP q)] := rfl
    have s4 : b_is_move_4 [.fz (eD (.cross p q)), .fz (.str "cross"), .fz (sP p), .fz (sP q)] = .nx [.fz (eD (.cross p q)), .fz (.str "cross"), .fz (sP p), .fz (sP q)] := by
      unfold b_is_move_4
      rw [ifF_of (bool_of (op_of (f := dEq) (frz_of (i := 1) rfl) kC_of (eqs k4 k3 w6.symm)))]; rfl
    have ni : dNotIn2 (.str ("cross" : Str)) (.tup [.str "longer", .str "cross"]) = some (.bl false) := by kernel_rfl
    have s5 : b_is_move_5 [.fz (eD (.cross p q)), .fz (.str "cross"), .fz (sP p), .fz (sP q)] = .nx [.fz (eD (.cross p q)), .fz (.str "cross"), .fz (sP p), .fz (sP q)] := by
      unfold b_is_move_5
      rw [ifF_of (orF_of (bool_of (op_of (f := dNotIn2) (y := .tup [.str "longer", .str "cross"]) (frz_of (i := 1) rfl) (tup_of (cons_of kC_of (cons_of kC_of nil_of)) (by decide)) ni)) (not_of (c := true) (bool_of (call1_of (frz_of (i := 3) rfl) sq))))]; rfl
    rw [seq_of s1, seq_of s2, seq_of s3, seq_of s4, seq_of s5]
    unfold b_is_move_6
    rw [ret_of (d := .bl true) (τ1 := [.fz (eD (.cross p q)), .fz (.str "cross"), .fz (sP p), .fz (sP q)]) (by
      rw [if_of (bool_of (op_of (f := dEq) (frz_of (i := 1) rfl) kC_of (eqs k4 k2 w5.symm)))]
      exact andVT_of (x := .bl true) (op_of (f := dLt) (x := .int p.1) (y := .int q.1) rfl rfl (by show some (D.bl (decide (p.1 < q.1))) = _; rw [decide_eq_true g1])) rfl (op_of (f := dLt) (x := .int q.2) (y := .int p.2) (z := .bl true) rfl rfl (by show some (D.bl (decide (q.2 < p.2))) = _; rw [decide_eq_true g3])))]
    rfl
theorem sign_in {w : Str} : dInSg (.str ("-" : Str)) (.str w) = some (.bl (decide (45 ∈ TL.tl w))) := by
  show (match TL.tl ("-" : Str) with | [c] => some (D.bl (decide (c ∈ w.cps.toList))) | _ => none) = _
  rw [dash_tl]
theorem part_of_ok {u : Part} (h : okW u) : f_part_of [.str (ptxT u)] = .ok (eW u) [none] := by
  have e : f_part_of [.str (ptxT u)] = fin [false] (b_part_of [.fz (.str (ptxT u))]) := rfl
  rw [e]
  unfold b_part_of
  have s := sign_in (w := ptxT u)
  cases u with
  | inl p =>
    have hm : 45 ∈ TL.tl (ptxT (.inl p)) := by
      show 45 ∈ TL.tl (numT p.1 ++ "-" ++ numT p.2)
      rw [TL.tl_append, TL.tl_append, dash_tl]
      exact List.mem_append_left _ (List.mem_append_right _ List.mem_cons_self)
    rw [decide_eq_true hm] at s
    rw [ret_of (d := eW (.inl p)) (τ1 := [.fz (.str (ptxT (.inl p)))]) (by
      rw [if_of (bool_of (op_of (f := dInSg) kC_of (frz_of (i := 0) rfl) s))]
      exact call1_of (frz_of (i := 0) rfl) (stay_of_ok h.1 h.2))]
    rfl
  | inr m =>
    have hm : 45 ∉ TL.tl (ptxT (.inr m)) := num_free h (by omega)
    rw [decide_eq_false hm] at s
    rw [ret_of (d := eW (.inr m)) (τ1 := [.fz (.str (ptxT (.inr m)))]) (by
      rw [if_of (bool_of (op_of (f := dInSg) kC_of (frz_of (i := 0) rfl) s))]
      exact call1_of (frz_of (i := 0) rfl) (number_ok h))]
    rfl
theorem move_of_ok {d : Deed} (h : okD d) : f_move_of [.str (deedT d)] = .ok (eD d) [none] := by
  have hl := deed_len h
  have pl := parts_len d
  have sp := split_ok (deed_split h) blank_n (by omega)
  have e : f_move_of [.str (deedT d)] = fin [false] (b_move_of [.fz (.str (deedT d)), .un, .un, .un]) := rfl
  have s0 : b_move_of_0 [.fz (.str (deedT d)), .un, .un, .un] = .nx [.fz (.str (deedT d)), .fz (.lst ((deedWs d).map .str)), .un, .un] := setX_of (txt1_of (frz_of rfl) kC_of sp) rfl rfl rfl
  have sl : mSlP 1 (oSome (mC (.int 1))) oNone [.fz (.str (deedT d)), .fz (.lst ((deedWs d).map .str)), .un, .un] = .ok (.lst ((parts d).map fun u => .str (ptxT u))) [.fz (.str (deedT d)), .fz (.lst ((deedWs d).map .str)), .un, .un] := by cases d <;> rfl
  have hd : mPk 1 dIx (mC (.int 0)) [.fz (.str (deedT d)), .fz (.lst ((deedWs d).map .str)), .un, .un] = .ok (.str (word d)) [.fz (.str (deedT d)), .fz (.lst ((deedWs d).map .str)), .un, .un] := by cases d <;> rfl
  have lc : mLc (mOn asS (mSlP 1 (oSome (mC (.int 1))) oNone)) (gN 3) mYes (mCall [false] f_part_of 1 0 [0] [] (aV (mVar 3) aNil) mNil) [3] [.fz (.str (deedT d)), .fz (.lst ((deedWs d).map .str)), .un, .un] = .ok (.lst ((parts d).map eW)) [.fz (.str (deedT d)), .fz (.lst ((deedWs d).map .str)), .un, .un] :=
    lcA_map (f := fun u => .str (ptxT u)) eW (on_of sl rfl) (by omega) rfl fun u hu => ⟨[.fz (.str (deedT d)), .fz (.lst ((deedWs d).map .str)), .un, .fz (.str (ptxT u))], _, _, rfl, rfl, call1_of (frz_of (i := 3) rfl) (part_of_ok (part_ok h u hu)), rfl⟩
  have s1 : b_move_of_1 [.fz (.str (deedT d)), .fz (.lst ((deedWs d).map .str)), .un, .un] = .nx [.fz (.str (deedT d)), .fz (.lst ((deedWs d).map .str)), .fz (eD d), .un] :=
    setX_of (d := eD d) (τ1 := [.fz (.str (deedT d)), .fz (.lst ((deedWs d).map .str)), .un, .un]) (by
      have t := tup_of (cons_of hd (star_of lc rfl nil_of)) (by rw [List.append_nil, List.length_cons, List.length_map]; omega)
      rw [List.append_nil] at t
      exact t) rfl rfl rfl
  have tt : mB (mCall [false] f_is_move 1 0 [0] [] (aV (mVar 2) aNil) mNil) [.fz (.str (deedT d)), .fz (.lst ((deedWs d).map .str)), .fz (eD d), .un] = .ok true [.fz (.str (deedT d)), .fz (.lst ((deedWs d).map .str)), .fz (eD d), .un] := bool_of (call1_of (frz_of (i := 2) rfl) (is_move_ok h))
  rw [e, b_move_of, seq_of s0, seq_of s1]
  unfold b_move_of_2
  rw [ret_of (d := eD d) (τ1 := [.fz (.str (deedT d)), .fz (.lst ((deedWs d).map .str)), .fz (eD d), .un]) (by
    rw [if_of tt]
    rfl)]
  rfl
abbrev Row := Deed × Int
abbrev eR (r : Row) : D := .tup [eD r.1, .int r.2]
def rowT (r : Row) : Str := deedT r.1 ++ " x " ++ numT r.2
def okR (r : Row) : Prop := okD r.1 ∧ ok40 r.2 ∧ r.2 ≠ 0
theorem row_len {r : Row} (h : okR r) : (rowT r).length ≤ 289 := by
  have h1 := deed_len h.1
  have h2 := tI_len h.2.1
  unfold rowT
  rw [Str.length_append, Str.length_append, times_len]; omega
theorem row_tl (r : Row) : TL.tl (rowT r) = TL.tl (deedT r.1) ++ ([32, 120, 32] ++ TL.tl (numT r.2)) := by
  unfold rowT
  rw [TL.tl_append, TL.tl_append, times_tl, List.append_assoc]
theorem pre_x {p rest : List Nat} (hp : 120 ∉ p) (i : Nat) (hi : i < p.length) : TL.pre [32, 120, 32] ((p ++ ([32, 120, 32] ++ rest)).drop i) = false := by
  rw [List.drop_append_of_le_length (by omega)]
  have hm : ∀ x ∈ p.drop i, x ≠ 120 := fun x hx e => hp (e ▸ List.mem_of_mem_drop hx)
  cases e : p.drop i with
  | nil =>
    have := congrArg List.length e
    rw [List.length_drop, List.length_nil] at this
    omega
  | cons c r =>
    rw [e] at hm
    cases r with
    | nil =>
      show ([c, 32, 120] == [32, 120, 32]) = false
      exact beq_eq_false_iff_ne.mpr fun z => by
        injection z with _ z
        injection z with z _
        omega
    | cons d r =>
      show (c :: d :: (r ++ ([32, 120, 32] ++ rest)).take 1 == [32, 120, 32]) = false
      exact beq_eq_false_iff_ne.mpr fun z => by
        injection z with _ z
        injection z with z _
        exact hm d (List.mem_cons_of_mem _ List.mem_cons_self) z
theorem row_split {r : Row} (h : okR r) : Txt.split (rowT r) " x " = [deedT r.1, numT r.2] := by
  refine TL.map_tl_inj ?_
  rw [TL.split_spl _ _ (by rw [times_tl]; simp) (TL.kind_ok times_k), row_tl, times_tl,
    TL.spl_part (S := [32, 120, 32]) (by simp) (fun i hi => pre_x (fun hm => by have := deed_tl h.1 120 hm; omega) i hi),
    TL.spl_last fun i _ => pre_free (c := 32) (by simp) (num_free h.2.1 (by omega)) i]
  rfl
theorem paper_piece_ok {r : Row} (h : okR r) : f_paper_piece [.str (rowT r)] = .ok (.tup [eD r.1, eR r]) [none] := by
  have l := row_len h
  have e1 := move_of_ok h.1
  have e2 := many_of_ok h.2.1 h.2.2
  have sp : dSplit (rowT r) (.str " x ") = some (.lst [.str (deedT r.1), .str (numT r.2)]) := split_ok (row_split h) times_n (by omega)
  rw [f_paper_piece, mkF_fin]
  show fin [false] (b_paper_piece [.fz (.str (rowT r)), .un, .un, .un]) = _
  have s0 : b_paper_piece_0 [.fz (.str (rowT r)), .un, .un, .un] = .nx [.fz (.str (rowT r)), .fz (.lst [.str (deedT r.1), .str (numT r.2)]), .un, .un] := setX_of (txt1_of (frz_of rfl) kC_of sp) rfl rfl rfl
  have s1 : b_paper_piece_1 [.fz (.str (rowT r)), .fz (.lst [.str (deedT r.1), .str (numT r.2)]), .un, .un] = .nx [.fz (.str (rowT r)), .fz (.lst [.str (deedT r.1), .str (numT r.2)]), .un, .un] := rfl
  have p0 : mPk 1 dIx (mC (.int 0)) [.fz (.str (rowT r)), .fz (.lst [.str (deedT r.1), .str (numT r.2)]), .un, .un] = .ok (.str (deedT r.1)) [.fz (.str (rowT r)), .fz (.lst [.str (deedT r.1), .str (numT r.2)]), .un, .un] := rfl
  have p1 : mPk 1 dIx (mC (.int 1)) [.fz (.str (rowT r)), .fz (.lst [.str (deedT r.1), .str (numT r.2)]), .un, .un] = .ok (.str (numT r.2)) [.fz (.str (rowT r)), .fz (.lst [.str (deedT r.1), .str (numT r.2)]), .un, .un] := rfl
  have s2 : b_paper_piece_2 [.fz (.str (rowT r)), .fz (.lst [.str (deedT r.1), .str (numT r.2)]), .un, .un] = .nx [.fz (.str (rowT r)), .fz (.lst [.str (deedT r.1), .str (numT r.2)]), .fz (eD r.1), .fz (.int r.2)] :=
    par2_of (call1_of p0 e1) (call1_of p1 e2) rfl
  rw [b_paper_piece, seq_of s0, seq_of s1, seq_of s2]
  rfl
def Fr (S p : List Nat) : Prop := ∀ q : List Nat, (q = [] ∨ ∃ r, q = S ++ r) → ∀ i, i < p.length → TL.pre S ((p ++ q).drop i) = false
theorem Fr.of {s : Nat} {S p : List Nat} (h : s ∉ p) : Fr (s :: S) p := fun q _ i hi => TL.free_of h i hi
theorem Fr.semi {p : List Nat} (h : 59 ∉ p) : Fr [59, 32] (p ++ [59]) := fun q hq i hi => by
  rw [List.append_assoc]
  by_cases c : i < p.length
  · exact TL.free_of h i c
  · have e : i = p.length := by rw [List.length_append, List.length_singleton] at hi; omega
    subst e
    rw [List.drop_left]
    rcases hq with rfl | ⟨r, rfl⟩
    · rfl
    · rfl
theorem spl_joinG {S : List Nat} (hS : S ≠ []) : ∀ {parts : List (List Nat)}, parts ≠ [] → (∀ p ∈ parts, Fr S p) → TL.spl S 0 [] (TL.joinL S parts) = parts
  | [], h, _ => absurd rfl h
  | [p], _, hp => by
    show TL.spl S 0 [] p = [p]
    rw [TL.spl_last fun i hi => by have := hp p (List.mem_singleton.mpr rfl) [] (.inl rfl) i hi; rwa [List.append_nil] at this, List.nil_append]
  | p :: q :: r, _, hp => by
    show TL.spl S 0 [] (p ++ (S ++ TL.joinL S (q :: r))) = p :: q :: r
    rw [TL.spl_part hS fun i hi => hp p List.mem_cons_self _ (.inr ⟨_, rfl⟩) i hi, List.nil_append, spl_joinG hS (by simp) fun z hz => hp z (List.mem_cons_of_mem _ hz)]
theorem join_sep {g : Str} {c : Nat} (hc : c ∈ TL.tl g) {x y : Str} {xs : List Str} : c ∈ TL.tl (Txt.join g (x :: y :: xs)) := by
  rw [TL.join_eq]
  show c ∈ TL.tl (x ++ g ++ Str.join g (y :: xs))
  rw [TL.tl_append, TL.tl_append]
  exact List.mem_append_left _ (List.mem_append_right _ hc)
theorem cutG {g : Str} {parts : List Str} {c : Nat} (hg : TL.tl g ≠ []) (hk : g.cps.all (· < 256) = true) (hc : c ∈ TL.tl g) (h45 : c ≠ 45) (h2 : 2 ≤ parts.length) (hf : ∀ p ∈ parts, Fr (TL.tl g) (TL.tl p)) : cutOf (Txt.join g parts) g = parts := by
  unfold cutOf
  match parts, h2 with
  | x :: y :: xs, _ =>
    rw [if_neg (fun z => by
      have := join_sep (x := x) (y := y) (xs := xs) hc
      rw [z, dash_tl] at this
      exact h45 (List.mem_singleton.mp this))]
    refine TL.map_tl_inj ?_
    rw [TL.split_spl _ g hg (TL.kind_ok hk), TL.join_eq, TL.tl_join]
    exact spl_joinG hg (by simp) fun p hp => by
      obtain ⟨z, hz, rfl⟩ := List.mem_map.mp hp
      exact hf z hz
theorem join_okT {g : Str} (hg : ∀ c ∈ TL.tl g, c < 1000) {xs : List Str} (h : ∀ x ∈ xs, ∀ c ∈ TL.tl x, c < 1000) : okT (Txt.join g xs) = true := okT_tl (join_tl_mem (P := fun c => c < 1000) hg h)
theorem many_none {w : Str} (h : f_number_in [.str w] = .ok .non [none]) : f_many_of [.str w] = .ok .non [none] := by
  rw [f_many_of, mkF_fin]
  show fin [false] (b_many_of [.fz (.str w), .un]) = _
  rw [b_many_of, seq_of (show b_many_of_0 [.fz (.str w), .un] = .nx [.fz (.str w), .fz .non] from setX_of (call1_of (frz_of rfl) h) rfl rfl rfl)]
  rfl
theorem replL_pre {S z : List Nat} {s : Nat} : ∀ {n l : List Nat}, s ∉ n → StrLaws.replL (s :: S) z (n ++ l) = n ++ StrLaws.replL (s :: S) z l
  | [], l, _ => rfl
  | c :: n, l, h => by
    have hc : c ≠ s := fun e => h (by rw [e]; exact List.mem_cons_self)
    show StrLaws.replL (s :: S) z (c :: (n ++ l)) = c :: (n ++ _)
    rw [StrLaws.replL_miss (fun e => hc (by
      have : (c :: (n ++ l)).take (s :: S).length = c :: (n ++ l).take S.length := rfl
      rw [this] at e
      injection e)), replL_pre (fun m => h (List.mem_cons_of_mem _ m))]
theorem replL_free {S z : List Nat} {s : Nat} {n : List Nat} (h : s ∉ n) : StrLaws.replL (s :: S) z n = n := by
  have := replL_pre (S := S) (z := z) (l := []) h
  rw [List.append_nil, StrLaws.replL_nil, List.append_nil] at this
  exact this
theorem app_mem {a b : Str} {c : Nat} : c ∈ TL.tl (a ++ b) ↔ c ∈ TL.tl a ∨ c ∈ TL.tl b := by rw [TL.tl_append, List.mem_append]
theorem app_len {a b : Str} : (a ++ b).length = a.length + b.length := Str.length_append ..
theorem okT_lt {w : Str} (h : ∀ c ∈ TL.tl w, c < 1000) : okT w = true := okT_tl h
theorem none_of {f : List D → RF} {x : Str} (h : (match f [.str x] with | .ok .non [none] => true | _ => false) = true) : f [.str x] = .ok .non [none] := by
  revert h
  split
  · rename_i e
    exact fun _ => e
  · exact fun h => nomatch h
theorem ofS_ok {k : Int} {d : D} {gs : List D} (h : Box k d) (hk : 1 ≤ k) (h0 : gs ≠ []) (hz : gs.length ≤ 16000000) : ∃ (g d' : D), f_of [d, .scr gs] = .ok g [some d', none] ∧ g ∈ gs ∧ Box (k - 1) d' := by
  have hl : 0 < gs.length := by cases gs with | nil => exact absurd rfl h0 | cons a b => simp
  have dl : dLen [.scr gs] = some (.int gs.length) := rfl
  obtain ⟨r, d1, e1, r0, r1, h1⟩ := take_ok (n := (gs.length : Int)) h (by omega) (by omega) (by omega)
  obtain ⟨m, rfl⟩ := Int.eq_ofNat_of_zero_le r0
  have hm : m < gs.length := by omega
  have at_ : dIx (.scr gs) (.int (m : Nat)) = some gs[m] := by
    have : L2.atI gs ((m : Nat) : Int) = some gs[m] := by
      unfold L2.atI L2.ixN
      rw [if_pos (by omega), if_pos (by omega)]
      show gs[((m : Nat) : Int).toNat]? = _
      rw [Int.toNat_natCast, List.getElem?_eq_getElem hm]
    exact this
  refine ⟨gs[m], d1, ?_, List.getElem_mem hm, h1⟩
  rw [f_of, mkF_fin]
  simp -implicitDefEqProofs [b_of, argS, dl, e1, at_, outD, outE]
theorem repl_of {y x z : Str} {mp mc : M D} {τ τ1 τ2 : List Sl} (h1 : mp τ = .ok (.str x) τ1) (h2 : mc τ1 = .ok (.str z) τ2) (hl : x.length + (x.length + 1) * z.length ≤ 16777216) (hz : (y == z) = false) : mRepl y mp mc τ = .ok (.str (Txt.replace x y z)) τ2 := by
  unfold mRepl
  rw [h1]
  show ((mc τ1).bind _) = _
  rw [h2]
  show Res.lift (if x.length + (x.length + 1) * z.length ≤ 16777216 ∧ (y == z) = false then some (D.str (Txt.replace x y z)) else none) τ2 = _
  rw [if_pos ⟨hl, hz⟩]
  rfl
theorem seqR {sa sb : MS} {τ τ1 : List Sl} {d : D} (h : sa τ = .rt d τ1) : mSeq sa sb τ = .rt d τ1 := by
  unfold mSeq
  rw [h]
  rfl
theorem drawsW {j : Nat} {n : Int} (hn : 0 < n) (hn2 : n.natAbs < 2 ^ 4000) {S : D → List Sl} {U : D → D → List Sl} {mq : M D} (hg : ∀ d x, gN j x (.io 0 d :: S d) = some (.io 0 d :: U x d)) (hs : ∀ d d', S d = S d' ∧ ∀ x, U x d = U x d') (hm : ∀ x d, mq (.io 0 d :: U x d) = .ok (.int n) (.io 0 d :: U x d)) (hv : ∀ x d, Sm.wipeS (.io 0 d :: U x d) [j] = .io 0 d :: S d) :
    ∀ (ds : List D) (k : Int) (d : D), Box k d → (ds.length : Int) ≤ k → ∃ (vals : List Int) (d' : D), mLcGo (gN j) mYes (mCall [true, false] f_take 2 0 [0, 1] [] (aIo 0 (aV mq aNil)) mNil) [j] ds (.io 0 d :: S d) = .ok (vals.map .int) (.io 0 d' :: S d') ∧ (∀ v ∈ vals, 0 ≤ v ∧ v < n) ∧ vals.length = ds.length ∧ Box (k - ds.length) d'
  | [], k, d, h, _ => ⟨[], d, rfl, fun v hv => (by cases hv), rfl, h.le (show k - ((0 : Nat) : Int) ≤ k by omega)⟩
  | x :: ds, k, d, h, hk => by
    rw [List.length_cons] at hk
    obtain ⟨r, d1, r0, r1, h1, c⟩ := take_bigD (τ := U x d) (mq := mq) h (by omega) hn hn2 (hm x d)
    obtain ⟨vals, d2, e2, hv2, hl, h2⟩ := drawsW hn hn2 hg hs hm hv ds (k - 1) d1 h1 (by omega)
    refine ⟨r :: vals, d2, ?_, fun v q => ?_, by rw [List.length_cons, List.length_cons, hl], h2.le (by rw [List.length_cons]; omega)⟩
    · unfold mLcGo
      rw [hg]
      show ((mCall _ _ _ _ _ _ _ _ (.io 0 d :: U x d)).nox.bind _) = _
      rw [c]
      show ((mLcGo _ _ _ _ ds (Sm.wipeS (.io 0 d1 :: U x d) [j])).bind _) = _
      rw [(hs d d1).2 x, hv, e2]
      rfl
    · rcases List.mem_cons.mp q with rfl | q
      · exact ⟨r0, r1⟩
      · exact hv2 v q
theorem cut_to (xs : List D) (j : Nat) : cutD xs none (some (j : Int)) = xs.take j := by
  unfold cutD
  rw [HT.sIx_nat, HT.sIx_none, List.drop_zero, Nat.sub_zero]
  by_cases hl : xs.length ≤ j
  · rw [Nat.min_eq_right hl, List.take_of_length_le (by omega), List.take_of_length_le (by omega)]
  · rw [Nat.min_eq_left (by omega)]
theorem slW_of {i : Nat} {τ : List Sl} {x z : D} {hi : M (Option Int)} {j : Option Int} (hp : peek i τ = some x) (h1 : hi τ = .ok j τ) (e : dSl none j x = some z) : mSlP i oNone hi τ = .ok z τ := by
  unfold mSlP
  rw [hp]
  show (hi τ).bind _ = _
  rw [h1]
  show Res.lift ((peek i τ).bind (dSl none j)) τ = _
  rw [hp]
  show Res.lift (dSl none j x) τ = _
  rw [e]; rfl
theorem loopW_cons {g : MG} {b : MS} {d : D} {ds : List D} {τ τ1 τ2 : List Sl} (h1 : g d τ = some τ1) (h2 : b τ1 = .nx τ2) : mLoop g b (d :: ds) τ = mLoop g b ds τ2 := by
  conv => lhs; unfold mLoop
  rw [h1]
  show (match b τ1 with | .nx τ => mLoop g b ds τ | .ct τ => mLoop g b ds τ | .bk τ => .nx τ | r => r) = _
  rw [h2]
def tkW (xs : List Int) (i : Nat) : Int := (xs.take i).sum + i
theorem sum_lim : ∀ {xs : List Int}, (∀ x ∈ xs, 0 ≤ x ∧ x < 9) → 0 ≤ xs.sum ∧ xs.sum ≤ 9 * xs.length
  | [], _ => by simp
  | x :: xs, h => by
    have a := h x List.mem_cons_self
    have b := sum_lim fun z hz => h z (List.mem_cons_of_mem _ hz)
    rw [List.sum_cons, List.length_cons]
    omega
theorem tk_step : ∀ {xs : List Int} {i j : Nat}, (∀ x ∈ xs, 0 ≤ x ∧ x < 9) → i ≤ j → (xs.take i).sum ≤ (xs.take j).sum
  | [], i, j, _, _ => by simp
  | x :: xs, 0, j, h, _ => by
    have := (sum_lim (xs := (x :: xs).take j) fun z hz => h z (List.mem_of_mem_take hz)).1
    simpa using this
  | x :: xs, i + 1, 0, _, hij => by omega
  | x :: xs, i + 1, j + 1, h, hij => by
    have := tk_step (xs := xs) (i := i) (j := j) (fun z hz => h z (List.mem_cons_of_mem _ hz)) (by omega)
    rw [List.take_succ_cons, List.take_succ_cons, List.sum_cons, List.sum_cons]
    omega
theorem tk_lt {xs : List Int} (h : ∀ x ∈ xs, 0 ≤ x ∧ x < 9) {i j : Nat} (hij : i < j) : tkW xs i < tkW xs j := by
  have := tk_step h (Nat.le_of_lt hij)
  unfold tkW
  omega
theorem gixW {τ : List Sl} {i k : Nat} {mi : M D} {x : D} {ds : List D} (h0 : τ[i]? = some (.ow (.lst ds))) (h2 : mi τ = .ok (.int (k : Nat)) τ) (hk : k < ds.length) : gIx i mi x τ = some (τ.set i (.ow (.lst (ds.set k x)))) := by
  unfold gIx
  have p : peek i τ = some (.lst ds) := by unfold peek; rw [h0]; rfl
  rw [p, if_pos (show isLst (some (D.lst ds)) = true from rfl), h2]
  show chgS i (fSet (k : Nat) x) τ = _
  unfold chgS
  rw [h0]
  show (((fSet (k : Nat) x ds).map fun ns => Sl.ow (.lst ns)).map fun t' => τ.set i t') = _
  have e : fSet (k : Nat) x ds = some (ds.set k x) := by
    unfold fSet
    have : ixN ds.length ((k : Nat) : Int) = some k := by
      unfold ixN
      rw [if_pos (by omega), if_pos (by omega), Int.toNat_natCast]
    rw [this]; rfl
  rw [e]; rfl
theorem same_one (k : Int) : ∃ o, f_same_o [.lst [.int k], .lst [.int k]] = .ok (.bl true) o :=
  same2_seq (xs := [.int k]) (.inl rfl) (by show 1 ≤ 16000000; decide) fun x hx => by
    rcases List.mem_singleton.mp hx with rfl
    exact ⟨_, same2_int⟩
theorem mem_set {α : Type} {x y : α} : ∀ {xs : List α} {m : Nat}, y ∈ xs.set m x → y ∈ xs ∨ y = x := fun h => (List.mem_or_eq_of_mem_set h)
end Sm
set_option Elab.async false
set_option linter.all false
set_option maxRecDepth 100000
set_option maxHeartbeats 400000
namespace Sm
open PySem PySem.Spec PyProof.Rows L2
abbrev Q3 := Nat × Nat × Nat
def okQ (q : Q3) : Prop := q.1 < 37 ∧ q.2.1 < 5 ∧ q.2.2 < 12
def wdQ (b : Bool) : Str := if b = true then "split" else "new"
def loQ (l : Nat) : Str := numT ((l : Nat) : Int)
def hiQ (l j : Nat) : Str := numT ((l + 1 + j : Nat) : Int)
def hdQ (b : Bool) (l : Nat) : Str := wdQ b ++ " " ++ loQ l
def tlQ (b : Bool) (l j : Nat) : Str := if b = true then hiQ l j ++ " " ++ loQ l else hiQ l j
def mvQ (b : Bool) (l j : Nat) : Str := hdQ b l ++ "-" ++ tlQ b l j
def ddQ (b : Bool) (q : Q3) : Deed := if b = true then .split ((q.1 : Nat), ((q.1 + 1 + q.2.1 : Nat) : Int)) (q.1 : Nat) else .new ((q.1 : Nat), ((q.1 + 1 + q.2.1 : Nat) : Int))
def mnQ (q : Q3) : Int := ((q.2.2 + 1 : Nat) : Int)
def rwQ (b : Bool) (q : Q3) : Row := (ddQ b q, mnQ q)
def txQ (b : Bool) (q : Q3) : Str := mvQ b q.1 q.2.1 ++ " x " ++ numT (mnQ q)
theorem mn_ok {q : Q3} (h : okQ q) : ok40 (mnQ q) ∧ mnQ q ≠ 0 := by
  obtain ⟨_, _, h⟩ := h
  unfold ok40 mnQ
  refine ⟨⟨by omega, Int.lt_of_le_of_lt (show ((q.2.2 + 1 : Nat) : Int) ≤ 12 by omega) (by decide)⟩, by omega⟩
theorem rw_ok {b : Bool} {q : Q3} (h : okQ q) : okR (rwQ b q) := by
  obtain ⟨h1, h2, h3⟩ := h
  have big : ∀ n : Nat, n < 100 → ok40 (n : Int) := fun n hn => ⟨by omega, Int.lt_of_lt_of_le (show (n : Int) < 100 by omega) (by decide)⟩
  refine ⟨?_, mn_ok ⟨h1, h2, h3⟩⟩
  cases b
  · show okP _ ∧ _
    exact ⟨⟨big _ (by omega), big _ (by omega)⟩, by show ((q.1 : Nat) : Int) ≤ ((q.1 + 1 + q.2.1 : Nat) : Int); omega⟩
  · show okP _ ∧ _ ∧ _
    exact ⟨⟨big _ (by omega), big _ (by omega)⟩, by show ((q.1 : Nat) : Int) ≤ ((q.1 : Nat) : Int); omega, by show ((q.1 : Nat) : Int) < ((q.1 + 1 + q.2.1 : Nat) : Int); omega⟩
theorem tx_row (b : Bool) (q : Q3) : txQ b q = rowT (rwQ b q) := by
  refine TL.ext_tl ?_
  cases b
  · show TL.tl (("new" ++ " " ++ loQ q.1 ++ "-" ++ hiQ q.1 q.2.1) ++ " x " ++ numT (mnQ q)) = TL.tl (Txt.join " " ["new", numT ((q.1 : Nat) : Int) ++ "-" ++ numT ((q.1 + 1 + q.2.1 : Nat) : Int)] ++ " x " ++ numT (mnQ q))
    rw [TL.join_eq]
    show _ = TL.tl (("new" ++ " " ++ (numT ((q.1 : Nat) : Int) ++ "-" ++ numT ((q.1 + 1 + q.2.1 : Nat) : Int))) ++ " x " ++ numT (mnQ q))
    simp only [TL.tl_append, List.append_assoc, loQ, hiQ]
  · show TL.tl (("split" ++ " " ++ loQ q.1 ++ "-" ++ (hiQ q.1 q.2.1 ++ " " ++ loQ q.1)) ++ " x " ++ numT (mnQ q)) = TL.tl (Txt.join " " ["split", numT ((q.1 : Nat) : Int) ++ "-" ++ numT ((q.1 + 1 + q.2.1 : Nat) : Int), numT ((q.1 : Nat) : Int)] ++ " x " ++ numT (mnQ q))
    rw [TL.join_eq]
    show _ = TL.tl (("split" ++ " " ++ ((numT ((q.1 : Nat) : Int) ++ "-" ++ numT ((q.1 + 1 + q.2.1 : Nat) : Int)) ++ " " ++ numT ((q.1 : Nat) : Int))) ++ " x " ++ numT (mnQ q))
    simp only [TL.tl_append, List.append_assoc, loQ, hiQ]
theorem piece_fine {b : Bool} {q : Q3} (h : okQ q) : f_paper_piece [.str (txQ b q)] = .ok (.tup [eD (ddQ b q), eR (rwQ b q)]) [none] := by
  rw [tx_row]
  exact paper_piece_ok (rw_ok h)
theorem lt_deed (w : Str) (p q : PQ) (xs ys : List PyData) (h : p.1 < q.1) : PySem.W.dataLt (.tuple (.str w :: pP2 p :: xs)) (.tuple (.str w :: pP2 q :: ys)) = true ∧ PySem.W.dataLt (.tuple (.str w :: pP2 q :: ys)) (.tuple (.str w :: pP2 p :: xs)) = false := by
  have e1 : PyData.eqv (.str w) (.str w) = true := by show (w == w) = true; exact beq_self_eq_true w
  have e2 : ∀ p q : PQ, p.1 ≠ q.1 → PyData.eqv (pP2 p) (pP2 q) = false := fun p q n => by
    show ((p.1 == q.1) && ((p.2 == q.2) && true)) = false
    rw [beq_eq_false_iff_ne.mpr n]; rfl
  constructor
  · rw [PySem.W.dataLt_tuple, PySem.W.dataLt_all_yes rfl e1, PySem.W.dataLt_all_no rfl (e2 p q (by omega)), PySem.W.dataLt_ii]
    exact decide_eq_true (.inl h)
  · rw [PySem.W.dataLt_tuple, PySem.W.dataLt_all_yes rfl e1, PySem.W.dataLt_all_no rfl (e2 q p (by omega)), PySem.W.dataLt_ii]
    exact decide_eq_false (by omega)
theorem dle_lt {b : Bool} {p q : Q3} (h : p.1 < q.1) : dle (eD (ddQ b q)) (eD (ddQ b p)) = false ∧ dle (eD (ddQ b p)) (eD (ddQ b q)) = true := by
  rw [dle_deeds, dle_deeds]
  have h' : ((p.1 : Nat) : Int) < ((q.1 : Nat) : Int) := by omega
  cases b
  · obtain ⟨a, c⟩ := lt_deed "new" ((p.1 : Nat), ((p.1 + 1 + p.2.1 : Nat) : Int)) ((q.1 : Nat), ((q.1 + 1 + q.2.1 : Nat) : Int)) [] [] h'
    show (!PySem.W.dataLt (.tuple [.str "new", pP2 _]) (.tuple [.str "new", pP2 _])) = false ∧ (!PySem.W.dataLt (.tuple [.str "new", pP2 _]) (.tuple [.str "new", pP2 _])) = true
    rw [a, c]; exact ⟨rfl, rfl⟩
  · obtain ⟨a, c⟩ := lt_deed "split" ((p.1 : Nat), ((p.1 + 1 + p.2.1 : Nat) : Int)) ((q.1 : Nat), ((q.1 + 1 + q.2.1 : Nat) : Int)) [.int (p.1 : Nat)] [.int (q.1 : Nat)] h'
    show (!PySem.W.dataLt (.tuple [.str "split", pP2 _, .int _]) (.tuple [.str "split", pP2 _, .int _])) = false ∧ (!PySem.W.dataLt (.tuple [.str "split", pP2 _, .int _]) (.tuple [.str "split", pP2 _, .int _])) = true
    rw [a, c]; exact ⟨rfl, rfl⟩
theorem glued_any : ∀ l < 37, ∀ j < 5, (match f_number_in [.str (loQ l ++ hiQ l j)] with | .ok .non [none] => true | .ok (.int _) [none] => true | _ => false) = true := by decide +kernel
theorem signs_hd : ∀ b : Bool, ∀ l < 37, (∀ c ∈ TL.tl (hdQ b l), c ≠ 45 ∧ c ≠ 59 ∧ c ≠ 120 ∧ c < 1000) ∧ (hdQ b l).length ≤ 20 := by decide +kernel
theorem signs_tl : ∀ b : Bool, ∀ l < 37, ∀ j < 5, (∀ c ∈ TL.tl (tlQ b l j), c ≠ 59 ∧ c ≠ 120 ∧ c < 1000) ∧ (tlQ b l j).length ≤ 20 ∧ (TL.tl (tlQ b l j)).getLast? ≠ some 32 ∧ TL.tl (tlQ b l j) ≠ [] := by decide +kernel
end Sm
set_option Elab.async false
set_option linter.all false
set_option maxRecDepth 100000
set_option maxHeartbeats 400000
namespace Sm
open PySem PySem.Spec PyProof.Rows L2
theorem part_plain {w : Str} {v : D} (h45 : 45 ∉ TL.tl w) (h : f_number_in [.str w] = .ok v [none]) : f_part_of [.str w] = .ok v [none] := by
  have e : f_part_of [.str w] = fin [false] (b_part_of [.fz (.str w)]) := rfl
  rw [e]
  unfold b_part_of
  have s := sign_in (w := w)
  rw [decide_eq_false h45] at s
  rw [ret_of (d := v) (τ1 := [.fz (.str w)]) (by
    rw [if_of (bool_of (op_of (f := dInSg) kC_of (frz_of (i := 0) rfl) s))]
    exact call1_of (frz_of (i := 0) rfl) h)]
  rfl
theorem part_stroke {w : Str} {v : D} (h45 : 45 ∈ TL.tl w) (h : f_stay_of [.str w] = .ok v [none]) : f_part_of [.str w] = .ok v [none] := by
  have e : f_part_of [.str w] = fin [false] (b_part_of [.fz (.str w)]) := rfl
  rw [e]
  unfold b_part_of
  have s := sign_in (w := w)
  rw [decide_eq_true h45] at s
  rw [ret_of (d := v) (τ1 := [.fz (.str w)]) (by
    rw [if_of (bool_of (op_of (f := dInSg) kC_of (frz_of (i := 0) rfl) s))]
    exact call1_of (frz_of (i := 0) rfl) h)]
  rfl
theorem stay_list {w : Str} {xs : List (Str × D)} (hs : Txt.split w "-" = xs.map (·.1)) (hn : ∀ x ∈ xs, f_number_in [.str x.1] = .ok x.2 [none]) (hz : w.length ≤ 1000) (hl : xs.length ≤ 10) :
    b_stay_of_0 [.fz (.str w), .un, .un] = .nx [.fz (.str w), .ow (.lst (xs.map (·.2))), .un] := by
  have sp : dSplit w (.str "-") = some (.lst (xs.map fun x => .str x.1)) := by
    have := split_ok hs dash_n (by omega)
    rw [List.map_map] at this
    exact this
  have lc : mLc (mOn asS (mTxt1 dSplit (mVar 0) (mC (.str "-")))) (gN 2) mYes (mCall [false] f_number_in 1 0 [0] [] (aV (mVar 2) aNil) mNil) [2] [.fz (.str w), .un, .un] = .ok (.lst (xs.map (·.2))) [.fz (.str w), .un, .un] :=
    lcA_map (f := fun x : Str × D => D.str x.1) (S := [.fz (.str w), .un, .un]) (xs := xs) (·.2) (on_of (txt1_of (frz_of (i := 0) rfl) rfl sp) rfl) (by omega) rfl fun x hx =>
      ⟨[.fz (.str w), .un, .fz (.str x.1)], [.fz (.str w), .un, .fz (.str x.1)], [.fz (.str w), .un, .fz (.str x.1)], rfl, rfl, call1_of (frz_of (i := 2) rfl) (hn x hx), rfl⟩
  exact setOX_of lc rfl rfl rfl
theorem stay_none3 {w a b c : Str} {va vb vc : D} (hs : Txt.split w "-" = [a, b, c]) (h1 : f_number_in [.str a] = .ok va [none]) (h2 : f_number_in [.str b] = .ok vb [none]) (h3 : f_number_in [.str c] = .ok vc [none]) (hz : w.length ≤ 1000) : f_stay_of [.str w] = .ok .non [none] := by
  have s0 := stay_list (xs := [(a, va), (b, vb), (c, vc)]) hs (fun x hx => by
    simp only [List.mem_cons, List.not_mem_nil, or_false] at hx
    rcases hx with rfl | rfl | rfl <;> assumption) hz (by show 3 ≤ 10; decide)
  rw [f_stay_of, mkF_fin]
  show fin [false] (b_stay_of [.fz (.str w), .un, .un]) = _
  rw [b_stay_of, seq_of s0]
  have t1 : mB (mOp dNe (mFn dLen (mCons (mVar 1) mNil)) (mC (.int 2))) [.fz (.str w), .ow (.lst [va, vb, vc]), .un] = .ok true [.fz (.str w), .fz (.lst [va, vb, vc]), .un] :=
    bool_of (op_of (fn1_of (own_of (i := 1) rfl) (z := .int 3) rfl) rfl (by kernel_rfl))
  unfold b_stay_of_1
  show fin [false] (mRet _ [.fz (.str w), .ow (.lst [va, vb, vc]), .un]) = _
  rw [ret_of (d := .non) (τ1 := [.fz (.str w), .fz (.lst [va, vb, vc]), .un]) (by rw [if_of (orT_of t1)]; rfl)]
  rfl
theorem stay_none2 {w a b : Str} {i : Int} (hs : Txt.split w "-" = [a, b]) (h1 : f_number_in [.str a] = .ok (.int i) [none]) (h2 : f_number_in [.str b] = .ok .non [none]) (hz : w.length ≤ 1000) : f_stay_of [.str w] = .ok .non [none] := by
  have s0 := stay_list (xs := [(a, .int i), (b, .non)]) hs (fun x hx => by
    simp only [List.mem_cons, List.not_mem_nil, or_false] at hx
    rcases hx with rfl | rfl <;> assumption) hz (by show 2 ≤ 10; decide)
  rw [f_stay_of, mkF_fin]
  show fin [false] (b_stay_of [.fz (.str w), .un, .un]) = _
  rw [b_stay_of, seq_of s0]
  have t1 : mB (mOp dNe (mFn dLen (mCons (mVar 1) mNil)) (mC (.int 2))) [.fz (.str w), .ow (.lst [.int i, .non]), .un] = .ok false [.fz (.str w), .fz (.lst [.int i, .non]), .un] :=
    bool_of (op_of (fn1_of (own_of (i := 1) rfl) (z := .int 2) rfl) rfl (by kernel_rfl))
  have t2 : mB (mOp dIn2 (mC .non) (mVar 1)) [.fz (.str w), .fz (.lst [.int i, .non]), .un] = .ok true [.fz (.str w), .fz (.lst [.int i, .non]), .un] :=
    bool_of (op_of rfl (frz_of (i := 1) rfl) (by kernel_rfl))
  unfold b_stay_of_1
  show fin [false] (mRet _ [.fz (.str w), .ow (.lst [.int i, .non]), .un]) = _
  rw [ret_of (d := .non) (τ1 := [.fz (.str w), .fz (.lst [.int i, .non]), .un]) (by rw [if_of (orF_of t1 (orT_of t2))]; rfl)]
  rfl
theorem im4 (a b c d : D) : f_is_move [.tup [a, b, c, d]] = .ok (.bl false) [none] := by kernel_rfl
theorem im2 (w : Str) {v : D} (hv : v = .non ∨ ∃ i, v = .int i) (r : List D) (hr : r = [] ∨ ∃ x, r = [x]) : f_is_move [.tup (.str w :: v :: r)] = .ok (.bl false) [none] := by
  rcases hv with rfl | ⟨i, rfl⟩ <;> rcases hr with rfl | ⟨x, rfl⟩ <;> kernel_rfl
theorem im3 {p : PQ} (h : okP p) (hp : p.1 ≤ p.2) (x : D) : f_is_move [.tup [.str "new", sP p, x]] = .ok (.bl false) [none] := by
  have st := stay02 h hp
  have c0 : mOr (mNot (mB (mFn (dIsi "tuple") (mCons (mVar 0) mNil)))) (mOr (mNot (mB (mCh dLe dLe (mC (.int 2)) (mFn dLen (mCons (mVar 0) mNil)) (mC (.int 3))))) (mNot (mB (mCall [false] f_is_stay 1 0 [0] [] (aV (mPk 0 dIx (mC (.int 1))) aNil) mNil)))) [.fz (.tup [.str "new", sP p, x]), .un, .un, .un] = .ok false [.fz (.tup [.str "new", sP p, x]), .un, .un, .un] :=
    orF_of (not_of (c := true) (bool_of (fn1_of (frz_of rfl) rfl))) (orF_of (not_of (c := true) (bool_of rfl)) (not_of (c := true) (bool_of (call1_of (d := .bl true) (a := sP p) rfl st))))
  have s0 : b_is_move_0 [.fz (.tup [.str "new", sP p, x]), .un, .un, .un] = .nx [.fz (.tup [.str "new", sP p, x]), .un, .un, .un] := by
    unfold b_is_move_0
    rw [ifF_of c0]; rfl
  have e : f_is_move [.tup [.str "new", sP p, x]] = fin [false] (b_is_move [.fz (.tup [.str "new", sP p, x]), .un, .un, .un]) := rfl
  rw [e, b_is_move, seq_of s0]
  kernel_rfl
theorem cut_from (xs : List D) (j : Nat) : cutD xs (some (j : Int)) none = xs.drop j := by
  unfold cutD
  rw [HT.sIx_nat, HT.sIx_none]
  by_cases hl : xs.length ≤ j
  · rw [Nat.min_eq_right hl, List.drop_eq_nil_of_le (show xs.length ≤ xs.length by omega), List.drop_eq_nil_of_le hl, List.take_nil]
  · rw [Nat.min_eq_left (by omega), List.take_of_length_le (by rw [List.length_drop]; omega)]
theorem slF_of {i : Nat} {τ : List Sl} {x z : D} {lo : M (Option Int)} {j : Option Int} (hp : peek i τ = some x) (h1 : lo τ = .ok j τ) (e : dSl j none x = some z) : mSlP i lo oNone τ = .ok z τ := by
  unfold mSlP
  rw [hp]
  show (lo τ).bind _ = _
  rw [h1]
  show Res.lift ((peek i τ).bind (dSl j none)) τ = _
  rw [hp]
  show Res.lift (dSl j none x) τ = _
  rw [e]; rfl
theorem move_none {x w0 : Str} {ws : List (Str × D)} (hs : x = Txt.join " " (w0 :: ws.map (·.1))) (h32 : ∀ w ∈ w0 :: ws.map (·.1), 32 ∉ TL.tl w) (hp : ∀ w ∈ ws, f_part_of [.str w.1] = .ok w.2 [none]) (hm : f_is_move [.tup (.str w0 :: ws.map (·.2))] = .ok (.bl false) [none])
    (hz : x.length ≤ 1000) (hn : ws.length ≤ 10) : f_move_of [.str x] = .ok .non [none] := by
  have sp : dSplit x (.str " ") = some (.lst (.str w0 :: ws.map fun w => .str w.1)) := by
    have e : Txt.split x " " = w0 :: ws.map (·.1) := by
      rw [hs]
      exact TL.split_join blank_tl blank_k (by simp) h32
    have := split_ok e blank_n (by omega)
    rw [List.map_cons, List.map_map] at this
    exact this
  have e : f_move_of [.str x] = fin [false] (b_move_of [.fz (.str x), .un, .un, .un]) := rfl
  have s0 : b_move_of_0 [.fz (.str x), .un, .un, .un] = .nx [.fz (.str x), .fz (.lst (.str w0 :: ws.map fun w => .str w.1)), .un, .un] := setX_of (txt1_of (frz_of rfl) kC_of sp) rfl rfl rfl
  have sl : mSlP 1 (oSome (mC (.int 1))) oNone [.fz (.str x), .fz (.lst (.str w0 :: ws.map fun w => .str w.1)), .un, .un] = .ok (.lst (ws.map fun w => .str w.1)) [.fz (.str x), .fz (.lst (.str w0 :: ws.map fun w => .str w.1)), .un, .un] :=
    slF_of (x := .lst (.str w0 :: ws.map fun w => .str w.1)) (j := some ((1 : Nat) : Int)) rfl rfl (by
      show some (D.lst (cutD (.str w0 :: ws.map fun w => .str w.1) (some ((1 : Nat) : Int)) none)) = _
      rw [cut_from]; rfl)
  have lc : mLc (mOn asS (mSlP 1 (oSome (mC (.int 1))) oNone)) (gN 3) mYes (mCall [false] f_part_of 1 0 [0] [] (aV (mVar 3) aNil) mNil) [3] [.fz (.str x), .fz (.lst (.str w0 :: ws.map fun w => .str w.1)), .un, .un] = .ok (.lst (ws.map (·.2))) [.fz (.str x), .fz (.lst (.str w0 :: ws.map fun w => .str w.1)), .un, .un] :=
    lcA_map (f := fun w : Str × D => D.str w.1) (·.2) (on_of sl rfl) (by omega) rfl fun w hw => ⟨[.fz (.str x), .fz (.lst (.str w0 :: ws.map fun w => .str w.1)), .un, .fz (.str w.1)], _, _, rfl, rfl, call1_of (frz_of (i := 3) rfl) (hp w hw), rfl⟩
  have ix : dIx (.lst (.str w0 :: ws.map fun w => .str w.1)) (.int 0) = some (.str w0) := by
    show L2.atI (D.str w0 :: ws.map fun w => .str w.1) ((0 : Nat) : Int) = _
    exact atI_nat rfl
  have s1 : b_move_of_1 [.fz (.str x), .fz (.lst (.str w0 :: ws.map fun w => .str w.1)), .un, .un] = .nx [.fz (.str x), .fz (.lst (.str w0 :: ws.map fun w => .str w.1)), .fz (.tup (.str w0 :: ws.map (·.2))), .un] :=
    setX_of (d := .tup (.str w0 :: ws.map (·.2))) (τ1 := [.fz (.str x), .fz (.lst (.str w0 :: ws.map fun w => .str w.1)), .un, .un]) (by
      have t := tup_of (cons_of (x := .str w0) (ma := mPk 1 dIx (mC (.int 0))) (pk_of (a := .lst (.str w0 :: ws.map fun w => .str w.1)) (x := .lst (.str w0 :: ws.map fun w => .str w.1)) rfl rfl rfl ix) (star_of lc rfl nil_of)) (by rw [List.append_nil, List.length_cons, List.length_map]; omega)
      rw [List.append_nil] at t
      exact t) rfl rfl rfl
  have tt : mB (mCall [false] f_is_move 1 0 [0] [] (aV (mVar 2) aNil) mNil) [.fz (.str x), .fz (.lst (.str w0 :: ws.map fun w => .str w.1)), .fz (.tup (.str w0 :: ws.map (·.2))), .un] = .ok false [.fz (.str x), .fz (.lst (.str w0 :: ws.map fun w => .str w.1)), .fz (.tup (.str w0 :: ws.map (·.2))), .un] := bool_of (call1_of (frz_of (i := 2) rfl) hm)
  rw [e, b_move_of, seq_of s0, seq_of s1]
  unfold b_move_of_2
  rw [ret_of (d := .non) (τ1 := [.fz (.str x), .fz (.lst (.str w0 :: ws.map fun w => .str w.1)), .fz (.tup (.str w0 :: ws.map (·.2))), .un]) (by
    rw [if_of tt]
    rfl)]
  rfl
end Sm
set_option Elab.async false
set_option linter.all false
set_option maxRecDepth 100000
set_option maxHeartbeats 400000
namespace Sm
open PySem PySem.Spec PyProof.Rows L2
def pQ (l j : Nat) : PQ := ((l : Nat), ((l + 1 + j : Nat) : Int))
theorem big40 {n : Nat} (hn : n < 100) : ok40 (n : Int) := ⟨by omega, Int.lt_of_lt_of_le (show (n : Int) < 100 by omega) (by decide)⟩
theorem pQ_ok {l j : Nat} (hl : l < 37) (hj : j < 5) : okP (pQ l j) ∧ (pQ l j).1 ≤ (pQ l j).2 := ⟨⟨big40 (by omega), big40 (by omega)⟩, by show ((l : Nat) : Int) ≤ ((l + 1 + j : Nat) : Int); omega⟩
theorem num_in {n : Nat} (hn : n < 100) : f_number_in [.str (numT (n : Int))] = .ok (.int n) [none] := number_ok (big40 hn)
theorem lo_part {l : Nat} (hl : l < 37) : f_part_of [.str (loQ l)] = .ok (.int l) [none] := part_plain (num_free (big40 (by omega)) (by omega)) (num_in (by omega))
theorem hi_part {l j : Nat} (hl : l < 37) (hj : j < 5) : f_part_of [.str (hiQ l j)] = .ok (.int (l + 1 + j : Nat)) [none] := part_plain (num_free (big40 (by omega)) (by omega)) (num_in (by omega))
theorem sp_part {l j : Nat} (hl : l < 37) (hj : j < 5) : f_part_of [.str (spanT (pQ l j))] = .ok (sP (pQ l j)) [none] := part_of_ok (u := .inl (pQ l j)) (pQ_ok hl hj)
theorem nil_num : f_number_in [.str ""] = .ok .non [none] := none_of (f := f_number_in) (by decide +kernel)
theorem nil_part : f_part_of [.str ""] = .ok .non [none] := none_of (f := f_part_of) (by decide +kernel)
theorem new_part : f_part_of [.str "new"] = .ok .non [none] := none_of (f := f_part_of) (by decide +kernel)
theorem split_part : f_part_of [.str "split"] = .ok .non [none] := none_of (f := f_part_of) (by decide +kernel)
theorem seven_part : f_part_of [.str "7"] = .ok (.int 7) [none] := by
  have e : ("7" : Str) = numT ((7 : Nat) : Int) := by decide +kernel
  rw [e]
  exact part_plain (num_free (big40 (by omega)) (by omega)) (num_in (by omega))
theorem lo_free {l c : Nat} (hl : l < 100) (hc : c < 48 ∨ 57 < c) : c ∉ TL.tl (numT ((l : Nat) : Int)) := num_free (big40 hl) hc
theorem sp_free {l j c : Nat} (hl : l < 37) (hj : j < 5) (hc : c < 45) : c ∉ TL.tl (spanT (pQ l j)) := fun hm => by
  have hm : c ∈ TL.tl (numT ((l : Nat) : Int) ++ "-" ++ numT ((l + 1 + j : Nat) : Int)) := hm
  rw [TL.tl_append, TL.tl_append, dash_tl] at hm
  rcases List.mem_append.mp hm with hm | hm
  · rcases List.mem_append.mp hm with hm | hm
    · exact lo_free (by omega) (by omega) hm
    · have := List.mem_singleton.mp hm; omega
  · exact lo_free (by omega) (by omega) hm
theorem c32 : 32 ∉ TL.tl ("new" : Str) ∧ 32 ∉ TL.tl ("split" : Str) ∧ 32 ∉ TL.tl ("" : Str) ∧ 32 ∉ TL.tl ("7" : Str) := by decide +kernel
theorem num_len {n : Nat} (hn : n < 100) : (numT (n : Int)).length ≤ 40 := tI_len (big40 hn)
theorem hd_len {b : Bool} {l : Nat} (hl : l < 37) : (hdQ b l).length ≤ 20 := (signs_hd b l hl).2
theorem tl_len {b : Bool} {l j : Nat} (hl : l < 37) (hj : j < 5) : (tlQ b l j).length ≤ 20 := (signs_tl b l hl j hj).2.1
theorem mv_len {b : Bool} {l j : Nat} (hl : l < 37) (hj : j < 5) : (mvQ b l j).length ≤ 41 := by
  have a := hd_len (b := b) hl
  have c := tl_len (b := b) hl hj
  unfold mvQ
  rw [app_len, app_len, dash_len]
  omega
theorem mv_words (b : Bool) (l j : Nat) : TL.tl (mvQ b l j) = TL.tl (wdQ b) ++ ([32] ++ (TL.tl (spanT (pQ l j)) ++ (if b = true then [32] ++ TL.tl (loQ l) else []))) := by
  cases b
  · show TL.tl ("new" ++ " " ++ loQ l ++ "-" ++ hiQ l j) = TL.tl ("new" : Str) ++ ([32] ++ (TL.tl (numT ((l : Nat) : Int) ++ "-" ++ numT ((l + 1 + j : Nat) : Int)) ++ []))
    simp only [TL.tl_append, List.append_assoc, List.append_nil, blank_tl, loQ, hiQ]
  · show TL.tl ("split" ++ " " ++ loQ l ++ "-" ++ (hiQ l j ++ " " ++ loQ l)) = TL.tl ("split" : Str) ++ ([32] ++ (TL.tl (numT ((l : Nat) : Int) ++ "-" ++ numT ((l + 1 + j : Nat) : Int)) ++ ([32] ++ TL.tl (loQ l))))
    simp only [TL.tl_append, List.append_assoc, blank_tl, loQ, hiQ]
theorem join_tl3 (a b c : Str) : TL.tl (Txt.join " " [a, b, c]) = TL.tl a ++ ([32] ++ (TL.tl b ++ ([32] ++ TL.tl c))) := by
  rw [TL.join_eq]
  show TL.tl (a ++ " " ++ (b ++ " " ++ c)) = _
  simp only [TL.tl_append, List.append_assoc, blank_tl]
theorem join_tl2 (a b : Str) : TL.tl (Txt.join " " [a, b]) = TL.tl a ++ ([32] ++ TL.tl b) := by
  rw [TL.join_eq]
  show TL.tl (a ++ " " ++ b) = _
  simp only [TL.tl_append, List.append_assoc, blank_tl]
theorem join_tl4 (a b c d : Str) : TL.tl (Txt.join " " [a, b, c, d]) = TL.tl a ++ ([32] ++ (TL.tl b ++ ([32] ++ (TL.tl c ++ ([32] ++ TL.tl d))))) := by
  rw [TL.join_eq]
  show TL.tl (a ++ " " ++ (b ++ " " ++ (c ++ " " ++ d))) = _
  simp only [TL.tl_append, List.append_assoc, blank_tl]
theorem mem1 {α : Type} {P : α → Prop} {a : α} (h : P a) : ∀ x ∈ [a], P x := fun x m => by rw [List.mem_singleton.mp m]; exact h
theorem memc {α : Type} {P : α → Prop} {a : α} {l : List α} (h : P a) (t : ∀ x ∈ l, P x) : ∀ x ∈ a :: l, P x := fun x m => by
  rcases List.mem_cons.mp m with rfl | m
  · exact h
  · exact t x m
section
variable {b : Bool} {l j : Nat} (hl : l < 37) (hj : j < 5)
include hl hj
theorem bad_end {e : Str} {v : D} (he : e = "" ∧ v = .non ∨ e = "7" ∧ v = .int 7) : f_move_of [.str (mvQ b l j ++ (" " ++ e))] = .ok .non [none] := by
  obtain ⟨n1, n2, n3, n4⟩ := c32
  obtain ⟨ok1, ok2⟩ := pQ_ok hl hj
  have hm := mv_len (b := b) hl hj
  have e32 : 32 ∉ TL.tl e := by rcases he with ⟨rfl, _⟩ | ⟨rfl, _⟩ <;> assumption
  have ep : f_part_of [.str e] = .ok v [none] := by
    rcases he with ⟨rfl, rfl⟩ | ⟨rfl, rfl⟩
    · exact nil_part
    · exact seven_part
  have el : e.length ≤ 1 := by rcases he with ⟨rfl, _⟩ | ⟨rfl, _⟩ <;> decide +kernel
  have hz : (mvQ b l j ++ (" " ++ e)).length ≤ 1000 := by rw [app_len, app_len, blank_len]; omega
  cases b
  · refine move_none (w0 := "new") (ws := [(spanT (pQ l j), sP (pQ l j)), (e, v)]) (TL.ext_tl ?_) (memc n1 (memc (sp_free hl hj (by omega)) (mem1 e32))) (memc (sp_part hl hj) (mem1 ep)) (im3 ok1 ok2 v) hz (by show 2 ≤ 10; decide)
    show _ = TL.tl (Txt.join " " ["new", spanT (pQ l j), e])
    rw [join_tl3, TL.tl_append, TL.tl_append, blank_tl, mv_words]
    simp only [Bool.false_eq_true, if_false, List.append_nil, List.append_assoc]
    rfl
  · refine move_none (w0 := "split") (ws := [(spanT (pQ l j), sP (pQ l j)), (loQ l, .int l), (e, v)]) (TL.ext_tl ?_) (memc n2 (memc (sp_free hl hj (by omega)) (memc (lo_free (by omega) (by omega)) (mem1 e32)))) (memc (sp_part hl hj) (memc (lo_part hl) (mem1 ep))) (im4 _ _ _ _) hz (by show 3 ≤ 10; decide)
    show _ = TL.tl (Txt.join " " ["split", spanT (pQ l j), loQ l, e])
    rw [join_tl4, TL.tl_append, TL.tl_append, blank_tl, mv_words]
    simp only [if_true, List.append_assoc]
    rfl
theorem bad_start : f_move_of [.str (" " ++ mvQ b l j)] = .ok .non [none] := by
  obtain ⟨n1, n2, n3, n4⟩ := c32
  have hm := mv_len (b := b) hl hj
  have hz : (" " ++ mvQ b l j).length ≤ 1000 := by rw [app_len, blank_len]; omega
  cases b
  · refine move_none (w0 := "") (ws := [("new", .non), (spanT (pQ l j), sP (pQ l j))]) (TL.ext_tl ?_) (memc n3 (memc n1 (mem1 (sp_free hl hj (by omega))))) (memc new_part (mem1 (sp_part hl hj))) (im2 "" (.inl rfl) _ (.inr ⟨_, rfl⟩)) hz (by show 2 ≤ 10; decide)
    show _ = TL.tl (Txt.join " " ["", "new", spanT (pQ l j)])
    rw [join_tl3, TL.tl_append, blank_tl, mv_words, nil_tl]
    simp only [Bool.false_eq_true, if_false, List.append_nil, List.nil_append]
    rfl
  · refine move_none (w0 := "") (ws := [("split", .non), (spanT (pQ l j), sP (pQ l j)), (loQ l, .int l)]) (TL.ext_tl ?_) (memc n3 (memc n2 (memc (sp_free hl hj (by omega)) (mem1 (lo_free (by omega) (by omega)))))) (memc split_part (memc (sp_part hl hj) (mem1 (lo_part hl)))) (im4 _ _ _ _) hz (by show 3 ≤ 10; decide)
    show _ = TL.tl (Txt.join " " ["", "split", spanT (pQ l j), loQ l])
    rw [join_tl4, TL.tl_append, blank_tl, mv_words, nil_tl]
    simp only [if_true, List.nil_append]
    rfl
theorem bad_blank : f_move_of [.str (hdQ b l ++ " " ++ tlQ b l j)] = .ok .non [none] := by
  obtain ⟨n1, n2, n3, n4⟩ := c32
  have a := hd_len (b := b) hl
  have c := tl_len (b := b) hl hj
  have hz : (hdQ b l ++ " " ++ tlQ b l j).length ≤ 1000 := by rw [app_len, app_len, blank_len]; omega
  cases b
  · refine move_none (w0 := "new") (ws := [(loQ l, .int l), (hiQ l j, .int (l + 1 + j : Nat))]) (TL.ext_tl ?_) (memc n1 (memc (lo_free (by omega) (by omega)) (mem1 (lo_free (by omega) (by omega))))) (memc (lo_part hl) (mem1 (hi_part hl hj))) (im2 _ (.inr ⟨_, rfl⟩) _ (.inr ⟨_, rfl⟩)) hz (by show 2 ≤ 10; decide)
    show TL.tl ("new" ++ " " ++ loQ l ++ " " ++ hiQ l j) = TL.tl (Txt.join " " ["new", loQ l, hiQ l j])
    rw [join_tl3]
    simp only [TL.tl_append, List.append_assoc, blank_tl]
  · refine move_none (w0 := "split") (ws := [(loQ l, .int l), (hiQ l j, .int (l + 1 + j : Nat)), (loQ l, .int l)]) (TL.ext_tl ?_) (memc n2 (memc (lo_free (by omega) (by omega)) (memc (lo_free (by omega) (by omega)) (mem1 (lo_free (by omega) (by omega)))))) (memc (lo_part hl) (memc (hi_part hl hj) (mem1 (lo_part hl)))) (im4 _ _ _ _) hz (by show 3 ≤ 10; decide)
    show TL.tl ("split" ++ " " ++ loQ l ++ " " ++ (hiQ l j ++ " " ++ loQ l)) = TL.tl (Txt.join " " ["split", loQ l, hiQ l j, loQ l])
    rw [join_tl4]
    simp only [TL.tl_append, List.append_assoc, blank_tl]
theorem bad_word {y : Str} {v : D} (hy : 32 ∉ TL.tl y) (yl : y.length ≤ 2) (hp : f_part_of [.str (loQ l ++ y ++ hiQ l j)] = .ok v [none]) (hv : v = .non ∨ ∃ i, v = .int i) : f_move_of [.str (hdQ b l ++ y ++ tlQ b l j)] = .ok .non [none] := by
  obtain ⟨n1, n2, n3, n4⟩ := c32
  have a := hd_len (b := b) hl
  have c := tl_len (b := b) hl hj
  have hz : (hdQ b l ++ y ++ tlQ b l j).length ≤ 1000 := by rw [app_len, app_len]; omega
  have w32 : 32 ∉ TL.tl (loQ l ++ y ++ hiQ l j) := fun hm => (app_mem.mp hm).elim (fun hm => (app_mem.mp hm).elim (lo_free (by omega) (by omega)) hy) (lo_free (by omega) (by omega))
  cases b
  · refine move_none (w0 := "new") (ws := [(loQ l ++ y ++ hiQ l j, v)]) (TL.ext_tl ?_) (memc n1 (mem1 w32)) (mem1 hp) (im2 _ hv _ (.inl rfl)) hz (by show 1 ≤ 10; decide)
    show TL.tl ("new" ++ " " ++ loQ l ++ y ++ hiQ l j) = TL.tl (Txt.join " " ["new", loQ l ++ y ++ hiQ l j])
    rw [join_tl2]
    simp only [TL.tl_append, List.append_assoc, blank_tl]
  · refine move_none (w0 := "split") (ws := [(loQ l ++ y ++ hiQ l j, v), (loQ l, .int l)]) (TL.ext_tl ?_) (memc n2 (memc w32 (mem1 (lo_free (by omega) (by omega))))) (memc hp (mem1 (lo_part hl))) (im2 _ hv _ (.inr ⟨_, rfl⟩)) hz (by show 2 ≤ 10; decide)
    show TL.tl ("split" ++ " " ++ loQ l ++ y ++ (hiQ l j ++ " " ++ loQ l)) = TL.tl (Txt.join " " ["split", loQ l ++ y ++ hiQ l j, loQ l])
    rw [join_tl3]
    simp only [TL.tl_append, List.append_assoc, blank_tl]
theorem bad_dash {y : Str} (hy : y ∈ (["--", " ", "-0", ""] : List Str)) : f_move_of [.str (hdQ b l ++ y ++ tlQ b l j)] = .ok .non [none] := by
  have l1 := num_len (n := l) (by omega)
  have l2 := num_len (n := l + 1 + j) (by omega)
  have w45 : ∀ z : Str, 45 ∈ TL.tl z → 45 ∈ TL.tl (loQ l ++ z ++ hiQ l j) := fun z h => app_mem.mpr (.inl (app_mem.mpr (.inr h)))
  simp only [List.mem_cons, List.not_mem_nil, or_false] at hy
  rcases hy with rfl | rfl | rfl | rfl
  · refine bad_word hl hj (by decide +kernel) (by decide +kernel) (part_stroke (w45 _ (by decide +kernel)) (stay_none3 (a := loQ l) (b := "") (c := hiQ l j) ?_ (num_in (by omega)) nil_num (num_in (by omega)) (by show (numT ((l : Nat) : Int) ++ "--" ++ numT ((l + 1 + j : Nat) : Int)).length ≤ 1000; rw [app_len, app_len, show ("--" : Str).length = 2 by decide +kernel]; omega))) (.inl rfl)
    have e : loQ l ++ "--" ++ hiQ l j = Txt.join "-" [loQ l, "", hiQ l j] := by
      rw [TL.join_eq]
      refine TL.ext_tl ?_
      show _ = TL.tl (loQ l ++ "-" ++ ("" ++ "-" ++ hiQ l j))
      simp only [TL.tl_append, List.append_assoc, nil_tl, List.nil_append, dash_tl]
      rw [show TL.tl ("--" : Str) = [45] ++ [45] by decide +kernel, List.append_assoc]
    rw [e]
    exact TL.split_join dash_tl dash_k (by simp) (memc (lo_free (by omega) (by omega)) (memc (by decide +kernel) (mem1 (lo_free (by omega) (by omega)))))
  · exact bad_blank hl hj
  · have l0 : ("0" : Str).length = 1 := by decide +kernel
    have nz : f_number_in [.str ("0" ++ hiQ l j)] = .ok .non [none] := by
      obtain ⟨c, r, e, hc⟩ := num_head (big40 (n := l + 1 + j) (by omega))
      refine number_zero (fun c hc => (app_mem.mp hc).elim (fun hm => by rw [zero_tl] at hm; rw [List.mem_singleton.mp hm]; decide) (num_small (big40 (n := l + 1 + j) (by omega)) c)) (r := TL.tl (hiQ l j)) (by rw [TL.tl_append, zero_tl]; rfl) (by unfold hiQ; rw [e]; simp) (by unfold hiQ; rw [app_len, l0]; omega)
    refine bad_word hl hj (by decide +kernel) (by decide +kernel) (part_stroke (w45 _ (by decide +kernel)) (stay_none2 (a := loQ l) (b := "0" ++ hiQ l j) (i := l) ?_ (num_in (by omega)) nz (by show (numT ((l : Nat) : Int) ++ "-0" ++ numT ((l + 1 + j : Nat) : Int)).length ≤ 1000; rw [app_len, app_len, show ("-0" : Str).length = 2 by decide +kernel]; omega))) (.inl rfl)
    have e : loQ l ++ "-0" ++ hiQ l j = Txt.join "-" [loQ l, "0" ++ hiQ l j] := by
      rw [TL.join_eq]
      refine TL.ext_tl ?_
      show _ = TL.tl (loQ l ++ "-" ++ ("0" ++ hiQ l j))
      simp only [TL.tl_append, List.append_assoc]
      rw [show TL.tl ("-0" : Str) = TL.tl ("-" : Str) ++ TL.tl ("0" : Str) by decide +kernel, List.append_assoc]
    rw [e]
    exact TL.split_join dash_tl dash_k (by simp) (memc (lo_free (by omega) (by omega)) (mem1 fun hm => (app_mem.mp hm).elim (by decide +kernel) (lo_free (by omega) (by omega))))
  · have g := glued_any l hl j hj
    have eg : loQ l ++ "" ++ hiQ l j = loQ l ++ hiQ l j := TL.ext_tl (by simp only [TL.tl_append, nil_tl, List.append_nil])
    have n45 : 45 ∉ TL.tl (loQ l ++ hiQ l j) := fun hm => (app_mem.mp hm).elim (lo_free (by omega) (by omega)) (lo_free (by omega) (by omega))
    have : ∃ v, f_number_in [.str (loQ l ++ hiQ l j)] = .ok v [none] ∧ (v = .non ∨ ∃ i, v = .int i) := by
      revert g
      split
      · rename_i e; exact fun _ => ⟨_, e, .inl rfl⟩
      · rename_i e; exact fun _ => ⟨_, e, .inr ⟨_, rfl⟩⟩
      · exact fun h => nomatch h
    obtain ⟨v, ev, hv⟩ := this
    exact bad_word hl hj (by decide +kernel) (by decide +kernel) (by rw [eg]; exact part_plain n45 ev) hv
end
end Sm
set_option Elab.async false
set_option linter.all false
set_option maxRecDepth 100000
set_option maxHeartbeats 400000
namespace Sm
open PySem PySem.Spec PyProof.Rows L2
theorem pp_bad1 {x : Str} {parts : List Str} (h : Txt.split x " x " = parts) (hp : (∃ a, parts = [a]) ∨ ∃ a b c, parts = [a, b, c]) (hz : x.length ≤ 1000) : f_paper_piece [.str x] = .ok .non [none] := by
  have sp : dSplit x (.str " x ") = some (.lst (parts.map .str)) := split_ok h times_n (by omega)
  rw [f_paper_piece, mkF_fin]
  show fin [false] (b_paper_piece [.fz (.str x), .un, .un, .un]) = _
  have s0 : b_paper_piece_0 [.fz (.str x), .un, .un, .un] = .nx [.fz (.str x), .fz (.lst (parts.map .str)), .un, .un] := setX_of (txt1_of (frz_of rfl) kC_of sp) rfl rfl rfl
  rw [b_paper_piece, seq_of s0]
  rcases hp with ⟨a, rfl⟩ | ⟨a, b, c, rfl⟩ <;> rfl
theorem pp_parts {x u v : Str} {n m : D} (h : Txt.split x " x " = [u, v]) (hu : f_move_of [.str u] = .ok n [none]) (hv : f_many_of [.str v] = .ok m [none]) (hz : x.length ≤ 1000) :
    f_paper_piece [.str x] = fin [false] (b_paper_piece_3 [.fz (.str x), .fz (.lst [.str u, .str v]), .fz n, .fz m]) := by
  have sp : dSplit x (.str " x ") = some (.lst [.str u, .str v]) := split_ok h times_n (by omega)
  rw [f_paper_piece, mkF_fin]
  show fin [false] (b_paper_piece [.fz (.str x), .un, .un, .un]) = _
  have s0 : b_paper_piece_0 [.fz (.str x), .un, .un, .un] = .nx [.fz (.str x), .fz (.lst [.str u, .str v]), .un, .un] := setX_of (txt1_of (frz_of rfl) kC_of sp) rfl rfl rfl
  have s1 : b_paper_piece_1 [.fz (.str x), .fz (.lst [.str u, .str v]), .un, .un] = .nx [.fz (.str x), .fz (.lst [.str u, .str v]), .un, .un] := rfl
  have p0 : mPk 1 dIx (mC (.int 0)) [.fz (.str x), .fz (.lst [.str u, .str v]), .un, .un] = .ok (.str u) [.fz (.str x), .fz (.lst [.str u, .str v]), .un, .un] := rfl
  have p1 : mPk 1 dIx (mC (.int 1)) [.fz (.str x), .fz (.lst [.str u, .str v]), .un, .un] = .ok (.str v) [.fz (.str x), .fz (.lst [.str u, .str v]), .un, .un] := rfl
  have s2 : b_paper_piece_2 [.fz (.str x), .fz (.lst [.str u, .str v]), .un, .un] = .nx [.fz (.str x), .fz (.lst [.str u, .str v]), .fz n, .fz m] := par2_of (call1_of p0 hu) (call1_of p1 hv) rfl
  rw [b_paper_piece, seq_of s0, seq_of s1, seq_of s2]
theorem pp_bad2 {x u v : Str} {m : D} (h : Txt.split x " x " = [u, v]) (hu : f_move_of [.str u] = .ok .non [none]) (hv : f_many_of [.str v] = .ok m [none]) (hz : x.length ≤ 1000) : f_paper_piece [.str x] = .ok .non [none] := by
  rw [pp_parts h hu hv hz]
  have e : mOr (mB (mOp dIs (mVar 2) (mC .non))) (mB (mOp dIs (mVar 3) (mC .non))) [.fz (.str x), .fz (.lst [.str u, .str v]), .fz .non, .fz m] = .ok true [.fz (.str x), .fz (.lst [.str u, .str v]), .fz .non, .fz m] :=
    orT_of (bool_of (op_of (frz_of rfl) (kC_of (d := .non)) rfl))
  unfold b_paper_piece_3
  rw [ret_of (d := .non) (τ1 := [.fz (.str x), .fz (.lst [.str u, .str v]), .fz .non, .fz m]) (by rw [if_of e]; rfl)]
  rfl
theorem pp_bad3 {x u v : Str} {d : Deed} (h : Txt.split x " x " = [u, v]) (hu : f_move_of [.str u] = .ok (eD d) [none]) (hv : f_many_of [.str v] = .ok .non [none]) (hz : x.length ≤ 1000) : f_paper_piece [.str x] = .ok .non [none] := by
  rw [pp_parts h hu hv hz]
  have e : mOr (mB (mOp dIs (mVar 2) (mC .non))) (mB (mOp dIs (mVar 3) (mC .non))) [.fz (.str x), .fz (.lst [.str u, .str v]), .fz (eD d), .fz .non] = .ok true [.fz (.str x), .fz (.lst [.str u, .str v]), .fz (eD d), .fz .non] :=
    orF_of (bool_of (op_of (x := eD d) (frz_of rfl) (kC_of (d := .non)) (by cases d <;> rfl))) (bool_of (op_of (frz_of rfl) (kC_of (d := .non)) rfl))
  unfold b_paper_piece_3
  rw [ret_of (d := .non) (τ1 := [.fz (.str x), .fz (.lst [.str u, .str v]), .fz (eD d), .fz .non]) (by rw [if_of e]; rfl)]
  rfl
theorem split_x {B c : Str} (hB : 120 ∉ TL.tl B) (hc : 120 ∉ TL.tl c ∨ 32 ∉ TL.tl c) : Txt.split (B ++ " x " ++ c) " x " = [B, c] := by
  refine TL.map_tl_inj ?_
  rw [TL.split_spl _ " x " (by rw [times_tl]; simp) (TL.kind_ok times_k), TL.tl_append, TL.tl_append, times_tl, List.append_assoc, TL.spl_part (S := [32, 120, 32]) (by simp) (fun i hi => pre_x hB i hi),
    TL.spl_last fun i _ => hc.elim (fun h => pre_free (c := 120) (by simp) h i) (fun h => pre_free (c := 32) (by simp) h i)]
  rfl
theorem repl_x {B y c : Str} (hB : 120 ∉ TL.tl B) (hc : 32 ∉ TL.tl c) : Txt.replace (B ++ " x " ++ c) " x " y = B ++ y ++ c := by
  refine TL.ext_tl ?_
  have h1 : 1 ≤ (" x " : Str).length := by decide +kernel
  show (Txt.replace (B ++ " x " ++ c) " x " y).cps.toList = _
  rw [StrLaws.replace_list h1]
  show StrLaws.replL (TL.tl (" x " : Str)) (TL.tl y) (TL.tl (B ++ " x " ++ c)) = _
  rw [TL.tl_append, TL.tl_append, TL.tl_append, TL.tl_append, times_tl, List.append_assoc]
  have cp := StrLaws.repl_copy (y := [32, 120, 32]) (z := TL.tl y) (L := TL.tl B ++ ([32, 120, 32] ++ TL.tl c)) (TL.tl B).length 0 (fun k _ hk => by
    have := pre_x (rest := TL.tl c) hB k (by omega)
    exact fun e => by
      have t : TL.pre [32, 120, 32] ((TL.tl B ++ ([32, 120, 32] ++ TL.tl c)).drop k) = true := beq_iff_eq.mpr e
      rw [this] at t; cases t) (by rw [List.length_append]; omega)
  rw [List.drop_zero, Nat.zero_add, List.take_left, List.drop_left] at cp
  rw [cp, List.append_assoc]
  congr 1
  show StrLaws.replL [32, 120, 32] (TL.tl y) (32 :: ([120, 32] ++ TL.tl c)) = _
  rw [StrLaws.replL_hit (by simp) rfl]
  show TL.tl y ++ StrLaws.replL (32 :: [120, 32]) (TL.tl y) (TL.tl c) = _
  rw [replL_free hc]
theorem repl1_once {a c z : Str} (ha : 45 ∉ TL.tl a) : Txt.replace1 (a ++ "-" ++ c) "-" z = a ++ z ++ c := by
  have hy : TL.tl ("-" : Str) ≠ [] := by rw [dash_tl]; simp
  have hx : TL.tl (a ++ "-" ++ c) = TL.tl a ++ (45 :: TL.tl c) := by rw [TL.tl_append, TL.tl_append, dash_tl, List.append_assoc]; rfl
  have at0 : StrLaws.At (a ++ "-" ++ c) "-" (a ++ "-" ++ c).length (TL.tl a).length := (TL.at_iff hy _).mpr (by rw [hx, List.drop_left, dash_tl]; rfl)
  have before : ∀ k, k < (TL.tl a).length → ¬ StrLaws.At (a ++ "-" ++ c) "-" (a ++ "-" ++ c).length k := fun k hk h => by
    have := (TL.at_iff hy _).mp h
    rw [hx, dash_tl, TL.free_of ha k hk] at this
    cases this
  have le := StrLaws.occ_length_le (a ++ "-" ++ c) "-" 0 (a ++ "-" ++ c).length 1
  rcases StrLaws.occ_head (a ++ "-" ++ c) "-" 1 (by omega) with ⟨_, no⟩ | ⟨i, r, e, hi, hb⟩
  · exact absurd at0 (no _)
  · have ei : i = (TL.tl a).length := by
      rcases Nat.lt_trichotomy i (TL.tl a).length with h | h | h
      · exact absurd hi (before i h)
      · exact h
      · exact absurd at0 (hb _ h)
    rw [e, List.length_cons] at le
    have er : r = [] := List.length_eq_zero_iff.mp (by omega)
    subst er
    subst ei
    have ln : (("-" : Str).length == 0) = false := dash_n
    unfold Txt.replace1
    rw [e, if_neg (by rw [ln]; simp), StrLaws.partsBetween_eq]
    refine TL.ext_tl ?_
    rw [StrLaws.glued_eq_join]
    show TL.tl (Builtin.Str.strSub (a ++ "-" ++ c) 0 (TL.tl a).length ++ z ++ Builtin.Str.strSub (a ++ "-" ++ c) ((TL.tl a).length + ("-" : Str).length) (a ++ "-" ++ c).length) = _
    rw [TL.tl_append, TL.tl_append, TL.tl_append, TL.tl_append, TL.tl_strSub, TL.tl_strSub_end, hx, dash_len, List.drop_zero, Nat.sub_zero, List.take_left]
    congr 1
    rw [show TL.tl a ++ 45 :: TL.tl c = (TL.tl a ++ [45]) ++ TL.tl c by rw [List.append_assoc]; rfl, show (TL.tl a).length + 1 = (TL.tl a ++ [45]).length by rw [List.length_append]; rfl, List.drop_left]
structure PartQ (x : Str) : Prop where
  fr : Fr [59, 32] (TL.tl x)
  lt : ∀ c ∈ TL.tl x, c < 1000
  len : x.length ≤ 150
structure BadQ (x : Str) : Prop where
  part : PartQ x
  bad : f_paper_piece [.str x] = .ok .non [none]
section
variable {b : Bool} {q : Q3} (h : okQ q)
include h
theorem nt_free {c : Nat} (hc : c < 48 ∨ 57 < c) : c ∉ TL.tl (numT (mnQ q)) := num_free (mn_ok h).1 hc
theorem nt_len : (numT (mnQ q)).length ≤ 40 := tI_len (mn_ok h).1
theorem nt_small : ∀ c ∈ TL.tl (numT (mnQ q)), c < 1000 ∧ c ≠ 59 ∧ c ≠ 120 := fun c hc => by have := num_small (mn_ok h).1 c hc; omega
theorem hd_small : ∀ c ∈ TL.tl (hdQ b q.1), c ≠ 45 ∧ c ≠ 59 ∧ c ≠ 120 ∧ c < 1000 := (signs_hd b q.1 h.1).1
theorem tl_small : ∀ c ∈ TL.tl (tlQ b q.1 q.2.1), c ≠ 59 ∧ c ≠ 120 ∧ c < 1000 := (signs_tl b q.1 h.1 q.2.1 h.2.1).1
theorem mv_small : ∀ c ∈ TL.tl (mvQ b q.1 q.2.1), c ≠ 59 ∧ c ≠ 120 ∧ c < 1000 := fun c hc => by
  unfold mvQ at hc
  rcases app_mem.mp hc with hc | hc
  · rcases app_mem.mp hc with hc | hc
    · have := hd_small (b := b) h c hc; exact ⟨this.2.1, this.2.2.1, this.2.2.2⟩
    · rw [dash_tl] at hc; rw [List.mem_singleton.mp hc]; decide
  · exact tl_small (b := b) h c hc
theorem mvl : (mvQ b q.1 q.2.1).length ≤ 41 := mv_len h.1 h.2.1
theorem tx_len : (txQ b q).length ≤ 84 := by
  have a := mvl (b := b) h
  have c := nt_len h
  unfold txQ
  rw [app_len, app_len, times_len]
  omega
theorem tx_small : ∀ c ∈ TL.tl (txQ b q), c ≠ 59 ∧ c < 1000 := fun c hc => by
  unfold txQ at hc
  rcases app_mem.mp hc with hc | hc
  · rcases app_mem.mp hc with hc | hc
    · have := mv_small (b := b) h c hc; exact ⟨this.1, this.2.2⟩
    · rw [times_tl] at hc
      simp only [List.mem_cons, List.not_mem_nil, or_false] at hc
      omega
  · have := nt_small h c hc; exact ⟨this.2.1, this.1⟩
theorem PartQ.tx : PartQ (txQ b q) := ⟨Fr.of fun hm => (tx_small (b := b) h 59 hm).1 rfl, fun c hc => (tx_small (b := b) h c hc).2, Nat.le_trans (tx_len h) (by decide)⟩
theorem mv_good : f_move_of [.str (mvQ b q.1 q.2.1)] = .ok (eD (ddQ b q)) [none] := by
  have e : mvQ b q.1 q.2.1 = deedT (ddQ b q) := by
    refine TL.ext_tl ?_
    rw [mv_words]
    cases b
    · show _ = TL.tl (Txt.join " " ["new", spanT (pQ q.1 q.2.1)])
      rw [join_tl2]
      simp only [Bool.false_eq_true, if_false, List.append_nil]
      rfl
    · show _ = TL.tl (Txt.join " " ["split", spanT (pQ q.1 q.2.1), loQ q.1])
      rw [join_tl3]
      simp only [if_true]
      rfl
  rw [e]
  exact move_of_ok (rw_ok (b := b) h).1
theorem many_good : f_many_of [.str (numT (mnQ q))] = .ok (.int (mnQ q)) [none] := many_of_ok (mn_ok h).1 (mn_ok h).2
theorem bad_move {B : Str} (hB : ∀ c ∈ TL.tl B, c ≠ 59 ∧ c ≠ 120 ∧ c < 1000) (hl : B.length ≤ 60) (hm : f_move_of [.str B] = .ok .non [none]) : BadQ (B ++ " x " ++ numT (mnQ q)) := by
  have c := nt_len h
  have sm : ∀ c ∈ TL.tl (B ++ " x " ++ numT (mnQ q)), c ≠ 59 ∧ c < 1000 := fun c hc => by
    rcases app_mem.mp hc with hc | hc
    · rcases app_mem.mp hc with hc | hc
      · have := hB c hc; exact ⟨this.1, this.2.2⟩
      · rw [times_tl] at hc
        simp only [List.mem_cons, List.not_mem_nil, or_false] at hc
        omega
    · have := nt_small h c hc; exact ⟨this.2.1, this.1⟩
  refine ⟨⟨Fr.of fun hm => (sm 59 hm).1 rfl, fun c hc => (sm c hc).2, by rw [app_len, app_len, times_len]; omega⟩, ?_⟩
  exact pp_bad2 (split_x (fun hm => (hB 120 hm).2.1 rfl) (.inr (nt_free h (by omega)))) hm (many_good h) (by rw [app_len, app_len, times_len]; omega)
theorem bad_many {c : Str} (hc : ∀ x ∈ TL.tl c, x < 1000) (h59 : Fr [59, 32] (TL.tl (mvQ b q.1 q.2.1 ++ " x " ++ c))) (hs : 120 ∉ TL.tl c ∨ 32 ∉ TL.tl c) (hl : c.length ≤ 50) (hm : f_number_in [.str c] = .ok .non [none]) : BadQ (mvQ b q.1 q.2.1 ++ " x " ++ c) := by
  have a := mvl (b := b) h
  refine ⟨⟨h59, fun x hx => ?_, by rw [app_len, app_len, times_len]; omega⟩, ?_⟩
  · rcases app_mem.mp hx with hx | hx
    · rcases app_mem.mp hx with hx | hx
      · exact (mv_small (b := b) h x hx).2.2
      · rw [times_tl] at hx
        simp only [List.mem_cons, List.not_mem_nil, or_false] at hx
        omega
    · exact hc x hx
  · exact pp_bad3 (split_x (fun hm => (mv_small (b := b) h 120 hm).2.1 rfl) hs) (mv_good h) (many_none hm) (by rw [app_len, app_len, times_len]; omega)
theorem mvx_59 : 59 ∉ TL.tl (mvQ b q.1 q.2.1 ++ " x ") := fun hm => (app_mem.mp hm).elim (fun hm => (mv_small (b := b) h 59 hm).1 rfl) (by rw [times_tl]; decide)
end
end Sm
set_option Elab.async false
set_option linter.all false
set_option maxRecDepth 100000
set_option maxHeartbeats 400000
namespace Sm
open PySem PySem.Spec PyProof.Rows L2
def endsQ : List Str := ["x", ";", " 1", " x 1", " "]
def midsQ : List Str := ["  x ", "x", " x 0", " 7 x "]
def wordsQ : List Str := ["", "-", "a", "new", "new 1-1", "new 2-1 x 1", "all"]
def dashQ : List Str := ["--", " ", "-0", ""]
theorem endsQ_prop : ∀ y ∈ endsQ, y = " x 1" ∨ ((∃ c ∈ TL.tl y, ¬ (48 ≤ c ∧ c ≤ 57)) ∧ (∀ c ∈ TL.tl y, c < 1000) ∧ (120 ∉ TL.tl y ∨ 32 ∉ TL.tl y) ∧ (59 ∉ TL.tl y ∨ TL.tl y = [59])) := by decide +kernel
theorem endsQ_len : ∀ y ∈ endsQ, y.length ≤ 4 := by decide +kernel
theorem midsQ_len : ∀ y ∈ midsQ, y.length ≤ 5 ∧ ((" x " : Str) == y) = false := by decide +kernel
theorem dashQ_len : ∀ y ∈ dashQ, y.length ≤ 2 ∧ (("-" : Str) == y) = false ∧ (∀ c ∈ TL.tl y, c ≠ 59 ∧ c ≠ 120 ∧ c < 1000) := by decide +kernel
theorem wordsQ_prop : ∀ y ∈ wordsQ, 59 ∉ TL.tl y ∧ (∀ c ∈ TL.tl y, c < 1000) ∧ y.length ≤ 150 ∧ (match f_paper_piece [.str y] with | .ok .non [none] => true | _ => false) = true := by decide +kernel
section
variable {b : Bool} {q : Q3} (h : okQ q)
include h
theorem bentQ0 {y : Str} (hy : y ∈ endsQ) : BadQ (txQ b q ++ y) := by
  have ly := endsQ_len y hy
  have lt := tx_len (b := b) h
  have ln := nt_len h
  have lm := mvl (b := b) h
  rcases endsQ_prop y hy with rfl | ⟨⟨c, hc, hd⟩, h1, h2, h3⟩
  · have sm : ∀ c ∈ TL.tl (txQ b q ++ " x 1"), c ≠ 59 ∧ c < 1000 := fun c hc => (app_mem.mp hc).elim (tx_small (b := b) h c) (fun hc => by
      have : ∀ c ∈ TL.tl (" x 1" : Str), c ≠ 59 ∧ c < 1000 := by decide +kernel
      exact this c hc)
    refine ⟨⟨Fr.of fun hm => (sm 59 hm).1 rfl, fun c hc => (sm c hc).2, by rw [app_len]; omega⟩, ?_⟩
    have e : Txt.split (txQ b q ++ " x 1") " x " = [mvQ b q.1 q.2.1, numT (mnQ q), "1"] := by
      refine TL.map_tl_inj ?_
      have e1 : TL.tl (" x 1" : Str) = [32, 120, 32] ++ TL.tl ("1" : Str) := by decide +kernel
      unfold txQ
      rw [TL.split_spl _ " x " (by rw [times_tl]; simp) (TL.kind_ok times_k), TL.tl_append, TL.tl_append, TL.tl_append, times_tl, e1]
      rw [show TL.tl (mvQ b q.1 q.2.1) ++ [32, 120, 32] ++ TL.tl (numT (mnQ q)) ++ ([32, 120, 32] ++ TL.tl ("1" : Str)) = TL.tl (mvQ b q.1 q.2.1) ++ ([32, 120, 32] ++ (TL.tl (numT (mnQ q)) ++ ([32, 120, 32] ++ TL.tl ("1" : Str)))) by simp only [List.append_assoc]]
      rw [TL.spl_part (S := [32, 120, 32]) (by simp) (fun i hi => pre_x (fun hm => (mv_small (b := b) h 120 hm).2.1 rfl) i hi), TL.spl_part1 (nt_free h (by omega)), TL.spl_last1 (by decide +kernel)]
      rfl
    exact pp_bad1 e (.inr ⟨_, _, _, rfl⟩) (by rw [app_len]; omega)
  · have e : txQ b q ++ y = mvQ b q.1 q.2.1 ++ " x " ++ (numT (mnQ q) ++ y) := TL.ext_tl (by simp only [txQ, TL.tl_append, List.append_assoc])
    have cl : ∀ x ∈ TL.tl (numT (mnQ q) ++ y), x < 1000 := fun x hx => (app_mem.mp hx).elim (fun hx => (nt_small h x hx).1) (h1 x)
    have n59 : 59 ∉ TL.tl (txQ b q) := fun hm => (tx_small (b := b) h 59 hm).1 rfl
    rw [e]
    refine bad_many h cl ?_ (h2.imp (fun z hm => (app_mem.mp hm).elim (fun hm => (nt_small h 120 hm).2.2 rfl) z) fun z hm => (app_mem.mp hm).elim (nt_free h (by omega)) z) (by rw [app_len]; omega) (number_none (okT_lt cl) (app_mem.mpr (.inr hc)) hd (by rw [app_len]; omega))
    rw [← e]
    rcases h3 with h3 | h3
    · exact Fr.of fun hm => (app_mem.mp hm).elim n59 h3
    · rw [TL.tl_append, h3]
      exact Fr.semi n59
theorem replQ {y : Str} : Txt.replace (txQ b q) " x " y = mvQ b q.1 q.2.1 ++ y ++ numT (mnQ q) := repl_x (fun hm => (mv_small (b := b) h 120 hm).2.1 rfl) (nt_free h (by omega))
theorem single_x : Txt.split (mvQ b q.1 q.2.1 ++ "x" ++ numT (mnQ q)) " x " = [mvQ b q.1 q.2.1 ++ "x" ++ numT (mnQ q)] := by
  refine TL.map_tl_inj ?_
  have m120 : 120 ∉ TL.tl (mvQ b q.1 q.2.1) := fun hm => (mv_small (b := b) h 120 hm).2.1 rfl
  obtain ⟨_, _, lst, ne⟩ := signs_tl b q.1 h.1 q.2.1 h.2.1
  have last : ∃ a e, TL.tl (mvQ b q.1 q.2.1) = a ++ [e] ∧ e ≠ 32 := by
    refine ⟨TL.tl (hdQ b q.1 ++ "-") ++ (TL.tl (tlQ b q.1 q.2.1)).dropLast, (TL.tl (tlQ b q.1 q.2.1)).getLast ne, ?_, fun z => lst (by rw [List.getLast?_eq_getLast ne, z])⟩
    unfold mvQ
    rw [TL.tl_append, List.append_assoc, List.dropLast_concat_getLast]
  obtain ⟨a, e, ea, he⟩ := last
  rw [ea] at m120
  have a120 : 120 ∉ a := fun hm => m120 (List.mem_append_left _ hm)
  have e120 : e ≠ 120 := fun z => m120 (List.mem_append_right _ (by rw [z]; exact List.mem_cons_self))
  have x1 : TL.tl ("x" : Str) = [120] := by decide +kernel
  have n32 : 32 ∉ TL.tl (numT (mnQ q)) := nt_free h (by omega)
  rw [TL.split_spl _ " x " (by rw [times_tl]; simp) (TL.kind_ok times_k), TL.tl_append, TL.tl_append, times_tl, ea, x1, TL.spl_last fun i hi => ?_]
  · show [a ++ [e] ++ [120] ++ TL.tl (numT (mnQ q))] = [TL.tl (mvQ b q.1 q.2.1 ++ "x" ++ numT (mnQ q))]
    rw [TL.tl_append, TL.tl_append, ea, x1]
  · cases hp : TL.pre [32, 120, 32] ((a ++ [e] ++ [120] ++ TL.tl (numT (mnQ q))).drop i) with
    | false => rfl
    | true =>
      have ht : ((a ++ [e] ++ [120] ++ TL.tl (numT (mnQ q))).drop i).take 3 = [32, 120, 32] := eq_of_beq hp
      have g0 : (a ++ [e] ++ [120] ++ TL.tl (numT (mnQ q)))[i]? = some 32 := by
        have := congrArg (fun l => l[0]?) ht
        simpa [List.getElem?_take, List.getElem?_drop] using this
      have g1 : (a ++ [e] ++ [120] ++ TL.tl (numT (mnQ q)))[i + 1]? = some 120 := by
        have := congrArg (fun l => l[1]?) ht
        simpa [List.getElem?_take, List.getElem?_drop] using this
      rw [List.append_assoc, List.append_assoc] at g0 g1
      by_cases c1 : i + 1 < a.length
      · rw [List.getElem?_append_left c1] at g1
        exact absurd (List.mem_of_getElem? g1) a120
      · by_cases c2 : i + 1 = a.length
        · rw [List.getElem?_append_right (by omega), c2, Nat.sub_self] at g1
          exact absurd (Option.some.inj g1) e120
        · rw [List.getElem?_append_right (by omega)] at g0
          by_cases c3 : i = a.length
          · rw [c3, Nat.sub_self] at g0
            exact absurd (Option.some.inj g0) he
          · obtain ⟨k, hk⟩ : ∃ k, i - a.length = k + 1 := ⟨i - a.length - 1, by omega⟩
            rw [hk] at g0
            have g2 : (120 :: TL.tl (numT (mnQ q)))[k]? = some 32 := g0
            rcases List.mem_cons.mp (List.mem_of_getElem? g2) with z | z
            · omega
            · exact absurd z n32
theorem bentQ1 {y : Str} (hy : y ∈ midsQ) : BadQ (Txt.replace (txQ b q) " x " y) := by
  have ln := nt_len h
  have lm := mvl (b := b) h
  rw [replQ h]
  unfold midsQ at hy
  simp only [List.mem_cons, List.not_mem_nil, or_false] at hy
  have sm1 : ∀ e : Str, (∀ c ∈ TL.tl e, c ≠ 59 ∧ c ≠ 120 ∧ c < 1000) → ∀ c ∈ TL.tl (mvQ b q.1 q.2.1 ++ e), c ≠ 59 ∧ c ≠ 120 ∧ c < 1000 := fun e he c hc => (app_mem.mp hc).elim (mv_small (b := b) h c) (he c)
  rcases hy with rfl | rfl | rfl | rfl
  · have e : mvQ b q.1 q.2.1 ++ "  x " ++ numT (mnQ q) = (mvQ b q.1 q.2.1 ++ (" " ++ "")) ++ " x " ++ numT (mnQ q) := TL.ext_tl (by
      simp only [TL.tl_append, List.append_assoc, nil_tl, List.nil_append]
      rw [show TL.tl ("  x " : Str) = TL.tl (" " : Str) ++ TL.tl (" x " : Str) by decide +kernel, List.append_assoc])
    rw [e]
    exact bad_move h (sm1 _ (by decide +kernel)) (by rw [app_len, show ((" " : Str) ++ "").length = 1 by decide +kernel]; omega) (bad_end h.1 h.2.1 (v := .non) (.inl ⟨rfl, rfl⟩))
  · have sm : ∀ c ∈ TL.tl (mvQ b q.1 q.2.1 ++ "x" ++ numT (mnQ q)), c ≠ 59 ∧ c < 1000 := fun c hc => by
      rcases app_mem.mp hc with hc | hc
      · rcases app_mem.mp hc with hc | hc
        · have := mv_small (b := b) h c hc; exact ⟨this.1, this.2.2⟩
        · have : ∀ c ∈ TL.tl ("x" : Str), c ≠ 59 ∧ c < 1000 := by decide +kernel
          exact this c hc
      · have := nt_small h c hc; exact ⟨this.2.1, this.1⟩
    have l1 : ("x" : Str).length = 1 := by decide +kernel
    exact ⟨⟨Fr.of fun hm => (sm 59 hm).1 rfl, fun c hc => (sm c hc).2, by rw [app_len, app_len, l1]; omega⟩, pp_bad1 (single_x h) (.inl ⟨_, rfl⟩) (by rw [app_len, app_len, l1]; omega)⟩
  · have e : mvQ b q.1 q.2.1 ++ " x 0" ++ numT (mnQ q) = mvQ b q.1 q.2.1 ++ " x " ++ ("0" ++ numT (mnQ q)) := TL.ext_tl (by
      simp only [TL.tl_append, List.append_assoc]
      rw [show TL.tl (" x 0" : Str) = TL.tl (" x " : Str) ++ TL.tl ("0" : Str) by decide +kernel, List.append_assoc])
    have l0 : ("0" : Str).length = 1 := by decide +kernel
    have zs : ∀ c ∈ TL.tl ("0" ++ numT (mnQ q)), 48 ≤ c ∧ c ≤ 57 := fun c hc => (app_mem.mp hc).elim (fun hm => by rw [zero_tl] at hm; rw [List.mem_singleton.mp hm]; decide) (num_small (mn_ok h).1 c)
    have nz : f_number_in [.str ("0" ++ numT (mnQ q))] = .ok .non [none] := by
      obtain ⟨c, r, e, hc⟩ := num_head (mn_ok h).1
      exact number_zero zs (r := TL.tl (numT (mnQ q))) (by rw [TL.tl_append, zero_tl]; rfl) (by rw [e]; simp) (by rw [app_len, l0]; omega)
    rw [e]
    refine bad_many h (fun c hc => by have := zs c hc; omega) (Fr.of fun hm => (app_mem.mp hm).elim (mvx_59 h) fun hm => by have := zs 59 hm; omega) (.inr fun hm => by have := zs 32 hm; omega) (by rw [app_len, l0]; omega) nz
  · have e : mvQ b q.1 q.2.1 ++ " 7 x " ++ numT (mnQ q) = (mvQ b q.1 q.2.1 ++ (" " ++ "7")) ++ " x " ++ numT (mnQ q) := TL.ext_tl (by
      simp only [TL.tl_append, List.append_assoc]
      rw [show TL.tl (" 7 x " : Str) = TL.tl (" " : Str) ++ (TL.tl ("7" : Str) ++ TL.tl (" x " : Str)) by decide +kernel, List.append_assoc, List.append_assoc])
    rw [e]
    exact bad_move h (sm1 _ (by decide +kernel)) (by rw [app_len, show ((" " : Str) ++ "7").length = 2 by decide +kernel]; omega) (bad_end h.1 h.2.1 (v := .int 7) (.inr ⟨rfl, rfl⟩))
theorem bentQ3 {y : Str} (hy : y ∈ dashQ) : BadQ (Txt.replace1 (txQ b q) "-" y) := by
  obtain ⟨yl, _, ys⟩ := dashQ_len y hy
  have a := hd_len (b := b) h.1
  have c := tl_len (b := b) h.1 h.2.1
  have e : txQ b q = hdQ b q.1 ++ "-" ++ (tlQ b q.1 q.2.1 ++ " x " ++ numT (mnQ q)) := TL.ext_tl (by simp only [txQ, mvQ, TL.tl_append, List.append_assoc])
  have e2 : hdQ b q.1 ++ y ++ (tlQ b q.1 q.2.1 ++ " x " ++ numT (mnQ q)) = (hdQ b q.1 ++ y ++ tlQ b q.1 q.2.1) ++ " x " ++ numT (mnQ q) := TL.ext_tl (by simp only [TL.tl_append, List.append_assoc])
  rw [e, repl1_once (fun hm => (hd_small (b := b) h 45 hm).1 rfl), e2]
  refine bad_move h (fun x hx => ?_) (by rw [app_len, app_len]; omega) (bad_dash h.1 h.2.1 hy)
  rcases app_mem.mp hx with hx | hx
  · rcases app_mem.mp hx with hx | hx
    · exact (hd_small (b := b) h x hx).2
    · exact ys x hx
  · exact tl_small (b := b) h x hx
theorem bentQ4 : BadQ (" " ++ txQ b q) := by
  have lm := mvl (b := b) h
  have e : " " ++ txQ b q = (" " ++ mvQ b q.1 q.2.1) ++ " x " ++ numT (mnQ q) := TL.ext_tl (by simp only [txQ, TL.tl_append, List.append_assoc])
  rw [e]
  refine bad_move h (fun x hx => (app_mem.mp hx).elim (fun hx => ?_) (mv_small (b := b) h x)) (by rw [app_len, blank_len]; omega) (bad_start h.1 h.2.1)
  rw [blank_tl] at hx
  rw [List.mem_singleton.mp hx]
  decide
end
theorem bentQ2 {y : Str} (hy : y ∈ wordsQ) : BadQ y := by
  obtain ⟨h1, h2, h3, h4⟩ := wordsQ_prop y hy
  exact ⟨⟨Fr.of h1, h2, h3⟩, none_of h4⟩
theorem replN_of {y x z : Str} {mp mc : M D} {τ τ1 τ2 : List Sl} (h1 : mp τ = .ok (.str x) τ1) (h2 : mc τ1 = .ok (.str z) τ2) (hl : x.length + (x.length + 1) * z.length ≤ 16777216) (hz : (y == z) = false) : mReplN y mp mc τ = .ok (.str (Txt.replace1 x y z)) τ2 := by
  unfold mReplN
  rw [h1]
  show ((mc τ1).bind _) = _
  rw [h2]
  show Res.lift (if x.length + (x.length + 1) * z.length ≤ 16777216 ∧ (y == z) = false then some (D.str (Txt.replace1 x y z)) else none) τ2 = _
  rw [if_pos ⟨hl, hz⟩]
  rfl
abbrev B3 (d : D) (x : Str) (r : Int) : List Sl := [.io 0 d, .fz (.str x), .fz (.int r)]
theorem bentQ_ok {k : Int} {d : D} {b : Bool} {q : Q3} (h : Box k d) (hk : 2 ≤ k) (hq : okQ q) : ∃ (x : Str) (d' : D), f_bent [d, .str (txQ b q)] = .ok (.str x) [some d', none] ∧ BadQ x ∧ Box (k - 2) d' := by
  have lp := tx_len (b := b) hq
  obtain ⟨r, d1, r0, r5, h1, e1⟩ := take_draw (τ := [.fz (.str (txQ b q)), .un]) (mq := mC (.int 5)) (n := 5) h (by omega) (by decide) (by decide) rfl
  have s0 : b_bent_0 [.io 0 d, .fz (.str (txQ b q)), .un] = .nx (B3 d1 (txQ b q) r) := setX_of e1 rfl rfl rfl
  have go : ∀ (x : Str) (d' : D), mSeq b_bent_1 (mSeq b_bent_2 (mSeq b_bent_3 (mSeq b_bent_4 b_bent_5))) (B3 d1 (txQ b q) r) = .rt (.str x) (B3 d' (txQ b q) r) → f_bent [d, .str (txQ b q)] = .ok (.str x) [some d', none] := fun x d' e => by
    rw [f_bent, mkF_fin]
    show fin [true, false] (b_bent [.io 0 d, .fz (.str (txQ b q)), .un]) = _
    rw [b_bent, seq_of s0, e]
    rfl
  have t0 : ∀ (n m : Int) (d : D), n ≠ m → mB (mOp dEq (mVar 2) (mC (.int m))) (B3 d (txQ b q) n) = .ok false (B3 d (txQ b q) n) := fun n m d hn => bool_of (op_of (frz_of rfl) kC_of (by
    show ((if SeqAt.shaped (.int n) = true ∧ SeqAt.shaped (.int m) = true then some (PyData.eqv (.int n) (.int m)) else none).map D.bl) = _
    rw [if_pos ⟨rfl, rfl⟩]
    show some (D.bl (n == m)) = _
    rw [beq_false_of_ne hn]))
  have t1 : ∀ (n : Int) (d : D), mB (mOp dEq (mVar 2) (mC (.int n))) (B3 d (txQ b q) n) = .ok true (B3 d (txQ b q) n) := fun n d => bool_of (op_of (frz_of rfl) kC_of (by
    show ((if SeqAt.shaped (.int n) = true ∧ SeqAt.shaped (.int n) = true then some (PyData.eqv (.int n) (.int n)) else none).map D.bl) = _
    rw [if_pos ⟨rfl, rfl⟩]
    show some (D.bl (n == n)) = _
    rw [beq_self_eq_true]))
  have p1 : ∀ r, r ≠ 0 → b_bent_1 (B3 d1 (txQ b q) r) = .nx (B3 d1 (txQ b q) r) := fun r hr => by unfold b_bent_1; rw [ifF_of (t0 r 0 d1 hr)]; rfl
  have p2 : ∀ r, r ≠ 1 → b_bent_2 (B3 d1 (txQ b q) r) = .nx (B3 d1 (txQ b q) r) := fun r hr => by unfold b_bent_2; rw [ifF_of (t0 r 1 d1 hr)]; rfl
  have p3 : ∀ r, r ≠ 2 → b_bent_3 (B3 d1 (txQ b q) r) = .nx (B3 d1 (txQ b q) r) := fun r hr => by unfold b_bent_3; rw [ifF_of (t0 r 2 d1 hr)]; rfl
  have p4 : ∀ r, r ≠ 3 → b_bent_4 (B3 d1 (txQ b q) r) = .nx (B3 d1 (txQ b q) r) := fun r hr => by unfold b_bent_4; rw [ifF_of (t0 r 3 d1 hr)]; rfl
  have mul : ∀ y : Str, y.length ≤ 5 → (txQ b q).length + ((txQ b q).length + 1) * y.length ≤ 16777216 := fun y hy => by
    have := Nat.mul_le_mul (show (txQ b q).length + 1 ≤ 85 by omega) hy
    omega
  have hr : r = 0 ∨ r = 1 ∨ r = 2 ∨ r = 3 ∨ r = 4 := by omega
  rcases hr with rfl | rfl | rfl | rfl | rfl
  · obtain ⟨g, d2, hg, h2, e2⟩ := of_draw (τ := [.fz (.str (txQ b q)), .fz (.int 0)]) (mq := mLst (mCons (mC (.str "x")) (mCons (mC (.str ";")) (mCons (mC (.str " 1")) (mCons (mC (.str " x 1")) (mCons (mC (.str " ")) mNil)))))) (gs := endsQ.map .str) h1 (by omega) (by decide) (by decide) (.inl rfl) (by kernel_rfl)
    obtain ⟨y, hy, rfl⟩ := List.mem_map.mp hg
    have ly := endsQ_len y hy
    refine ⟨txQ b q ++ y, d2, go _ _ ?_, bentQ0 hq hy, h2.le (by omega)⟩
    refine seqR ?_
    unfold b_bent_1
    rw [ifT_of (t1 0 d1)]
    exact ret_of (op_of (frz_of rfl) e2 (add_str' (by omega)))
  · obtain ⟨g, d2, e2, hg, h2⟩ := ofS_ok (gs := midsQ.map .str) h1 (by omega) (by decide) (by decide)
    obtain ⟨y, hy, rfl⟩ := List.mem_map.mp hg
    obtain ⟨ly, ny⟩ := midsQ_len y hy
    have em : mOfL f_of 0 midsQ (B3 d1 (txQ b q) 1) = .ok (.str y) (B3 d2 (txQ b q) 1) := ioc2d kC_of e2
    refine ⟨Txt.replace (txQ b q) " x " y, d2, go _ _ ?_, bentQ1 hq hy, h2.le (by omega)⟩
    rw [seq_of (p1 1 (by decide))]
    refine seqR ?_
    unfold b_bent_2
    rw [ifT_of (t1 1 d1)]
    exact ret_of (repl_of (x := txQ b q) (frz_of rfl) em (mul y ly) ny)
  · obtain ⟨g, d2, hg, h2, e2⟩ := of_draw (τ := [.fz (.str (txQ b q)), .fz (.int 2)]) (mq := mLst (mCons (mC (.str "")) (mCons (mC (.str "-")) (mCons (mC (.str "a")) (mCons (mC (.str "new")) (mCons (mC (.str "new 1-1")) (mCons (mC (.str "new 2-1 x 1")) (mCons (mC (.str "all")) mNil)))))))) (gs := wordsQ.map .str) h1 (by omega) (by decide) (by decide) (.inl rfl) (by kernel_rfl)
    obtain ⟨y, hy, rfl⟩ := List.mem_map.mp hg
    refine ⟨y, d2, go _ _ ?_, bentQ2 hy, h2.le (by omega)⟩
    rw [seq_of (p1 2 (by decide)), seq_of (p2 2 (by decide))]
    refine seqR ?_
    unfold b_bent_3
    rw [ifT_of (t1 2 d1)]
    exact ret_of e2
  · obtain ⟨g, d2, e2, hg, h2⟩ := ofS_ok (gs := dashQ.map .str) h1 (by omega) (by decide) (by decide)
    obtain ⟨y, hy, rfl⟩ := List.mem_map.mp hg
    obtain ⟨ly, ny, _⟩ := dashQ_len y hy
    have em : mOfL f_of 0 dashQ (B3 d1 (txQ b q) 3) = .ok (.str y) (B3 d2 (txQ b q) 3) := ioc2d kC_of e2
    refine ⟨Txt.replace1 (txQ b q) "-" y, d2, go _ _ ?_, bentQ3 hq hy, h2.le (by omega)⟩
    rw [seq_of (p1 3 (by decide)), seq_of (p2 3 (by decide)), seq_of (p3 3 (by decide))]
    refine seqR ?_
    unfold b_bent_4
    rw [ifT_of (t1 3 d1)]
    exact ret_of (replN_of (x := txQ b q) (frz_of rfl) em (mul y (by omega)) ny)
  · refine ⟨" " ++ txQ b q, d1, go _ _ ?_, bentQ4 hq, h1.le (by omega)⟩
    rw [seq_of (p1 4 (by decide)), seq_of (p2 4 (by decide)), seq_of (p3 4 (by decide)), seq_of (p4 4 (by decide))]
    unfold b_bent_5
    exact ret_of (op_of kC_of (frz_of rfl) (add_str' (by rw [blank_len]; omega)))
end Sm
set_option Elab.async false
set_option linter.all false
set_option maxRecDepth 100000
set_option maxHeartbeats 400000
namespace Sm
open PySem PySem.Spec PyProof.Rows L2
abbrev tb04 : List (Nat × (List D → RF)) := [(1000001, f_paper_piece)]
theorem textQ_len {parts : List Str} (h : ∀ x ∈ parts, PartQ x) (hz : parts.length ≤ 50) : sumLen parts "; " ≤ 7600 :=
  sumLen_le (n := 50) (k := 152) hz fun x hx => by have := (h x hx).len; rw [semi_len]; omega
theorem textQ_okT {parts : List Str} (h : ∀ x ∈ parts, PartQ x) : okT (Txt.join "; " parts) = true := join_okT (by rw [semi_tl]; decide) fun x hx => (h x hx).lt
theorem textQ_cut {parts : List Str} (h : ∀ x ∈ parts, PartQ x) (h2 : 2 ≤ parts.length) : cutOf (Txt.join "; " parts) "; " = parts :=
  cutG (c := 32) (by rw [semi_tl]; simp) semi_k (by rw [semi_tl]; decide) (by decide) h2 fun p hp => by rw [semi_tl]; exact (h p hp).fr
theorem piecesQ_fine {b : Bool} {us : List Q3} (h : ∀ u ∈ us, okQ u) (hs : us.Pairwise fun p q => p.1 < q.1) (h2 : 2 ≤ us.length) (hz : us.length ≤ 50) :
    ∃ o, f_pieces_in [.str (Txt.join "; " (us.map (txQ b))), .str "; ", .obj 1000001 []] = .ok (.tup (us.map fun q => eR (rwQ b q))) o := by
  have hp : ∀ x ∈ us.map (txQ b), PartQ x := fun x hx => by obtain ⟨u, hu, rfl⟩ := List.mem_map.mp hx; exact .tx (h u hu)
  have hl := textQ_len hp (by rw [List.length_map]; exact hz)
  have hj := join_len "; " (us.map (txQ b))
  exact ⟨_, piecesK_of (tb := tb04) (c := 1) (r := 1000001) (fn := f_paper_piece) (tx := txQ b) (ky := ddQ b) (vl := fun q => eR (rwQ b q)) (kd := eD) (le := fun a b => dle (eD a) (eD b)) (cf := dLeN) le_deeds (by decide) rfl (textQ_okT hp) (textQ_cut hp (by rw [List.length_map]; exact h2)) semi_n
    (by omega) (by omega) (fun p q => ⟨_, piece_fine (h p q)⟩) (hs.imp fun {a c} q => (dle_lt q).1)⟩
theorem piecesQ_wrong {b : Bool} {ps : List Q3} {x : Str} {more : List Str} (h : ∀ u ∈ ps, okQ u) (hs : ps.Pairwise fun p q => p.1 < q.1) (hx0 : PartQ x) (hm : ∀ y ∈ more, PartQ y) (h2 : 2 ≤ ps.length + 1 + more.length) (hz : ps.length + 1 + more.length ≤ 50)
    (hx : (∃ o, f_paper_piece [.str x] = .ok .non o) ∨ ∃ o k v init l, f_paper_piece [.str x] = .ok (.tup [eD k, v]) o ∧ ps = init ++ [l] ∧ dle (eD k) (eD (ddQ b l)) = true) :
    f_pieces_in [.str (Txt.join "; " (ps.map (txQ b) ++ x :: more)), .str "; ", .obj 1000001 []] = .exc 1 [.exc 1 ["piece"] [.int (ps.length : Nat)]] := by
  have hp : ∀ y ∈ ps.map (txQ b) ++ x :: more, PartQ y := fun y hy => by
    rcases List.mem_append.mp hy with hy | hy
    · obtain ⟨u, hu, rfl⟩ := List.mem_map.mp hy; exact .tx (h u hu)
    · rcases List.mem_cons.mp hy with rfl | hy
      · exact hx0
      · exact hm y hy
  have hn : (ps.map (txQ b) ++ x :: more).length = ps.length + 1 + more.length := by rw [List.length_append, List.length_map, List.length_cons]; omega
  have hl := textQ_len hp (by omega)
  have hj := join_len "; " (ps.map (txQ b) ++ x :: more)
  exact pieces_bad (tb := tb04) (c := 1) (r := 1000001) (fn := f_paper_piece) (tx := txQ b) (ky := ddQ b) (vl := fun q => eR (rwQ b q)) (kd := eD) (le := fun a b => dle (eD a) (eD b)) (cf := dLeN) le_deeds (by decide) rfl (textQ_okT hp) (textQ_cut hp (by omega)) semi_n
    (by omega) (by omega) (fun p q => ⟨_, piece_fine (h p q)⟩) (hs.imp fun {a c} q => (dle_lt q).1) hx
theorem heardQ_ok {w : Str} {v : D} {o : List (Option D)} (e : f_pieces_in [.str w, .str "; ", .obj 1000001 []] = .ok v o) : f_heard [.str w, .bl true] = .ok v [none, none] := by
  have e2 : f_paper_in [.str w] = .ok v [none] := by
    rw [f_paper_in, mkF_fin]
    show fin [false] (b_paper_in [.fz (.str w)]) = _
    unfold b_paper_in
    rw [ret_of (call3_of (frz_of rfl) kC_of kC_of e)]
    rfl
  rw [f_heard, mkF_fin]
  show fin [false, false] (b_heard [.fz (.str w), .fz (.bl true), .un, .un, .un]) = _
  have s0 : b_heard_0 [.fz (.str w), .fz (.bl true), .un, .un, .un] = .nx [.fz (.str w), .fz (.bl true), .fz .non, .fz .non, .un] := rfl
  have s1 : b_heard_1 [.fz (.str w), .fz (.bl true), .fz .non, .fz .non, .un] = .nx [.fz (.str w), .fz (.bl true), .fz .non, .fz v, .un] := by
    unfold b_heard_1 mTry
    have t : mB (mVar 1) [.fz (.str w), .fz (.bl true), .fz .non, .fz .non, .un] = .ok true [.fz (.str w), .fz (.bl true), .fz .non, .fz .non, .un] := rfl
    have c : mIf (mB (mVar 1)) (mCall [false] f_paper_in 1 0 [0] [] (aV (mVar 0) aNil) mNil) (mCall [false] f_move_in 1 0 [0] [] (aV (mVar 0) aNil) mNil) [.fz (.str w), .fz (.bl true), .fz .non, .fz .non, .un] = .ok v [.fz (.str w), .fz (.bl true), .fz .non, .fz .non, .un] := by
      rw [if_of t]
      exact call1_of (frz_of rfl) e2
    rw [setX_of (i := 3) c rfl rfl rfl]
    rfl
  rw [b_heard, seq_of s0, seq_of s1]
  rfl
theorem heardQ_bad {w : Str} {i : Nat} (e : f_pieces_in [.str w, .str "; ", .obj 1000001 []] = .exc 1 [.exc 1 ["piece"] [.int i]]) : f_heard [.str w, .bl true] = .ok (.lst [.int i]) [none, none] := by
  have e2 : f_paper_in [.str w] = .exc 1 [.exc 1 ["piece"] [.int i]] := by
    rw [f_paper_in, mkF_fin]
    show fin [false] (b_paper_in [.fz (.str w)]) = _
    have c : mCall [false, false, false] f_pieces_in 3 0 [0, 1, 2] [] (aV (mVar 0) (aV (mC (.str "; ")) (aV (mC (.obj 1000001 [])) aNil))) mNil [.fz (.str w)] = .exc 1 [.exc 1 ["piece"] [.int i]] [.fz (.str w)] := by
      show callB none (f_pieces_in [.str w, .str "; ", .obj 1000001 []]) _ = _
      rw [e]; rfl
    have c2 : b_paper_in [.fz (.str w)] = .exc 1 [.exc 1 ["piece"] [.int i]] [.fz (.str w)] := by
      show (mCall [false, false, false] f_pieces_in 3 0 [0, 1, 2] [] (aV (mVar 0) (aV (mC (.str "; ")) (aV (mC (.obj 1000001 [])) aNil))) mNil [.fz (.str w)]).st _ = _
      rw [c]; rfl
    rw [c2]; rfl
  rw [f_heard, mkF_fin]
  show fin [false, false] (b_heard [.fz (.str w), .fz (.bl true), .un, .un, .un]) = _
  have s0 : b_heard_0 [.fz (.str w), .fz (.bl true), .un, .un, .un] = .nx [.fz (.str w), .fz (.bl true), .fz .non, .fz .non, .un] := rfl
  have s1 : b_heard_1 [.fz (.str w), .fz (.bl true), .fz .non, .fz .non, .un] = .nx [.fz (.str w), .fz (.bl true), .fz (.exc 1 ["piece"] [.int i]), .fz .non, .un] := by
    unfold b_heard_1 mTry
    have t : mB (mVar 1) [.fz (.str w), .fz (.bl true), .fz .non, .fz .non, .un] = .ok true [.fz (.str w), .fz (.bl true), .fz .non, .fz .non, .un] := rfl
    have c0 : mIf (mB (mVar 1)) (mCall [false] f_paper_in 1 0 [0] [] (aV (mVar 0) aNil) mNil) (mCall [false] f_move_in 1 0 [0] [] (aV (mVar 0) aNil) mNil) [.fz (.str w), .fz (.bl true), .fz .non, .fz .non, .un] = .exc 1 [.exc 1 ["piece"] [.int i]] [.fz (.str w), .fz (.bl true), .fz .non, .fz .non, .un] := by
      rw [if_of t]
      show callB none (f_paper_in [.str w]) _ = _
      rw [e2]; rfl
    have c : mSet 3 (mIf (mB (mVar 1)) (mCall [false] f_paper_in 1 0 [0] [] (aV (mVar 0) aNil) mNil) (mCall [false] f_move_in 1 0 [0] [] (aV (mVar 0) aNil) mNil)) [.fz (.str w), .fz (.bl true), .fz .non, .fz .non, .un] = .exc 1 [.exc 1 ["piece"] [.int i]] [.fz (.str w), .fz (.bl true), .fz .non, .fz .non, .un] := by
      show (mIf (mB (mVar 1)) (mCall [false] f_paper_in 1 0 [0] [] (aV (mVar 0) aNil) mNil) (mCall [false] f_move_in 1 0 [0] [] (aV (mVar 0) aNil) mNil) [.fz (.str w), .fz (.bl true), .fz .non, .fz .non, .un]).st _ = _
      rw [c0]; rfl
    rw [c]
    rfl
  rw [b_heard, seq_of s0, seq_of s1]
  rfl
theorem sum_lim8 : ∀ {xs : List Int}, (∀ x ∈ xs, 0 ≤ x ∧ x < 9) → 0 ≤ xs.sum ∧ xs.sum ≤ 8 * xs.length
  | [], _ => by simp
  | x :: xs, h => by
    have a := h x List.mem_cons_self
    have b := sum_lim8 fun z hz => h z (List.mem_cons_of_mem _ hz)
    rw [List.sum_cons, List.length_cons]
    omega
theorem tk_lim8 {xs : List Int} (h : ∀ x ∈ xs, 0 ≤ x ∧ x < 9) {i : Nat} (hi : i < 5) : 0 ≤ tkW xs i ∧ tkW xs i < 37 := by
  have := sum_lim8 (xs := xs.take i) fun z hz => h z (List.mem_of_mem_take hz)
  have hz : (xs.take i).length ≤ i := by rw [List.length_take]; omega
  unfold tkW
  omega
def tnQ (xs : List Int) (i : Nat) : Nat := (tkW xs i).toNat
structure Upto4 (xs : List Int) (us : List Q3) : Prop where
  tk : us.map (·.1) = (List.range us.length).map (tnQ xs)
  rm : ∀ u ∈ us, u.2.1 < 5 ∧ u.2.2 < 12
theorem Upto4.snoc {xs : List Int} {us : List Q3} (h : Upto4 xs us) {r : Nat × Nat} (hr : r.1 < 5 ∧ r.2 < 12) : Upto4 xs (us ++ [(tnQ xs us.length, r)]) := by
  refine ⟨?_, fun u hu => ?_⟩
  · rw [List.map_append, h.tk, List.length_append, List.length_singleton, List.range_succ, List.map_append]
    rfl
  · rcases List.mem_append.mp hu with hu | hu
    · exact h.rm u hu
    · rw [List.mem_singleton.mp hu]; exact hr
theorem Upto4.at {xs : List Int} {us : List Q3} (h : Upto4 xs us) (hx : ∀ x ∈ xs, 0 ≤ x ∧ x < 9) (hu : us.length ≤ 5) : ∀ u ∈ us, okQ u := fun u m => by
  have : u.1 ∈ us.map (·.1) := List.mem_map_of_mem m
  rw [h.tk] at this
  obtain ⟨i, hi, e⟩ := List.mem_map.mp this
  have hi := List.mem_range.mp hi
  obtain ⟨a, b⟩ := tk_lim8 hx (i := i) (by omega)
  have := h.rm u m
  unfold tnQ at e
  exact ⟨by omega, this⟩
theorem Upto4.pw {xs : List Int} {us : List Q3} (h : Upto4 xs us) (hx : ∀ x ∈ xs, 0 ≤ x ∧ x < 9) (hu : us.length ≤ 5) : us.Pairwise fun p q => p.1 < q.1 := by
  have : (us.map (·.1)).Pairwise (· < ·) := by
    rw [h.tk, List.pairwise_map]
    refine List.Pairwise.imp_of_mem (fun {i j} hi hj hij => ?_) List.pairwise_lt_range
    have hi := List.mem_range.mp hi
    have hj := List.mem_range.mp hj
    have a := tk_lim8 hx (i := i) (by omega)
    have b := tk_lim8 hx (i := j) (by omega)
    have c := tk_lt hx hij
    unfold tnQ
    omega
  exact List.pairwise_map.mp this
abbrev Z4 (d : D) (xs : List Int) (ps : List Str) (w : Str) (s4 s5 s6 s7 : Sl) : List Sl := [.io 0 d, .fz (.lst (xs.map .int)), .ow (.lst (ps.map .str)), .fz (.str w), s4, s5, s6, s7, .un]
theorem q0 {k : Int} {d : D} (h : Box k d) (hk : 6 ≤ k) : ∃ (xs : List Int) (d' : D), b_case_right_0 [.io 0 d, .un, .un, .un, .un, .un, .un, .un, .un] = .nx [.io 0 d', .fz (.lst (xs.map .int)), .ow (.lst []), .un, .un, .un, .un, .un, .un] ∧ (∀ x ∈ xs, 0 ≤ x ∧ x < 9) ∧ 2 ≤ xs.length ∧ xs.length ≤ 5 ∧ Box (k - 6) d' := by
  obtain ⟨m, d1, m0, m1, h1, e1⟩ := take_draw (τ := [.un, .un, .un, .un, .un, .un, .un, .un]) (mq := mC (.int 4)) (n := 4) h (by omega) (by decide) (by decide) rfl
  have il : (iota (2 + m)).length = (2 + m).toNat := by rw [iota_len]
  obtain ⟨vals, d2, e2, hv, hl, h2⟩ := drawsW (j := 8) (n := 9) (by decide) (by decide) (S := fun _ => [.un, .un, .un, .un, .un, .un, .un, .un]) (U := fun x _ => [.un, .un, .un, .un, .un, .un, .un, .fz x]) (mq := mC (.int 9)) (fun _ _ => rfl) (fun _ _ => ⟨rfl, fun _ => rfl⟩) (fun _ _ => rfl) (fun _ _ => rfl) ((iota (2 + m)).map .int) (k - 1) d1 h1 (by rw [List.length_map, il]; omega)
  rw [List.length_map, il] at hl
  rw [List.length_map, il] at h2
  have lc := lc_go (S0 := [.io 0 d, .un, .un, .un, .un, .un, .un, .un, .un]) (vs := [8]) (mi := mOns rng1 (mCons (mOp dAdd (mC (.int 2)) (mCall [true, false] f_take 2 0 [0, 1] [] (aIo 0 (aV (mC (.int 4)) aNil)) mNil)) mNil)) (ons_of (cons_of (op_of kC_of e1 (show dAdd (.int 2) (.int m) = some (.int (2 + m)) from rfl)) nil_of) (rng1_of (by omega) (by omega))) (by rw [List.length_map, il]; omega) (by rfl) e2
  refine ⟨vals, d2, ?_, hv, by omega, by omega, h2.le (by omega)⟩
  show (Res.st (mLc _ _ _ _ _ _) _) = _
  rw [lc]
  rfl
theorem q1 {k : Int} {d : D} {xs : List Int} (h : Box k d) (hk : 1 ≤ k) : ∃ (b : Bool) (d' : D), b_case_right_1 [.io 0 d, .fz (.lst (xs.map .int)), .ow (.lst []), .un, .un, .un, .un, .un, .un] = .nx (Z4 d' xs [] (wdQ b) .un .un .un .un) ∧ Box (k - 1) d' := by
  obtain ⟨g, d1, hg, h1, e1⟩ := of_draw (τ := [.fz (.lst (xs.map .int)), .ow (.lst []), .un, .un, .un, .un, .un, .un]) (mq := mLst (mCons (mC (.str "new")) (mCons (mC (.str "split")) mNil))) (gs := (["new", "split"] : List Str).map .str) h (by omega) (by decide) (by decide) (.inl rfl) (by rfl)
  have : ∃ b, g = .str (wdQ b) := by
    simp only [List.map_cons, List.map_nil, List.mem_cons, List.not_mem_nil, or_false] at hg
    rcases hg with rfl | rfl
    · exact ⟨false, rfl⟩
    · exact ⟨true, rfl⟩
  obtain ⟨b, rfl⟩ := this
  exact ⟨b, d1, setX_of e1 rfl rfl rfl, h1⟩
def bodyQ : MS := (mSeq (mSet 5 (mOp dAdd (mFn dSum (mCons (mSlP 1 oNone (oSome (mVar 4))) mNil)) (mVar 4)))
    (mSeq (mSet 6 (mOp dAdd (mOp dAdd (mVar 5) (mC (.int 1))) (mCall [true, false] f_take 2 0 [0, 1] [] (aIo 0 (aV (mC (.int 5)) aNil)) mNil)))
    (mSeq (mSet 7 (mOp dAdd (mLst (mCons (mVar 3) (mCons (mOp dAdd (mOp dAdd (mFn dStr (mCons (mVar 5) mNil)) (mC (.str "-"))) (mFn dStr (mCons (mVar 6) mNil))) mNil))) (mIf (mB (mOp dEq (mVar 3) (mC (.str "split")))) (mLst (mCons (mFn dStr (mCons (mVar 5) mNil)) mNil)) (mLst mNil))))
    (mDrop (mApp 2 (mOp dAdd (mOp dAdd (mTxt1 dJoin (mC (.str " ")) (mVar 7)) (mC (.str " x "))) (mFn dStr (mCons (mOp dAdd (mC (.int 1)) (mCall [true, false] f_take 2 0 [0, 1] [] (aIo 0 (aV (mC (.int 12)) aNil)) mNil)) mNil))))))))
def wsQ (b : Bool) (l j : Nat) : List Str := wdQ b :: (loQ l ++ "-" ++ hiQ l j) :: (if b = true then [loQ l] else [])
theorem ws_join (b : Bool) (l j : Nat) : Txt.join " " (wsQ b l j) = mvQ b l j := by
  refine TL.ext_tl ?_
  rw [mv_words]
  cases b
  · show TL.tl (Txt.join " " ["new", spanT (pQ l j)]) = _
    rw [join_tl2]
    simp only [Bool.false_eq_true, if_false, List.append_nil]
    rfl
  · show TL.tl (Txt.join " " ["split", spanT (pQ l j), loQ l]) = _
    rw [join_tl3]
    simp only [if_true]
    rfl
theorem eq_split (b : Bool) : dEq (.str (wdQ b)) (.str "split") = some (.bl b) := by cases b <;> kernel_rfl
theorem turnQ {k : Int} {d : D} {b : Bool} {xs : List Int} {us : List Q3} {s5 s6 s7 : Sl} (h : Box k d) (hk : 2 ≤ k) (hx : ∀ x ∈ xs, 0 ≤ x ∧ x < 9) (hi : us.length < 5) (f5 : s5.free = true) (f6 : s6.free = true) (f7 : s7.free = true) :
    ∃ (r : Nat × Nat) (d' z5 z6 z7 : D), bodyQ (Z4 d xs (us.map (txQ b)) (wdQ b) (.fz (.int (us.length : Nat))) s5 s6 s7) = .nx (Z4 d' xs ((us ++ [(tnQ xs us.length, r)]).map (txQ b)) (wdQ b) (.fz (.int (us.length : Nat))) (.fz z5) (.fz z6) (.fz z7)) ∧ (r.1 < 5 ∧ r.2 < 12) ∧ Box (k - 2) d' := by
  obtain ⟨a, c⟩ := tk_lim8 hx hi
  have el : tkW xs us.length = ((tnQ xs us.length : Nat) : Int) := by unfold tnQ; omega
  generalize hT : tnQ xs us.length = l at *
  have hl : l < 37 := by omega
  have e5 : mSet 5 (mOp dAdd (mFn dSum (mCons (mSlP 1 oNone (oSome (mVar 4))) mNil)) (mVar 4)) (Z4 d xs (us.map (txQ b)) (wdQ b) (.fz (.int (us.length : Nat))) s5 s6 s7) = .nx (Z4 d xs (us.map (txQ b)) (wdQ b) (.fz (.int (us.length : Nat))) (.fz (.int (l : Nat))) s6 s7) := by
    have e : dSl none (some ((us.length : Nat) : Int)) (.lst (xs.map .int)) = some (.lst ((xs.take us.length).map .int)) := by
      show some (D.lst (cutD (xs.map D.int) none (some (us.length : Int)))) = _
      rw [cut_to, List.map_take]
    refine setX_of (d := .int (l : Nat)) (op_of (fn1_of (slW_of (x := .lst (xs.map .int)) rfl rfl e) (sum_ints _)) (frz_of rfl) ?_) rfl f5 rfl
    rw [← el]
    rfl
  obtain ⟨j, d1, j0, j5, h1, ej⟩ := take_draw (τ := [.fz (.lst (xs.map .int)), .ow (.lst ((us.map (txQ b)).map .str)), .fz (.str (wdQ b)), .fz (.int (us.length : Nat)), .fz (.int (l : Nat)), s6, s7, .un]) (mq := mC (.int 5)) (n := 5) h (by omega) (by decide) (by decide) rfl
  obtain ⟨j, rfl⟩ : ∃ i : Nat, j = (i : Nat) := ⟨j.toNat, by omega⟩
  have e6 : mSet 6 (mOp dAdd (mOp dAdd (mVar 5) (mC (.int 1))) (mCall [true, false] f_take 2 0 [0, 1] [] (aIo 0 (aV (mC (.int 5)) aNil)) mNil)) (Z4 d xs (us.map (txQ b)) (wdQ b) (.fz (.int (us.length : Nat))) (.fz (.int (l : Nat))) s6 s7) = .nx (Z4 d1 xs (us.map (txQ b)) (wdQ b) (.fz (.int (us.length : Nat))) (.fz (.int (l : Nat))) (.fz (.int (l + 1 + j : Nat))) s7) :=
    setX_of (d := .int (l + 1 + j : Nat)) (op_of (op_of (frz_of rfl) kC_of rfl) ej (show dAdd (.int ((l : Nat) + 1)) (.int (j : Nat)) = some (.int (l + 1 + j : Nat)) by show some (D.int ((l : Int) + 1 + (j : Int))) = _; congr 2)) rfl f6 rfl
  have n1 := num_len (n := l) (by omega)
  have n2 := num_len (n := l + 1 + j) (by omega)
  have tt : ∀ d s7, mB (mOp dEq (mVar 3) (mC (.str "split"))) (Z4 d xs (us.map (txQ b)) (wdQ b) (.fz (.int (us.length : Nat))) (.fz (.int (l : Nat))) (.fz (.int (l + 1 + j : Nat))) s7) = .ok b (Z4 d xs (us.map (txQ b)) (wdQ b) (.fz (.int (us.length : Nat))) (.fz (.int (l : Nat))) (.fz (.int (l + 1 + j : Nat))) s7) := fun d s7 => bool_of (op_of (frz_of rfl) kC_of (eq_split b))
  have sl : mFn dStr (mCons (mVar 5) mNil) (Z4 d1 xs (us.map (txQ b)) (wdQ b) (.fz (.int (us.length : Nat))) (.fz (.int (l : Nat))) (.fz (.int (l + 1 + j : Nat))) s7) = .ok (.str (loQ l)) (Z4 d1 xs (us.map (txQ b)) (wdQ b) (.fz (.int (us.length : Nat))) (.fz (.int (l : Nat))) (.fz (.int (l + 1 + j : Nat))) s7) := fn1_of (frz_of rfl) (str_int (big40 (by omega)))
  have sh : mFn dStr (mCons (mVar 6) mNil) (Z4 d1 xs (us.map (txQ b)) (wdQ b) (.fz (.int (us.length : Nat))) (.fz (.int (l : Nat))) (.fz (.int (l + 1 + j : Nat))) s7) = .ok (.str (hiQ l j)) (Z4 d1 xs (us.map (txQ b)) (wdQ b) (.fz (.int (us.length : Nat))) (.fz (.int (l : Nat))) (.fz (.int (l + 1 + j : Nat))) s7) := fn1_of (frz_of rfl) (str_int (big40 (by omega)))
  have ll : (loQ l).length ≤ 40 := n1
  have lh : (hiQ l j).length ≤ 40 := n2
  have e7 : mSet 7 (mOp dAdd (mLst (mCons (mVar 3) (mCons (mOp dAdd (mOp dAdd (mFn dStr (mCons (mVar 5) mNil)) (mC (.str "-"))) (mFn dStr (mCons (mVar 6) mNil))) mNil))) (mIf (mB (mOp dEq (mVar 3) (mC (.str "split")))) (mLst (mCons (mFn dStr (mCons (mVar 5) mNil)) mNil)) (mLst mNil))) (Z4 d1 xs (us.map (txQ b)) (wdQ b) (.fz (.int (us.length : Nat))) (.fz (.int (l : Nat))) (.fz (.int (l + 1 + j : Nat))) s7) = .nx (Z4 d1 xs (us.map (txQ b)) (wdQ b) (.fz (.int (us.length : Nat))) (.fz (.int (l : Nat))) (.fz (.int (l + 1 + j : Nat))) (.fz (.lst ((wsQ b l j).map .str)))) := by
    have ea : mLst (mCons (mVar 3) (mCons (mOp dAdd (mOp dAdd (mFn dStr (mCons (mVar 5) mNil)) (mC (.str "-"))) (mFn dStr (mCons (mVar 6) mNil))) mNil)) (Z4 d1 xs (us.map (txQ b)) (wdQ b) (.fz (.int (us.length : Nat))) (.fz (.int (l : Nat))) (.fz (.int (l + 1 + j : Nat))) s7) = .ok (.lst [.str (wdQ b), .str (loQ l ++ "-" ++ hiQ l j)]) (Z4 d1 xs (us.map (txQ b)) (wdQ b) (.fz (.int (us.length : Nat))) (.fz (.int (l : Nat))) (.fz (.int (l + 1 + j : Nat))) s7) :=
      lst_of (cons_of (frz_of rfl) (cons_of (op_of (op_of sl kC_of (add_str' (by rw [dash_len]; omega))) sh (add_str' (by rw [app_len, dash_len]; omega))) nil_of)) (by show 2 ≤ 16000000; decide)
    have eb : mIf (mB (mOp dEq (mVar 3) (mC (.str "split")))) (mLst (mCons (mFn dStr (mCons (mVar 5) mNil)) mNil)) (mLst mNil) (Z4 d1 xs (us.map (txQ b)) (wdQ b) (.fz (.int (us.length : Nat))) (.fz (.int (l : Nat))) (.fz (.int (l + 1 + j : Nat))) s7) = .ok (.lst ((if b = true then [loQ l] else []).map .str)) (Z4 d1 xs (us.map (txQ b)) (wdQ b) (.fz (.int (us.length : Nat))) (.fz (.int (l : Nat))) (.fz (.int (l + 1 + j : Nat))) s7) := by
      rw [if_of (tt d1 s7)]
      cases b
      · rfl
      · exact lst_of (cons_of sl nil_of) (by show 1 ≤ 16000000; decide)
    refine setX_of (op_of ea eb (z := .lst ((wsQ b l j).map .str)) ?_) rfl f7 rfl
    cases b <;> rfl
  obtain ⟨m, d2, m0, m1, h2, em⟩ := take_draw (τ := [.fz (.lst (xs.map .int)), .ow (.lst ((us.map (txQ b)).map .str)), .fz (.str (wdQ b)), .fz (.int (us.length : Nat)), .fz (.int (l : Nat)), .fz (.int (l + 1 + j : Nat)), .fz (.lst ((wsQ b l j).map .str)), .un]) (mq := mC (.int 12)) (n := 12) h1 (by omega) (by decide) (by decide) rfl
  obtain ⟨m, rfl⟩ : ∃ i : Nat, m = (i : Nat) := ⟨m.toNat, by omega⟩
  have hq : okQ (l, j, m) := ⟨hl, by show j < 5; omega, by show m < 12; omega⟩
  have lm := mvl (b := b) hq
  have ln := nt_len hq
  have lm : (mvQ b l j).length ≤ 41 := lm
  have jn : joinD " " ((wsQ b l j).map .str) = some (.str (mvQ b l j)) := by
    have w6 : (wdQ b).length ≤ 6 := by cases b <;> decide +kernel
    rw [← ws_join]
    refine joinD_ok (Nat.le_trans (sumLen_le (n := 3) (k := 100) ?_ ?_) (by decide))
    · cases b
      · show 2 ≤ 3; decide
      · show 3 ≤ 3; decide
    · intro x hx
      rw [blank_len]
      unfold wsQ at hx
      rcases List.mem_cons.mp hx with rfl | hx
      · omega
      · rcases List.mem_cons.mp hx with rfl | hx
        · rw [app_len, app_len, dash_len]; omega
        · cases b
          · cases hx
          · rw [List.mem_singleton.mp hx]; omega
  have e8 : mOp dAdd (mOp dAdd (mTxt1 dJoin (mC (.str " ")) (mVar 7)) (mC (.str " x "))) (mFn dStr (mCons (mOp dAdd (mC (.int 1)) (mCall [true, false] f_take 2 0 [0, 1] [] (aIo 0 (aV (mC (.int 12)) aNil)) mNil)) mNil)) (Z4 d1 xs (us.map (txQ b)) (wdQ b) (.fz (.int (us.length : Nat))) (.fz (.int (l : Nat))) (.fz (.int (l + 1 + j : Nat))) (.fz (.lst ((wsQ b l j).map .str)))) = .ok (.str (txQ b (l, j, m))) (Z4 d2 xs (us.map (txQ b)) (wdQ b) (.fz (.int (us.length : Nat))) (.fz (.int (l : Nat))) (.fz (.int (l + 1 + j : Nat))) (.fz (.lst ((wsQ b l j).map .str)))) := by
    refine op_of (op_of (txt1_of kC_of (frz_of rfl) jn) kC_of (add_str' (by rw [times_len]; omega))) (fn1_of (x := .int (mnQ (l, j, m))) (op_of kC_of em (show dAdd (.int 1) (.int (m : Nat)) = some (.int (mnQ (l, j, m))) by show some (D.int (1 + (m : Int))) = some (D.int ((m + 1 : Nat) : Int)); congr 2; omega)) (str_int (mn_ok hq).1)) (add_str' (by rw [app_len, times_len]; omega))
  refine ⟨(j, m), d2, .int (l : Nat), .int (l + 1 + j : Nat), .lst ((wsQ b l j).map .str), ?_, ⟨by show j < 5; omega, by show m < 12; omega⟩, h2.le (by omega)⟩
  unfold bodyQ
  rw [seq_of e5, seq_of e6, seq_of e7]
  refine appX_of (i := 2) (ds := (us.map (txQ b)).map .str) (ds' := (us.map (txQ b)).map .str) rfl e8 rfl (by simp only [List.length_map]; omega) ?_
  have me : ((us ++ [(l, (j, m))]).map (txQ b)).map D.str = (us.map (txQ b)).map .str ++ [D.str (txQ b (l, j, m))] := by rw [List.map_append, List.map_append]; rfl
  unfold Z4
  rw [me]
  rfl
theorem loopQ {b : Bool} {xs : List Int} (hx : ∀ x ∈ xs, 0 ≤ x ∧ x < 9) : ∀ (n : Nat) (us : List Q3) (k : Int) (d : D) (s4 s5 s6 s7 : Sl), us.length + (n + 1) ≤ 5 → Upto4 xs us → Box k d → 2 * ((n : Int) + 1) ≤ k → s4.free = true → s5.free = true → s6.free = true → s7.free = true →
    ∃ (us' : List Q3) (d' z4 z5 z6 z7 : D), mLoop (gN 4) bodyQ ((List.range' us.length (n + 1)).map fun i : Nat => D.int i) (Z4 d xs (us.map (txQ b)) (wdQ b) s4 s5 s6 s7) = .nx (Z4 d' xs (us'.map (txQ b)) (wdQ b) (.fz z4) (.fz z5) (.fz z6) (.fz z7)) ∧ us'.length = us.length + (n + 1) ∧ Upto4 xs us' ∧ Box (k - 2 * (n + 1)) d'
  | n, us, k, d, s4, s5, s6, s7, hn, hu, h, hk, f4, f5, f6, f7 => by
    obtain ⟨r, d1, z5, z6, z7, e, hr, h1⟩ := turnQ (b := b) (us := us) (s5 := s5) (s6 := s6) (s7 := s7) h (by omega) hx (by omega) f5 f6 f7
    have g : gN 4 (.int (us.length : Nat)) (Z4 d xs (us.map (txQ b)) (wdQ b) s4 s5 s6 s7) = some (Z4 d xs (us.map (txQ b)) (wdQ b) (.fz (.int (us.length : Nat))) s5 s6 s7) := by
      show (if s4.free = true then some _ else none) = _
      rw [if_pos f4]
      rfl
    have st : mLoop (gN 4) bodyQ ((List.range' us.length (n + 1)).map fun i : Nat => D.int i) (Z4 d xs (us.map (txQ b)) (wdQ b) s4 s5 s6 s7) = mLoop (gN 4) bodyQ ((List.range' (us ++ [(tnQ xs us.length, r)]).length n).map fun i : Nat => D.int i) (Z4 d1 xs ((us ++ [(tnQ xs us.length, r)]).map (txQ b)) (wdQ b) (.fz (.int (us.length : Nat))) (.fz z5) (.fz z6) (.fz z7)) := by
      rw [List.range'_succ, List.map_cons, List.length_append, List.length_singleton]
      exact loopW_cons g e
    match n with
    | 0 => exact ⟨us ++ [(tnQ xs us.length, r)], d1, _, _, _, _, by rw [st]; rfl, by rw [List.length_append]; rfl, hu.snoc hr, h1.le (by omega)⟩
    | n + 1 =>
      have hla : (us ++ [(tnQ xs us.length, r)]).length = us.length + 1 := by rw [List.length_append]; rfl
      obtain ⟨us', d', z4, z5', z6', z7', e', hl', hu', h'⟩ := loopQ hx n (us ++ [(tnQ xs us.length, r)]) (k - 2) d1 (.fz (.int (us.length : Nat))) (.fz z5) (.fz z6) (.fz z7) (by omega) (hu.snoc hr) h1 (by omega) rfl rfl rfl rfl
      exact ⟨us', d', z4, z5', z6', z7', by rw [st]; exact e', by omega, hu', h'.le (by omega)⟩
theorem q2 {k : Int} {d : D} {b : Bool} {xs : List Int} (h : Box k d) (hk : 10 ≤ k) (hx : ∀ x ∈ xs, 0 ≤ x ∧ x < 9) (h2 : 2 ≤ xs.length) (hl : xs.length ≤ 5) :
    ∃ (us : List Q3) (d' z4 z5 z6 z7 : D), b_case_right_2 (Z4 d xs [] (wdQ b) .un .un .un .un) = .nx (Z4 d' xs (us.map (txQ b)) (wdQ b) (.fz z4) (.fz z5) (.fz z6) (.fz z7)) ∧ us.length = xs.length ∧ Upto4 xs us ∧ Box (k - 10) d' := by
  obtain ⟨us, d', z4, z5, z6, z7, e, hn, hu, hb⟩ := loopQ (b := b) hx (xs.length - 1) [] k d .un .un .un .un (by rw [List.length_nil]; omega) ⟨rfl, fun u hu => nomatch hu⟩ h (by omega) rfl rfl rfl rfl
  refine ⟨us, d', z4, z5, z6, z7, ?_, by rw [hn, List.length_nil]; omega, hu, hb.le (by omega)⟩
  have r1 : rng1 [.int (xs.length : Nat)] = some ((List.range' 0 (xs.length - 1 + 1)).map fun i : Nat => D.int i) := by
    rw [rng1_of (by omega) (by omega)]
    unfold iota
    rw [Int.toNat_natCast, List.map_map, List.range_eq_range', show xs.length - 1 + 1 = xs.length by omega]
    rfl
  have it : mOns rng1 (mCons (mFn dLen (mCons (mVar 1) mNil)) mNil) (Z4 d xs [] (wdQ b) .un .un .un .un) = .ok ((List.range' 0 (xs.length - 1 + 1)).map fun i : Nat => D.int i) (Z4 d xs [] (wdQ b) .un .un .un .un) :=
    ons_of (cons_of (fn1_of (x := .lst (xs.map .int)) (frz_of rfl) (z := .int (xs.length : Nat)) (by show some (D.int _) = _; rw [List.length_map])) nil_of) r1
  unfold b_case_right_2
  rw [for_of it]
  exact e
end Sm
set_option Elab.async false
set_option linter.all false
set_option maxRecDepth 100000
set_option maxHeartbeats 400000
namespace Sm
open PySem PySem.Spec PyProof.Rows L2
theorem bare_yes : (f_bare_right []).yes = true := by decide +kernel
theorem hand_yes : (f_by_hand_right []).yes = true := by decide +kernel
end Sm
set_option Elab.async false
set_option linter.all false
set_option maxRecDepth 100000
set_option maxHeartbeats 400000
namespace Sm
open PySem PySem.Spec PyProof.Rows L2
abbrev ZQ (d : D) (b : Bool) (xs : List Int) (ps : List Str) (z4 z5 z6 z7 : D) : List Sl := [.io 0 d, .fz (.lst (xs.map .int)), .ow (.lst (ps.map .str)), .fz (.str (wdQ b)), .fz z4, .fz z5, .fz z6, .fz z7, .un]
theorem gixQ {d : D} {b : Bool} {xs : List Int} {ps : List Str} {z4 z5 z6 z7 : D} {mi : M D} {k : Nat} {x : Str} (h2 : mi (ZQ d b xs ps z4 z5 z6 z7) = .ok (.int (k : Nat)) (ZQ d b xs ps z4 z5 z6 z7)) (hk : k < ps.length) : gIx 2 mi (.str x) (ZQ d b xs ps z4 z5 z6 z7) = some (ZQ d b xs (ps.set k x) z4 z5 z6 z7) := by
  have e : (ps.map D.str).set k (.str x) = (ps.set k x).map D.str := (List.map_set ..).symm
  rw [gixW (k := k) (ds := ps.map .str) rfl h2 (by rw [List.length_map]; exact hk)]
  show some [Sl.io 0 d, .fz (.lst (xs.map .int)), .ow (.lst ((ps.map D.str).set k (.str x))), .fz (.str (wdQ b)), .fz z4, .fz z5, .fz z6, .fz z7, .un] = _
  rw [e]
theorem rw_noL (b : Bool) : ∀ us : List Q3, D.noLs (us.map fun q => eR (rwQ b q)) = true
  | [] => rfl
  | u :: us => by
    show (D.noL (eR (rwQ b u)) && D.noLs (us.map fun q => eR (rwQ b q))) = true
    rw [rw_noL b us, Bool.and_true]
    cases b <;> rfl
theorem q3 {k : Int} {d : D} {b : Bool} {xs : List Int} {us : List Q3} {z4 z5 z6 z7 : D} (h : Box k d) (hu : ∀ u ∈ us, okQ u) (hs : us.Pairwise fun p q => p.1 < q.1) (h2 : 2 ≤ us.length) (hz : us.length ≤ 50) :
    b_case_right_3 (ZQ d b xs (us.map (txQ b)) z4 z5 z6 z7) = .nx (ZQ d b xs (us.map (txQ b)) z4 z5 z6 z7) := by
  obtain ⟨o, e⟩ := piecesQ_fine (b := b) hu hs h2 hz
  have e1 := heardQ_ok e
  have hp : ∀ x ∈ us.map (txQ b), PartQ x := fun x hx => by obtain ⟨u, hm, rfl⟩ := List.mem_map.mp hx; exact .tx (hu u hm)
  have j := joinD_ok (g := "; ") (xs := us.map (txQ b)) (by have := textQ_len hp (by rw [List.length_map]; exact hz); omega)
  have q : mLend 2 (mCall [false, false] f_heard 2 0 [0, 1] [] (aV (mTxt1 dJoin (mC (.str "; ")) (mVar 2)) (aV (mC (.bl true)) aNil)) mNil) (ZQ d b xs (us.map (txQ b)) z4 z5 z6 z7) = .ok (.tup (us.map fun q => eR (rwQ b q))) (ZQ d b xs (us.map (txQ b)) z4 z5 z6 z7) := by
    refine lend_ok (τ1 := (ZQ d b xs (us.map (txQ b)) z4 z5 z6 z7).set 2 (.fz (.lst ((us.map (txQ b)).map .str)))) rfl (call2_of (txt1_of kC_of (frz_of rfl) j) kC_of e1) (rw_noL b us) ?_
    show ((((if ownL d = true then some (Sl.io 0 d) else none).bind _)).map _) = _
    rw [if_pos (box_own h)]
    rfl
  unfold b_case_right_3
  rw [ifF_of (bool_of (fn1_of q (show dIsi "list" [.tup (us.map fun q => eR (rwQ b q))] = some (.bl false) from rfl)))]
  rfl
theorem q6 {d : D} {b : Bool} {xs : List Int} {ps : List Str} {m : Nat} {z5 z6 z7 : D} (hl : sumLen ps "; " ≤ 16000000) (e : f_pieces_in [.str (Txt.join "; " ps), .str "; ", .obj 1000001 []] = .exc 1 [.exc 1 ["piece"] [.int (m : Nat)]]) :
    ∃ s2, b_case_right_6 (ZQ d b xs ps (.int (m : Nat)) z5 z6 z7) = .rt (.bl true) [.io 0 d, .fz (.lst (xs.map .int)), s2, .fz (.str (wdQ b)), .fz (.int (m : Nat)), .fz z5, .fz z6, .fz z7, .un] := by
  have e1 := heardQ_bad e
  have j := joinD_ok (g := "; ") (xs := ps) hl
  obtain ⟨o, sm⟩ := same_one (m : Nat)
  refine ⟨.fz (.lst (ps.map .str)), ?_⟩
  unfold b_case_right_6
  exact ret_of (call2_of (call2_of (txt1_of kC_of (y := .lst (ps.map .str)) (τ2 := (ZQ d b xs ps (.int (m : Nat)) z5 z6 z7).set 2 (.fz (.lst (ps.map .str)))) rfl j) kC_of e1) (lst_of (cons_of (frz_of rfl) nil_of) (by show 1 ≤ 16000000; decide)) sm)
theorem textQ_bent {b : Bool} {us : List Q3} {m : Nat} {x : Str} (hu : ∀ u ∈ us, okQ u) (hs : us.Pairwise fun p q => p.1 < q.1) (h2 : 2 ≤ us.length) (hz : us.length ≤ 50) (hm : m < us.length) (hx : BadQ x) :
    f_pieces_in [.str (Txt.join "; " ((us.map (txQ b)).set m x)), .str "; ", .obj 1000001 []] = .exc 1 [.exc 1 ["piece"] [.int (m : Nat)]] := by
  have e : (us.map (txQ b)).set m x = (us.take m).map (txQ b) ++ x :: (us.drop (m + 1)).map (txQ b) := by
    rw [List.set_eq_take_append_cons_drop, if_pos (by rw [List.length_map]; exact hm), List.map_take, List.map_drop]
  have lt : (us.take m).length = m := by rw [List.length_take]; omega
  have ld : ((us.drop (m + 1)).map (txQ b)).length = us.length - (m + 1) := by rw [List.length_map, List.length_drop]
  have w := piecesQ_wrong (b := b) (ps := us.take m) (x := x) (more := (us.drop (m + 1)).map (txQ b)) (fun u q => hu u (List.mem_of_mem_take q)) (hs.sublist (List.take_sublist _ _)) hx.part
    (fun y hy => by obtain ⟨u, q, rfl⟩ := List.mem_map.mp hy; exact .tx (hu u (List.mem_of_mem_drop q))) (by omega) (by omega) (.inl ⟨_, hx.bad⟩)
  rw [e, w, lt]
theorem textQ_swap {b : Bool} {A R : List Q3} {u v : Q3} (hu : ∀ w ∈ A ++ u :: v :: R, okQ w) (hs : (A ++ u :: v :: R).Pairwise fun p q => p.1 < q.1) (hz : (A ++ u :: v :: R).length ≤ 50) :
    f_pieces_in [.str (Txt.join "; " ((((A ++ u :: v :: R).map (txQ b)).set A.length (txQ b v)).set (A.length + 1) (txQ b u))), .str "; ", .obj 1000001 []] = .exc 1 [.exc 1 ["piece"] [.int ((A.length + 1 : Nat) : Int)]] := by
  have e : (((A ++ u :: v :: R).map (txQ b)).set A.length (txQ b v)).set (A.length + 1) (txQ b u) = (A ++ [v]).map (txQ b) ++ txQ b u :: R.map (txQ b) := by
    rw [List.map_append, List.map_append, List.set_append_right _ _ (by rw [List.length_map]; exact Nat.le_refl _), List.length_map, Nat.sub_self, List.set_append_right _ _ (by rw [List.length_map]; omega), List.length_map, show A.length + 1 - A.length = 1 by omega, List.append_assoc]
    rfl
  obtain ⟨p1, p2, p3⟩ := List.pairwise_append.mp hs
  obtain ⟨q1, q2⟩ := List.pairwise_cons.mp p2
  have hl : (A ++ [v]).length = A.length + 1 := by rw [List.length_append]; rfl
  have hz' : A.length + 2 + R.length ≤ 50 := by
    rw [List.length_append, List.length_cons, List.length_cons] at hz
    omega
  have hR : (R.map (txQ b)).length = R.length := List.length_map ..
  have hu0 := hu u (List.mem_append_right _ List.mem_cons_self)
  have w := piecesQ_wrong (b := b) (ps := A ++ [v]) (x := txQ b u) (more := R.map (txQ b)) (fun w q => hu w (by
      rcases List.mem_append.mp q with q | q
      · exact List.mem_append_left _ q
      · rw [List.mem_singleton.mp q]; exact List.mem_append_right _ (List.mem_cons_of_mem _ List.mem_cons_self)))
    (List.pairwise_append.mpr ⟨p1, List.pairwise_singleton .., fun a ha c hc => p3 a ha c (by rw [List.mem_singleton.mp hc]; exact List.mem_cons_of_mem _ List.mem_cons_self)⟩)
    (.tx hu0) (fun y hy => by obtain ⟨w, q, rfl⟩ := List.mem_map.mp hy; exact .tx (hu w (List.mem_append_right _ (List.mem_cons_of_mem _ (List.mem_cons_of_mem _ q))))) (by omega) (by omega)
    (.inr ⟨_, ddQ b u, eR (rwQ b u), A, v, piece_fine hu0, rfl, (dle_lt (q1 v List.mem_cons_self)).2⟩)
  rw [e, w, hl]
theorem setQ_sum {ps : List Str} (h : ∀ x ∈ ps, PartQ x) (hz : ps.length ≤ 50) : sumLen ps "; " ≤ 16000000 := Nat.le_trans (textQ_len h hz) (by decide)
theorem q5 {k : Int} {d : D} {b : Bool} {xs : List Int} {us : List Q3} {m : Nat} {z5 z6 z7 : D} (h : Box k d) (hk : 4 ≤ k) (hU : ∀ u ∈ us, okQ u) (hs : us.Pairwise fun p q => p.1 < q.1) (h2 : 2 ≤ us.length) (hz : us.length ≤ 5) (hm : m < us.length) :
    ∃ (ps : List Str) (d' : D) (n : Nat), b_case_right_5 (ZQ d b xs (us.map (txQ b)) (.int (m : Nat)) z5 z6 z7) = .nx (ZQ d' b xs ps (.int (n : Nat)) z5 z6 z7) ∧ Box (k - 4) d' ∧ sumLen ps "; " ≤ 16000000 ∧
      f_pieces_in [.str (Txt.join "; " ps), .str "; ", .obj 1000001 []] = .exc 1 [.exc 1 ["piece"] [.int (n : Nat)]] := by
  have hp : ∀ x ∈ us.map (txQ b), PartQ x := fun x hx => by obtain ⟨u, q, rfl⟩ := List.mem_map.mp hx; exact .tx (hU u q)
  obtain ⟨r, d1, r0, r3, h1, e1⟩ := take_draw (τ := [.fz (.lst (xs.map .int)), .ow (.lst ((us.map (txQ b)).map .str)), .fz (.str (wdQ b)), .fz (.int (m : Nat)), .fz z5, .fz z6, .fz z7, .un]) (mq := mC (.int 3)) (n := 3) h (by omega) (by decide) (by decide) rfl
  have t : mB (mOp dGt (mCall [true, false] f_take 2 0 [0, 1] [] (aIo 0 (aV (mC (.int 3)) aNil)) mNil) (mC (.int 0))) (ZQ d b xs (us.map (txQ b)) (.int (m : Nat)) z5 z6 z7) = .ok (decide (0 < r)) (ZQ d1 b xs (us.map (txQ b)) (.int (m : Nat)) z5 z6 z7) := bool_of (op_of e1 kC_of rfl)
  by_cases c : 0 < r
  · rw [decide_eq_true c] at t
    obtain ⟨x, d2, e2, hb, h3⟩ := bentQ_ok (b := b) h1 (by omega) (hU us[m] (List.getElem_mem hm))
    have ix : dIx (.lst ((us.map (txQ b)).map .str)) (.int (m : Nat)) = some (.str (txQ b us[m])) := by
      show L2.atI ((us.map (txQ b)).map D.str) ((m : Nat) : Int) = _
      exact atI_nat (by rw [List.getElem?_map, List.getElem?_map, List.getElem?_eq_getElem hm]; rfl)
    have cb : mCall [true, false] f_bent 2 0 [0, 1] [] (aIo 0 (aV (mPk 2 dIx (mVar 4)) aNil)) mNil (ZQ d1 b xs (us.map (txQ b)) (.int (m : Nat)) z5 z6 z7) = .ok (.str x) (ZQ d2 b xs (us.map (txQ b)) (.int (m : Nat)) z5 z6 z7) :=
      ioc2d (pk_of (a := .lst ((us.map (txQ b)).map .str)) (x := .lst ((us.map (txQ b)).map .str)) rfl (frz_of rfl) rfl ix) e2
    refine ⟨(us.map (txQ b)).set m x, d2, m, ?_, h3.le (by omega), setQ_sum (fun y hy => (mem_set hy).elim (hp y) fun z => by rw [z]; exact hb.part) (by rw [List.length_set, List.length_map]; omega), textQ_bent hU hs h2 (by omega) hm hb⟩
    unfold b_case_right_5
    rw [ifT_of t]
    exact asg_of cb (gixQ (frz_of rfl) (by rw [List.length_map]; exact hm))
  · rw [decide_eq_false c] at t
    have ln : mOp dSub (mFnP dLen 2) (mC (.int 1)) (ZQ d1 b xs (us.map (txQ b)) (.int (m : Nat)) z5 z6 z7) = .ok (.int ((us.length : Nat) - 1)) (ZQ d1 b xs (us.map (txQ b)) (.int (m : Nat)) z5 z6 z7) := by
      refine op_of (x := .int (us.length : Nat)) (τ1 := ZQ d1 b xs (us.map (txQ b)) (.int (m : Nat)) z5 z6 z7) ?_ kC_of rfl
      show Res.lift (some (D.int (((us.map (txQ b)).map D.str).length : Nat))) _ = _
      rw [List.length_map, List.length_map]
      rfl
    obtain ⟨q, d2, q0, q1, h3, e2⟩ := take_draw (τ := [.fz (.lst (xs.map .int)), .ow (.lst ((us.map (txQ b)).map .str)), .fz (.str (wdQ b)), .fz (.int (m : Nat)), .fz z5, .fz z6, .fz z7, .un]) (mq := mOp dSub (mFnP dLen 2) (mC (.int 1))) (n := (us.length : Nat) - 1) h1 (by omega) (by omega) (by omega) ln
    obtain ⟨i, rfl⟩ : ∃ i : Nat, q = (i : Nat) := ⟨q.toNat, by omega⟩
    have hi : i + 1 < us.length := by omega
    have dec : ∃ A u v R, us = A ++ u :: v :: R ∧ A.length = i := by
      refine ⟨us.take i, us[i], us[i + 1], us.drop (i + 2), ?_, by rw [List.length_take]; omega⟩
      rw [← List.drop_eq_getElem_cons hi, ← List.drop_eq_getElem_cons (by omega : i < us.length), List.take_append_drop]
    obtain ⟨A, u, v, R, rfl, hl⟩ := dec
    have i1 : ∀ (ps : List Str) (p : Str) (j : Nat), ps[j]? = some p → dIx (.lst (ps.map .str)) (.int (j : Nat)) = some (.str p) := fun ps p j e => by
      show L2.atI (ps.map D.str) ((j : Nat) : Int) = _
      exact atI_nat (by rw [List.getElem?_map, e]; rfl)
    have gu : ((A ++ u :: v :: R).map (txQ b))[i]? = some (txQ b u) := by rw [List.getElem?_map, List.getElem?_append_right (by omega), hl, Nat.sub_self]; rfl
    have gv : ((A ++ u :: v :: R).map (txQ b))[i + 1]? = some (txQ b v) := by rw [List.getElem?_map, List.getElem?_append_right (by omega), hl, show i + 1 - i = 1 by omega]; rfl
    have s4 : mSet 4 (mOp dAdd (mC (.int 1)) (mCall [true, false] f_take 2 0 [0, 1] [] (aIo 0 (aV (mOp dSub (mFnP dLen 2) (mC (.int 1))) aNil)) mNil)) (ZQ d1 b xs ((A ++ u :: v :: R).map (txQ b)) (.int (m : Nat)) z5 z6 z7) = .nx (ZQ d2 b xs ((A ++ u :: v :: R).map (txQ b)) (.int ((i + 1 : Nat) : Int)) z5 z6 z7) :=
      setX_of (op_of kC_of e2 (show dAdd (.int 1) (.int (i : Nat)) = some (.int ((i + 1 : Nat) : Int)) by show some (D.int (1 + (i : Int))) = _; congr 2; omega)) rfl rfl rfl
    have m1 : ∀ (d : D) (ps : List Str), mOp dSub (mVar 4) (mC (.int 1)) (ZQ d b xs ps (.int ((i + 1 : Nat) : Int)) z5 z6 z7) = .ok (.int (i : Nat)) (ZQ d b xs ps (.int ((i + 1 : Nat) : Int)) z5 z6 z7) := fun d ps =>
      op_of (frz_of rfl) kC_of (by show some (D.int (((i + 1 : Nat) : Int) - 1)) = _; congr 2; omega)
    refine ⟨(((A ++ u :: v :: R).map (txQ b)).set i (txQ b v)).set (i + 1) (txQ b u), d2, i + 1, ?_, h3.le (by omega), ?_, ?_⟩
    · unfold b_case_right_5
      rw [ifF_of t, seq_of s4]
      refine asg_of (d := .tup [.str (txQ b v), .str (txQ b u)]) (τ1 := ZQ d2 b xs ((A ++ u :: v :: R).map (txQ b)) (.int ((i + 1 : Nat) : Int)) z5 z6 z7) (tup_of (cons_of (pk_of (a := .lst (((A ++ u :: v :: R).map (txQ b)).map .str)) (x := .lst (((A ++ u :: v :: R).map (txQ b)).map .str)) rfl (frz_of rfl) rfl (i1 _ _ _ gv)) (cons_of (pk_of (a := .lst (((A ++ u :: v :: R).map (txQ b)).map .str)) (x := .lst (((A ++ u :: v :: R).map (txQ b)).map .str)) rfl (m1 _ _) rfl (i1 _ _ _ gu)) nil_of)) (by show 2 ≤ 16000000; decide)) ?_
      show (gIx 2 (mOp dSub (mVar 4) (mC (.int 1))) (.str (txQ b v)) (ZQ d2 b xs ((A ++ u :: v :: R).map (txQ b)) (.int ((i + 1 : Nat) : Int)) z5 z6 z7)).bind (fun τ => (gIx 2 (mVar 4) (.str (txQ b u)) τ).bind (Sm.gNil [])) = _
      rw [gixQ (k := i) (m1 _ _) (by rw [List.length_map]; omega)]
      show (gIx 2 (mVar 4) (.str (txQ b u)) (ZQ d2 b xs (((A ++ u :: v :: R).map (txQ b)).set i (txQ b v)) (.int ((i + 1 : Nat) : Int)) z5 z6 z7)).bind (Sm.gNil []) = _
      rw [gixQ (k := i + 1) (frz_of rfl) (by rw [List.length_set, List.length_map]; omega)]
      rfl
    · refine setQ_sum (fun y hy => ?_) (by rw [List.length_set, List.length_set, List.length_map]; omega)
      have hu0 := hU u (List.mem_append_right _ List.mem_cons_self)
      have hv0 := hU v (List.mem_append_right _ (List.mem_cons_of_mem _ List.mem_cons_self))
      rcases mem_set hy with hy | rfl
      · rcases mem_set hy with hy | rfl
        · exact hp y hy
        · exact .tx hv0
      · exact .tx hu0
    · subst hl
      exact textQ_swap hU hs (by omega)
theorem case_ok {k : Int} {d : D} (h : Box k d) (hk : 30 ≤ k) : ∃ d', f_case_right [d] = .ok (.bl true) [some d'] ∧ Box (k - 30) d' := by
  obtain ⟨xs, d0, e0, hx, x2, x5, h0⟩ := q0 h (by omega)
  obtain ⟨b, d1, e1, h1⟩ := q1 (xs := xs) h0 (by omega)
  obtain ⟨us, d2, z4, z5, z6, z7, e2, hn, hu, h2⟩ := q2 (b := b) h1 (by omega) hx x2 x5
  have hU := hu.at hx (by omega)
  have hs := hu.pw hx (by omega)
  have e3 := q3 (b := b) (xs := xs) (z4 := z4) (z5 := z5) (z6 := z6) (z7 := z7) h2 hU hs (by omega) (by omega)
  have ln : mFnP dLen 2 (ZQ d2 b xs (us.map (txQ b)) z4 z5 z6 z7) = .ok (.int (us.length : Nat)) (ZQ d2 b xs (us.map (txQ b)) z4 z5 z6 z7) := by
    show Res.lift (some (D.int (((us.map (txQ b)).map D.str).length : Nat))) _ = _
    rw [List.length_map, List.length_map]
    rfl
  obtain ⟨m, d3, m0, m1, h3, e4⟩ := take_draw (τ := [.fz (.lst (xs.map .int)), .ow (.lst ((us.map (txQ b)).map .str)), .fz (.str (wdQ b)), .fz z4, .fz z5, .fz z6, .fz z7, .un]) (mq := mFnP dLen 2) (n := (us.length : Nat)) h2 (by omega) (by omega) (by omega) ln
  obtain ⟨m, rfl⟩ : ∃ i : Nat, m = (i : Nat) := ⟨m.toNat, by omega⟩
  have e4 : b_case_right_4 (ZQ d2 b xs (us.map (txQ b)) z4 z5 z6 z7) = .nx (ZQ d3 b xs (us.map (txQ b)) (.int (m : Nat)) z5 z6 z7) := setX_of e4 rfl rfl rfl
  obtain ⟨ps, d4, n, e5, h4, hl, ep⟩ := q5 (b := b) (xs := xs) (m := m) (z5 := z5) (z6 := z6) (z7 := z7) h3 (by omega) hU hs (by omega) (by omega) (by omega)
  obtain ⟨s2, e6⟩ := q6 (d := d4) (b := b) (xs := xs) (z5 := z5) (z6 := z6) (z7 := z7) hl ep
  refine ⟨d4, ?_, h4.le (by omega)⟩
  rw [f_case_right, mkF_fin]
  show fin [true] (b_case_right [.io 0 d, .un, .un, .un, .un, .un, .un, .un, .un]) = _
  rw [b_case_right, seq_of e0, seq_of e1, seq_of e2, seq_of e3, seq_of e4, seq_of e5, e6]
  rfl
theorem right_ok (k : Nat) (d : D) (h : Box ((k + 1000 : Nat) : Int) d) : ∃ d', f_right [d] = .ok (.bl true) [some d'] ∧ Box (k : Nat) d' := by
  have l4 : (iota 4).length = 4 := by decide
  obtain ⟨ys, d2, e2, y2, _, h2⟩ := lcI_end (g := gN 2) (tt := mYes) (m := mCall [true] f_case_right 1 0 [0] [] (aIo 0 aNil) mNil) (vs := [2]) (f := D.int) (S := fun d => [.io 0 d, .fz (.bl true), .un]) (I := fun n d => Box ((k : Nat) + 30 * (n : Nat)) d) (Y := fun y => y = .bl true) (iota 4) (by
    intro x _ n s hB
    obtain ⟨d', e, hb⟩ := case_ok hB (by omega)
    have c : mCall [true] f_case_right 1 0 [0] [] (aIo 0 aNil) mNil [.io 0 s, .fz (.bl true), .fz (.int x)] = .ok (.bl true) [.io 0 d', .fz (.bl true), .fz (.int x)] := by
      show callB (some (0, 0)) (f_case_right [s]) [.io 0 s, .fz (.bl true), .fz (.int x)] = _
      rw [e]; rfl
    refine ⟨_, d', ?_, rfl, hb.le (by omega)⟩
    unfold lcOne
    rw [show gN 2 (.int x) [.io 0 s, .fz (.bl true), .un] = some [.io 0 s, .fz (.bl true), .fz (.int x)] from rfl]
    show ((mCall [true] f_case_right 1 0 [0] [] (aIo 0 aNil) mNil [.io 0 s, .fz (.bl true), .fz (.int x)]).bind fun y => fun τ => Res.ok (some y) (Sm.wipeS τ [2])) = _
    rw [c]
    rfl) 0 d (h.le (by rw [l4]; omega)) (by rw [l4]; decide) rfl
  have lc : mLc (mOns rng1 (mCons (mC (.int 4)) mNil)) (gN 2) mYes (mCall [true] f_case_right 1 0 [0] [] (aIo 0 aNil) mNil) [2] [.io 0 d, .fz (.bl true), .un] = .ok (.lst ys) [.io 0 d2, .fz (.bl true), .un] := by
    rw [ev_lc, ons_of (cons_of (ma := mC (.int 4)) kC_of nil_of) (rng1_of (by decide) (by decide))]
    exact e2
  have s0 : b_right_0 [.io 0 d, .un, .un] = .nx [.io 0 d, .fz (.bl true), .un] := setX_of (andVT_of (hand_of bare_yes _) rfl (hand_of hand_yes _)) rfl rfl rfl
  refine ⟨d2, ?_, h2.le (by omega)⟩
  rw [f_right, mkF_fin]
  refine Eq.trans (if_pos rfl) ?_
  show fin [true] (b_right [.io 0 d, .un, .un]) = _
  rw [b_right, seq_of s0]
  unfold b_right_1
  rw [ret_of (andVT_of (frz_of rfl) rfl (fn1_of lc (all_yes y2)))]
  rfl
theorem law_true (ns : List Int) (h : ns.length ≤ 63) : (f_law [.scr (ns.map .int)]).yes = true := by
  obtain ⟨cs, cl, ne, e1⟩ := cells_of h
  have b := boxes_of (c := 61704) (w := 1000) (by decide) (by decide) (by decide) right_ok (cs := cs) (by omega) (s := .scr (ns.map .int))
  rw [f_law, mkF_fin]
  show (fin [false] (b_law [.fz (.scr (ns.map .int)), .un, .un])).yes = true
  unfold b_law b_law_0 b_law_1
  rw [seq_of (set_of' (e1 _ _) rfl rfl)]
  show (fin [false] (mRet _ [.fz (.scr (ns.map .int)), .fz (.lst (cs.map .int)), .un])).yes = true
  rw [ret_of b]
  rfl
end Sm
set_option Elab.async false
set_option linter.all false
set_option maxRecDepth 100000
set_option maxHeartbeats 400000
namespace Sm
open PySem PySem.Spec PyProof.Rows L2
end Sm
open PySem PySem.W PyProof.Rows
set_option maxHeartbeats 0 in
theorem PySem.Challenge.cw_staysmet_k04_wrong_texts_of_moves_holds : PySem.Challenge.rw_staysmet_k04_wrong_texts_of_moves.Holds := by
  w_on; o_law; k_head; (case hw => w_witness2)
  k_fill
  refine L2.walk_of (l := PySem.Challenge.rw_staysmet_k04_wrong_texts_of_moves) (n := 63) (k := 12) (x := "_law_script") (CX := fun w => L2.CX PySem.Challenge.rw_staysmet_k04_wrong_texts_of_moves.prog w) (sp := fun w => Sm.spAny _ w PySem.Challenge.rw_staysmet_k04_wrong_texts_of_moves.prog) rfl (by decide) rfl ⟨rfl, by decide, by decide⟩ (fun w h Y => PySem.W.kIn_of Y) ?F (fun w H a ns hl _ hS C => Sm.law_sp (Sm.law_true ns hl) hS) (fun w H s e s' h => Sm.noCX w H s e s' h)
  case F =>
    intro w mg fa h KX G hmg
    refine' Sm.all_mk KX G hmg ?mg_BadText ?tc_BadText ?hd_BadText ?lx_BadText ?rv_BadText ?sa_BadText ?ga_BadText ?gg_BadText ?ca_BadText ?eb_BadText ?kc_BadText ?cm_BadText ?cn_BadText ?ct_BadText ?xa_BadText ?xt_BadText ?no_BadText_piece ?ss_BadText ?n_is_number ?l_is_number ?c_is_number ?k_is_number ?n_number_in ?l_number_in ?c_number_in ?k_number_in ?n_is_tick ?l_is_tick ?c_is_tick ?k_is_tick ?n_is_stay ?l_is_stay ?c_is_stay ?k_is_stay ?n_lies_in ?l_lies_in ?c_lies_in ?k_lies_in ?n_size_of ?l_size_of ?c_size_of ?k_size_of ?n_is_wider ?l_is_wider ?c_is_wider ?k_is_wider ?n_is_move ?l_is_move ?c_is_move ?k_is_move ?n_stay_of ?l_stay_of ?c_stay_of ?k_stay_of ?n_part_of ?l_part_of ?c_part_of ?k_part_of ?n_move_of ?l_move_of ?c_move_of ?k_move_of ?n_many_of ?l_many_of ?c_many_of ?k_many_of ?n_paper_piece ?l_paper_piece ?c_paper_piece ?k_paper_piece ?l_BadText___init__ ?c_BadText___init__ ?k_BadText___init__ ?n_pieces_in ?l_pieces_in ?c_pieces_in ?k_pieces_in ?n_sole ?l_sole ?c_sole ?k_sole ?n_move_in ?l_move_in ?c_move_in ?k_move_in ?n_paper_in ?l_paper_in ?c_paper_in ?k_paper_in ?n_box ?l_box ?c_box ?k_box ?n_take ?l_take ?c_take ?k_take ?n_cells ?l_cells ?c_cells ?k_cells ?n_of ?l_of ?c_of ?k_of ?n_same_o ?l_same_o ?c_same_o ?k_same_o ?n_heard ?l_heard ?c_heard ?k_heard ?n_bare_right ?l_bare_right ?c_bare_right ?k_bare_right ?n_by_hand_right ?l_by_hand_right ?c_by_hand_right ?k_by_hand_right ?n_bent ?l_bent ?c_bent ?k_bent ?n_case_right ?l_case_right ?c_case_right ?k_case_right ?n_right ?l_right ?c_right ?k_right ?n_law ?l_law ?c_law ?k_law ?v_BETWEEN ?v_BLANK ?v_DIGITS ?v_NOTHING ?v_PAIR_stays ?v_PAIR_texts ?v_STROKE ?v_TIMES ?v_TRIPLE ?z_abs ?z_all ?z_bool ?z_enumerate ?z_int ?z_isinstance ?z_len ?z_list ?z_range ?z_str ?z_sum ?z_tuple ?z_zip
    (case mg_BadText => k_is); (case tc_BadText => k_is); (case hd_BadText => k_is); (case lx_BadText => k_is); (case rv_BadText => rfl); (case sa_BadText => k_is); (case ga_BadText => k_is); (case gg_BadText => k_is); (case ca_BadText => k_is); (case eb_BadText => k_is); (case kc_BadText => k_is); (case cm_BadText => k_is); (case cn_BadText => k_is); (case ct_BadText => k_is); (case xa_BadText => k_is); (case xt_BadText => k_is); (case no_BadText_piece => k_is); (case ss_BadText => k_is); (case n_is_number => k_is); (case l_is_number => k_is); (case c_is_number => k_is); (case k_is_number => k_is); (case n_number_in => k_is); (case l_number_in => k_is); (case c_number_in => k_is); (case k_number_in => k_is); (case n_is_tick => k_is); (case l_is_tick => k_is); (case c_is_tick => k_is); (case k_is_tick => k_is); (case n_is_stay => k_is); (case l_is_stay => k_is); (case c_is_stay => k_is); (case k_is_stay => k_is); (case n_lies_in => k_is); (case l_lies_in => k_is); (case c_lies_in => k_is); (case k_lies_in => k_is); (case n_size_of => k_is); (case l_size_of => k_is); (case c_size_of => k_is); (case k_size_of => k_is); (case n_is_wider => k_is); (case l_is_wider => k_is); (case c_is_wider => k_is); (case k_is_wider => k_is); (case n_is_move => k_is); (case l_is_move => k_is); (case c_is_move => k_is); (case k_is_move => k_is); (case n_stay_of => k_is); (case l_stay_of => k_is); (case c_stay_of => k_is); (case k_stay_of => k_is); (case n_part_of => k_is); (case l_part_of => k_is); (case c_part_of => k_is); (case k_part_of => k_is); (case n_move_of => k_is); (case l_move_of => k_is); (case c_move_of => k_is); (case k_move_of => k_is); (case n_many_of => k_is); (case l_many_of => k_is); (case c_many_of => k_is); (case k_many_of => k_is); (case n_paper_piece => k_is); (case l_paper_piece => k_is); (case c_paper_piece => k_is); (case k_paper_piece => k_is); (case l_BadText___init__ => k_is); (case c_BadText___init__ => k_is); (case k_BadText___init__ => k_is); (case n_pieces_in => k_is); (case l_pieces_in => k_is); (case c_pieces_in => k_is); (case k_pieces_in => k_is); (case n_sole => k_is); (case l_sole => k_is); (case c_sole => k_is); (case k_sole => k_is); (case n_move_in => k_is); (case l_move_in => k_is); (case c_move_in => k_is); (case k_move_in => k_is); (case n_paper_in => k_is); (case l_paper_in => k_is); (case c_paper_in => k_is); (case k_paper_in => k_is); (case n_box => k_is); (case l_box => k_is); (case c_box => k_is); (case k_box => k_is); (case n_take => k_is); (case l_take => k_is); (case c_take => k_is); (case k_take => k_is); (case n_cells => k_is); (case l_cells => k_is); (case c_cells => k_is); (case k_cells => k_is); (case n_of => k_is); (case l_of => k_is); (case c_of => k_is); (case k_of => k_is); (case n_same_o => k_is); (case l_same_o => k_is); (case c_same_o => k_is); (case k_same_o => k_is); (case n_heard => k_is); (case l_heard => k_is); (case c_heard => k_is); (case k_heard => k_is); (case n_bare_right => k_is); (case l_bare_right => k_is); (case c_bare_right => k_is); (case k_bare_right => k_is); (case n_by_hand_right => k_is); (case l_by_hand_right => k_is); (case c_by_hand_right => k_is); (case k_by_hand_right => k_is); (case n_bent => k_is); (case l_bent => k_is); (case c_bent => k_is); (case k_bent => k_is); (case n_case_right => k_is); (case l_case_right => k_is); (case c_case_right => k_is); (case k_case_right => k_is); (case n_right => k_is); (case l_right => k_is); (case c_right => k_is); (case k_right => k_is); (case n_law => k_is); (case l_law => k_is); (case c_law => k_is); (case k_law => k_is); (case v_BETWEEN => k_is); (case v_BLANK => k_is); (case v_DIGITS => k_is); (case v_NOTHING => k_is); (case v_PAIR_stays => k_is); (case v_PAIR_texts => k_is); (case v_STROKE => k_is); (case v_TIMES => k_is); (case v_TRIPLE => k_is); (case z_abs => k_is); (case z_all => k_is); (case z_bool => k_is); (case z_enumerate => k_is); (case z_int => k_is); (case z_isinstance => k_is); (case z_len => k_is); (case z_list => k_is); (case z_range => k_is); (case z_str => k_is); (case z_sum => k_is); (case z_tuple => k_is); (case z_zip => k_is)
