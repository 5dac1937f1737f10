import PyProof.Rows.All
import Wide.All
import OpenK.AllK
import Wide.FinOn
import KE.KStateDown
import Lean
import HandS.Base
import HandS.Call
import HandS.Ends
import HandS.More
import HandS.Words
import HandS.WordsExc
import HandS.Defaults
import HandS.ForMost
import HandS.Flow
import HandS.IsInst
import HandS.WideMore
import HandS.EndBits
import HandS.Head0
import HandS.Head1
import HandS.Head2
import HandS.HeadEnd
import HandS.HeadHook1
import HandS.HeadHook2
import HandS.TryOnly
import HandS.Conv
import KE.KDictCopyH
import KE.SortData
import HandS.ExcInit
import HandS.ExcField
import HandS.ForExc
import HandS.ClsMeth
import HandS.CallSlots
import KE.GoesMore
import HandS.Style
import HandS.ReplaceLit
import HandS.ReplaceList
import HandS.CallLocal
import HandS.ExcOwn
import PySem.Challenge.RW_galleypapers_k49_pages_written_and_read
set_option Elab.async false
set_option linter.all false
set_option maxRecDepth 100000
set_option maxHeartbeats 0
/-! VL1: pure values, how they lie in the abstract heap, the frame relation. -/
namespace VL
open PySem PySem.Spec L2

/-! ### pure data -/
/-- a text by its code points -/
def sl (l : List Nat) : Str := ⟨l.toArray⟩
theorem sl_cps (x : Str) : sl x.cps.toList = x := by cases x; simp [sl]
theorem cps_sl (l : List Nat) : (sl l).cps.toList = l := by simp [sl]
theorem sl_inj {a b : List Nat} (h : sl a = sl b) : a = b := by
  have := congrArg (fun x : Str => x.cps.toList) h
  simpa [cps_sl] using this
theorem sl_length (l : List Nat) : (sl l).length = l.length := by simp [sl, Str.length]
/-- a key of a dict -/
inductive PK where
  | int (i : Int) | str (l : List Nat) | tup (ks : List (Sum Int (List Nat)))
  deriving DecidableEq
/-- a value, with all that is in it -/
inductive PV where
  | non | bl (b : Bool) | int (i : Int) | str (l : List Nat)
  | lst (xs : List PV) | tup (xs : List PV)
  | dic (t : Bool) (kvs : List (PK × PV))
  | obj (c : Str) (fs : List (Str × PV))
  | fn (x : Str)
  | scr (ns : List Int)
  | ty (n : String)
  | exn (a d : Addr) (c : Str) (fs : List (Str × PV))
/-- a field of an object that one variable alone holds: frozen, or a list | dict that this field alone holds -/
inductive FV where
  | fz (p : PV) | ow (p : PV)
/-- a tree of lists and dicts that one variable alone holds; fz: a value that never changes -/
inductive OV where
  | fz (p : PV) | lst (xs : List OV) | dic (t : Bool) (kvs : List (PK × OV)) | tup (xs : List OV) | obj (c : Str) (fs : List (Str × OV))
mutual
def OV.flat : OV → PV
  | .fz p => p
  | .lst xs => .lst (flats xs)
  | .dic t kvs => .dic t (flatK kvs)
  | .tup xs => .tup (flats xs)
  | .obj c fs => .obj c (flatF fs)
def flats : List OV → List PV
  | [] => []
  | x :: xs => x.flat :: flats xs
def flatK : List (PK × OV) → List (PK × PV)
  | [] => []
  | (k, x) :: xs => (k, x.flat) :: flatK xs
def flatF : List (Str × OV) → List (Str × PV)
  | [] => []
  | (k, x) :: xs => (k, x.flat) :: flatF xs
end
/-- a variable: unknown, a value that never changes any more, a list | dict | object that this variable alone holds -/
inductive SV where
  | un | fz (p : PV) | ow (p : PV) | ob (c : Str) (fs : List (Str × FV)) | tr (t : OV)
abbrev PSt := List SV

def pkK : Key → Sum Int (List Nat)
  | .inl i => .inl i
  | .inr x => .inr x.cps.toList
def kPK : Sum Int (List Nat) → Key
  | .inl i => .inl i
  | .inr l => .inr (sl l)
theorem kPK_pkK (k : Key) : kPK (pkK k) = k := by cases k <;> simp [kPK, pkK, sl_cps]
theorem pkK_kPK (k : Sum Int (List Nat)) : pkK (kPK k) = k := by cases k <;> simp [kPK, pkK, cps_sl]
def pk1 : Sum Int (List Nat) → PK
  | .inl i => .int i
  | .inr l => .str l
theorem pk1_inj {a b : Sum Int (List Nat)} (h : pk1 a = pk1 b) : a = b := by
  cases a <;> cases b <;> simp_all [pk1]
def pkA (k : Key) : PK := pk1 (pkK k)
theorem pkK_inj {a b : Key} (h : pkK a = pkK b) : a = b := by rw [← kPK_pkK a, ← kPK_pkK b, h]
theorem pkA_inj {a b : Key} (h : pkA a = pkA b) : a = b := pkK_inj (pk1_inj h)
def pkT (ks : List Key) : PK := .tup (ks.map pkK)
theorem map_pkK_inj : ∀ {a b : List Key}, a.map pkK = b.map pkK → a = b
  | [], [], _ => rfl
  | [], _ :: _, h => by simp at h
  | _ :: _, [], h => by simp at h
  | x :: a, y :: b, h => by
    simp only [List.map_cons, List.cons.injEq] at h
    rw [pkK_inj h.1, map_pkK_inj h.2]
theorem pkT_inj {a b : List Key} (h : pkT a = pkT b) : a = b := map_pkK_inj (PK.tup.inj h)
def pvK : Sum Int (List Nat) → PV
  | .inl i => .int i
  | .inr l => .str l
/-- a value as a key -/
@[simp] def pkS? : PV → Option (Sum Int (List Nat))
  | .int i => some (.inl i)
  | .str l => some (.inr l)
  | _ => none
@[simp] def pk? (t : Bool) : PV → Option PK
  | .int i => if t then none else some (.int i)
  | .str l => if t then none else some (.str l)
  | .tup ps => if t then (ps.mapM pkS?).map .tup else none
  | _ => none
def PK.pv : PK → PV
  | .int i => .int i
  | .str l => .str l
  | .tup ks => .tup (ks.map pvK)

/-! ### how a value lies -/
def Sub (F H : Hp) : Prop := ∀ a o, F a = some o → H a = some o
theorem Sub.refl (F : Hp) : Sub F F := fun _ _ h => h
theorem Sub.trans {A B C : Hp} (h : Sub A B) (g : Sub B C) : Sub A C := fun a o e => g a o (h a o e)
theorem Sub.rd {F H : Hp} (s : Sub F H) {a : Addr} {u : HO} (h : Rd F a u) : Rd H a u := by
  rcases h with h | ⟨o, h⟩
  · exact .inl (s _ _ h)
  · exact .inr ⟨o, s _ _ h⟩
theorem Sub.seq {K : PySem.W.Frag} {F H : Hp} (s : Sub F H) {a : Addr} {xs : List V} (h : SqL K F a xs) : SqL K H a xs := by
  rcases h with h | h
  · exact .inl (s.rd h)
  · exact .inr h

mutual
inductive Rp (K : PySem.W.Frag) (F : Hp) : V → PV → Prop
  | non : Rp K F .non .non
  | bl (b : Bool) : Rp K F (.bl b) (.bl b)
  | int (i : Int) : Rp K F (.int i) (.int i)
  | str (l : List Nat) : Rp K F (.str (sl l)) (.str l)
  | lst {a : Addr} {vs : List V} {ps : List PV} : F a = some (.lst vs) → RpAll K F vs ps → Rp K F (.ref a) (.lst ps)
  | tup {a : Addr} {vs : List V} {ps : List PV} : F a = some (.tup vs) → RpAll K F vs ps → Rp K F (.ref a) (.tup ps)
  | dk {a : Addr} {kvs : List (Key × V)} {kps : List (PK × PV)} : Rd F a (.dK kvs) → kps.map (·.1) = kvs.map (fun x => pkA x.1) → RpAll K F (kvs.map (·.2)) (kps.map (·.2)) → Rp K F (.ref a) (.dic false kps)
  | dt {a : Addr} {kvs : List (List Key × V)} {kps : List (PK × PV)} : Rd F a (.dT kvs) → kps.map (·.1) = kvs.map (fun x => pkT x.1) → RpAll K F (kvs.map (·.2)) (kps.map (·.2)) → Rp K F (.ref a) (.dic true kps)
  | obj {a dx : Addr} {c : Str} {fvs : List (Str × V)} {fps : List (Str × PV)} : F a = some (.ins (He.ga K c) dx fvs) → fps.map (·.1) = fvs.map (·.1) → RpAll K F (fvs.map (·.2)) (fps.map (·.2)) → Rp K F (.ref a) (.obj c fps)
  | fn {x : Str} : Rp K F (.ref (He.ga K x)) (.fn x)
  | scr {a : Addr} {ns : List Int} : SqL K F a (ns.map V.int) → Rp K F (.ref a) (.scr ns)
  | ty (n : String) : Rp K F (.ty n) (.ty n)
  | exn {a dd : Addr} {c : Str} {fvs : List (Str × V)} {fps : List (Str × PV)} : F dd = some (.xd fvs) → fps.map (·.1) = fvs.map (·.1) → RpAll K F (fvs.map (·.2)) (fps.map (·.2)) → Rp K F (.ref a) (.exn a dd c fps)
inductive RpAll (K : PySem.W.Frag) (F : Hp) : List V → List PV → Prop
  | nil : RpAll K F [] []
  | cons {v : V} {vs : List V} {p : PV} {ps : List PV} : Rp K F v p → RpAll K F vs ps → RpAll K F (v :: vs) (p :: ps)
end
section
variable {K : PySem.W.Frag} {F F' H : Hp}
mutual
theorem Rp.mono (s : Sub F F') : ∀ {v : V} {p : PV}, Rp K F v p → Rp K F' v p
  | _, _, .non => .non
  | _, _, .bl b => .bl b
  | _, _, .int i => .int i
  | _, _, .str l => .str l
  | _, _, .lst h r => .lst (s _ _ h) (RpAll.mono s r)
  | _, _, .tup h r => .tup (s _ _ h) (RpAll.mono s r)
  | _, _, .dk h e r => .dk (s.rd h) e (RpAll.mono s r)
  | _, _, .dt h e r => .dt (s.rd h) e (RpAll.mono s r)
  | _, _, .obj h e r => .obj (s _ _ h) e (RpAll.mono s r)
  | _, _, .fn => .fn
  | _, _, .scr h => .scr (s.seq h)
  | _, _, .ty n => .ty n
  | _, _, .exn h e r => .exn (s _ _ h) e (RpAll.mono s r)
theorem RpAll.mono (s : Sub F F') : ∀ {vs : List V} {ps : List PV}, RpAll K F vs ps → RpAll K F' vs ps
  | _, _, .nil => .nil
  | _, _, .cons h r => .cons (Rp.mono s h) (RpAll.mono s r)
end
theorem RpAll.len : ∀ {vs : List V} {ps : List PV}, RpAll K F vs ps → vs.length = ps.length
  | _, _, .nil => rfl
  | _, _, .cons _ r => congrArg (· + 1) r.len
theorem RpAll.get : ∀ {vs : List V} {ps : List PV} {i : Nat} {p : PV}, RpAll K F vs ps → ps[i]? = some p → ∃ v, vs[i]? = some v ∧ Rp K F v p
  | _, _, _, _, .nil, e => by simp at e
  | _, _, 0, _, .cons h _, e => by simp at e; subst e; exact ⟨_, rfl, h⟩
  | _, _, i + 1, _, .cons _ r, e => by simpa using RpAll.get r (i := i) (by simpa using e)
theorem RpAll.getV : ∀ {vs : List V} {ps : List PV} {i : Nat} {v : V}, RpAll K F vs ps → vs[i]? = some v → ∃ p, ps[i]? = some p ∧ Rp K F v p
  | _, _, _, _, .nil, e => by simp at e
  | _, _, 0, _, .cons h _, e => by simp at e; subst e; exact ⟨_, rfl, h⟩
  | _, _, i + 1, _, .cons _ r, e => by simpa using RpAll.getV r (i := i) (by simpa using e)
theorem RpAll.append : ∀ {vs ws : List V} {ps qs : List PV}, RpAll K F vs ps → RpAll K F ws qs → RpAll K F (vs ++ ws) (ps ++ qs)
  | _, _, _, _, .nil, s => s
  | _, _, _, _, .cons h r, s => .cons h (RpAll.append r s)
theorem RpAll.one {v : V} {p : PV} (h : Rp K F v p) : RpAll K F [v] [p] := .cons h .nil
theorem RpAll.take : ∀ {vs : List V} {ps : List PV} (n : Nat), RpAll K F vs ps → RpAll K F (vs.take n) (ps.take n)
  | _, _, 0, _ => by simp; exact .nil
  | _, _, _ + 1, .nil => .nil
  | _, _, n + 1, .cons h r => .cons h (RpAll.take n r)
theorem RpAll.drop : ∀ {vs : List V} {ps : List PV} (n : Nat), RpAll K F vs ps → RpAll K F (vs.drop n) (ps.drop n)
  | _, _, 0, r => r
  | _, _, _ + 1, .nil => .nil
  | _, _, n + 1, .cons _ r => RpAll.drop n r
theorem RpAll.dropLast : ∀ {vs : List V} {ps : List PV}, RpAll K F vs ps → RpAll K F vs.dropLast ps.dropLast := fun {vs ps} r => by
  rw [List.dropLast_eq_take, List.dropLast_eq_take, r.len]; exact r.take _
theorem RpAll.set : ∀ {vs : List V} {ps : List PV} (i : Nat) {v : V} {p : PV}, RpAll K F vs ps → Rp K F v p → RpAll K F (vs.set i v) (ps.set i p)
  | _, _, _, _, _, .nil, _ => .nil
  | _, _, 0, _, _, .cons _ r, h => .cons h r
  | _, _, i + 1, _, _, .cons g r, h => .cons g (RpAll.set i r h)
theorem RpAll.reverse : ∀ {vs : List V} {ps : List PV}, RpAll K F vs ps → RpAll K F vs.reverse ps.reverse
  | _, _, .nil => .nil
  | _, _, .cons h r => by rw [List.reverse_cons, List.reverse_cons]; exact r.reverse.append (.one h)
theorem RpAll.eraseIdx : ∀ {vs : List V} {ps : List PV} (i : Nat), RpAll K F vs ps → RpAll K F (vs.eraseIdx i) (ps.eraseIdx i)
  | _, _, _, .nil => .nil
  | _, _, 0, .cons _ r => r
  | _, _, i + 1, .cons g r => .cons g (RpAll.eraseIdx i r)
theorem RpAll.replicate {v : V} {p : PV} (h : Rp K F v p) : ∀ n, RpAll K F (List.replicate n v) (List.replicate n p)
  | 0 => .nil
  | n + 1 => .cons h (RpAll.replicate h n)
theorem RpAll.ints : ∀ {vs : List V} {ns : List Int}, RpAll K F vs (ns.map PV.int) → vs = ns.map V.int
  | [], [], _ => rfl
  | [], _ :: _, r => nomatch r
  | _ :: _, [], r => nomatch r
  | v :: vs, n :: ns, .cons h r => by cases h; rw [List.map_cons, RpAll.ints r]
theorem RpAll.of_ints : ∀ (ns : List Int), RpAll K F (ns.map V.int) (ns.map PV.int)
  | [] => .nil
  | n :: ns => .cons (.int n) (RpAll.of_ints ns)
theorem RpAll.bls : ∀ {vs : List V} {ns : List Bool}, RpAll K F vs (ns.map PV.bl) → vs = ns.map V.bl
  | [], [], _ => rfl
  | [], _ :: _, r => nomatch r
  | _ :: _, [], r => nomatch r
  | v :: vs, n :: ns, .cons h r => by cases h; rw [List.map_cons, RpAll.bls r]
theorem RpAll.strs : ∀ {vs : List V} {ns : List (List Nat)}, RpAll K F vs (ns.map PV.str) → vs = ns.map (fun l => V.str (sl l))
  | [], [], _ => rfl
  | [], _ :: _, r => nomatch r
  | _ :: _, [], r => nomatch r
  | v :: vs, n :: ns, .cons h r => by cases h; rw [List.map_cons, RpAll.strs r]
theorem RpAll.of_strs : ∀ (ns : List (List Nat)), RpAll K F (ns.map (fun l => V.str (sl l))) (ns.map PV.str)
  | [] => .nil
  | n :: ns => .cons (.str n) (RpAll.of_strs ns)
end

/-- the object at a, that one variable alone holds: its parts never change -/
def OwAt (K : PySem.W.Frag) (F H : Hp) (a : Addr) : PV → Prop
  | .lst ps => ∃ vs, H a = some (.lst vs) ∧ RpAll K F vs ps
  | .dic false kps => ∃ kvs : List (Key × V), H a = some (.dK kvs) ∧ kps.map (·.1) = kvs.map (fun x => pkA x.1) ∧ RpAll K F (kvs.map (·.2)) (kps.map (·.2))
  | .dic true kps => ∃ kvs : List (List Key × V), H a = some (.dT kvs) ∧ kps.map (·.1) = kvs.map (fun x => pkT x.1) ∧ RpAll K F (kvs.map (·.2)) (kps.map (·.2))
  | .obj c fps => ∃ dx fvs, H a = some (.ins (He.ga K c) dx fvs) ∧ fps.map (·.1) = fvs.map (·.1) ∧ RpAll K F (fvs.map (·.2)) (fps.map (·.2))
  | _ => False
section
variable {K : PySem.W.Frag} {F F' H H' : Hp} {a : Addr} {p : PV}
theorem OwAt.mono (s : Sub F F') (h : OwAt K F H a p) : OwAt K F' H a p := by
  cases p with
  | lst ps => obtain ⟨vs, e, r⟩ := h; exact ⟨vs, e, r.mono s⟩
  | dic t kps => cases t with
    | false => obtain ⟨kvs, e, k, r⟩ := h; exact ⟨kvs, e, k, r.mono s⟩
    | true => obtain ⟨kvs, e, k, r⟩ := h; exact ⟨kvs, e, k, r.mono s⟩
  | obj C fps => obtain ⟨dx, fvs, e, k, r⟩ := h; exact ⟨dx, fvs, e, k, r.mono s⟩
  | _ => exact h
theorem OwAt.frame (e : H' a = H a) (h : OwAt K F H a p) : OwAt K F H' a p := by
  cases p with
  | lst ps => obtain ⟨vs, q, r⟩ := h; exact ⟨vs, e.trans q, r⟩
  | dic t kps => cases t with
    | false => obtain ⟨kvs, q, k, r⟩ := h; exact ⟨kvs, e.trans q, k, r⟩
    | true => obtain ⟨kvs, q, k, r⟩ := h; exact ⟨kvs, e.trans q, k, r⟩
  | obj C fps => obtain ⟨dx, fvs, q, k, r⟩ := h; exact ⟨dx, fvs, e.trans q, k, r⟩
  | _ => exact h
theorem OwAt.some_ (h : OwAt K F H a p) : ∃ o, H a = some o := by
  cases p with
  | lst ps => obtain ⟨vs, q, r⟩ := h; exact ⟨_, q⟩
  | dic t kps => cases t with
    | false => obtain ⟨kvs, q, k, r⟩ := h; exact ⟨_, q⟩
    | true => obtain ⟨kvs, q, k, r⟩ := h; exact ⟨_, q⟩
  | obj C fps => obtain ⟨dx, fvs, q, k, r⟩ := h; exact ⟨_, q⟩
  | _ => exact h.elim
/-- frozen: it never changes any more -/
theorem OwAt.freeze (s : Sub F F') (e : F' a = H a) (h : OwAt K F H a p) : Rp K F' (V.ref a) p := by
  cases p with
  | lst ps => obtain ⟨vs, q, r⟩ := h; exact .lst (e.trans q) (r.mono s)
  | dic t kps => cases t with
    | false => obtain ⟨kvs, q, k, r⟩ := h; exact .dk (.inl (e.trans q)) k (r.mono s)
    | true => obtain ⟨kvs, q, k, r⟩ := h; exact .dt (.inl (e.trans q)) k (r.mono s)
  | obj C fps => obtain ⟨dx, fvs, q, k, r⟩ := h; exact .obj (e.trans q) k (r.mono s)
  | _ => exact h.elim
/-- of a class that may be written -/
theorem OwAt.mut (h : OwAt K F H a p) : Mut (H a) := by
  cases p with
  | lst ps => obtain ⟨vs, q, r⟩ := h; rw [q]; trivial
  | dic t kps => cases t with
    | false => obtain ⟨kvs, q, k, r⟩ := h; rw [q]; trivial
    | true => obtain ⟨kvs, q, k, r⟩ := h; rw [q]; trivial
  | obj C fps => obtain ⟨dx, fvs, q, k, r⟩ := h; rw [q]; trivial
  | _ => exact h.elim
end

/-! ### the frame -/
theorem OwAt.notTup {K : PySem.W.Frag} {F H : Hp} {a : Addr} {p : PV} (h : OwAt K F H a p) (vs : List V) (e : H a = some (.tup vs)) : False := by
  cases p with
  | lst ps => obtain ⟨ws, h, _⟩ := h; rw [e] at h; cases h
  | dic t kvs => cases t <;> (obtain ⟨ws, h, _⟩ := h; rw [e] at h; cases h)
  | obj c fs => obtain ⟨_, _, h, _⟩ := h; rw [e] at h; cases h
  | _ => exact h
structure Ctx where
  H0 : Hp
  F0 : Hp
  σ0 : St
  ms : List Nat
/-- what a callee may change: what its parameters at ms hold -/
def Ctx.B (C : Ctx) (a : Addr) : Prop := ∃ i, i ∈ C.ms ∧ C.σ0[i]? = some (some (V.ref a))

/-- the fields of such an object; S: the lists and dicts that they hold -/
inductive Flds (K : PySem.W.Frag) (F H : Hp) (own : Addr → Option Nat) (i : Nat) : List (Str × V) → List (Str × FV) → List Addr → Prop
  | nil : Flds K F H own i [] [] []
  | fz {f : Str} {v : V} {p : PV} {vs : List (Str × V)} {fs : List (Str × FV)} {S : List Addr} : Rp K F v p → Flds K F H own i vs fs S → Flds K F H own i ((f, v) :: vs) ((f, .fz p) :: fs) S
  | ow {f : Str} {b : Addr} {p : PV} {vs : List (Str × V)} {fs : List (Str × FV)} {S : List Addr} : own b = some i → OwAt K F H b p → b ∉ S → Flds K F H own i vs fs S → Flds K F H own i ((f, .ref b) :: vs) ((f, .ow p) :: fs) (b :: S)
theorem Flds.frame {K : PySem.W.Frag} {F F' H H' : Hp} {own own' : Addr → Option Nat} {i i' : Nat} (s : Sub F F') : ∀ {vs : List (Str × V)} {fs : List (Str × FV)} {S : List Addr}, (∀ b ∈ S, H' b = H b) → (∀ b ∈ S, own b = some i → own' b = some i') → Flds K F H own i vs fs S → Flds K F' H' own' i' vs fs S
  | _, _, _, _, _, .nil => .nil
  | _, _, _, hH, ho, .fz r t => .fz (r.mono s) (t.frame s hH ho)
  | _, _, _, hH, ho, .ow o w n t => .ow (ho _ (List.mem_cons_self ..) o) ((w.mono s).frame (hH _ (List.mem_cons_self ..))) n (t.frame s (fun b hb => hH b (List.mem_cons_of_mem _ hb)) fun b hb => ho b (List.mem_cons_of_mem _ hb))
theorem Flds.owned {K : PySem.W.Frag} {F H : Hp} {own : Addr → Option Nat} {i : Nat} : ∀ {vs : List (Str × V)} {fs : List (Str × FV)} {S : List Addr}, Flds K F H own i vs fs S → ∀ b ∈ S, own b = some i
  | _, _, _, .nil, _, h => nomatch h
  | _, _, _, .fz _ t, b, h => t.owned b h
  | _, _, _, .ow o _ _ t, b, h => (List.mem_cons.mp h).elim (fun z => z ▸ o) (t.owned b)
/-- how such a tree lies; lab tells each of its lists and dicts by its place, the innermost number first -/
abbrev Lab := Addr → Option (List Nat)
mutual
inductive OwT (K : PySem.W.Frag) (F H : Hp) (lab : Lab) : List Nat → V → OV → Prop
  | fz {π : List Nat} {v : V} {p : PV} : Rp K F v p → OwT K F H lab π v (.fz p)
  | lst {π : List Nat} {a : Addr} {vs : List V} {xs : List OV} : H a = some (.lst vs) → lab a = some π → OwTs K F H lab π 0 vs xs → OwT K F H lab π (.ref a) (.lst xs)
  | tup {π : List Nat} {a : Addr} {vs : List V} {xs : List OV} : F a = some (.tup vs) → OwTs K F H lab π 0 vs xs → OwT K F H lab π (.ref a) (.tup xs)
  | dk {π : List Nat} {a : Addr} {kvs : List (Key × V)} {kxs : List (PK × OV)} : H a = some (.dK kvs) → lab a = some π → kxs.map (·.1) = kvs.map (fun x => pkA x.1) → OwTs K F H lab π 0 (kvs.map (·.2)) (kxs.map (·.2)) → OwT K F H lab π (.ref a) (.dic false kxs)
  | dt {π : List Nat} {a : Addr} {kvs : List (List Key × V)} {kxs : List (PK × OV)} : H a = some (.dT kvs) → lab a = some π → kxs.map (·.1) = kvs.map (fun x => pkT x.1) → OwTs K F H lab π 0 (kvs.map (·.2)) (kxs.map (·.2)) → OwT K F H lab π (.ref a) (.dic true kxs)
  | obj {π : List Nat} {a dx : Addr} {c : Str} {fvs : List (Str × V)} {fxs : List (Str × OV)} : H a = some (.ins (He.ga K c) dx fvs) → lab a = some π → fxs.map (·.1) = fvs.map (·.1) → OwTs K F H lab π 0 (fvs.map (·.2)) (fxs.map (·.2)) → OwT K F H lab π (.ref a) (.obj c fxs)
inductive OwTs (K : PySem.W.Frag) (F H : Hp) (lab : Lab) : List Nat → Nat → List V → List OV → Prop
  | nil {π : List Nat} {k : Nat} : OwTs K F H lab π k [] []
  | cons {π : List Nat} {k : Nat} {v : V} {vs : List V} {x : OV} {xs : List OV} : OwT K F H lab (k :: π) v x → OwTs K F H lab π (k + 1) vs xs → OwTs K F H lab π k (v :: vs) (x :: xs)
end
section
variable {K : PySem.W.Frag} {F F' H H' : Hp} {lab lab' : Lab}
/-- what lies at and below a place stays -/
def Below (lab lab' : Lab) (H H' : Hp) (π : List Nat) : Prop := ∀ a ρ, lab a = some (ρ ++ π) → H' a = H a ∧ lab' a = lab a
theorem Below.kid {π : List Nat} (h : Below lab lab' H H' π) (k : Nat) : Below lab lab' H H' (k :: π) := fun a ρ e => h a (ρ ++ [k]) (by rw [e, List.append_assoc]; rfl)
mutual
theorem OwT.frame (s : Sub F F') : ∀ {π : List Nat} {v : V} {x : OV}, Below lab lab' H H' π → OwT K F H lab π v x → OwT K F' H' lab' π v x
  | _, _, _, _, .fz r => .fz (r.mono s)
  | _, _, _, b, .lst h l t => .lst ((b _ [] l).1.trans h) ((b _ [] l).2.trans l) (OwTs.frame s (fun k _ => b.kid k) t)
  | _, _, _, b, .tup h t => .tup (s _ _ h) (OwTs.frame s (fun k _ => b.kid k) t)
  | _, _, _, b, .dk h l e t => .dk ((b _ [] l).1.trans h) ((b _ [] l).2.trans l) e (OwTs.frame s (fun k _ => b.kid k) t)
  | _, _, _, b, .dt h l e t => .dt ((b _ [] l).1.trans h) ((b _ [] l).2.trans l) e (OwTs.frame s (fun k _ => b.kid k) t)
  | _, _, _, b, .obj h l e t => .obj ((b _ [] l).1.trans h) ((b _ [] l).2.trans l) e (OwTs.frame s (fun k _ => b.kid k) t)
theorem OwTs.frame (s : Sub F F') : ∀ {π : List Nat} {k : Nat} {vs : List V} {xs : List OV}, (∀ j, k ≤ j → Below lab lab' H H' (j :: π)) → OwTs K F H lab π k vs xs → OwTs K F' H' lab' π k vs xs
  | _, _, _, _, _, .nil => .nil
  | _, k, _, _, b, .cons h t => .cons (OwT.frame s (b k (Nat.le_refl _)) h) (OwTs.frame s (fun j hj => b j (by omega)) t)
end
theorem flatK_keys : ∀ kxs : List (PK × OV), (flatK kxs).map (·.1) = kxs.map (·.1)
  | [] => rfl
  | (k, x) :: r => by simp [flatK, flatK_keys r]
theorem flatK_vals : ∀ kxs : List (PK × OV), (flatK kxs).map (·.2) = flats (kxs.map (·.2))
  | [] => rfl
  | (k, x) :: r => by simp [flatK, flats, flatK_vals r]
theorem flatF_keys : ∀ kxs : List (Str × OV), (flatF kxs).map (·.1) = kxs.map (·.1)
  | [] => rfl
  | (k, x) :: r => by simp [flatF, flatF_keys r]
theorem flatF_vals : ∀ kxs : List (Str × OV), (flatF kxs).map (·.2) = flats (kxs.map (·.2))
  | [] => rfl
  | (k, x) :: r => by simp [flatF, flats, flatF_vals r]
mutual
/-- frozen with all that is in it -/
theorem OwT.freeze (s : Sub F F') (hl : ∀ a π, lab a = some π → F' a = H a) : ∀ {π : List Nat} {v : V} {x : OV}, OwT K F H lab π v x → Rp K F' v x.flat
  | _, _, _, .fz r => by rw [OV.flat]; exact r.mono s
  | _, _, _, .lst h l t => by rw [OV.flat]; exact .lst ((hl _ _ l).trans h) (OwTs.freeze s hl t)
  | _, _, _, .tup h t => by rw [OV.flat]; exact .tup (s _ _ h) (OwTs.freeze s hl t)
  | _, _, _, .dk h l e t => by rw [OV.flat]; exact .dk (.inl ((hl _ _ l).trans h)) ((flatK_keys _).trans e) (by rw [flatK_vals]; exact OwTs.freeze s hl t)
  | _, _, _, .dt h l e t => by rw [OV.flat]; exact .dt (.inl ((hl _ _ l).trans h)) ((flatK_keys _).trans e) (by rw [flatK_vals]; exact OwTs.freeze s hl t)
  | _, _, _, .obj h l e t => by rw [OV.flat]; exact .obj ((hl _ _ l).trans h) ((flatF_keys _).trans e) (by rw [flatF_vals]; exact OwTs.freeze s hl t)
theorem OwTs.freeze (s : Sub F F') (hl : ∀ a π, lab a = some π → F' a = H a) : ∀ {π : List Nat} {k : Nat} {vs : List V} {xs : List OV}, OwTs K F H lab π k vs xs → RpAll K F' vs (flats xs)
  | _, _, _, _, .nil => by rw [flats]; exact .nil
  | _, _, _, _, .cons h t => by rw [flats]; exact .cons (OwT.freeze s hl h) (OwTs.freeze s hl t)
end
end
def SlotOk (K : PySem.W.Frag) (F H : Hp) (own : Addr → Option Nat) (σ : St) (i : Nat) : SV → Prop
  | .ob c fs => ∃ a dx fvs S, σ[i]? = some (some (V.ref a)) ∧ own a = some i ∧ H a = some (.ins (He.ga K c) dx fvs) ∧ Flds K F H own i fvs fs S ∧ a ∉ S
  | .tr t => ∃ v lab, σ[i]? = some (some v) ∧ OwT K F H lab [] v t ∧ ∀ a π, lab a = some π → own a = some i
  | .un => True
  | .fz p => ∃ v, σ[i]? = some (some v) ∧ Rp K F v p
  | .ow p => ∃ a, σ[i]? = some (some (V.ref a)) ∧ own a = some i ∧ OwAt K F H a p

theorem SlotOk.frame {K : PySem.W.Frag} {F F' H H' : Hp} {own own' : Addr → Option Nat} {σ σ' : St} {i : Nat} (s : Sub F F') (hH : ∀ b, own b = some i → H' b = H b) (ho : ∀ b, own b = some i → own' b = some i) (hσ : σ'[i]? = σ[i]?) {t : SV} (h : SlotOk K F H own σ i t) : SlotOk K F' H' own' σ' i t := by
  cases t with
  | un => trivial
  | fz q => obtain ⟨w, hw, r⟩ := h; exact ⟨w, hσ.trans hw, r.mono s⟩
  | ow q => obtain ⟨b, hb, ob, w⟩ := h; exact ⟨b, hσ.trans hb, ho _ ob, (w.mono s).frame (hH _ ob)⟩
  | tr t => obtain ⟨v, lab, h1, h2, h3⟩ := h; exact ⟨v, lab, hσ.trans h1, h2.frame s fun a ρ e => ⟨hH a (h3 a _ e), rfl⟩, fun a π e => ho a (h3 a π e)⟩
  | ob c fs => obtain ⟨a, dx, fvs, S, h1, h2, h3, h5, h6⟩ := h; exact ⟨a, dx, fvs, S, hσ.trans h1, ho _ h2, (hH _ h2).trans h3, h5.frame s (fun b hb => hH b (h5.owned b hb)) (fun b _ => ho b), h6⟩
structure FrO (K : PySem.W.Frag) (C : Ctx) (own : Addr → Option Nat) (F : Hp) (τ : PSt) (σ : St) (H : Hp) : Prop where
  len : τ.length = σ.length
  sub : Sub F H
  sub0 : Sub C.F0 F
  keep : ∀ a o, C.H0 a = some o → ¬ C.B a → H a = some o
  there : ∀ a o, C.H0 a = some o → ∃ o', H a = some o'
  frz : ∀ a o, F a = some o → C.F0 a = some o ∨ C.H0 a = none ∨ C.B a
  slot : ∀ i s, τ[i]? = some s → SlotOk K F H own σ i s
  ownF : ∀ a i, own a = some i → F a = none
  ownH : ∀ a i, own a = some i → ∃ o, H a = some o
  ownB : ∀ a i, own a = some i → C.H0 a = none ∨ (i ∈ C.ms ∧ C.σ0[i]? = some (some (V.ref a)))
  bor : ∀ i, i ∈ C.ms → σ[i]? = C.σ0[i]?
  bH : ∀ a, C.B a → ∃ o, C.H0 a = some o
  tups : ∀ a vs, H a = some (.tup vs) → F a = some (.tup vs)
def Rel (K : PySem.W.Frag) (C : Ctx) (F : Hp) (τ : PSt) (σ : St) (H : Hp) : Prop := ∃ own, FrO K C own F τ σ H

/-- what an expression gives: a value, or what the i-th variable holds -/
inductive RV where
  | fz (p : PV) | at (i : Nat) | nw (p : PV)
def RvOk (K : PySem.W.Frag) (F : Hp) (σ : St) (v : V) : RV → Prop
  | .fz p => Rp K F v p
  | .at i => σ[i]? = some (some v)
  | .nw _ => False
theorem RvOk.mono {K : PySem.W.Frag} {F F' : Hp} {σ : St} {v : V} {r : RV} (s : Sub F F') (h : RvOk K F σ v r) : RvOk K F' σ v r := by
  cases r with
  | fz p => exact Rp.mono s h
  | «at» i => exact h
  | nw p => exact h
/-- a value that may be read now -/
def RpW (K : PySem.W.Frag) (F H : Hp) (v : V) (p : PV) : Prop := Rp K F v p ∨ ∃ a, v = V.ref a ∧ OwAt K F H a p
@[simp] def content (r : RV) (τ : PSt) : Option PV := match r with
  | .fz p => some p
  | .nw p => some p
  | .at i => match τ[i]? with
    | some (.fz p) => some p
    | some (.ow p) => some p
    | _ => none
@[simp] def leak (r : RV) (τ : PSt) : Option (PV × PSt) := match r with
  | .fz p => some (p, τ)
  | .nw p => some (p, τ)
  | .at i => match τ[i]? with
    | some (.fz p) => some (p, τ)
    | some (.ow p) => some (p, τ.set i (.fz p))
    | some (.tr t) => some (t.flat, τ.set i (.fz t.flat))
    | _ => none
section
variable {K : PySem.W.Frag} {C : Ctx} {F F' H H' : Hp} {τ τ' : PSt} {σ : St} {v : V} {r : RV} {p : PV} {own : Addr → Option Nat}
theorem Rel.sub (R : Rel K C F τ σ H) : Sub F H := let ⟨_, h⟩ := R; h.sub
theorem content_ok (R : Rel K C F τ σ H) (h : RvOk K F σ v r) (e : content r τ = some p) : RpW K F H v p := by
  obtain ⟨own, R⟩ := R
  cases r with
  | nw q => exact h.elim
  | fz q => cases e; exact .inl h
  | «at» i =>
    simp only [content] at e
    split at e
    · rename_i q hq
      cases e
      obtain ⟨w, hw, rw'⟩ := R.slot _ _ hq
      have h' : σ[i]? = some (some v) := h
      rw [h'] at hw; cases hw; exact .inl rw'
    · rename_i q hq
      cases e
      obtain ⟨a, hw, _, rw'⟩ := R.slot _ _ hq
      have h' : σ[i]? = some (some v) := h
      rw [h'] at hw; cases hw; exact .inr ⟨a, rfl, rw'⟩
    · cases e
theorem upd_sub {F : Hp} {a : Addr} {o : HO} (h : F a = none) : Sub F (upd F a o) := fun b u e => by
  rw [upd_ne (ne_of_none e h)]; exact e
/-- the i-th variable's object is frozen -/
theorem freeze_ok {i : Nat} (R : FrO K C own F τ σ H) (hi : τ[i]? = some (.ow p)) {a : Addr} (ha : σ[i]? = some (some (V.ref a))) (ho : own a = some i) (hw : OwAt K F H a p) :
    ∃ F', Sub F F' ∧ Rel K C F' (τ.set i (.fz p)) σ H ∧ Rp K F' (V.ref a) p := by
  obtain ⟨o, e⟩ := hw.some_
  have hF : F a = none := R.ownF a i ho
  have s : Sub F (upd F a o) := upd_sub hF
  have rp : Rp K (upd F a o) (.ref a) p := hw.freeze s (by rw [upd_same, e])
  refine ⟨upd F a o, s, ⟨fun b => if b = a then none else own b, ?_⟩, rp⟩
  refine ⟨by rw [List.length_set]; exact R.len, ?_, R.sub0.trans s, R.keep, R.there, ?_, ?_, ?_, ?_, ?_, R.bor, R.bH, fun b vs q => s _ _ (R.tups b vs q)⟩
  · intro b u q
    by_cases hb : b = a
    · subst hb; rw [upd_same] at q; cases q; exact e
    · rw [upd_ne hb] at q; exact R.sub b u q
  · intro b u q
    by_cases hb : b = a
    · subst hb; exact .inr ((R.ownB b i ho).imp id fun z => ⟨i, z⟩)
    · rw [upd_ne hb] at q; exact R.frz b u q
  · intro j t hj
    by_cases hij : i = j
    · subst hij
      have hl : i < τ.length := (List.getElem?_eq_some_iff.mp hi).1
      rw [List.getElem?_set_self hl] at hj
      cases hj
      exact ⟨_, ha, rp⟩
    · rw [List.getElem?_set_ne hij] at hj
      have := R.slot j t hj
      cases t with
      | un => trivial
      | fz q => obtain ⟨w, hw', r'⟩ := this; exact ⟨w, hw', r'.mono s⟩
      | ow q =>
        obtain ⟨b, hb, ob, w'⟩ := this
        have hba : b ≠ a := by
          intro z; subst z; rw [ho] at ob; cases ob; exact hij rfl
        exact ⟨b, hb, by simp [hba, ob], w'.mono s⟩
      | tr t => exact SlotOk.frame s (fun _ _ => rfl) (fun b ob => by
          have hba : b ≠ a := by
            intro z; subst z; rw [ho] at ob; cases ob; exact hij rfl
          simp [hba, ob]) rfl this
      | ob c fs => exact SlotOk.frame s (fun _ _ => rfl) (fun b ob => by
          have hba : b ≠ a := by
            intro z; subst z; rw [ho] at ob; cases ob; exact hij rfl
          simp [hba, ob]) rfl this
  · intro b j q
    by_cases hb : b = a
    · simp [hb] at q
    · simp [hb] at q; rw [upd_ne hb]; exact R.ownF b j q
  · intro b j q
    by_cases hb : b = a
    · simp [hb] at q
    · simp [hb] at q; exact R.ownH b j q
  · intro b j q
    by_cases hb : b = a
    · simp [hb] at q
    · simp [hb] at q; exact R.ownB b j q
/-- the i-th variable's tree is frozen -/
theorem freezeT_ok {i : Nat} {t : OV} {lab : Lab} (R : FrO K C own F τ σ H) (hi : τ[i]? = some (.tr t)) (ha : σ[i]? = some (some v)) (hw : OwT K F H lab [] v t) (hl : ∀ a π, lab a = some π → own a = some i) :
    ∃ F', Sub F F' ∧ Rel K C F' (τ.set i (.fz t.flat)) σ H ∧ Rp K F' v t.flat := by
  have s : Sub F (fun b => if (lab b).isSome then H b else F b) := fun b u e => by
    show (if (lab b).isSome then H b else F b) = some u
    by_cases z : (lab b).isSome = true
    · obtain ⟨π, hπ⟩ := Option.isSome_iff_exists.mp z
      rw [R.ownF b i (hl b π hπ)] at e; cases e
    · rw [if_neg z]; exact e
  have rp : Rp K (fun b => if (lab b).isSome then H b else F b) v t.flat := hw.freeze s fun a π e => by
    show (if (lab a).isSome then H a else F a) = H a
    rw [e]; rfl
  refine ⟨_, s, ⟨fun b => if (lab b).isSome then none else own b, ?_⟩, rp⟩
  refine ⟨by rw [List.length_set]; exact R.len, ?_, R.sub0.trans s, R.keep, R.there, ?_, ?_, ?_, ?_, ?_, R.bor, R.bH, fun b vs q => s _ _ (R.tups b vs q)⟩
  · intro b u q
    have q : (if (lab b).isSome then H b else F b) = some u := q
    by_cases z : (lab b).isSome = true
    · rw [if_pos z] at q; exact q
    · rw [if_neg z] at q; exact R.sub b u q
  · intro b u q
    have q : (if (lab b).isSome then H b else F b) = some u := q
    by_cases z : (lab b).isSome = true
    · obtain ⟨π, hπ⟩ := Option.isSome_iff_exists.mp z
      exact .inr ((R.ownB b i (hl b π hπ)).imp id fun y => ⟨i, y⟩)
    · rw [if_neg z] at q; exact R.frz b u q
  · intro j s' hj
    by_cases hij : i = j
    · subst hij
      have hlt : i < τ.length := (List.getElem?_eq_some_iff.mp hi).1
      rw [List.getElem?_set_self hlt] at hj
      cases hj
      exact ⟨_, ha, rp⟩
    · rw [List.getElem?_set_ne hij] at hj
      refine SlotOk.frame s (fun _ _ => rfl) (fun b ob => ?_) rfl (R.slot j s' hj)
      have z : ¬ (lab b).isSome = true := fun z => by
        obtain ⟨π, hπ⟩ := Option.isSome_iff_exists.mp z
        rw [hl b π hπ] at ob; cases ob; exact hij rfl
      show (if (lab b).isSome then none else own b) = some j
      rw [if_neg z]; exact ob
  · intro b j q
    have q : (if (lab b).isSome then none else own b) = some j := q
    by_cases z : (lab b).isSome = true
    · rw [if_pos z] at q; cases q
    · rw [if_neg z] at q
      show (if (lab b).isSome then H b else F b) = none
      rw [if_neg z]; exact R.ownF b j q
  · intro b j q
    have q : (if (lab b).isSome then none else own b) = some j := q
    by_cases z : (lab b).isSome = true
    · rw [if_pos z] at q; cases q
    · rw [if_neg z] at q; exact R.ownH b j q
  · intro b j q
    have q : (if (lab b).isSome then none else own b) = some j := q
    by_cases z : (lab b).isSome = true
    · rw [if_pos z] at q; cases q
    · rw [if_neg z] at q; exact R.ownB b j q
theorem leak_ok (R : Rel K C F τ σ H) (h : RvOk K F σ v r) (e : leak r τ = some (p, τ')) : ∃ F', Sub F F' ∧ Rel K C F' τ' σ H ∧ Rp K F' v p := by
  cases r with
  | nw q => exact h.elim
  | fz q => cases e; exact ⟨F, Sub.refl F, R, h⟩
  | «at» i =>
    have h' : σ[i]? = some (some v) := h
    simp only [leak] at e
    split at e
    · rename_i q hq
      cases e
      obtain ⟨own, R'⟩ := id R
      obtain ⟨w, hw, rw'⟩ := R'.slot _ _ hq
      rw [h'] at hw; cases hw; exact ⟨F, Sub.refl F, R, rw'⟩
    · rename_i q hq
      cases e
      obtain ⟨own, R'⟩ := R
      obtain ⟨a, hw, ho, rw'⟩ := R'.slot _ _ hq
      rw [h'] at hw; cases hw
      exact freeze_ok R' hq h' ho rw'
    · rename_i t hq
      cases e
      obtain ⟨own, R'⟩ := R
      obtain ⟨w, lab, hw, g1, g2⟩ := R'.slot _ _ hq
      rw [h'] at hw; cases hw
      exact freezeT_ok R' hq h' g1 g2
    · cases e
/-- a new object that is not tracked so far, frozen at once -/
theorem Rel.new (R : Rel K C F τ σ H) {a : Addr} {o : HO} (ha : H a = none) : Sub F (upd F a o) ∧ Rel K C (upd F a o) τ σ (upd H a o) := by
  obtain ⟨own, R⟩ := R
  have hF : F a = none := by
    cases q : F a with
    | none => rfl
    | some u => rw [R.sub _ _ q] at ha; cases ha
  have s : Sub F (upd F a o) := upd_sub hF
  have nown : ∀ b i, own b = some i → b ≠ a := fun b i q z => by
    obtain ⟨u, hu⟩ := R.ownH b i q
    rw [z, ha] at hu; cases hu
  refine ⟨s, own, R.len, ?_, R.sub0.trans s, ?_, ?_, ?_, ?_, ?_, ?_, R.ownB, R.bor, R.bH, fun b vs q => by
    by_cases hb : b = a
    · subst hb; rw [upd_same] at q ⊢; exact q
    · rw [upd_ne hb] at q; exact s _ _ (R.tups b vs q)⟩
  · intro b u q
    by_cases hb : b = a
    · subst hb; rw [upd_same] at q ⊢; exact q
    · rw [upd_ne hb] at q ⊢; exact R.sub b u q
  · intro b u q nb
    have := R.keep b u q nb
    rw [upd_ne (ne_of_none this ha)]; exact this
  · intro b u q
    obtain ⟨u', q'⟩ := R.there b u q
    exact ⟨u', by rw [upd_ne (ne_of_none q' ha)]; exact q'⟩
  · intro b u q
    by_cases hb : b = a
    · subst hb
      by_cases hB : C.B b
      · exact .inr (.inr hB)
      · cases z : C.H0 b with
        | none => exact .inr (.inl rfl)
        | some w => rw [R.keep b w z hB] at ha; cases ha
    · rw [upd_ne hb] at q; exact R.frz b u q
  · intro j t hj
    have := R.slot j t hj
    cases t with
    | un => trivial
    | fz q => obtain ⟨w, hw', r'⟩ := this; exact ⟨w, hw', r'.mono s⟩
    | ow q =>
      obtain ⟨b, hb, ob, w'⟩ := this
      exact ⟨b, hb, ob, (w'.mono s).frame (upd_ne (nown b j ob))⟩
    | tr t => exact SlotOk.frame s (fun b ob => upd_ne (nown b j ob)) (fun _ ob => ob) rfl this
    | ob c fs => exact SlotOk.frame s (fun b ob => upd_ne (nown b j ob)) (fun _ ob => ob) rfl this
  · intro b i q; rw [upd_ne (nown b i q)]; exact R.ownF b i q
  · intro b i q; rw [upd_ne (nown b i q)]; exact R.ownH b i q
end
end VL

/-! VL2: what a piece of syntax does to pure values: results, judgements, expressions. -/
namespace VL
open PySem PySem.Spec L2

structure PExc where
  c : Str
  fs : List (Str × PV)
inductive Res (α : Type) where
  | ok (a : α) (τ : PSt) | er (e : PExc) (τ : PSt) | no
def Res.bind {α β : Type} (x : Res α) (f : α → PSt → Res β) : Res β := match x with
  | .ok a τ => f a τ
  | .er e τ => .er e τ
  | .no => .no
@[simp] theorem Res.ok_bind {α β : Type} (a : α) (τ : PSt) (f : α → PSt → Res β) : (Res.ok a τ).bind f = f a τ := rfl
@[simp] theorem Res.er_bind {α β : Type} (e : PExc) (τ : PSt) (f : α → PSt → Res β) : (Res.er e τ : Res α).bind f = .er e τ := rfl
@[simp] theorem Res.no_bind {α β : Type} (f : α → PSt → Res β) : (Res.no : Res α).bind f = .no := rfl
@[simp] def Res.holds {α : Type} (r : Res α) (P : α → PSt → Prop) (E : PExc → PSt → Prop) : Prop := match r with
  | .ok a τ => P a τ
  | .er e τ => E e τ
  | .no => False
theorem Res.holds_bind {α β : Type} {x : Res α} {f : α → PSt → Res β} {P : β → PSt → Prop} {E : PExc → PSt → Prop} : (x.bind f).holds P E = x.holds (fun a τ => (f a τ).holds P E) E := by
  cases x <;> rfl
theorem Res.holds.imp {α : Type} {r : Res α} {P P' : α → PSt → Prop} {E E' : PExc → PSt → Prop} (h : r.holds P E) (hp : ∀ a τ, P a τ → P' a τ) (he : ∀ a τ, E a τ → E' a τ) : r.holds P' E' := by
  cases r with
  | ok a τ => exact hp _ _ h
  | er e τ => exact he _ _ h
  | no => exact h

/-- a new object at a that nothing else holds -/
def NewAt (K : PySem.W.Frag) (C : Ctx) (F : Hp) (τ : PSt) (σ : St) (H : Hp) (a : Addr) (p : PV) : Prop :=
  ∃ own, FrO K C own F τ σ H ∧ OwAt K F H a p ∧ own a = none ∧ F a = none ∧ C.H0 a = none
def VOk (K : PySem.W.Frag) (C : Ctx) (F : Hp) (τ : PSt) (σ : St) (H : Hp) (v : V) : RV → Prop
  | .nw p => ∃ a, v = V.ref a ∧ NewAt K C F τ σ H a p
  | r => Rel K C F τ σ H ∧ RvOk K F σ v r
@[simp] def RV.nf : RV → RV
  | .nw p => .fz p
  | r => r
theorem content_nf (r : RV) (τ : PSt) : content r.nf τ = content r τ := by cases r <;> rfl
theorem leak_nf (r : RV) (τ : PSt) : leak r.nf τ = leak r τ := by cases r <;> rfl
section
variable {K : PySem.W.Frag} {C : Ctx} {F F' H H' : Hp} {τ τ' : PSt} {σ : St} {v : V} {r : RV} {p : PV} {a : Addr}
theorem NewAt.froze (h : NewAt K C F τ σ H a p) : ∃ F', Sub F F' ∧ Rel K C F' τ σ H ∧ Rp K F' (.ref a) p := by
  obtain ⟨own, R, hw, ho, hF, h0⟩ := h
  obtain ⟨o, e⟩ := hw.some_
  have s : Sub F (upd F a o) := upd_sub hF
  have rp : Rp K (upd F a o) (.ref a) p := hw.freeze s (by rw [upd_same, e])
  have ne : ∀ b i, own b = some i → b ≠ a := fun b i q z => by rw [z, ho] at q; cases q
  refine ⟨upd F a o, s, ⟨own, R.len, ?_, R.sub0.trans s, R.keep, R.there, ?_, ?_, ?_, R.ownH, R.ownB, R.bor, R.bH, fun b vs q => s _ _ (R.tups b vs q)⟩, rp⟩
  · intro b u q
    by_cases hb : b = a
    · subst hb; rw [upd_same] at q; cases q; exact e
    · rw [upd_ne hb] at q; exact R.sub b u q
  · intro b u q
    by_cases hb : b = a
    · subst hb; exact .inr (.inl h0)
    · rw [upd_ne hb] at q; exact R.frz b u q
  · intro j t hj
    have := R.slot j t hj
    cases t with
    | un => trivial
    | fz q => obtain ⟨w, hw', r'⟩ := this; exact ⟨w, hw', r'.mono s⟩
    | ow q => obtain ⟨b, hb, ob, w'⟩ := this; exact ⟨b, hb, ob, w'.mono s⟩
    | tr t => exact SlotOk.frame s (fun _ _ => rfl) (fun _ ob => ob) rfl this
    | ob c fs => exact SlotOk.frame s (fun _ _ => rfl) (fun _ ob => ob) rfl this
  · intro b i q; rw [upd_ne (ne b i q)]; exact R.ownF b i q
theorem NewAt.rel (h : NewAt K C F τ σ H a p) : Rel K C F τ σ H := let ⟨own, R, _⟩ := h; ⟨own, R⟩
theorem VOk.froze (h : VOk K C F τ σ H v r) : ∃ F', Sub F F' ∧ Rel K C F' τ σ H ∧ RvOk K F' σ v r.nf := by
  cases r with
  | fz q => exact ⟨F, Sub.refl F, h⟩
  | «at» i => exact ⟨F, Sub.refl F, h⟩
  | nw q =>
    obtain ⟨a, rfl, n⟩ := h
    obtain ⟨F', s, R, rp⟩ := n.froze
    exact ⟨F', s, R, rp⟩
theorem VOk.rel (h : VOk K C F τ σ H v r) : Rel K C F τ σ H := by
  cases r with
  | fz q => exact h.1
  | «at» i => exact h.1
  | nw q => obtain ⟨a, _, n⟩ := h; exact n.rel
theorem VOk.fz (R : Rel K C F τ σ H) (h : Rp K F v p) : VOk K C F τ σ H v (.fz p) := ⟨R, h⟩
end

/-- an exception that is in the air -/
def ExOk (K : PySem.W.Frag) (F H : Hp) (x : PExc) (c : Value) (d : Option Addr) : Prop :=
  c = .ref (He.ga K x.c) ∧ (x.fs = [] ∨ ∃ dd fvs, d = some dd ∧ F dd = some (.xd fvs) ∧ x.fs.map (·.1) = fvs.map (·.1) ∧ RpAll K F (fvs.map (·.2)) (x.fs.map (·.2)))

/-! ### the judgements -/
def OkE (K : PySem.W.Frag) (C : Ctx) (F : Hp) (σ : St) (Q : VK) : RV → PSt → Prop := fun r τ' => ∀ v H' F', Sub F F' → VOk K C F' τ' σ H' v r → Q v H'
def ErE (K : PySem.W.Frag) (C : Ctx) (F : Hp) (σ : St) (W : WX) : PExc → PSt → Prop := fun x τ' => ∀ c d H' F', Sub F F' → Rel K C F' τ' σ H' → ExOk K F' H' x c d → W c d σ H'
def OkT (K : PySem.W.Frag) (C : Ctx) (F : Hp) (σ : St) (Q : Bool → Hp → Prop) : Bool → PSt → Prop := fun b τ' => ∀ H' F', Sub F F' → Rel K C F' τ' σ H' → Q b H'
inductive RvsOk (K : PySem.W.Frag) (F : Hp) (σ : St) : List V → List RV → Prop
  | nil : RvsOk K F σ [] []
  | cons {v vs r rs} : RvOk K F σ v r → RvsOk K F σ vs rs → RvsOk K F σ (v :: vs) (r :: rs)
theorem RvsOk.mono {K : PySem.W.Frag} {F F' : Hp} {σ : St} (s : Sub F F') : ∀ {vs : List V} {rs : List RV}, RvsOk K F σ vs rs → RvsOk K F' σ vs rs
  | _, _, .nil => .nil
  | _, _, .cons h r => .cons (h.mono s) (r.mono s)
theorem RvsOk.len {K : PySem.W.Frag} {F : Hp} {σ : St} : ∀ {vs : List V} {rs : List RV}, RvsOk K F σ vs rs → vs.length = rs.length
  | _, _, .nil => rfl
  | _, _, .cons h r => congrArg (· + 1) r.len
def OkA (K : PySem.W.Frag) (C : Ctx) (F : Hp) (σ : St) (Q : List V → Hp → Prop) : List RV → PSt → Prop := fun rs τ' => ∀ vs H' F', Sub F F' → Rel K C F' τ' σ H' → RvsOk K F' σ vs rs → Q vs H'
section
variable (K : PySem.W.Frag) (W : WX) (ms : List Nat)
def SimE (t : TE) (d : PSt → Res RV) : Prop := ∀ C F τ σ H Q, C.ms = ms → Rel K C F τ σ H → (d τ).holds (OkE K C F σ Q) (ErE K C F σ W) → t σ H Q
def SimT (t : TT) (d : PSt → Res Bool) : Prop := ∀ C F τ σ H Q, C.ms = ms → Rel K C F τ σ H → (d τ).holds (OkT K C F σ Q) (ErE K C F σ W) → t σ H Q
def SimA (t : TA) (d : PSt → Res (List RV)) : Prop := ∀ C F τ σ H Q, C.ms = ms → Rel K C F τ σ H → (d τ).holds (OkA K C F σ Q) (ErE K C F σ W) → t σ H Q
end
section
variable (X : Cx)
structure ME (K : PySem.W.Frag) (W : WX) (ms : List Nat) (e : Expr) (t : TE) (d : PSt → Res RV) : Prop where
  hK : X.K = K
  pe : PE X e t
  sim : SimE K W ms t d
structure MT (K : PySem.W.Frag) (W : WX) (ms : List Nat) (e : Expr) (t : TT) (d : PSt → Res Bool) : Prop where
  hK : X.K = K
  pe : PT X e t
  sim : SimT K W ms t d
/-- a test in a chain of and, or -/
structure MW (K : PySem.W.Frag) (W : WX) (ms : List Nat) (e : Expr) (t : TT) (d : PSt → Res Bool) : Prop where
  hK : X.K = K
  pe : L2.PW X e t
  sim : SimT K W ms t d
structure MA (K : PySem.W.Frag) (W : WX) (ms : List Nat) (es : List Expr) (t : TA) (d : PSt → Res (List RV)) : Prop where
  hK : X.K = K
  pe : PA X es t
  sim : SimA K W ms t d
end
section
variable {K : PySem.W.Frag} {C : Ctx} {F F1 H H' : Hp} {τ τ' : PSt} {σ : St} {W : WX}
theorem ErE.up (s : Sub F F1) : ∀ x τ', ErE K C F σ W x τ' → ErE K C F1 σ W x τ' := fun x τ' h c d H' F' q R e => h c d H' F' (s.trans q) R e
theorem OkE.up {Q : VK} (s : Sub F F1) : ∀ r τ', OkE K C F σ Q r τ' → OkE K C F1 σ Q r τ' := fun x τ' h v H' F' q R => h v H' F' (s.trans q) R
theorem OkT.up {Q : Bool → Hp → Prop} (s : Sub F F1) : ∀ r τ', OkT K C F σ Q r τ' → OkT K C F1 σ Q r τ' := fun x τ' h H' F' q R => h H' F' (s.trans q) R
theorem OkA.up {Q : List V → Hp → Prop} (s : Sub F F1) : ∀ r τ', OkA K C F σ Q r τ' → OkA K C F1 σ Q r τ' := fun x τ' h v H' F' q R => h v H' F' (s.trans q) R
end

/-! ### what an operation gives -/
/-- a value that was there (or a number, a text); a new list or dict; a new tuple -/
inductive GV where
  | old (p : PV) | nw (p : PV) | tp (p : PV)
def ObjRep (K : PySem.W.Frag) (F : Hp) : HO → PV → Prop
  | .lst vs, .lst ps => RpAll K F vs ps
  | .tup vs, .tup ps => RpAll K F vs ps
  | .dK kvs, .dic false kps => kps.map (·.1) = kvs.map (fun x => pkA x.1) ∧ RpAll K F (kvs.map (·.2)) (kps.map (·.2))
  | .dT kvs, .dic true kps => kps.map (·.1) = kvs.map (fun x => pkT x.1) ∧ RpAll K F (kvs.map (·.2)) (kps.map (·.2))
  | _, _ => False
@[simp] def isTup : PV → Bool
  | .tup _ => true
  | _ => false
def GK (K : PySem.W.Frag) (F H : Hp) (Q : VK) : GV → Prop
  | .old p => ∀ v, Rp K F v p → Q v H
  | .nw p => isTup p = false ∧ ∀ a o, H a = none → ObjRep K F o p → Q (.ref a) (upd H a o)
  | .tp p => ∀ a o, H a = none → ObjRep K F o p → Q (.ref a) (upd H a o)
def gout (z : Option GV) (τ : PSt) : Res RV := match z with
  | some (.old p) => .ok (.fz p) τ
  | some (.nw p) => if isTup p then .no else .ok (.nw p) τ
  | some (.tp p) => .ok (.fz p) τ
  | none => .no
section
variable {K : PySem.W.Frag} {C : Ctx} {F F1 H H' : Hp} {τ τ' : PSt} {σ : St} {W : WX} {p : PV}
theorem ObjRep.mono {o : HO} (s : Sub F F1) (h : ObjRep K F o p) : ObjRep K F1 o p := by
  unfold ObjRep at h ⊢
  split at h
  · exact RpAll.mono s h
  · exact RpAll.mono s h
  · exact ⟨h.1, RpAll.mono s h.2⟩
  · exact ⟨h.1, RpAll.mono s h.2⟩
  · exact h.elim
theorem ObjRep.frozen {o : HO} {a : Addr} (h : ObjRep K F o p) (e : F a = some o) : Rp K F (.ref a) p := by
  unfold ObjRep at h
  split at h
  · exact .lst e h
  · exact .tup e h
  · exact .dk (.inl e) h.1 h.2
  · exact .dt (.inl e) h.1 h.2
  · exact h.elim
theorem ObjRep.owned {o : HO} {a : Addr} (h : ObjRep K F o p) (hp : isTup p = false) (e : H a = some o) : OwAt K F H a p := by
  unfold ObjRep at h
  split at h
  · exact ⟨_, e, h⟩
  · cases hp
  · exact ⟨_, e, h⟩
  · exact ⟨_, e, h⟩
  · exact h.elim
theorem FrO.noOwn {own : Addr → Option Nat} (R : FrO K C own F τ σ H) {a : Addr} (ha : H a = none) : own a = none := by
  cases q : own a with
  | none => rfl
  | some i =>
    obtain ⟨o, e⟩ := R.ownH a i q
    rw [ha] at e; cases e
theorem Rel.noF (R : Rel K C F τ σ H) {a : Addr} (ha : H a = none) : F a = none := by
  cases q : F a with
  | none => rfl
  | some i => rw [R.sub _ _ q] at ha; cases ha
theorem FrO.h0 {own : Addr → Option Nat} (R : FrO K C own F τ σ H) {a : Addr} (ha : H a = none) : C.H0 a = none := by
  cases q : C.H0 a with
  | none => rfl
  | some o => obtain ⟨o', e⟩ := R.there a o q; rw [e] at ha; cases ha
/-- a new object that is not frozen -/
theorem Rel.newOw (R : Rel K C F τ σ H) {a : Addr} {o : HO} (ha : H a = none) (hr : ObjRep K F o p) (hp : isTup p = false) : NewAt K C F τ σ (upd H a o) a p := by
  have hF := R.noF ha
  obtain ⟨own, R⟩ := R
  have nown : ∀ b i, own b = some i → b ≠ a := fun b i q z => by
    obtain ⟨u, hu⟩ := R.ownH b i q
    rw [z, ha] at hu; cases hu
  refine ⟨own, ⟨R.len, ?_, R.sub0, ?_, ?_, R.frz, ?_, R.ownF, ?_, R.ownB, R.bor, R.bH, fun b vs q => by
    by_cases hb : b = a
    · subst hb
      rw [upd_same] at q
      cases q
      cases p <;> first | exact hr.elim | cases hp | (have := hr; simp [ObjRep] at this)
    · rw [upd_ne hb] at q; exact R.tups b vs q⟩, hr.owned hp upd_same, R.noOwn ha, hF, R.h0 ha⟩
  · intro b u q
    have := R.sub b u q
    rw [upd_ne (ne_of_none this ha)]; exact this
  · intro b u q nb
    have := R.keep b u q nb
    rw [upd_ne (ne_of_none this ha)]; exact this
  · intro b u q
    obtain ⟨u', q'⟩ := R.there b u q
    exact ⟨u', by rw [upd_ne (ne_of_none q' ha)]; exact q'⟩
  · intro j t hj
    have := R.slot j t hj
    cases t with
    | un => trivial
    | fz q => exact this
    | ow q =>
      obtain ⟨b, hb, ob, w'⟩ := this
      exact ⟨b, hb, ob, w'.frame (upd_ne (nown b j ob))⟩
    | tr t => exact SlotOk.frame (Sub.refl _) (fun b ob => upd_ne (nown b j ob)) (fun _ ob => ob) rfl this
    | ob c fs => exact SlotOk.frame (Sub.refl _) (fun b ob => upd_ne (nown b j ob)) (fun _ ob => ob) rfl this
  · intro b i q; rw [upd_ne (nown b i q)]; exact R.ownH b i q
end
end VL

/-! VL3: expressions: names, constants, operators, calls of built-ins, methods, displays, slices, tests. -/
namespace VL
open PySem PySem.Spec L2

inductive RpWs (K : PySem.W.Frag) (F H : Hp) : List V → List PV → Prop
  | nil : RpWs K F H [] []
  | cons {v vs p ps} : RpW K F H v p → RpWs K F H vs ps → RpWs K F H (v :: vs) (p :: ps)
@[simp] def contents : List RV → PSt → Option (List PV)
  | [], _ => some []
  | r :: rs, τ => (content r τ).bind fun p => (contents rs τ).map (p :: ·)
@[simp] def leakAll : List RV → PSt → Option (List PV × PSt)
  | [], τ => some ([], τ)
  | r :: rs, τ => (leak r τ).bind fun x => (leakAll rs x.2).map fun y => (x.1 :: y.1, y.2)
section
variable {K : PySem.W.Frag} {C : Ctx} {F F1 H H' : Hp} {τ τ' : PSt} {σ : St} {W : WX} {p : PV}
theorem contents_ok (R : Rel K C F τ σ H) : ∀ {vs : List V} {rs : List RV} {ps : List PV}, RvsOk K F σ vs rs → contents rs τ = some ps → RpWs K F H vs ps
  | _, _, _, .nil, e => by cases e; exact .nil
  | _, _, _, .cons (r := r) (rs := rs) h hs, e => by
    simp only [contents, Option.bind_eq_some_iff, Option.map_eq_some_iff] at e
    obtain ⟨p, e1, ps, e2, rfl⟩ := e
    exact .cons (content_ok R h e1) (contents_ok R hs e2)
theorem leakAll_ok : ∀ {vs : List V} {rs : List RV} {ps : List PV} {τ τ' : PSt} {F : Hp}, Rel K C F τ σ H → RvsOk K F σ vs rs → leakAll rs τ = some (ps, τ') → ∃ F', Sub F F' ∧ Rel K C F' τ' σ H ∧ RpAll K F' vs ps
  | _, _, _, _, _, F, R, .nil, e => by cases e; exact ⟨F, Sub.refl F, R, .nil⟩
  | _, _, _, _, _, F, R, .cons (r := r) (rs := rs) h hs, e => by
    simp only [leakAll, Option.bind_eq_some_iff, Option.map_eq_some_iff] at e
    obtain ⟨⟨p, τ1⟩, e1, ⟨ps, τ2⟩, e2, e3⟩ := e
    cases e3
    obtain ⟨F1, s1, R1, r1⟩ := leak_ok R h e1
    obtain ⟨F2, s2, R2, r2⟩ := leakAll_ok R1 (hs.mono s1) e2
    exact ⟨F2, s1.trans s2, R2, .cons (r1.mono s2) r2⟩
theorem gk_of {F0 : Hp} {Q : VK} {z : Option GV} {E : PExc → PSt → Prop} (R : Rel K C F τ σ H) (s : Sub F0 F) (h : (gout z τ).holds (OkE K C F0 σ Q) E) : ∃ z', z = some z' ∧ GK K F H Q z' := by
  cases z with
  | none => exact h.elim
  | some z =>
    refine ⟨z, rfl, ?_⟩
    cases z with
    | old p => exact fun v hv => h v H F s ⟨R, hv⟩
    | nw p =>
      simp only [gout] at h
      split at h
      · exact h.elim
      · rename_i ht
        refine ⟨by simpa using ht, fun a o ha hr => ?_⟩
        exact h _ _ F s ⟨a, rfl, R.newOw ha hr (by simpa using ht)⟩
    | tp p =>
      intro a o ha hr
      obtain ⟨s', R'⟩ := R.new (o := o) ha
      exact h _ _ _ (s.trans s') ⟨R', (hr.mono s').frozen upd_same⟩
end
section
variable {X : Cx} {K : PySem.W.Frag} {W : WX} {ms : List Nat}

/-! ### names, constants -/
def dVar (i : Nat) : PSt → Res RV := fun τ => match τ[i]? with
  | some (.fz p) => .ok (.fz p) τ
  | some (.ow _) => .ok (.at i) τ
  | some (.tr _) => .ok (.at i) τ
  | _ => .no
theorem sim_var (i : Nat) : SimE K W ms (tVar i) (dVar i) := by
  intro C F τ σ H Q hm R h
  obtain ⟨own, R'⟩ := id R
  unfold dVar at h
  split at h
  · rename_i p e
    obtain ⟨v, hv, rv⟩ := R'.slot _ _ e
    exact ⟨v, hv, h v H F (Sub.refl F) ⟨R, rv⟩⟩
  · rename_i p e
    obtain ⟨a, hv, _, _⟩ := R'.slot _ _ e
    exact ⟨_, hv, h _ H F (Sub.refl F) ⟨R, hv⟩⟩
  · rename_i p e
    obtain ⟨v, lab, hv, _, _⟩ := R'.slot _ _ e
    exact ⟨_, hv, h _ H F (Sub.refl F) ⟨R, hv⟩⟩
  · exact h.elim
theorem me_var {e : Expr} (i : Nat) (h : PE X e (tVar i)) (hK : X.K = K := by rfl) : ME X K W ms e (tVar i) (dVar i) := ⟨hK, h, sim_var i⟩
def dC (p : PV) : PSt → Res RV := fun τ => .ok (.fz p) τ
theorem sim_c {v : V} {p : PV} (h : ∀ F, Rp K F v p) : SimE K W ms (tC v) (dC p) := by
  intro C F τ σ H Q hm R h'
  exact h' v H F (Sub.refl F) ⟨R, h F⟩
theorem me_int {i j pos} (hK : X.K = K := by rfl) : ME X K W ms (.Constant (.int i) j pos) (tC (.int i)) (dC (.int i)) := ⟨hK, pe_int, sim_c fun _ => .int i⟩
theorem me_bl {i j pos} (hK : X.K = K := by rfl) : ME X K W ms (.Constant (.bool i) j pos) (tC (.bl i)) (dC (.bl i)) := ⟨hK, pe_bl, sim_c fun _ => .bl i⟩
theorem me_non {j pos} (hK : X.K = K := by rfl) : ME X K W ms (.Constant .none j pos) (tC .non) (dC .non) := ⟨hK, pe_non, sim_c fun _ => .non⟩
theorem me_str {x : Str} {j pos} (l : List Nat) (h : x = sl l := by rfl) (hK : X.K = K := by rfl) : ME X K W ms (.Constant (.str x) j pos) (tC (.str (sl l))) (dC (.str l)) := by
  subst h
  exact ⟨hK, pe_str, sim_c fun _ => .str l⟩

/-! ### two operands -/
def Op2Ok (K : PySem.W.Frag) (r : R2) (g : PV → PV → Option GV) : Prop := ∀ F H x y p q z Q, Sub F H → RpW K F H x p → RpW K F H y q → g p q = some z → GK K F H Q z → r x y H Q
@[simp] def c2 (g : PV → PV → Option GV) (a b : Option PV) : Option GV := a.bind fun p => b.bind fun q => g p q
def dOp2 (g : PV → PV → Option GV) (d1 d2 : PSt → Res RV) : PSt → Res RV := fun τ => (d1 τ).bind fun r1 τ1 => (d2 τ1).bind fun r2 τ2 => gout (c2 g (content r1 τ2) (content r2 τ2)) τ2
theorem sim_op2 {r : R2} {g : PV → PV → Option GV} {ta tb : TE} {d1 d2 : PSt → Res RV} (hg : Op2Ok K r g) (h1 : SimE K W ms ta d1) (h2 : SimE K W ms tb d2) : SimE K W ms (tOp r ta tb) (dOp2 g d1 d2) := by
  intro C F τ σ H Q hm R h
  unfold dOp2 at h
  rw [Res.holds_bind] at h
  refine h1 C F τ σ H _ hm R (h.imp (fun r1 τ1 k => ?_) fun _ _ x => x)
  intro v1 H1 F1 s1 ok1
  obtain ⟨F1', s1', R1, rv1⟩ := ok1.froze
  rw [Res.holds_bind] at k
  refine h2 C F1' τ1 σ H1 _ hm R1 (k.imp (fun r2 τ2 k2 => ?_) (ErE.up (s1.trans s1')))
  intro v2 H2 F2 s2 ok2
  obtain ⟨F2', s2', R2, rv2⟩ := ok2.froze
  obtain ⟨z, ez, gk⟩ := gk_of R2 ((s1.trans s1').trans (s2.trans s2')) k2
  unfold c2 at ez
  simp only [Option.bind_eq_some_iff] at ez
  obtain ⟨p, e1, q, e2, e3⟩ := ez
  exact hg F2' H2 v1 v2 p q z Q R2.sub (content_ok R2 (rv1.mono (s2.trans s2')) (by rw [content_nf]; exact e1)) (content_ok R2 rv2 (by rw [content_nf]; exact e2)) e3 gk
theorem me_bin {op : Operator} {r : R2} {g : PV → PV → Option GV} {a b : Expr} {pos : Pos} {d1 d2 : PSt → Res RV} (ho : OpR X (binaryOp op) r) (hg : Op2Ok K r g) (h1 : ME X K W ms a ta d1) (h2 : ME X K W ms b tb d2) : ME X K W ms (.BinOp a op b pos) (tOp r ta tb) (dOp2 g d1 d2) := ⟨h1.hK, pe_op ho h1.pe h2.pe, sim_op2 hg h1.sim h2.sim⟩
theorem me_cmp {op : CmpOp} {r : R2} {g : PV → PV → Option GV} {a b : Expr} {pos : Pos} {d1 d2 : PSt → Res RV} (ho : OpR X (compareOp op) r) (hg : Op2Ok K r g) (h1 : ME X K W ms a ta d1) (h2 : ME X K W ms b tb d2) (hm : behindInMarks op b = false) : ME X K W ms (.Compare a [op] [b] pos) (tOp r ta tb) (dOp2 g d1 d2) := ⟨h1.hK, pe_cmpR ho h1.pe h2.pe hm, sim_op2 hg h1.sim h2.sim⟩
theorem me_ix {r : R2} {g : PV → PV → Option GV} {a b : Expr} {pos : Pos} {d1 d2 : PSt → Res RV} (ho : IxR X r) (hg : Op2Ok K r g) (h1 : ME X K W ms a ta d1) (h2 : ME X K W ms b tb d2) (hs : PlainIx b) : ME X K W ms (.Subscript a b pos) (tOp r ta tb) (dOp2 g d1 d2) := ⟨h1.hK, pe_ix ho h1.pe h2.pe hs, sim_op2 hg h1.sim h2.sim⟩
/-- by two rules for the same operator -/
theorem op_or {f : Value → Value → Sem Value} {r r' : R2} (h : OpR X f r) (h' : OpR X f r') : OpR X f (fun x y H Q => r x y H Q ∨ r' x y H Q) :=
  fun pins s σ H x y v u Q I rx ry q => q.elim (h pins s σ H x y v u Q I rx ry) (h' pins s σ H x y v u Q I rx ry)
/-- g where it answers, else g' -/
def gOr (g g' : PV → PV → Option GV) : PV → PV → Option GV := fun p q => match g p q with
  | some z => some z
  | none => g' p q
theorem Op2Ok.or {K : PySem.W.Frag} {r r' : R2} {g g' : PV → PV → Option GV} (h : Op2Ok K r g) (h' : Op2Ok K r' g') : Op2Ok K (fun x y H Q => r x y H Q ∨ r' x y H Q) (gOr g g') := by
  intro F H x y p q z Q s hx hy e k
  unfold gOr at e
  split at e
  · rename_i z' e'
    cases e
    exact .inl (h F H x y p q z Q s hx hy e' k)
  · exact .inr (h' F H x y p q z Q s hx hy e k)

/-! ### one operand -/
def Op1Ok (K : PySem.W.Frag) (r : V → Hp → VK → Prop) (g : PV → Option GV) : Prop := ∀ F H x p z Q, Sub F H → RpW K F H x p → g p = some z → GK K F H Q z → r x H Q
def dOp1 (g : PV → Option GV) (d : PSt → Res RV) : PSt → Res RV := fun τ => (d τ).bind fun r τ1 => gout ((content r τ1).bind g) τ1
theorem sim_op1 {r : V → Hp → VK → Prop} {g : PV → Option GV} {t : TE} {d : PSt → Res RV} (hg : Op1Ok K r g) (h1 : SimE K W ms t d) : SimE K W ms (fun σ H Q => t σ H fun x H1 => r x H1 Q) (dOp1 g d) := by
  intro C F τ σ H Q hm R h
  unfold dOp1 at h
  rw [Res.holds_bind] at h
  refine h1 C F τ σ H _ hm R (h.imp (fun r1 τ1 k => ?_) fun _ _ x => x)
  intro v1 H1 F1 s1 ok1
  obtain ⟨F1', s1', R1, rv1⟩ := ok1.froze
  obtain ⟨z, ez, gk⟩ := gk_of R1 (s1.trans s1') k
  simp only [Option.bind_eq_some_iff] at ez
  obtain ⟨p, e1, e2⟩ := ez
  exact hg F1' H1 v1 p z Q R1.sub (content_ok R1 rv1 (by rw [content_nf]; exact e1)) e2 gk
theorem me_un {op : UnaryOp} {r : V → Hp → VK → Prop} {g : PV → Option GV} {a : Expr} {pos : Pos} {d : PSt → Res RV} (ho : UnR X (unaryOp op) r) (hg : Op1Ok K r g) (h : ME X K W ms a t d) : ME X K W ms (.UnaryOp op a pos) (tUn r t) (dOp1 g d) := ⟨h.hK, pe_un ho h.pe, sim_op1 (r := r) hg h.sim⟩

/-! ### argument lists -/
def dNil : PSt → Res (List RV) := fun τ => .ok [] τ
def dCons (d : PSt → Res RV) (ds : PSt → Res (List RV)) : PSt → Res (List RV) := fun τ => (d τ).bind fun r τ1 => (ds τ1).bind fun rs τ2 => .ok (r.nf :: rs) τ2
theorem sim_nil : SimA K W ms tNil dNil := fun C F τ σ H Q hm R h => h [] H F (Sub.refl F) R .nil
theorem sim_cons {t : TE} {u : TA} {d : PSt → Res RV} {ds : PSt → Res (List RV)} (h1 : SimE K W ms t d) (h2 : SimA K W ms u ds) : SimA K W ms (tCons t u) (dCons d ds) := by
  intro C F τ σ H Q hm R h
  unfold dCons at h
  rw [Res.holds_bind] at h
  refine h1 C F τ σ H _ hm R (h.imp (fun r1 τ1 k => ?_) fun _ _ x => x)
  intro v1 H1 F1 s1 ok1
  obtain ⟨F1', s1', R1, rv1⟩ := ok1.froze
  rw [Res.holds_bind] at k
  refine h2 C F1' τ1 σ H1 _ hm R1 (k.imp (fun r2 τ2 k2 => ?_) (ErE.up (s1.trans s1')))
  intro vs H2 F2 s2 R2 rvs
  exact k2 _ _ _ ((s1.trans s1').trans s2) R2 (.cons (rv1.mono s2) rvs)
theorem ma_nil (hK : X.K = K := by rfl) : MA X K W ms [] tNil dNil := ⟨hK, pa_nil, sim_nil⟩
theorem ma_cons {e : Expr} {es : List Expr} {d : PSt → Res RV} {ds : PSt → Res (List RV)} (h : ME X K W ms e t d) (hs : MA X K W ms es u ds) (hst : starEach (e :: es) X.env = (false, eval e X.env) :: starEach es X.env := by rfl) : MA X K W ms (e :: es) (tCons t u) (dCons d ds) := ⟨h.hK, pa_cons h.pe hs.pe hst, sim_cons h.sim hs.sim⟩

/-! ### calls of built-ins -/
def OpNOk (K : PySem.W.Frag) (r : List V → Hp → VK → Prop) (g : List PV → Option GV) : Prop := ∀ F H vs ps z Q, Sub F H → RpWs K F H vs ps → g ps = some z → GK K F H Q z → r vs H Q
def dCB (g : List PV → Option GV) (da : PSt → Res (List RV)) : PSt → Res RV := fun τ => (da τ).bind fun rs τ1 => gout ((contents rs τ1).bind g) τ1
theorem sim_cb {r : List V → Hp → VK → Prop} {g : List PV → Option GV} {t : TA} {d : PSt → Res (List RV)} (hg : OpNOk K r g) (h1 : SimA K W ms t d) : SimE K W ms (tCB r t) (dCB g d) := by
  intro C F τ σ H Q hm R h
  unfold dCB at h
  rw [Res.holds_bind] at h
  refine h1 C F τ σ H _ hm R (h.imp (fun r1 τ1 k => ?_) fun _ _ x => x)
  intro vs H1 F1 s1 R1 rvs
  obtain ⟨z, ez, gk⟩ := gk_of R1 s1 k
  simp only [Option.bind_eq_some_iff] at ez
  obtain ⟨ps, e1, e2⟩ := ez
  exact hg F1 H1 vs ps z Q R1.sub (contents_ok R1 rvs e1) e2 gk
theorem me_cb {x : Str} {p pos : Pos} {id : String} {e : Expr} {es : List Expr} {r : List V → Hp → VK → Prop} {g : List PV → Option GV} {d : PSt → Res (List RV)} (hc : CallR X (.builtin id) r) (hgk : OpNOk K r g) (hg : Gl X x) (hm : X.mg x = none) (hv : bootBuiltins x = some (.builtin id)) (ha : MA X K W ms (e :: es) t d)
    (hn : x ≠ "__name__" := by decide) (hdb : (x == ("__debug__" : Str)) = false := by decide) (he : starEach (e :: es) X.env = (false, eval e X.env) :: starEach es X.env := by rfl) (hpl : (backTo pos (starEach es X.env)).any (·.1) = false := by rfl) :
    ME X K W ms (.Call (.Name x p) (e :: es) [] pos) (tCB r t) (dCB g d) := ⟨ha.hK, pe_callB hc hg hm hv ha.pe hn hdb he hpl, sim_cb hgk ha.sim⟩
theorem me_ct {x : Str} {p pos : Pos} {T : String} {e : Expr} {es : List Expr} {r : List V → Hp → VK → Prop} {g : List PV → Option GV} {d : PSt → Res (List RV)} (hc : CallR X (.type T) r) (hgk : OpNOk K r g) (hg : Gl X x) (hm : X.mg x = none) (hv : bootBuiltins x = some (.type T)) (ha : MA X K W ms (e :: es) t d)
    (hn : x ≠ "__name__" := by decide) (hdb : (x == ("__debug__" : Str)) = false := by decide) (he : starEach (e :: es) X.env = (false, eval e X.env) :: starEach es X.env := by rfl) (hpl : (backTo pos (starEach es X.env)).any (·.1) = false := by rfl) :
    ME X K W ms (.Call (.Name x p) (e :: es) [] pos) (tCB r t) (dCB g d) := ⟨ha.hK, pe_callTy hc hg hm hv ha.pe hn hdb he hpl, sim_cb hgk ha.sim⟩
theorem call_or {f : Value} {r r' : List V → Hp → VK → Prop} (h : CallR X f r) (h' : CallR X f r') : CallR X f (fun xs H Q => r xs H Q ∨ r' xs H Q) :=
  fun pins s σ H xs us Q I rx q => Or.elim q (h pins s σ H xs us Q I rx) (h' pins s σ H xs us Q I rx)
def gOrN (g g' : List PV → Option GV) : List PV → Option GV := fun p => match g p with
  | some z => some z
  | none => g' p
theorem OpNOk.or {K : PySem.W.Frag} {r r' : List V → Hp → VK → Prop} {g g' : List PV → Option GV} (h : OpNOk K r g) (h' : OpNOk K r' g') : OpNOk K (fun xs H Q => r xs H Q ∨ r' xs H Q) (gOrN g g') := by
  intro F H vs ps z Q s hx e k
  unfold gOrN at e
  split at e
  · rename_i z' e'
    cases e
    exact .inl (h F H vs ps z Q s hx e' k)
  · exact .inr (h' F H vs ps z Q s hx e k)

/-! ### methods of built-in types that change nothing -/
def tyP (T : String) : PV → Bool
  | .str _ => T == "str"
  | .int _ => T == "int"
  | .lst _ => T == "list"
  | _ => false
theorem tyP_ok {K : PySem.W.Frag} {T : String} {F H : Hp} {x : V} {p : PV} (s : Sub F H) (h : RpW K F H x p) (e : tyP T p = true) : tyV K T x H := by
  cases p with
  | str l =>
    rcases h with h | ⟨a, rfl, h⟩
    · cases h; show T = _; simpa [tyP] using e
    · exact h.elim
  | int l =>
    rcases h with h | ⟨a, rfl, h⟩
    · cases h; show T = _; simpa [tyP] using e
    · exact h.elim
  | lst l =>
    have e' : T = "list" := by simpa [tyP] using e
    rcases h with h | ⟨a, rfl, h⟩
    · cases h with
      | lst h r => exact .inl ⟨e', _, SqL.of (s _ _ h)⟩
    · obtain ⟨vs, h, r⟩ := h
      exact .inl ⟨e', vs, SqL.of h⟩
  | _ => cases e
def MthOk (K : PySem.W.Frag) (r : V → List V → Hp → VK → Prop) (g : PV → List PV → Option GV) : Prop := ∀ F H x vs p ps z Q, Sub F H → RpW K F H x p → RpWs K F H vs ps → g p ps = some z → GK K F H Q z → r x vs H Q
def dBM (T : String) (g : PV → List PV → Option GV) (d : PSt → Res RV) (da : PSt → Res (List RV)) : PSt → Res RV := fun τ => (d τ).bind fun r τ1 =>
  if ((content r τ1).map (tyP T)) = some true then (da τ1).bind fun rs τ2 => gout ((content r τ2).bind fun p => (contents rs τ2).bind fun ps => g p ps) τ2 else .no
theorem sim_bm {T : String} {r : V → List V → Hp → VK → Prop} {g : PV → List PV → Option GV} {to : TE} {t : TA} {d : PSt → Res RV} {da : PSt → Res (List RV)} (hg : MthOk K r g) (h1 : SimE K W ms to d) (h2 : SimA K W ms t da) : SimE K W ms (tBM K T r to t) (dBM T g d da) := by
  intro C F τ σ H Q hm R h
  unfold dBM at h
  rw [Res.holds_bind] at h
  refine h1 C F τ σ H _ hm R (h.imp (fun r1 τ1 k => ?_) fun _ _ x => x)
  intro v1 H1 F1 s1 ok1
  obtain ⟨F1', s1', R1, rv1⟩ := ok1.froze
  split at k
  · rename_i e
    obtain ⟨p0, e0, e0'⟩ := Option.map_eq_some_iff.mp e
    refine ⟨tyP_ok R1.sub (content_ok R1 rv1 (by rw [content_nf]; exact e0)) e0', ?_⟩
    rw [Res.holds_bind] at k
    refine h2 C F1' τ1 σ H1 _ hm R1 (k.imp (fun r2 τ2 k2 => ?_) (ErE.up (s1.trans s1')))
    intro vs H2 F2 s2 R2 rvs
    obtain ⟨z, ez, gk⟩ := gk_of R2 ((s1.trans s1').trans s2) k2
    simp only [Option.bind_eq_some_iff] at ez
    obtain ⟨p, e1, ps, e2, e3⟩ := ez
    exact hg F2 H2 v1 vs p ps z Q R2.sub (content_ok R2 (rv1.mono s2) (by rw [content_nf]; exact e1)) (contents_ok R2 rvs e2) e3 gk
  · exact k.elim
theorem me_bm {o e : Expr} {es : List Expr} {name : Str} {apos cpos : Pos} {T id : String} {r : V → List V → Hp → VK → Prop} {g : PV → List PV → Option GV} {d : PSt → Res RV} {da : PSt → Res (List RV)} (pa : PlainAttrs T) (slot : Slot T name id) (hty : typeOf (.builtin id) = pure (.type "method_descriptor")) (hm : MtR X id r) (hg : MthOk K r g)
    (ho : ME X K W ms o to d) (ha : MA X K W ms (e :: es) t da) (hbase : attributeBase o name X.env (eval o X.env) = eval o X.env := by rfl)
    (hfew : ((backTo cpos (starEach (e :: es) X.env)).all (fun x => !x.1) && (backToKw cpos (keywordEach [] X.env)).all (fun x => x.1.isSome)
      && decide ((e :: es).length + ([] : List Keyword).length + (if ([] : List Keyword).isEmpty then 0 else 1) < 30)) = true := by rfl)
    (hline : (apos.endLine == cpos.line) = true := by rfl) (hs : starEach (e :: es) X.env = (false, eval e X.env) :: starEach es X.env := by rfl) (hplain : (backTo cpos (starEach es X.env)).any (·.1) = false := by rfl) :
    ME X K W ms (.Call (.Attribute o name apos) (e :: es) [] cpos) (tBM K T r to t) (dBM T g d da) := by
  obtain ⟨rfl, p, s⟩ := ho
  exact ⟨rfl, pe_bm pa slot hty hm p ha.pe hbase hfew hline hs hplain, sim_bm hg s ha.sim⟩
theorem me_bm0 {o : Expr} {name : Str} {apos cpos : Pos} {T id : String} {r : V → List V → Hp → VK → Prop} {g : PV → List PV → Option GV} {d : PSt → Res RV} (pa : PlainAttrs T) (slot : Slot T name id) (hty : typeOf (.builtin id) = pure (.type "method_descriptor")) (hm : MtR X id r) (hg : MthOk K r g)
    (ho : ME X K W ms o to d) (hbase : attributeBase o name X.env (eval o X.env) = eval o X.env := by rfl) (hline : (apos.endLine == cpos.line) = true := by rfl) : ME X K W ms (.Call (.Attribute o name apos) [] [] cpos) (tBM0 K T r to) (dBM T g d dNil) := by
  obtain ⟨rfl, p, s⟩ := ho
  exact ⟨rfl, pe_bm0 pa slot hty hm p hbase hline, sim_bm (T := T) hg s sim_nil⟩

/-! ### displays -/
def dTup (da : PSt → Res (List RV)) : PSt → Res RV := fun τ => (da τ).bind fun rs τ1 => match leakAll rs τ1 with
  | some (ps, τ2) => if ps.length ≤ sizeLine then .ok (.fz (.tup ps)) τ2 else .no
  | none => .no
def dLst (da : PSt → Res (List RV)) : PSt → Res RV := fun τ => (da τ).bind fun rs τ1 => match leakAll rs τ1 with
  | some (ps, τ2) => if ps.length ≤ sizeLine then .ok (.nw (.lst ps)) τ2 else .no
  | none => .no
theorem sim_tup {t : TA} {d : PSt → Res (List RV)} (h1 : SimA K W ms t d) : SimE K W ms (tTup t) (dTup d) := by
  intro C F τ σ H Q hm R h
  unfold dTup at h
  rw [Res.holds_bind] at h
  refine h1 C F τ σ H _ hm R (h.imp (fun rs τ1 k => ?_) fun _ _ x => x)
  intro vs H1 F1 s1 R1 rvs
  split at k
  · rename_i ps τ2 e
    split at k
    · rename_i hz
      obtain ⟨F2, s2, R2, ra⟩ := leakAll_ok R1 rvs e
      refine ⟨by rw [ra.len]; exact hz, fun p hp => ?_⟩
      obtain ⟨s3, R3⟩ := R2.new (o := .tup vs) hp
      exact k _ _ _ ((s1.trans s2).trans s3) ⟨R3, .tup upd_same (ra.mono s3)⟩
    · exact k.elim
  · exact k.elim
theorem sim_lst {t : TA} {d : PSt → Res (List RV)} (h1 : SimA K W ms t d) : SimE K W ms (tLst t) (dLst d) := by
  intro C F τ σ H Q hm R h
  unfold dLst at h
  rw [Res.holds_bind] at h
  refine h1 C F τ σ H _ hm R (h.imp (fun rs τ1 k => ?_) fun _ _ x => x)
  intro vs H1 F1 s1 R1 rvs
  split at k
  · rename_i ps τ2 e
    split at k
    · rename_i hz
      obtain ⟨F2, s2, R2, ra⟩ := leakAll_ok R1 rvs e
      refine ⟨by rw [ra.len]; exact hz, fun p hp => ?_⟩
      exact k _ _ F2 (s1.trans s2) ⟨p, rfl, R2.newOw hp (o := .lst vs) (p := .lst ps) ra rfl⟩
    · exact k.elim
  · exact k.elim
theorem me_tup {es : List Expr} {x1 pos} {d : PSt → Res (List RV)} (h : MA X K W ms es t d) : ME X K W ms (.Tuple es x1 pos) (tTup t) (dTup d) := ⟨h.hK, pe_tup h.pe, sim_tup h.sim⟩
theorem me_lst {es : List Expr} {pos} {d : PSt → Res (List RV)} (h : MA X K W ms es t d) : ME X K W ms (.List es pos) (tLst t) (dLst d) := ⟨h.hK, pe_lst h.pe, sim_lst h.sim⟩
theorem me_dnew {pos} (hK : X.K = K := by rfl) : ME X K W ms (.Dict [] [] pos) tDNewK (fun τ => .ok (.nw (.dic false [])) τ) :=
  ⟨hK, pe_dnewK, fun C F τ σ H Q hm R h p hp => h _ _ F (Sub.refl F) ⟨p, rfl, R.newOw hp (o := .dK []) (p := .dic false []) ⟨rfl, .nil⟩ rfl⟩⟩
theorem me_dnewT {pos} (hK : X.K = K := by rfl) : ME X K W ms (.Dict [] [] pos) tDNewT (fun τ => .ok (.nw (.dic true [])) τ) :=
  ⟨hK, pe_dnewT, fun C F τ σ H Q hm R h p hp => h _ _ F (Sub.refl F) ⟨p, rfl, R.newOw hp (o := .dT []) (p := .dic true []) ⟨rfl, .nil⟩ rfl⟩⟩

/-! ### slices -/
def SimO (K : PySem.W.Frag) (W : WX) (ms : List Nat) (t : TO) (d : PSt → Res (Option Int)) : Prop := ∀ C F τ σ H (Q : Option Int → Hp → Prop), C.ms = ms → Rel K C F τ σ H → (d τ).holds (fun o τ' => ∀ H' F', Sub F F' → Rel K C F' τ' σ H' → Q o H') (ErE K C F σ W) → t σ H Q
structure MO (X : Cx) (K : PySem.W.Frag) (W : WX) (ms : List Nat) (e : Option Expr) (t : TO) (d : PSt → Res (Option Int)) : Prop where
  hK : X.K = K
  pe : PO X e t
  sim : SimO K W ms t d
theorem mo_none (hK : X.K = K := by rfl) : MO X K W ms none tNoPart (fun τ => .ok none τ) := ⟨hK, po_none, fun C F τ σ H Q hm R h => h H F (Sub.refl F) R⟩
def dPart (d : PSt → Res RV) : PSt → Res (Option Int) := fun τ => (d τ).bind fun r τ1 => match content r τ1 with
  | some (.int i) => .ok (some i) τ1
  | _ => .no
theorem mo_some {e : Expr} {d : PSt → Res RV} (h : ME X K W ms e t d) : MO X K W ms (some e) (tPart t) (dPart d) := by
  obtain ⟨hK, p, s⟩ := h
  refine ⟨hK, po_some p, ?_⟩
  intro C F τ σ H Q hm R h
  unfold dPart at h
  rw [Res.holds_bind] at h
  refine s C F τ σ H _ hm R (h.imp (fun r1 τ1 k => ?_) fun _ _ x => x)
  intro v1 H1 F1 s1 ok1
  obtain ⟨F1', s1', R1, rv1⟩ := ok1.froze
  split at k
  · rename_i i e
    rcases content_ok R1 rv1 (by rw [content_nf]; exact e) with q | ⟨a, rfl, q⟩
    · cases q; exact ⟨i, rfl, k _ _ (s1.trans s1') R1⟩
    · exact q.elim
  · exact k.elim
def SlOk (K : PySem.W.Frag) (r : V → Option Int → Option Int → Hp → VK → Prop) (g : PV → Option Int → Option Int → Option GV) : Prop := ∀ F H x p lo hi z Q, Sub F H → RpW K F H x p → g p lo hi = some z → GK K F H Q z → r x lo hi H Q
def dSl (g : PV → Option Int → Option Int → Option GV) (d : PSt → Res RV) (dl dh : PSt → Res (Option Int)) : PSt → Res RV := fun τ => (d τ).bind fun r τ1 => (dl τ1).bind fun lo τ2 => (dh τ2).bind fun hi τ3 => gout ((content r τ3).bind fun p => g p lo hi) τ3
theorem me_sl {r : V → Option Int → Option Int → Hp → VK → Prop} {g : PV → Option Int → Option Int → Option GV} {e : Expr} {lo hi : Option Expr} {p2 pos : Pos} {d : PSt → Res RV} {dl dh : PSt → Res (Option Int)} (hr : SlR X r) (hg : SlOk K r g) (he : ME X K W ms e t d) (hl : MO X K W ms lo tl dl) (hh : MO X K W ms hi th dh) :
    ME X K W ms (.Subscript e (.Slice lo hi none p2) pos) (tSl r t tl th) (dSl g d dl dh) := by
  obtain ⟨hK, p, s⟩ := he
  obtain ⟨_, pl, sl⟩ := hl
  obtain ⟨_, ph, sh⟩ := hh
  refine ⟨hK, pe_slice hr p pl ph, ?_⟩
  intro C F τ σ H Q hm R h
  unfold dSl at h
  rw [Res.holds_bind] at h
  refine s C F τ σ H _ hm R (h.imp (fun r1 τ1 k => ?_) fun _ _ x => x)
  intro v1 H1 F1 s1 ok1
  obtain ⟨F1', s1', R1, rv1⟩ := ok1.froze
  rw [Res.holds_bind] at k
  refine sl C F1' τ1 σ H1 _ hm R1 (k.imp (fun r2 τ2 k2 => ?_) (ErE.up (s1.trans s1')))
  intro H2 F2 s2 R2
  rw [Res.holds_bind] at k2
  refine sh C F2 τ2 σ H2 _ hm R2 (k2.imp (fun r3 τ3 k3 => ?_) (ErE.up ((s1.trans s1').trans s2)))
  intro H3 F3 s3 R3
  obtain ⟨z, ez, gk⟩ := gk_of R3 (((s1.trans s1').trans s2).trans s3) k3
  simp only [Option.bind_eq_some_iff] at ez
  obtain ⟨q, e1, e2⟩ := ez
  exact hg F3 H3 v1 q _ _ z Q R3.sub (content_ok R3 (rv1.mono (s2.trans s3)) (by rw [content_nf]; exact e1)) e2 gk

/-! ### tests -/
def dTst (d : PSt → Res RV) : PSt → Res Bool := fun τ => (d τ).bind fun r τ1 => match content r τ1 with
  | some (.bl b) => .ok b τ1
  | _ => .no
theorem sim_tst {t : TE} {d : PSt → Res RV} (s : SimE K W ms t d) : SimT K W ms (fun σ H Q => t σ H fun x H' => ∃ k, x = .bl k ∧ Q k H') (dTst d) := by
  intro C F τ σ H Q hm R h
  unfold dTst at h
  rw [Res.holds_bind] at h
  refine s C F τ σ H _ hm R (h.imp (fun r1 τ1 k => ?_) fun _ _ x => x)
  intro v1 H1 F1 s1 ok1
  obtain ⟨F1', s1', R1, rv1⟩ := ok1.froze
  split at k
  · rename_i i e
    rcases content_ok R1 rv1 (by rw [content_nf]; exact e) with q | ⟨a, rfl, q⟩
    · cases q; exact ⟨i, rfl, k _ _ (s1.trans s1') R1⟩
    · exact q.elim
  · exact k.elim
theorem mt_val {e : Expr} {d : PSt → Res RV} (h : ME X K W ms e t d) (he : ∀ whole, isTrue e X.env whole = (do let v ← whole; standAt e.pos; holding [v] (truthy v)) := by intro _; rfl) : MT X K W ms e (tB t) (dTst d) := ⟨h.hK, pt_val h.pe he, sim_tst h.sim⟩
theorem mt_cmp {op : CmpOp} {r : R2} {g : PV → PV → Option GV} {a b : Expr} {pos : Pos} {d1 d2 : PSt → Res RV} (ho : OpR X (compareOp op) r) (hg : Op2Ok K r g) (h1 : ME X K W ms a ta d1) (h2 : ME X K W ms b tb d2) (hm : behindInMarks op b = false) : MT X K W ms (.Compare a [op] [b] pos) (tTest (tOp r ta tb)) (dTst (dOp2 g d1 d2)) := ⟨h1.hK, pt_cmpR ho h1.pe h2.pe hm, sim_tst (sim_op2 hg h1.sim h2.sim)⟩
/-- by truth: none, a number, a text, a list, a tuple -/
@[simp] def truP : PV → Option Bool
  | .non => some false
  | .bl b => some b
  | .int i => some (i != 0)
  | .str l => if l.length ≤ sizeLine then some (!l.isEmpty) else none
  | .lst l => some (!l.isEmpty)
  | .tup l => some (!l.isEmpty)
  | _ => none
def dTru (d : PSt → Res RV) : PSt → Res Bool := fun τ => (d τ).bind fun r τ1 => match (content r τ1).bind truP with
  | some b => .ok b τ1
  | none => .no
theorem RpAll.emp {K : PySem.W.Frag} {F : Hp} {vs : List V} {ps : List PV} (r : RpAll K F vs ps) : (!ps.isEmpty) = !vs.isEmpty := by cases r <;> rfl
theorem truP_ok {K : PySem.W.Frag} {F H : Hp} {x : V} {p : PV} {b : Bool} (s : Sub F H) (h : RpW K F H x p) (e : truP p = some b) : TruV K x H b := by
  cases p with
  | non => rcases h with h | ⟨a, rfl, h⟩ <;> cases h; cases e; rfl
  | bl c => rcases h with h | ⟨a, rfl, h⟩ <;> cases h; cases e; rfl
  | int c => rcases h with h | ⟨a, rfl, h⟩ <;> cases h; cases e; rfl
  | str l =>
    rcases h with h | ⟨a, rfl, h⟩
    · cases h
      simp only [truP] at e
      split at e
      · rename_i hz
        cases e
        refine ⟨by rw [sl_length]; exact hz, ?_⟩
        rw [sl_length]
        cases l <;> simp <;> omega
      · cases e
    · exact h.elim
  | lst l =>
    cases e
    rcases h with h | ⟨a, rfl, h⟩
    · cases h with
      | lst h r => exact .inl ⟨_, SqL.of (s _ _ h), r.emp⟩
    · obtain ⟨vs, h, r⟩ := h
      exact .inl ⟨_, SqL.of h, r.emp⟩
  | tup l =>
    cases e
    rcases h with h | ⟨a, rfl, h⟩
    · cases h with
      | tup h r => exact .inr (.inl ⟨_, SqT.of (s _ _ h), r.emp⟩)
    · exact h.elim
  | _ => cases e
theorem mt_tru {e : Expr} {d : PSt → Res RV} (h : ME X K W ms e t d) (he : ∀ whole, isTrue e X.env whole = (do let v ← whole; standAt e.pos; holding [v] (truthy v)) := by intro _; rfl) : MT X K W ms e (fun σ H Q => t σ H fun x H' => ∃ k, TruV K x H' k ∧ Q k H') (dTru d) := by
  obtain ⟨rfl, p, s⟩ := h
  refine ⟨rfl, pt_truth p he, ?_⟩
  intro C F τ σ H Q hm R h
  unfold dTru at h
  rw [Res.holds_bind] at h
  refine s C F τ σ H _ hm R (h.imp (fun r1 τ1 k => ?_) fun _ _ x => x)
  intro v1 H1 F1 s1 ok1
  obtain ⟨F1', s1', R1, rv1⟩ := ok1.froze
  split at k
  · rename_i b e
    obtain ⟨p, e1, e2⟩ := Option.bind_eq_some_iff.mp e
    exact ⟨b, truP_ok R1.sub (content_ok R1 rv1 (by rw [content_nf]; exact e1)) e2, k _ _ (s1.trans s1') R1⟩
  · exact k.elim
def dNot (d : PSt → Res Bool) : PSt → Res Bool := fun τ => (d τ).bind fun b τ1 => .ok (!b) τ1
def dAnd (d d' : PSt → Res Bool) : PSt → Res Bool := fun τ => (d τ).bind fun b τ1 => if b then d' τ1 else .ok false τ1
def dOr (d d' : PSt → Res Bool) : PSt → Res Bool := fun τ => (d τ).bind fun b τ1 => if b then .ok true τ1 else d' τ1
theorem sim_not {t : TT} {d : PSt → Res Bool} (s : SimT K W ms t d) : SimT K W ms (tNot t) (dNot d) := by
  intro C F τ σ H Q hm R h
  unfold dNot at h
  rw [Res.holds_bind] at h
  exact s C F τ σ H _ hm R (h.imp (fun r1 τ1 k => k) fun _ _ x => x)
theorem sim_and {t u : TT} {d d' : PSt → Res Bool} (s : SimT K W ms t d) (s' : SimT K W ms u d') : SimT K W ms (tAnd t u) (dAnd d d') := by
  intro C F τ σ H Q hm R h
  unfold dAnd at h
  rw [Res.holds_bind] at h
  refine s C F τ σ H _ hm R (h.imp (fun b τ1 k => ?_) fun _ _ x => x)
  intro H1 F1 s1 R1
  cases b with
  | true =>
    rw [if_pos rfl] at k ⊢
    exact s' C F1 τ1 σ H1 _ hm R1 (k.imp (OkT.up s1) (ErE.up s1))
  | false => exact k _ _ s1 R1
theorem sim_or {t u : TT} {d d' : PSt → Res Bool} (s : SimT K W ms t d) (s' : SimT K W ms u d') : SimT K W ms (tOr t u) (dOr d d') := by
  intro C F τ σ H Q hm R h
  unfold dOr at h
  rw [Res.holds_bind] at h
  refine s C F τ σ H _ hm R (h.imp (fun b τ1 k => ?_) fun _ _ x => x)
  intro H1 F1 s1 R1
  cases b with
  | true => exact k _ _ s1 R1
  | false => exact s' C F1 τ1 σ H1 _ hm R1 (k.imp (OkT.up s1) (ErE.up s1))
theorem mt_not {e : Expr} {pos : Pos} (h : MT X K W ms e t d) : MT X K W ms (.UnaryOp .Not e pos) (tNot t) (dNot d) := ⟨h.hK, pt_not h.pe, sim_not h.sim⟩
theorem mt_w {e : Expr} (h : MW X K W ms e t d) : MT X K W ms e t d := ⟨h.hK, h.pe.pt, h.sim⟩
theorem mw_and {a b : Expr} {rest : List Expr} {pos : Pos} (h : MT X K W ms a t d) (h' : MW X K W ms (.BoolOp .And (b :: rest) pos) u d') : MW X K W ms (.BoolOp .And (a :: b :: rest) pos) (tAnd t u) (dAnd d d') := ⟨h.hK, pw_and h.pe h'.pe, sim_and h.sim h'.sim⟩
theorem mw_or {a b : Expr} {rest : List Expr} {pos : Pos} (h : MT X K W ms a t d) (h' : MW X K W ms (.BoolOp .Or (b :: rest) pos) u d') : MW X K W ms (.BoolOp .Or (a :: b :: rest) pos) (tOr t u) (dOr d d') := ⟨h.hK, pw_or h.pe h'.pe, sim_or h.sim h'.sim⟩
theorem mw_and1 {a : Expr} {pos : Pos} (h : MT X K W ms a t d) : MW X K W ms (.BoolOp .And [a] pos) t d := ⟨h.hK, pw_and1 h.pe, h.sim⟩
theorem mw_or1 {a : Expr} {pos : Pos} (h : MT X K W ms a t d) : MW X K W ms (.BoolOp .Or [a] pos) t d := ⟨h.hK, pw_or1 h.pe, h.sim⟩
/-! ### and, or, not as values of True and False; a if t else b; chains -/
@[simp] def dNotV (d : PSt → Res RV) : PSt → Res RV := dOp1 (fun p => match p with
  | .bl b => some (.old (.bl !b))
  | _ => none) d
def dAndV (d d' : PSt → Res RV) : PSt → Res RV := fun τ => (d τ).bind fun r τ1 => match content r τ1 with
  | some (.bl true) => d' τ1
  | some (.bl false) => .ok (.fz (.bl false)) τ1
  | _ => .no
def dOrV (d d' : PSt → Res RV) : PSt → Res RV := fun τ => (d τ).bind fun r τ1 => match content r τ1 with
  | some (.bl true) => .ok (.fz (.bl true)) τ1
  | some (.bl false) => d' τ1
  | _ => .no
theorem sim_notV {t : TE} {d : PSt → Res RV} (s : SimE K W ms t d) : SimE K W ms (tNotV t) (dNotV d) := by
  refine sim_op1 (r := fun x H Q => ∃ c, x = .bl c ∧ Q (.bl (!c)) H) ?_ s
  intro F H x p z Q sb hx e k
  cases p <;> cases e
  rcases hx with h | ⟨a, rfl, h⟩
  · cases h; exact ⟨_, rfl, k _ (.bl _)⟩
  · exact h.elim
theorem sim_andV {t u : TE} {d d' : PSt → Res RV} (s : SimE K W ms t d) (s' : SimE K W ms u d') : SimE K W ms (tAndV t u) (dAndV d d') := by
  intro C F τ σ H Q hm R h
  unfold dAndV at h
  rw [Res.holds_bind] at h
  refine s C F τ σ H _ hm R (h.imp (fun r1 τ1 k => ?_) fun _ _ x => x)
  intro v1 H1 F1 s1 ok1
  obtain ⟨F1', s1', R1, rv1⟩ := ok1.froze
  split at k
  · rename_i e
    rcases content_ok R1 rv1 (by rw [content_nf]; exact e) with q | ⟨a, rfl, q⟩
    · cases q
      exact ⟨true, rfl, s' C F1' τ1 σ H1 _ hm R1 (k.imp (OkE.up (s1.trans s1')) (ErE.up (s1.trans s1')))⟩
    · exact q.elim
  · rename_i e
    rcases content_ok R1 rv1 (by rw [content_nf]; exact e) with q | ⟨a, rfl, q⟩
    · cases q
      exact ⟨false, rfl, k _ _ _ (s1.trans s1') ⟨R1, .bl _⟩⟩
    · exact q.elim
  · exact k.elim
theorem sim_orV {t u : TE} {d d' : PSt → Res RV} (s : SimE K W ms t d) (s' : SimE K W ms u d') : SimE K W ms (tOrV t u) (dOrV d d') := by
  intro C F τ σ H Q hm R h
  unfold dOrV at h
  rw [Res.holds_bind] at h
  refine s C F τ σ H _ hm R (h.imp (fun r1 τ1 k => ?_) fun _ _ x => x)
  intro v1 H1 F1 s1 ok1
  obtain ⟨F1', s1', R1, rv1⟩ := ok1.froze
  split at k
  · rename_i e
    rcases content_ok R1 rv1 (by rw [content_nf]; exact e) with q | ⟨a, rfl, q⟩
    · cases q
      exact ⟨true, rfl, k _ _ _ (s1.trans s1') ⟨R1, .bl _⟩⟩
    · exact q.elim
  · rename_i e
    rcases content_ok R1 rv1 (by rw [content_nf]; exact e) with q | ⟨a, rfl, q⟩
    · cases q
      exact ⟨false, rfl, s' C F1' τ1 σ H1 _ hm R1 (k.imp (OkE.up (s1.trans s1')) (ErE.up (s1.trans s1')))⟩
    · exact q.elim
  · exact k.elim
theorem me_not {e : Expr} {pos : Pos} (h : ME X K W ms e t d) : ME X K W ms (.UnaryOp .Not e pos) (tNotV t) (dNotV d) := ⟨h.hK, pe_not h.pe, sim_notV h.sim⟩
theorem me_one {e : Expr} {op : BoolOp} {pos : Pos} (h : ME X K W ms e t d) : ME X K W ms (.BoolOp op [e] pos) t d := ⟨h.hK, pe_one h.pe, h.sim⟩
theorem me_and {a b : Expr} {rest : List Expr} {pos : Pos} (h : ME X K W ms a t d) (h' : ME X K W ms (.BoolOp .And (b :: rest) pos) u d') : ME X K W ms (.BoolOp .And (a :: b :: rest) pos) (tAndV t u) (dAndV d d') := ⟨h.hK, pe_and h.pe h'.pe, sim_andV h.sim h'.sim⟩
theorem me_or {a b : Expr} {rest : List Expr} {pos : Pos} (h : ME X K W ms a t d) (h' : ME X K W ms (.BoolOp .Or (b :: rest) pos) u d') : ME X K W ms (.BoolOp .Or (a :: b :: rest) pos) (tOrV t u) (dOrV d d') := ⟨h.hK, pe_or h.pe h'.pe, sim_orV h.sim h'.sim⟩
def dIf (c : PSt → Res Bool) (d d' : PSt → Res RV) : PSt → Res RV := fun τ => (c τ).bind fun b τ1 => if b then d τ1 else d' τ1
theorem me_if {c a b : Expr} {pos : Pos} (hc : MT X K W ms c tc dc) (h : ME X K W ms a t d) (h' : ME X K W ms b u d') : ME X K W ms (.IfExp c a b pos) (tIf tc t u) (dIf dc d d') := by
  refine ⟨hc.hK, pe_ifExp hc.pe h.pe h'.pe, ?_⟩
  intro C F τ σ H Q hm R k
  unfold dIf at k
  rw [Res.holds_bind] at k
  refine hc.sim C F τ σ H _ hm R (k.imp (fun b τ1 k => ?_) fun _ _ x => x)
  intro H1 F1 s1 R1
  cases b with
  | true => exact h.sim C F1 τ1 σ H1 _ hm R1 (k.imp (OkE.up s1) (ErE.up s1))
  | false => exact h'.sim C F1 τ1 σ H1 _ hm R1 (k.imp (OkE.up s1) (ErE.up s1))
/-- a op b op' c; each comparison gives True or False -/
def dChain (g g' : PV → PV → Option GV) (da db dc : PSt → Res RV) : PSt → Res RV := fun τ => (da τ).bind fun r1 τ1 => (db τ1).bind fun r2 τ2 => match c2 g (content r1 τ2) (content r2 τ2) with
  | some (.old (.bl true)) => (dc τ2).bind fun r3 τ3 => gout (c2 g' (content r2 τ3) (content r3 τ3)) τ3
  | some (.old (.bl false)) => .ok (.fz (.bl false)) τ2
  | _ => .no
theorem me_chain {op op' : CmpOp} {r r' : R2} {g g' : PV → PV → Option GV} {a b c : Expr} {pos : Pos} (ho : OpR X (compareOp op) r) (ho' : OpR X (compareOp op') r') (hg : Op2Ok K r g) (hg' : Op2Ok K r' g') (h1 : ME X K W ms a ta da) (h2 : ME X K W ms b tb db) (h3 : ME X K W ms c tc dc)
    (hm : lastMarks [op, op'] [b, c] = false := by with_unfolding_all rfl) : ME X K W ms (.Compare a [op, op'] [b, c] pos) (tChain r r' ta tb tc) (dChain g g' da db dc) := by
  refine ⟨h1.hK, pe_chain ho ho' h1.pe h2.pe h3.pe hm, ?_⟩
  intro C F τ σ H Q hm R h
  unfold dChain at h
  rw [Res.holds_bind] at h
  refine h1.sim C F τ σ H _ hm R (h.imp (fun r1 τ1 k => ?_) fun _ _ x => x)
  intro v1 H1 F1 s1 ok1
  obtain ⟨F1', s1', R1, rv1⟩ := ok1.froze
  rw [Res.holds_bind] at k
  refine h2.sim C F1' τ1 σ H1 _ hm R1 (k.imp (fun r2 τ2 k2 => ?_) (ErE.up (s1.trans s1')))
  intro v2 H2 F2 s2 ok2
  obtain ⟨F2', s2', R2, rv2⟩ := ok2.froze
  have sA := (s1.trans s1').trans (s2.trans s2')
  split at k2
  · rename_i e
    unfold c2 at e
    simp only [Option.bind_eq_some_iff] at e
    obtain ⟨p, e1, q, e2, e3⟩ := e
    refine hg F2' H2 v1 v2 p q _ _ R2.sub (content_ok R2 (rv1.mono (s2.trans s2')) (by rw [content_nf]; exact e1)) (content_ok R2 rv2 (by rw [content_nf]; exact e2)) e3 ?_
    intro v hv
    cases hv
    refine ⟨true, rfl, ?_⟩
    rw [if_pos rfl]
    rw [Res.holds_bind] at k2
    refine h3.sim C F2' τ2 σ H2 _ hm R2 (k2.imp (fun r3 τ3 k3 => ?_) (ErE.up sA))
    intro v3 H3 F3 s3 ok3
    obtain ⟨F3', s3', R3, rv3⟩ := ok3.froze
    obtain ⟨z, ez, gk⟩ := gk_of R3 (sA.trans (s3.trans s3')) k3
    unfold c2 at ez
    simp only [Option.bind_eq_some_iff] at ez
    obtain ⟨p', e1', q', e2', e3'⟩ := ez
    exact hg' F3' H3 v2 v3 p' q' z Q R3.sub (content_ok R3 (rv2.mono (s3.trans s3')) (by rw [content_nf]; exact e1')) (content_ok R3 rv3 (by rw [content_nf]; exact e2')) e3' gk
  · rename_i e
    unfold c2 at e
    simp only [Option.bind_eq_some_iff] at e
    obtain ⟨p, e1, q, e2, e3⟩ := e
    refine hg F2' H2 v1 v2 p q _ _ R2.sub (content_ok R2 (rv1.mono (s2.trans s2')) (by rw [content_nf]; exact e1)) (content_ok R2 rv2 (by rw [content_nf]; exact e2)) e3 ?_
    intro v hv
    cases hv
    refine ⟨false, rfl, ?_⟩
    rw [if_neg (by decide)]
    exact k2 _ _ _ sA ⟨R2, .bl _⟩
  · exact k2.elim
end
end VL

/-! VL4: statements, loops, comprehensions. -/
namespace VL
open PySem PySem.Spec L2

inductive SRes where
  | nx (τ : PSt) | rt (r : SV) (τ : PSt) | bk (τ : PSt) | ct (τ : PSt) | er (e : PExc) (τ : PSt) | no
def Res.bindS {α : Type} (x : Res α) (f : α → PSt → SRes) : SRes := match x with
  | .ok a τ => f a τ
  | .er e τ => .er e τ
  | .no => .no
@[simp] theorem Res.ok_bindS {α : Type} (a : α) (τ : PSt) (f : α → PSt → SRes) : (Res.ok a τ).bindS f = f a τ := rfl
@[simp] theorem Res.er_bindS {α : Type} (e : PExc) (τ : PSt) (f : α → PSt → SRes) : (Res.er e τ : Res α).bindS f = .er e τ := rfl
@[simp] theorem Res.no_bindS {α : Type} (f : α → PSt → SRes) : (Res.no : Res α).bindS f = .no := rfl
def RetOk (K : PySem.W.Frag) (C : Ctx) (F : Hp) (τ : PSt) (σ : St) (H : Hp) (v : V) : SV → Prop
  | .fz p => Rel K C F τ σ H ∧ Rp K F v p
  | .ow p => ∃ a, v = V.ref a ∧ NewAt K C F τ σ H a p
  | .un => False
  | .tr _ => False
  | .ob _ _ => False
def SH (K : PySem.W.Frag) (C : Ctx) (F : Hp) (W : WX) (D : Ends) : SRes → Prop
  | .nx τ' => ∀ σ' H' F', Sub F F' → Rel K C F' τ' σ' H' → D.nx σ' H'
  | .bk τ' => ∀ σ' H' F', Sub F F' → Rel K C F' τ' σ' H' → D.bk σ' H'
  | .ct τ' => ∀ σ' H' F', Sub F F' → Rel K C F' τ' σ' H' → D.ct σ' H'
  | .rt r τ' => ∀ v σ' H' F', Sub F F' → RetOk K C F' τ' σ' H' v r → D.rt v H'
  | .er x τ' => ∀ c d σ' H' F', Sub F F' → Rel K C F' τ' σ' H' → ExOk K F' H' x c d → W c d σ' H'
  | .no => False
section
variable {K : PySem.W.Frag} {C : Ctx} {F F1 H H' : Hp} {τ τ' : PSt} {σ : St} {W : WX} {p : PV} {D : Ends} {ms : List Nat} {v : V}
theorem SH.up (s : Sub F F1) {r : SRes} (h : SH K C F W D r) : SH K C F1 W D r := by
  cases r with
  | nx τ => exact fun σ' H' F' q => h σ' H' F' (s.trans q)
  | bk τ => exact fun σ' H' F' q => h σ' H' F' (s.trans q)
  | ct τ => exact fun σ' H' F' q => h σ' H' F' (s.trans q)
  | rt r τ => exact fun v σ' H' F' q => h v σ' H' F' (s.trans q)
  | er x τ => exact fun c d σ' H' F' q => h c d σ' H' F' (s.trans q)
  | no => exact h
theorem SH.bind {α : Type} {x : Res α} {f : α → PSt → SRes} (h : SH K C F W D (x.bindS f)) : x.holds (fun a τ => SH K C F W D (f a τ)) (ErE K C F σ W) := by
  cases x with
  | ok a τ => exact h
  | er e τ => exact fun c d H' F' q R e => h c d σ H' F' q R e
  | no => exact h
def SimS (K : PySem.W.Frag) (W : WX) (ms : List Nat) (t : TS) (d : PSt → SRes) : Prop := ∀ C F τ σ H D, C.ms = ms → Rel K C F τ σ H → SH K C F W D (d τ) → t D σ H
end
structure MS (X : Cx) (K : PySem.W.Frag) (W : WX) (ms : List Nat) (st : Stmt) (t : TS) (d : PSt → SRes) : Prop where
  hK : X.K = K
  pe : PS X st t
  sim : SimS K W ms t d
structure MSs (X : Cx) (K : PySem.W.Frag) (W : WX) (ms : List Nat) (st : List Stmt) (t : TS) (d : PSt → SRes) : Prop where
  hK : X.K = K
  pe : PSs X st t
  sim : SimS K W ms t d

/-! ### the frame behind a store -/
section
variable {K : PySem.W.Frag} {C : Ctx} {F F1 H H' : Hp} {τ τ' : PSt} {σ : St} {W : WX} {p : PV} {D : Ends} {ms : List Nat} {v : V} {i : Nat} {a : Addr}
theorem Rel.set (R : Rel K C F τ σ H) (hi : i ∉ C.ms) (h : Rp K F v p) : Rel K C F (τ.set i (.fz p)) (σ.set i (some v)) H := by
  obtain ⟨own, R⟩ := R
  refine ⟨fun b => if own b = some i then none else own b, by rw [List.length_set, List.length_set]; exact R.len, R.sub, R.sub0, R.keep, R.there, R.frz, ?_, ?_, ?_, ?_, ?_, R.bH, R.tups⟩
  · intro j t hj
    by_cases hij : i = j
    · subst hij
      have hl : i < τ.length := by
        have := (List.getElem?_eq_some_iff.mp hj).1
        rwa [List.length_set] at this
      rw [List.getElem?_set_self hl] at hj
      cases hj
      exact ⟨v, by rw [List.getElem?_set_self (by rw [← R.len]; exact hl)], h⟩
    · rw [List.getElem?_set_ne hij] at hj
      have := R.slot j t hj
      cases t with
      | un => trivial
      | fz q => obtain ⟨w, hw', r'⟩ := this; exact ⟨w, by rw [List.getElem?_set_ne hij]; exact hw', r'⟩
      | ow q =>
        obtain ⟨b, hb, ob, w'⟩ := this
        exact ⟨b, by rw [List.getElem?_set_ne hij]; exact hb, by simp [ob, Ne.symm hij], w'⟩
      | tr t => exact SlotOk.frame (Sub.refl _) (fun _ _ => rfl) (fun b ob => by simp [ob, Ne.symm hij]) (List.getElem?_set_ne hij) this
      | ob c fs => exact SlotOk.frame (Sub.refl _) (fun _ _ => rfl) (fun b ob => by simp [ob, Ne.symm hij]) (List.getElem?_set_ne hij) this
  · intro b j q; by_cases z : own b = some i <;> simp [z] at q; exact R.ownF b j q
  · intro b j q; by_cases z : own b = some i <;> simp [z] at q; exact R.ownH b j q
  · intro b j q; by_cases z : own b = some i <;> simp [z] at q; exact R.ownB b j q
  · intro j hj
    rw [List.getElem?_set_ne (by rintro rfl; exact hi hj)]
    exact R.bor j hj
theorem NewAt.set (R : NewAt K C F τ σ H a p) (hi : i ∉ C.ms) : Rel K C F (τ.set i (.ow p)) (σ.set i (some (.ref a))) H := by
  obtain ⟨own, R, hw, ho, hF, h0⟩ := R
  obtain ⟨o, e⟩ := hw.some_
  refine ⟨fun b => if b = a then some i else if own b = some i then none else own b, by rw [List.length_set, List.length_set]; exact R.len, R.sub, R.sub0, R.keep, R.there, R.frz, ?_, ?_, ?_, ?_, ?_, R.bH, R.tups⟩
  · intro j t hj
    by_cases hij : i = j
    · subst hij
      have hl : i < τ.length := by
        have := (List.getElem?_eq_some_iff.mp hj).1
        rwa [List.length_set] at this
      rw [List.getElem?_set_self hl] at hj
      cases hj
      exact ⟨a, by rw [List.getElem?_set_self (by rw [← R.len]; exact hl)], by simp, hw⟩
    · rw [List.getElem?_set_ne hij] at hj
      have := R.slot j t hj
      cases t with
      | un => trivial
      | fz q => obtain ⟨w, hw', r'⟩ := this; exact ⟨w, by rw [List.getElem?_set_ne hij]; exact hw', r'⟩
      | ow q =>
        obtain ⟨b, hb, ob, w'⟩ := this
        have hba : b ≠ a := by rintro rfl; rw [ho] at ob; cases ob
        exact ⟨b, by rw [List.getElem?_set_ne hij]; exact hb, by simp [hba, ob, Ne.symm hij], w'⟩
      | tr t => exact SlotOk.frame (Sub.refl _) (fun _ _ => rfl) (fun b ob => by
          have hba : b ≠ a := by rintro rfl; rw [ho] at ob; cases ob
          simp [hba, ob, Ne.symm hij]) (List.getElem?_set_ne hij) this
      | ob c fs => exact SlotOk.frame (Sub.refl _) (fun _ _ => rfl) (fun b ob => by
          have hba : b ≠ a := by rintro rfl; rw [ho] at ob; cases ob
          simp [hba, ob, Ne.symm hij]) (List.getElem?_set_ne hij) this
  · intro b j q
    by_cases hb : b = a
    · rw [hb]; exact hF
    · by_cases z : own b = some i <;> simp [z, hb] at q; exact R.ownF b j q
  · intro b j q
    by_cases hb : b = a
    · rw [hb]; exact ⟨o, e⟩
    · by_cases z : own b = some i <;> simp [z, hb] at q; exact R.ownH b j q
  · intro b j q
    by_cases hb : b = a
    · rw [hb]; exact .inl h0
    · by_cases z : own b = some i <;> simp [z, hb] at q; exact R.ownB b j q
  · intro j hj
    rw [List.getElem?_set_ne (by rintro rfl; exact hi hj)]
    exact R.bor j hj
theorem Rel.forget (R : Rel K C F τ σ H) : Rel K C F (τ.set i .un) σ H := by
  obtain ⟨own, R⟩ := R
  refine ⟨own, by rw [List.length_set]; exact R.len, R.sub, R.sub0, R.keep, R.there, R.frz, ?_, R.ownF, R.ownH, R.ownB, R.bor, R.bH, R.tups⟩
  intro j t hj
  by_cases hij : i = j
  · subst hij
    have hl : i < τ.length := by
      have := (List.getElem?_eq_some_iff.mp hj).1
      rwa [List.length_set] at this
    rw [List.getElem?_set_self hl] at hj
    cases hj
    trivial
  · rw [List.getElem?_set_ne hij] at hj
    exact R.slot j t hj
theorem Rel.mutate {own : Addr → Option Nat} {o' : HO} {p' : PV} (R : FrO K C own F τ σ H) (ho : own a = some i) (ha : σ[i]? = some (some (V.ref a))) (hw : OwAt K F (upd H a o') a p') : Rel K C F (τ.set i (.ow p')) σ (upd H a o') := by
  have hF : F a = none := R.ownF a i ho
  refine ⟨own, by rw [List.length_set]; exact R.len, ?_, R.sub0, ?_, ?_, R.frz, ?_, R.ownF, ?_, R.ownB, R.bor, R.bH, fun b vs q => by
    by_cases hb : b = a
    · subst hb; exact (hw.notTup vs q).elim
    · rw [upd_ne hb] at q; exact R.tups b vs q⟩
  · intro b u q
    rw [upd_ne (by rintro rfl; rw [hF] at q; cases q)]
    exact R.sub b u q
  · intro b u q nb
    have hba : b ≠ a := by
      rintro rfl
      rcases R.ownB b i ho with z | z
      · rw [z] at q; cases q
      · exact nb ⟨i, z⟩
    rw [upd_ne hba]; exact R.keep b u q nb
  · intro b u q
    by_cases hb : b = a
    · rw [hb]; exact ⟨_, upd_same⟩
    · rw [upd_ne hb]; exact R.there b u q
  · intro j t hj
    by_cases hij : i = j
    · subst hij
      have hl : i < τ.length := by
        have := (List.getElem?_eq_some_iff.mp hj).1
        rwa [List.length_set] at this
      rw [List.getElem?_set_self hl] at hj
      cases hj
      exact ⟨a, ha, ho, hw⟩
    · rw [List.getElem?_set_ne hij] at hj
      have := R.slot j t hj
      cases t with
      | un => trivial
      | fz q => exact this
      | ow q =>
        obtain ⟨b, hb, ob, w'⟩ := this
        have hba : b ≠ a := by rintro rfl; rw [ho] at ob; cases ob; exact hij rfl
        exact ⟨b, hb, ob, w'.frame (upd_ne hba)⟩
      | tr t => exact SlotOk.frame (Sub.refl _) (fun b ob => upd_ne (by rintro rfl; rw [ho] at ob; cases ob; exact hij rfl)) (fun _ ob => ob) rfl this
      | ob c fs => exact SlotOk.frame (Sub.refl _) (fun b ob => upd_ne (by rintro rfl; rw [ho] at ob; cases ob; exact hij rfl)) (fun _ ob => ob) rfl this
  · intro b j q
    by_cases hb : b = a
    · rw [hb]; exact ⟨_, upd_same⟩
    · rw [upd_ne hb]; exact R.ownH b j q
end

section
variable {X : Cx} {K : PySem.W.Frag} {W : WX} {ms : List Nat}
/-! ### blocks -/
def dNext : PSt → SRes := fun τ => .nx τ
def dSeq (d d' : PSt → SRes) : PSt → SRes := fun τ => match d τ with
  | .nx τ' => d' τ'
  | r => r
def dNever : PSt → SRes := fun _ => .no
theorem sim_next : SimS K W ms tNext dNext := fun C F τ σ H D hm R h => h σ H F (Sub.refl F) R
theorem sim_seq {t u : TS} {d d' : PSt → SRes} (h1 : SimS K W ms t d) (h2 : SimS K W ms u d') : SimS K W ms (tSeq t u) (dSeq d d') := by
  intro C F τ σ H D hm R h
  refine h1 C F τ σ H _ hm R ?_
  unfold dSeq at h
  cases e : d τ with
  | nx τ1 =>
    rw [e] at h
    exact fun σ' H' F' s R' => h2 C F' τ1 σ' H' D hm R' (h.up s)
  | bk τ1 => rw [e] at h; exact h
  | ct τ1 => rw [e] at h; exact h
  | rt r τ1 => rw [e] at h; exact h
  | er x τ1 => rw [e] at h; exact h
  | no => rw [e] at h; exact h.elim
theorem mss_nil (hK : X.K = K := by rfl) : MSs X K W ms [] tNext dNext := ⟨hK, pss_nil, sim_next⟩
theorem mss_cons {st : Stmt} {rest : List Stmt} (h1 : MS X K W ms st t d) (h2 : MSs X K W ms rest u d') : MSs X K W ms (st :: rest) (tSeq t u) (dSeq d d') := ⟨h1.hK, pss_cons h1.pe h2.pe, sim_seq h1.sim h2.sim⟩
theorem mss_one {st : Stmt} (h1 : MS X K W ms st t d) : MSs X K W ms [st] t d := ⟨h1.hK, pss_one h1.pe, h1.sim⟩
theorem ms_pass {pos} (hK : X.K = K := by rfl) : MS X K W ms (.Pass pos) tNext dNext := ⟨hK, ps_pass, sim_next⟩
theorem ms_break {pos} (hK : X.K = K := by rfl) : MS X K W ms (.Break pos) tBreak (fun τ => .bk τ) := ⟨hK, ps_break, fun C F τ σ H D hm R h => h σ H F (Sub.refl F) R⟩
theorem ms_cont {pos} (hK : X.K = K := by rfl) : MS X K W ms (.Continue pos) tCont (fun τ => .ct τ) := ⟨hK, ps_continue, fun C F τ σ H D hm R h => h σ H F (Sub.refl F) R⟩
theorem ms_never {st : Stmt} (hK : X.K = K := by rfl) : MS X K W ms st tNever dNever := ⟨hK, ps_never, fun C F τ σ H D hm R h => h⟩
/-- what is in these variables is not needed any more -/
@[simp] def fgt : List Nat → PSt → PSt
  | [], τ => τ
  | i :: is, τ => fgt is (τ.set i .un)
theorem Rel.fgt {K : PySem.W.Frag} {C : Ctx} {F H : Hp} {σ : St} : ∀ {is : List Nat} {τ : PSt}, Rel K C F τ σ H → Rel K C F (fgt is τ) σ H
  | [], _, R => R
  | _ :: is, _, R => Rel.fgt (is := is) R.forget
def dFgt (is : List Nat) (d : PSt → SRes) : PSt → SRes := fun τ => match d τ with
  | .nx τ' => .nx (fgt is τ')
  | .ct τ' => .ct (fgt is τ')
  | .bk τ' => .bk (fgt is τ')
  | r => r
theorem sim_fgt (is : List Nat) {t : TS} {d : PSt → SRes} (h : SimS K W ms t d) : SimS K W ms t (dFgt is d) := by
  intro C F τ σ H D hm R k
  refine h C F τ σ H D hm R ?_
  unfold dFgt at k
  cases e : d τ with
  | nx τ1 => rw [e] at k; exact fun σ' H' F' s R' => k σ' H' F' s R'.fgt
  | bk τ1 => rw [e] at k; exact fun σ' H' F' s R' => k σ' H' F' s R'.fgt
  | ct τ1 => rw [e] at k; exact fun σ' H' F' s R' => k σ' H' F' s R'.fgt
  | rt r τ1 => rw [e] at k; exact k
  | er x τ1 => rw [e] at k; exact k
  | no => rw [e] at k; exact k
theorem ms_fgt (is : List Nat) {st : Stmt} (h : MS X K W ms st t d) : MS X K W ms st t (dFgt is d) := ⟨h.hK, h.pe, sim_fgt is h.sim⟩
theorem mss_fgt (is : List Nat) {st : List Stmt} (h : MSs X K W ms st t d) : MSs X K W ms st t (dFgt is d) := ⟨h.hK, h.pe, sim_fgt is h.sim⟩

/-! ### stores -/
@[simp] def putRV (i : Nat) (r : RV) (τ : PSt) : SRes := match r with
  | .nw p => .nx (τ.set i (.ow p))
  | r => match leak r τ with
    | some (p, τ') => .nx (τ'.set i (.fz p))
    | none => .no
def dAsg (i : Nat) (d : PSt → Res RV) : PSt → SRes := fun τ => (d τ).bindS (putRV i)
theorem sim_asg {i : Nat} {t : TE} {d : PSt → Res RV} (hi : i ∉ ms) (h : SimE K W ms t d) : SimS K W ms (tAsg t (gName i)) (dAsg i d) := by
  intro C F τ σ H D hm R k
  refine h C F τ σ H _ hm R ((SH.bind (σ := σ) k).imp (fun r τ1 k => ?_) fun _ _ x => x)
  intro v H1 F1 s1 ok
  cases r with
  | nw p =>
    obtain ⟨a, rfl, n⟩ := ok
    exact k _ _ F1 s1 (n.set (by rw [hm]; exact hi))
  | fz p => exact k _ _ F1 s1 (ok.1.set (by rw [hm]; exact hi) ok.2)
  | «at» j =>
    simp only [putRV] at k
    split at k
    · rename_i p τ2 e
      obtain ⟨F2, s2, R2, rp⟩ := leak_ok ok.1 ok.2 e
      exact k _ _ F2 (s1.trans s2) (R2.set (by rw [hm]; exact hi) rp)
    · exact k.elim
/-- name = value -/
theorem ms_set {i : Nat} {x : Str} {e : Expr} {pos pos' : Pos} (hN : X.N.Nodup) (hi : X.N[i]? = some x) (hx : Loc X.env.scope x) (he : ME X K W ms e t d) (hms : i ∉ ms := by decide) (hs : swapsWith e (some (.Name x pos')) pos.line X.env = pure false := by rfl) (hf : X.fn x = true ∨ X.env.scope.names.lookup x = some .local := by first | exact .inl rfl | exact .inr rfl | assumption) :
    MS X K W ms (.Assign [.Name x pos'] e pos) (tAsg t (gName i)) (dAsg i d) := ⟨he.hK, ps_set hN hi hx he.pe hs hf, sim_asg hms he.sim⟩
/-- a value that is frozen when it is stored -/
def dAsgF (i : Nat) (d : PSt → Res RV) : PSt → SRes := fun τ => (d τ).bindS fun r τ1 => match leak r τ1 with
    | some (p, τ') => .nx (τ'.set i (.fz p))
    | none => .no
theorem sim_asgF {i : Nat} {t : TE} {d : PSt → Res RV} (hi : i ∉ ms) (h : SimE K W ms t d) : SimS K W ms (tAsg t (gName i)) (dAsgF i d) := by
  intro C F τ σ H D hm R k
  refine h C F τ σ H _ hm R ((SH.bind (σ := σ) k).imp (fun r τ1 k => ?_) fun _ _ x => x)
  intro v H1 F1 s1 ok
  obtain ⟨F1', s1', R1, rv⟩ := ok.froze
  split at k
  · rename_i p τ2 e
    obtain ⟨F2, s2, R2, rp⟩ := leak_ok R1 rv (by rw [leak_nf]; exact e)
    exact k _ _ F2 ((s1.trans s1').trans s2) (R2.set (by rw [hm]; exact hi) rp)
  · exact k.elim
theorem ms_setF {i : Nat} {x : Str} {e : Expr} {pos pos' : Pos} (hN : X.N.Nodup) (hi : X.N[i]? = some x) (hx : Loc X.env.scope x) (he : ME X K W ms e t d) (hms : i ∉ ms := by decide) (hs : swapsWith e (some (.Name x pos')) pos.line X.env = pure false := by rfl) (hf : X.fn x = true ∨ X.env.scope.names.lookup x = some .local := by first | exact .inl rfl | exact .inr rfl | assumption) :
    MS X K W ms (.Assign [.Name x pos'] e pos) (tAsg t (gName i)) (dAsgF i d) := ⟨he.hK, ps_set hN hi hx he.pe hs hf, sim_asgF hms he.sim⟩

/-! ### targets -/
/-- off is: nothing changes -/
def OffIs (is : List Nat) (σ σ' : St) : Prop := σ'.length = σ.length ∧ ∀ j, j ∉ is → σ'[j]? = σ[j]?
def SimG (K : PySem.W.Frag) (ms is : List Nat) (t : TG) (g : PV → PSt → Option PSt) : Prop := ∀ C F τ σ H v p τ' (Q : St → Hp → Prop), C.ms = ms → Rel K C F τ σ H → Rp K F v p → g p τ = some τ' → (∀ σ', OffIs is σ σ' → Rel K C F τ' σ' H → Q σ' H) → t v σ H Q
def SimGs (K : PySem.W.Frag) (ms is : List Nat) (t : TGs) (g : List PV → PSt → Option PSt) : Prop := ∀ C F τ σ H vs ps τ' (Q : St → Hp → Prop), C.ms = ms → Rel K C F τ σ H → RpAll K F vs ps → g ps τ = some τ' → (∀ σ', OffIs is σ σ' → Rel K C F τ' σ' H → Q σ' H) → t vs σ H Q
structure MG (X : Cx) (K : PySem.W.Frag) (ms is : List Nat) (tg : Expr) (t : TG) (g : PV → PSt → Option PSt) : Prop where
  hK : X.K = K
  pe : PG X tg t
  sim : SimG K ms is t g
structure MGs (X : Cx) (K : PySem.W.Frag) (ms is : List Nat) (tg : List Expr) (t : TGs) (g : List PV → PSt → Option PSt) : Prop where
  hK : X.K = K
  pe : PGs X tg t
  sim : SimGs K ms is t g
def gN (i : Nat) : PV → PSt → Option PSt := fun p τ => some (τ.set i (.fz p))
def gT (g : List PV → PSt → Option PSt) : PV → PSt → Option PSt := fun p τ => match p with
  | .tup ps => g ps τ
  | .lst ps => g ps τ
  | _ => none
theorem pg_or {X : Cx} {tg : Expr} {t u : TG} (h : PG X tg t) (h' : PG X tg u) : PG X tg (fun v σ H Q => t v σ H Q ∨ u v σ H Q) :=
  ⟨fun pins s σ H v x Q I r hw => hw.elim (h.run pins s σ H v x Q I r) (h'.run pins s σ H v x Q I r)⟩
def gL0 : List PV → PSt → Option PSt := fun ps τ => match ps with
  | [] => some τ
  | _ => none
def gLc (g : PV → PSt → Option PSt) (gs : List PV → PSt → Option PSt) : List PV → PSt → Option PSt := fun ps τ => match ps with
  | p :: ps => (g p τ).bind (gs ps)
  | [] => none
theorem mg_name {i : Nat} {x : Str} {pos : Pos} (is : List Nat) (hN : X.N.Nodup) (hi : X.N[i]? = some x) (hx : Loc X.env.scope x) (hms : i ∉ ms := by decide) (his : i ∈ is := by decide) (hf : X.fn x = true ∨ X.env.scope.names.lookup x = some .local := by first | exact .inl rfl | exact .inr rfl | assumption) (hK : X.K = K := by rfl) : MG X K ms is (.Name x pos) (gName i) (gN i) := by
  refine ⟨hK, pg_name hN hi hx hf, ?_⟩
  intro C F τ σ H v p τ' Q hm R h e k
  cases e
  refine k _ ⟨List.length_set, fun j hj => ?_⟩ (R.set (by rw [hm]; exact hms) h)
  rw [List.getElem?_set_ne]
  rintro rfl
  exact hj his
theorem mgs_nil {is : List Nat} (hK : X.K = K := by rfl) : MGs X K ms is [] gNil gL0 := by
  refine ⟨hK, pgs_nil, ?_⟩
  intro C F τ σ H v p τ' Q hm R h e k
  cases h with
  | nil => cases e; exact ⟨rfl, k σ ⟨rfl, fun _ _ => rfl⟩ R⟩
  | cons _ _ => cases e
theorem mgs_cons {is : List Nat} {e : Expr} {es : List Expr} {t : TG} {u : TGs} (h1 : MG X K ms is e t g) (h2 : MGs X K ms is es u gs) (hs : (assignEach (e :: es) X.env).map (·.2) = assign e X.env :: (assignEach es X.env).map (·.2) := by rfl) : MGs X K ms is (e :: es) (gCons t u) (gLc g gs) := by
  refine ⟨h1.hK, pgs_cons h1.pe h2.pe hs, ?_⟩
  intro C F τ σ H vs ps τ' Q hm R h e k
  cases h with
  | nil => cases e
  | cons h r =>
    obtain ⟨τ1, e1, e2⟩ := Option.bind_eq_some_iff.mp e
    refine ⟨_, _, rfl, h1.sim C F τ σ H _ _ τ1 _ hm R h e1 fun σ1 o1 R1 => ?_⟩
    refine h2.sim C F τ1 σ1 H _ _ τ' _ hm R1 r e2 fun σ2 o2 R2 => k σ2 ⟨o2.1.trans o1.1, fun j hj => (o2.2 j hj).trans (o1.2 j hj)⟩ R2
theorem gLc_len {g : PV → PSt → Option PSt} {gs : List PV → PSt → Option PSt} {n : Nat} (h : ∀ ps τ τ', gs ps τ = some τ' → ps.length = n) : ∀ ps τ τ', gLc g gs ps τ = some τ' → ps.length = n + 1 := by
  intro ps τ τ' e
  cases ps with
  | nil => cases e
  | cons p ps =>
    obtain ⟨τ1, e1, e2⟩ := Option.bind_eq_some_iff.mp e
    rw [List.length_cons, h _ _ _ e2]
theorem gL0_len : ∀ ps τ τ', gL0 ps τ = some τ' → ps.length = 0 := by
  intro ps τ τ' e
  cases ps with
  | nil => rfl
  | cons p ps => cases e
theorem mg_tup {is : List Nat} {es : List Expr} {k : Nat} {t : TGs} {n : Nat} {pos : Pos} (hc : X.calm = true) (h : MGs X K ms is es t g) (hlen : ∀ ps τ τ', g ps τ = some τ' → ps.length = n)
    (hn : (assignEach es X.env).length = n := by rfl) (hst : (assignEach es X.env).findIdx? (·.1) = none := by rfl) : MG X K ms is (.Tuple es k pos) (fun v σ H Q => gTup K n t v σ H Q ∨ gLst K n t v σ H Q) (gT g) := by
  obtain ⟨rfl, p0, s0⟩ := h
  refine ⟨rfl, pg_or (pg_tup hc p0 hn hst) (pg_lst hc p0 hn hst), ?_⟩
  intro C F τ σ H v p τ' Q hm R hp e k
  cases p with
  | tup ps =>
    cases hp with
    | tup h1 h2 => exact .inl ⟨_, _, rfl, SqT.of (R.sub _ _ h1), by rw [h2.len]; exact hlen _ _ _ e, s0 C F τ σ H _ _ τ' Q hm R h2 e k⟩
  | lst ps =>
    cases hp with
    | lst h1 h2 => exact .inr ⟨_, _, rfl, SqL.of (R.sub _ _ h1), by rw [h2.len]; exact hlen _ _ _ e, s0 C F τ σ H _ _ τ' Q hm R h2 e k⟩
  | _ => cases e
/-- target = value -/
def dAsgG (g : PV → PSt → Option PSt) (d : PSt → Res RV) : PSt → SRes := fun τ => (d τ).bindS fun r τ1 => match leak r τ1 with
  | some (p, τ2) => match g p τ2 with
    | some τ3 => .nx τ3
    | none => .no
  | none => .no
theorem ms_asg {is : List Nat} {tg e : Expr} {pos : Pos} (he : ME X K W ms e t d) (hg : MG X K ms is tg u g) (hs : swapsWithSole [tg] e pos.line X.env = pure false := by rfl) (hw : swappedStores [tg] e X.env = pure none := by rfl)
    (h1 : (assignEach [tg] X.env).map (·.2) = [assign tg X.env] := by rfl) : MS X K W ms (.Assign [tg] e pos) (tAsg t u) (dAsgG g d) := by
  refine ⟨he.hK, ps_asg he.pe hg.pe hs hw h1, ?_⟩
  intro C F τ σ H D hm R k
  refine he.sim C F τ σ H _ hm R ((SH.bind (σ := σ) k).imp (fun r τ1 k => ?_) fun _ _ x => x)
  intro v H1 F1 s1 ok
  obtain ⟨F1', s1', R1, rv⟩ := ok.froze
  split at k
  · rename_i p τ2 e
    obtain ⟨F2, s2, R2, rp⟩ := leak_ok R1 rv (by rw [leak_nf]; exact e)
    split at k
    · rename_i τ3 e3
      exact hg.sim C F2 τ2 σ H1 v p τ3 _ hm R2 rp e3 fun σ' _ R3 => k _ _ F2 ((s1.trans s1').trans s2) R3
    · exact k.elim
  · exact k.elim
/-- a, b = x, y -/
def dPar (i j : Nat) (da : PSt → Res (List RV)) : PSt → SRes := fun τ => (da τ).bindS fun rs τ1 => match leakAll rs τ1 with
  | some ([p, q], τ2) => .nx ((τ2.set i (.fz p)).set j (.fz q))
  | _ => .no
theorem ms_par {i j : Nat} {x y : Str} {a b : Expr} {px py pt pos : Pos} {kt k2 pt2} (hc : X.calm = true) (hN : X.N.Nodup) (hi : X.N[i]? = some x) (hj : X.N[j]? = some y) (hij : i ≠ j)
    (hx : X.env.scope.names.lookup x = some .local) (hy : X.env.scope.names.lookup y = some .local) (ha : MA X K W ms [a, b] t d)
    (hw : swappedStores [.Tuple [.Name x px, .Name y py] kt pt] (.Tuple [a, b] k2 pt2) X.env = pure (some [x, y]))
    (hmi : i ∉ ms := by decide) (hmj : j ∉ ms := by decide)
    (hs : swapsWithSole [.Tuple [.Name x px, .Name y py] kt pt] (.Tuple [a, b] k2 pt2) pos.line X.env = pure false := by rfl) :
    MS X K W ms (.Assign [.Tuple [.Name x px, .Name y py] kt pt] (.Tuple [a, b] k2 pt2) pos) (tPar i j t) (dPar i j d) := by
  refine ⟨ha.hK, ps_par hc hN hi hj hij hx hy ha.pe hw hs, ?_⟩
  intro C F τ σ H D hm R k
  refine ha.sim C F τ σ H _ hm R ((SH.bind (σ := σ) k).imp (fun r τ1 k => ?_) fun _ _ x => x)
  intro vs H1 F1 s1 R1 rvs
  split at k
  · rename_i p q τ2 e
    obtain ⟨F2, s2, R2, ra⟩ := leakAll_ok R1 rvs e
    cases ra with
    | cons h1 r => cases r with
      | cons h2 r => cases r with
        | nil => exact ⟨_, _, rfl, k _ _ F2 (s1.trans s2) ((R2.set (by rw [hm]; exact hmi) h1).set (by rw [hm]; exact hmj) h2)⟩
  · exact k.elim

/-! ### if, return, an expression alone -/
def dIfS (c : PSt → Res Bool) (d d' : PSt → SRes) : PSt → SRes := fun τ => (c τ).bindS fun b τ1 => if b then d τ1 else d' τ1
theorem ms_if {c : Expr} {a b : List Stmt} {pos : Pos} (hc : MT X K W ms c tc dc) (ha : MSs X K W ms a t d) (hb : MSs X K W ms b u d') : MS X K W ms (.If c a b pos) (tIfS tc t u) (dIfS dc d d') := by
  refine ⟨hc.hK, ps_if hc.pe ha.pe hb.pe, ?_⟩
  intro C F τ σ H D hm R k
  refine hc.sim C F τ σ H _ hm R ((SH.bind (σ := σ) k).imp (fun b τ1 k => ?_) fun _ _ x => x)
  intro H1 F1 s1 R1
  cases b with
  | true => exact ha.sim C F1 τ1 σ H1 D hm R1 (k.up s1)
  | false => exact hb.sim C F1 τ1 σ H1 D hm R1 (k.up s1)
@[simp] def retRV (ms : List Nat) (r : RV) (τ : PSt) : SRes := match r with
  | .fz p => .rt (.fz p) τ
  | .nw p => .rt (.ow p) τ
  | .at i => match τ[i]? with
    | some (.fz p) => .rt (.fz p) τ
    | some (.ow p) => if i ∈ ms then .no else .rt (.ow p) (τ.set i .un)
    | some (.tr t) => .rt (.fz t.flat) (τ.set i (.fz t.flat))
    | _ => .no
def dRet (ms : List Nat) (d : PSt → Res RV) : PSt → SRes := fun τ => (d τ).bindS (retRV ms)
theorem ms_ret {e : Expr} {pos : Pos} (h : ME X K W ms e t d) : MS X K W ms (.Return (some e) pos) (tRet t) (dRet ms d) := by
  refine ⟨h.hK, ps_ret h.pe, ?_⟩
  intro C F τ σ H D hm R k
  refine h.sim C F τ σ H _ hm R ((SH.bind (σ := σ) k).imp (fun r τ1 k => ?_) fun _ _ x => x)
  intro v H1 F1 s1 ok
  cases r with
  | nw p => exact k v σ H1 F1 s1 ok
  | fz p => exact k v σ H1 F1 s1 ok
  | «at» i =>
    simp only [retRV] at k
    obtain ⟨⟨own, R1⟩, hv⟩ := ok
    have hv : σ[i]? = some (some v) := hv
    split at k
    · rename_i p e
      obtain ⟨w, hw, rp⟩ := R1.slot _ _ e
      rw [hv] at hw; cases hw
      exact k v σ H1 F1 s1 ⟨⟨own, R1⟩, rp⟩
    · rename_i p e
      split at k
      · exact k.elim
      · rename_i him
        obtain ⟨a, hw, ho, rp⟩ := R1.slot _ _ e
        rw [hv] at hw; cases hw
        refine k _ σ H1 F1 s1 ⟨a, rfl, fun b => if b = a then none else own b, ⟨by rw [List.length_set]; exact R1.len, R1.sub, R1.sub0, R1.keep, R1.there, R1.frz, ?_, ?_, ?_, ?_, R1.bor, R1.bH, R1.tups⟩, rp, by simp, R1.ownF _ _ ho, ?_⟩
        · intro j t hj
          by_cases hij : i = j
          · subst hij
            have hl : i < τ1.length := (List.getElem?_eq_some_iff.mp e).1
            rw [List.getElem?_set_self hl] at hj
            cases hj
            trivial
          · rw [List.getElem?_set_ne hij] at hj
            have := R1.slot j t hj
            cases t with
            | un => trivial
            | fz q => exact this
            | ow q =>
              obtain ⟨b, hb, ob, w'⟩ := this
              have hba : b ≠ a := by rintro rfl; rw [ho] at ob; cases ob; exact hij rfl
              exact ⟨b, hb, by simp [hba, ob], w'⟩
            | tr t => exact SlotOk.frame (Sub.refl _) (fun _ _ => rfl) (fun b ob => by
                have hba : b ≠ a := by rintro rfl; rw [ho] at ob; cases ob; exact hij rfl
                simp [hba, ob]) rfl this
            | ob c fs => exact SlotOk.frame (Sub.refl _) (fun _ _ => rfl) (fun b ob => by
                have hba : b ≠ a := by rintro rfl; rw [ho] at ob; cases ob; exact hij rfl
                simp [hba, ob]) rfl this
        · intro b j q; by_cases hb : b = a <;> simp [hb] at q; exact R1.ownF b j q
        · intro b j q; by_cases hb : b = a <;> simp [hb] at q; exact R1.ownH b j q
        · intro b j q; by_cases hb : b = a <;> simp [hb] at q; exact R1.ownB b j q
        · rcases R1.ownB _ _ ho with z | z
          · exact z
          · rw [hm] at z; exact absurd z.1 him
    · rename_i t e
      obtain ⟨w, lab, hw, g1, g2⟩ := R1.slot _ _ e
      rw [hv] at hw; cases hw
      obtain ⟨F2, s2, R2, rp⟩ := freezeT_ok R1 e hv g1 g2
      exact k v σ H1 F2 (s1.trans s2) ⟨R2, rp⟩
    · exact k.elim
theorem ms_retN {pos : Pos} (hK : X.K = K := by rfl) : MS X K W ms (.Return none pos) tRetN (fun τ => .rt (.fz .non) τ) := ⟨hK, ps_retN, fun C F τ σ H D hm R h => h .non σ H F (Sub.refl F) ⟨R, .non⟩⟩
def dExp (d : PSt → Res RV) : PSt → SRes := fun τ => (d τ).bindS fun _ τ1 => .nx τ1
theorem ms_expr {e : Expr} {pos : Pos} (h : ME X K W ms e t d) (hs : swapsWith e none pos.line X.env = pure false := by rfl) : MS X K W ms (.Expr e pos) (tDrop t) (dExp d) := by
  refine ⟨h.hK, ps_expr h.pe hs, ?_⟩
  intro C F τ σ H D hm R k
  refine h.sim C F τ σ H _ hm R ((SH.bind (σ := σ) k).imp (fun r τ1 k => ?_) fun _ _ x => x)
  intro v H1 F1 s1 ok
  exact k σ H1 F1 s1 ok.rel

/-! ### loops -/
def whileF (n : Nat) (c : PSt → Res Bool) (d : PSt → SRes) : PSt → SRes := match n with
  | 0 => fun _ => .no
  | n + 1 => fun τ => (c τ).bindS fun b τ1 => if b then (match d τ1 with
    | .nx τ2 => whileF n c d τ2
    | .ct τ2 => whileF n c d τ2
    | .bk τ2 => .nx τ2
    | r => r) else .nx τ1
theorem ms_while (n : Nat) {c : Expr} {body : List Stmt} {pos : Pos} (hp : PassesOwn (model X.prog X.w) X.A X.env X.xe) (hc : MT X K W ms c tc dc) (hb : MSs X K W ms body t d) : MS X K W ms (.While c body [] pos) (tWhile tc t) (whileF n dc d) := by
  refine ⟨hc.hK, ps_while hp hc.pe hb.pe, ?_⟩
  intro C F τ σ H D hm R k
  refine ⟨fun m σ' H' => ∃ F' τ', Sub F F' ∧ Rel K C F' τ' σ' H' ∧ SH K C F' W D (whileF m dc d τ'), ⟨n, F, τ, Sub.refl F, R, k⟩, ?_⟩
  rintro m σ1 H1 ⟨F1, τ1, s1, R1, k1⟩
  cases m with
  | zero => exact k1.elim
  | succ m =>
    refine hc.sim C F1 τ1 σ1 H1 _ hm R1 ((SH.bind (σ := σ1) k1).imp (fun b τ2 k2 => ?_) fun _ _ x => x)
    intro H2 F2 s2 R2
    cases b with
    | false => exact k2 σ1 H2 F2 s2 R2
    | true =>
      rw [if_pos rfl] at k2 ⊢
      refine ⟨fun σ' H' => ∃ F' τ', Sub F F' ∧ Rel K C F' τ' σ' H' ∧ SH K C F' W D (whileF m dc d τ'), fun σ' H' h => ⟨m, Nat.lt_succ_self _, h⟩, ?_⟩
      refine hb.sim C F2 τ2 σ1 H2 _ hm R2 ?_
      cases e : d τ2 with
      | nx τ3 => rw [e] at k2; exact fun σ' H' F' s R' => ⟨F', τ3, (s1.trans s2).trans s, R', k2.up (s2.trans s)⟩
      | ct τ3 => rw [e] at k2; exact fun σ' H' F' s R' => ⟨F', τ3, (s1.trans s2).trans s, R', k2.up (s2.trans s)⟩
      | bk τ3 => rw [e] at k2; exact fun σ' H' F' s R' => k2 σ' H' F' (s2.trans s) R'
      | rt r τ3 => rw [e] at k2; exact fun v σ' H' F' s R' => k2 v σ' H' F' (s2.trans s) R'
      | er x τ3 => rw [e] at k2; exact fun c d σ' H' F' s R' => k2 c d σ' H' F' (s2.trans s) R'
      | no => rw [e] at k2; exact k2.elim
/-- what a loop's turns get -/
def Iters (K : PySem.W.Frag) (J : It) (items : List PV) (F : Hp) : Prop := ∀ C i F' τ σ H, Sub F F' → Rel K C F' τ σ H →
  (i < items.length → J.go i H ∧ ∀ x H', J.yld i H x H' → ∃ F'', Sub F' F'' ∧ Rel K C F'' τ σ H' ∧ ∀ p, items[i]? = some p → Rp K F'' x p) ∧ (items.length ≤ i → J.stop i H)
def SimI (K : PySem.W.Frag) (W : WX) (ms : List Nat) (wi : TI) (d : PSt → Res (List PV)) : Prop := ∀ C F τ σ H (R : It → Hp → Prop), C.ms = ms → Rel K C F τ σ H →
  (d τ).holds (fun items τ' => ∀ J H' F', Sub F F' → Rel K C F' τ' σ H' → Iters K J items F' → R J H') (ErE K C F σ W) → wi σ H R
structure MI (X : Cx) (K : PySem.W.Frag) (W : WX) (ms : List Nat) (tg iter : Expr) (wi : TI) (d : PSt → Res (List PV)) : Prop where
  hK : X.K = K
  pe : PI X tg iter wi
  sim : SimI K W ms wi d
def loopF (step : PV → PSt → SRes) : List PV → PSt → SRes
  | [], τ => .nx τ
  | p :: ps, τ => match step p τ with
    | .nx τ' => loopF step ps τ'
    | .ct τ' => loopF step ps τ'
    | .bk τ' => .nx τ'
    | r => r
def turnF (g : PV → PSt → Option PSt) (d : PSt → SRes) : PV → PSt → SRes := fun p τ => match g p τ with
  | some τ' => d τ'
  | none => .no
def dFor (di : PSt → Res (List PV)) (g : PV → PSt → Option PSt) (d : PSt → SRes) : PSt → SRes := fun τ => (di τ).bindS fun items τ1 => loopF (turnF g d) items τ1
theorem ms_for {is : List Nat} {tg iter : Expr} {body : List Stmt} {pos : Pos} (hp : PassesOwn (model X.prog X.w) X.A X.env X.xe) (hc : X.calm = true) (hi : MI X K W ms tg iter wi di) (hg : MG X K ms is tg t g) (hb : MSs X K W ms body u d)
    (hs : ∀ x, foldedSetIterable iter X.env x = pure x := by intro _; rfl) : MS X K W ms (.For tg iter body [] pos) (tFor wi t u) (dFor di g d) := by
  refine ⟨hi.hK, ps_for hp hc hi.pe hg.pe hb.pe hs, ?_⟩
  intro C F τ σ H D hm R k
  refine hi.sim C F τ σ H _ hm R ((SH.bind (σ := σ) k).imp (fun items τ1 k => ?_) fun _ _ x => x)
  intro J H1 F1 s1 R1 it
  refine ⟨fun i m σ' H' => ∃ F' τ', m = items.length - i ∧ i ≤ items.length ∧ Sub F1 F' ∧ Rel K C F' τ' σ' H' ∧ SH K C F' W D (loopF (turnF g d) (items.drop i) τ'), ⟨_, F1, τ1, rfl, Nat.zero_le _, Sub.refl F1, R1, by rw [List.drop_zero]; exact k.up s1⟩, ?_⟩
  rintro i m σ2 H2 ⟨F2, τ2, rfl, hle, s2, R2, k2⟩
  obtain ⟨it1, it2⟩ := it C i F2 τ2 σ2 H2 s2 R2
  by_cases hlt : i < items.length
  · obtain ⟨go, y⟩ := it1 hlt
    refine .inr ⟨go, fun σ' H' => ∃ F' τ', Sub F1 F' ∧ Rel K C F' τ' σ' H' ∧ SH K C F' W D (loopF (turnF g d) (items.drop (i + 1)) τ'), fun σ' H' ⟨F', τ', s', R', k'⟩ => ⟨items.length - (i + 1), by omega, F', τ', rfl, hlt, s', R', k'⟩, fun x H3 hy => ?_⟩
    obtain ⟨F3, s3, R3, hx⟩ := y x H3 hy
    rw [List.drop_eq_getElem_cons hlt] at k2
    unfold loopF turnF at k2
    cases eg : g items[i] τ2 with
    | none => rw [eg] at k2; exact k2.elim
    | some τ3 =>
      rw [eg] at k2
      refine hg.sim C F3 τ2 σ2 H3 x _ τ3 _ hm R3 (hx _ (by simp [hlt])) eg fun σ4 _ R4 => ?_
      refine hb.sim C F3 τ3 σ4 H3 _ hm R4 ?_
      cases e : d τ3 with
      | nx τ4 => simp only [e] at k2; exact fun σ' H' F' s R' => ⟨F', τ4, (s2.trans s3).trans s, R', k2.up (s3.trans s)⟩
      | ct τ4 => simp only [e] at k2; exact fun σ' H' F' s R' => ⟨F', τ4, (s2.trans s3).trans s, R', k2.up (s3.trans s)⟩
      | bk τ4 => simp only [e] at k2; exact fun σ' H' F' s R' => k2 σ' H' F' (s3.trans s) R'
      | rt r τ4 => simp only [e] at k2; exact fun v σ' H' F' s R' => k2 v σ' H' F' (s3.trans s) R'
      | er x τ4 => simp only [e] at k2; exact fun c d σ' H' F' s R' => k2 c d σ' H' F' (s3.trans s) R'
      | no => simp only [e] at k2; exact k2.elim
  · have e : i = items.length := by omega
    refine .inl ⟨it2 (by omega), ?_⟩
    rw [List.drop_of_length_le (by omega)] at k2
    exact k2 σ2 H2 F2 (Sub.refl F2) R2
end
end VL

/-! VL5: what a def is worth, calls, comprehensions, what is walked. -/
namespace VL
open PySem PySem.Spec L2

/-! ### a def -/
def mask (ms : List Nat) (k : Nat) (τ : PSt) : PSt := (List.range k).map fun i => if i ∈ ms then τ.getD i .un else .un
def runDef (ms : List Nat) (k n : Nat) (d : PSt → SRes) : List SV → Res SV := fun args => match d (args ++ List.replicate (n - k) .un) with
  | .nx τ => .ok (.fz .non) (mask ms k τ)
  | .rt r τ => .ok r (mask ms k τ)
  | .er e τ => .er e (mask ms k τ)
  | _ => .no
/-- the promise of a def that is worth sem -/
def spOf (K : PySem.W.Frag) (k : Nat) (ms : List Nat) (sem : List SV → Res SV) : Sp := fun vs H Q E => vs.length = k ∧ ∃ F τ, Rel K ⟨H, F, vs.map some, ms⟩ F τ (vs.map some) H ∧
  (sem τ).holds (fun r τ' => ∀ v H' F', Sub F F' → RetOk K ⟨H, F, vs.map some, ms⟩ F' τ' (vs.map some) H' v r → Q v H')
    (fun x τ' => ∀ c d H' F', Sub F F' → Rel K ⟨H, F, vs.map some, ms⟩ F' τ' (vs.map some) H' → ExOk K F' H' x c d → E c d H')
section
variable {K : PySem.W.Frag} {F H F' H' : Hp} {vs : List V} {N : List Str} {ms : List Nat} {k n : Nat} {own : Addr → Option Nat} {τ : PSt} {σ : St}
theorem start_get {i : Nat} (h : i < vs.length) : (L2.start N vs)[i]? = (vs.map some)[i]? := by
  unfold L2.start
  rw [List.getElem?_append_left (by simpa using h)]
theorem fro_start (hl : vs.length = k) (hN : N.length = n) (hkn : k ≤ n) (hms : ∀ i ∈ ms, i < k) (R : FrO K ⟨H, F, vs.map some, ms⟩ own F' τ (vs.map some) H') :
    FrO K ⟨H, F, L2.start N vs, ms⟩ own F' (τ ++ List.replicate (n - k) .un) (L2.start N vs) H' := by
  have hτ : τ.length = vs.length := by have := R.len; rwa [List.length_map] at this
  have hs : (L2.start N vs).length = n := by unfold L2.start; rw [List.length_append, List.length_map, List.length_replicate]; omega
  have hB : ∀ a, (Ctx.mk H F (L2.start N vs) ms).B a ↔ (Ctx.mk H F (vs.map some) ms).B a := fun a => by
    constructor
    · rintro ⟨i, hi, e⟩
      exact ⟨i, hi, by rw [← start_get (N := N) (by rw [hl]; exact hms i hi)]; exact e⟩
    · rintro ⟨i, hi, e⟩
      exact ⟨i, hi, by show (L2.start N vs)[i]? = _; rw [start_get (N := N) (by rw [hl]; exact hms i hi)]; exact e⟩
  refine ⟨by rw [List.length_append, List.length_replicate, hτ, hs]; omega, R.sub, R.sub0, fun a o e nb => R.keep a o e fun z => nb ((hB a).mpr z), R.there, fun a o e => (R.frz a o e).imp id (Or.imp id (hB a).mpr), ?_, R.ownF, R.ownH, fun a i e => ?_, fun i hi => rfl, fun a z => R.bH a ((hB a).mp z), R.tups⟩
  · intro i s hi
    by_cases h : i < τ.length
    · rw [List.getElem?_append_left h] at hi
      have := R.slot i s hi
      have e : (L2.start N vs)[i]? = (vs.map some)[i]? := start_get (by rw [← hτ]; exact h)
      cases s with
      | un => trivial
      | fz p => obtain ⟨v, h1, h2⟩ := this; exact ⟨v, e.trans h1, h2⟩
      | ow p => obtain ⟨a, h1, h2⟩ := this; exact ⟨a, e.trans h1, h2⟩
      | tr t => exact SlotOk.frame (Sub.refl _) (fun _ _ => rfl) (fun _ ob => ob) e this
      | ob c fs => exact SlotOk.frame (Sub.refl _) (fun _ _ => rfl) (fun _ ob => ob) e this
    · rw [List.getElem?_append_right (by omega)] at hi
      rw [List.getElem?_replicate] at hi
      split at hi
      · cases hi; trivial
      · cases hi
  · rcases R.ownB a i e with z | ⟨z1, z2⟩
    · exact .inl z
    · exact .inr ⟨z1, by show (L2.start N vs)[i]? = _; rw [start_get (N := N) (by rw [hl]; exact hms i z1)]; exact z2⟩
theorem fro_mask (hl : vs.length = k) (hms : ∀ i ∈ ms, i < k) (R : FrO K ⟨H, F, L2.start N vs, ms⟩ own F' τ σ H') : FrO K ⟨H, F, vs.map some, ms⟩ own F' (mask ms k τ) (vs.map some) H' := by
  have hB : ∀ a, (Ctx.mk H F (L2.start N vs) ms).B a ↔ (Ctx.mk H F (vs.map some) ms).B a := fun a => by
    constructor
    · rintro ⟨i, hi, e⟩
      exact ⟨i, hi, by rw [← start_get (N := N) (by rw [hl]; exact hms i hi)]; exact e⟩
    · rintro ⟨i, hi, e⟩
      exact ⟨i, hi, by show (L2.start N vs)[i]? = _; rw [start_get (N := N) (by rw [hl]; exact hms i hi)]; exact e⟩
  refine ⟨by unfold mask; rw [List.length_map, List.length_range, List.length_map, hl], R.sub, R.sub0, fun a o e nb => R.keep a o e fun z => nb ((hB a).mp z), R.there, fun a o e => (R.frz a o e).imp id (Or.imp id (hB a).mp), ?_, R.ownF, R.ownH, fun a i e => ?_, fun i hi => rfl, fun a z => R.bH a ((hB a).mpr z), R.tups⟩
  · intro i s hi
    unfold mask at hi
    rw [List.getElem?_map, Option.map_eq_some_iff] at hi
    obtain ⟨j, hj, e⟩ := hi
    have hij : j = i ∧ i < k := by
      have := List.getElem?_eq_some_iff.mp hj
      obtain ⟨h1, h2⟩ := this
      rw [List.getElem_range] at h2
      rw [List.length_range] at h1
      exact ⟨h2.symm, h1⟩
    obtain ⟨rfl, hk⟩ := hij
    split at e
    · rename_i him
      have hσ : σ[j]? = (vs.map some)[j]? := (R.bor j him).trans (start_get (by rw [hl]; exact hk))
      cases q : τ[j]? with
      | none => rw [List.getD_eq_getElem?_getD, q] at e; cases e; trivial
      | some s' =>
        rw [List.getD_eq_getElem?_getD, q] at e
        cases e
        have := R.slot j s' q
        cases s' with
        | un => trivial
        | fz p => obtain ⟨v, h1, h2⟩ := this; exact ⟨v, hσ.symm.trans h1, h2⟩
        | ow p => obtain ⟨a, h1, h2⟩ := this; exact ⟨a, hσ.symm.trans h1, h2⟩
        | tr t => exact SlotOk.frame (Sub.refl _) (fun _ _ => rfl) (fun _ ob => ob) hσ.symm this
        | ob c fs => exact SlotOk.frame (Sub.refl _) (fun _ _ => rfl) (fun _ ob => ob) hσ.symm this
    · cases e; trivial
  · rcases R.ownB a i e with z | ⟨z1, z2⟩
    · exact .inl z
    · exact .inr ⟨z1, by rw [← start_get (N := N) (by rw [hl]; exact hms i z1)]; exact z2⟩
/-- a body's reading, from its def's promise -/
theorem start_ok {W : WX} {E : XK} {t : TS} {d : PSt → SRes} {Q : VK} (hd : SimS K W ms t d) (hN : N.length = n) (hkn : k ≤ n) (hms : ∀ i ∈ ms, i < k) (hW : ∀ c dd σ H, E c dd H → W c dd σ H)
    (h : spOf K k ms (runDef ms k n d) vs H Q E) : t { nx := fun _ H' => Q .non H', rt := Q } (L2.start N vs) H := by
  obtain ⟨hl, F, τ, ⟨own, R⟩, hh⟩ := h
  refine hd ⟨H, F, L2.start N vs, ms⟩ F _ _ H _ rfl ⟨own, fro_start hl hN hkn hms R⟩ ?_
  unfold runDef at hh
  cases e : d (τ ++ List.replicate (n - k) .un) with
  | nx τ' =>
    rw [e] at hh
    exact fun σ' H' F' s ⟨own', R'⟩ => hh _ H' F' s ⟨⟨own', fro_mask hl hms R'⟩, .non⟩
  | rt r τ' =>
    rw [e] at hh
    intro v σ' H' F' s ok
    cases r with
    | un => exact ok.elim
    | fz p => obtain ⟨⟨own', R'⟩, rp⟩ := ok; exact hh _ H' F' s ⟨⟨own', fro_mask hl hms R'⟩, rp⟩
    | ow p => obtain ⟨a, rfl, own', R', h1, h2, h3, h4⟩ := ok; exact hh _ H' F' s ⟨a, rfl, own', fro_mask hl hms R', h1, h2, h3, h4⟩
    | tr _ => exact ok.elim
    | ob _ _ => exact ok.elim
  | er x τ' =>
    rw [e] at hh
    exact fun c dd σ' H' F' s ⟨own', R'⟩ ex => hW _ _ _ _ (hh c dd H' F' s ⟨own', fro_mask hl hms R'⟩ ex)
  | bk τ' => rw [e] at hh; exact hh.elim
  | ct τ' => rw [e] at hh; exact hh.elim
  | no => rw [e] at hh; exact hh.elim
end

/-! ### calls -/
@[simp] def outRV (τ : PSt) : SV → Res RV
  | .fz p => .ok (.fz p) τ
  | .ow p => .ok (.nw p) τ
  | .un => .no
  | .tr _ => .no
  | .ob _ _ => .no
@[simp] def callOut (r : Res SV) (τ : PSt) : Res RV := match r with
  | .ok r _ => outRV τ r
  | .er x _ => .er x τ
  | .no => .no
/-- a call of a def that changes none of its arguments -/
def dCall (sem : List SV → Res SV) (da : PSt → Res (List RV)) : PSt → Res RV := fun τ => (da τ).bind fun rs τ1 => match leakAll rs τ1 with
  | some (ps, τ2) => callOut (sem (ps.map .fz)) τ2
  | none => .no
section
variable {K : PySem.W.Frag} {C : Ctx} {F F1 H H' : Hp} {τ τ' : PSt} {σ : St} {W : WX} {v : V}
/-- the callee's frame for the arguments that are frozen -/
theorem callee0 (R : Rel K C F τ σ H) : ∀ {vs : List V} {ps : List PV}, RpAll K F vs ps → Rel K ⟨H, F, vs.map some, []⟩ F (ps.map .fz) (vs.map some) H := by
  intro vs ps ra
  refine ⟨fun _ => none, by rw [List.length_map, List.length_map, ra.len], R.sub, Sub.refl F, fun a o e _ => e, fun a o e => ⟨o, e⟩, fun a o e => .inl e, ?_, fun a i e => (nomatch e), fun a i e => (nomatch e), fun a i e => (nomatch e), fun i hi => (nomatch hi), fun a ⟨i, hi, _⟩ => (nomatch hi), let ⟨_, R⟩ := R; R.tups⟩
  intro i s hi
  rw [List.getElem?_map, Option.map_eq_some_iff] at hi
  obtain ⟨p, e, rfl⟩ := hi
  obtain ⟨v, e', r⟩ := ra.get e
  exact ⟨v, by rw [List.getElem?_map, e']; rfl, r⟩
/-- back at the caller: the callee has changed nothing -/
theorem back0 {vs : List V} {own own' : Addr → Option Nat} {τc : PSt} (R : FrO K C own F τ σ H) (s : Sub F F1) (Rc : FrO K ⟨H, F, vs.map some, []⟩ own' F1 τc (vs.map some) H') : FrO K C own F1 τ σ H' := by
  have kp : ∀ a o, H a = some o → H' a = some o := fun a o e => Rc.keep a o e fun ⟨i, hi, _⟩ => nomatch hi
  refine ⟨R.len, Rc.sub, R.sub0.trans s, fun a o e nb => kp a o (R.keep a o e nb), fun a o e => ?_, fun a o e => ?_, fun i t hi => ?_, fun a i e => ?_, fun a i e => ?_, R.ownB, R.bor, R.bH, Rc.tups⟩
  · obtain ⟨o', e'⟩ := R.there a o e
    exact ⟨o', kp a o' e'⟩
  · rcases Rc.frz a o e with z | z | ⟨i, hi, _⟩
    · exact R.frz a o z
    · exact .inr (.inl (R.h0 z))
    · exact nomatch hi
  · have := R.slot i t hi
    cases t with
    | un => trivial
    | fz p => obtain ⟨w, h1, h2⟩ := this; exact ⟨w, h1, h2.mono s⟩
    | ow p =>
      obtain ⟨a, h1, h2, h3⟩ := this
      obtain ⟨o, e⟩ := h3.some_
      exact ⟨a, h1, h2, (h3.mono s).frame ((kp a o e).trans e.symm)⟩
    | tr t => exact SlotOk.frame s (fun b ob => by obtain ⟨o, e⟩ := R.ownH b _ ob; rw [e]; exact kp b o e) (fun _ ob => ob) rfl this
    | ob c fs => exact SlotOk.frame s (fun b ob => by obtain ⟨o, e⟩ := R.ownH b _ ob; rw [e]; exact kp b o e) (fun _ ob => ob) rfl this
  · cases q : F1 a with
    | none => rfl
    | some o =>
      rcases Rc.frz a o q with z | z | ⟨i, hi, _⟩
      · have z : F a = some o := z
        rw [R.ownF a _ e] at z; cases z
      · obtain ⟨o', e'⟩ := R.ownH a _ e
        have z : H a = none := z
        rw [z] at e'; cases e'
      · exact nomatch hi
  · obtain ⟨o', e'⟩ := R.ownH a _ e
    exact ⟨o', kp a o' e'⟩
theorem back0_new {vs : List V} {τc : PSt} {a : Addr} {p : PV} (R : Rel K C F τ σ H) (s : Sub F F1) (Rc : NewAt K ⟨H, F, vs.map some, []⟩ F1 τc (vs.map some) H' a p) : NewAt K C F1 τ σ H' a p := by
  obtain ⟨own, R⟩ := R
  obtain ⟨own', Rc, h1, h2, h3, h4⟩ := Rc
  have h4 : H a = none := h4
  exact ⟨own, back0 R s Rc, h1, R.noOwn h4, h3, R.h0 h4⟩
theorem call0_ok {sem : List SV → Res SV} {vs : List V} {ps : List PV} {F0 : Hp} {Q : VK} {n : Nat} {E : XK} (hn : vs.length = n) (R : Rel K C F τ σ H) (s0 : Sub F0 F) (ra : RpAll K F vs ps) (h : (callOut (sem (ps.map .fz)) τ).holds (OkE K C F0 σ Q) (ErE K C F0 σ W)) (hE : (∀ c d H, W c d σ H → E c d H) ∨ ∀ a x t, sem a ≠ .er x t) :
    spOf K n [] sem vs H Q E := by
  refine ⟨hn, F, ps.map .fz, callee0 R ra, ?_⟩
  cases e : sem (ps.map .fz) with
  | no => rw [e] at h; exact h.elim
  | er x τc =>
    rw [e] at h
    obtain ⟨own, R⟩ := R
    rcases hE with hE | hE
    · exact fun c d H' F' s ⟨own', Rc⟩ ex => hE _ _ _ (h c d H' F' (s0.trans s) ⟨own, back0 R s Rc⟩ ex)
    · exact absurd e (hE _ _ _)
  | ok r τc =>
    rw [e] at h
    intro v H' F' s ok
    cases r with
    | un => exact ok.elim
    | fz p =>
      obtain ⟨own, R⟩ := R
      obtain ⟨⟨own', Rc⟩, rp⟩ := ok
      exact h v H' F' (s0.trans s) ⟨⟨own, back0 R s Rc⟩, rp⟩
    | ow p =>
      obtain ⟨a, rfl, n⟩ := ok
      exact h _ H' F' (s0.trans s) ⟨a, rfl, back0_new R s n⟩
    | tr _ => exact ok.elim
    | ob _ _ => exact ok.elim
theorem sim_call {ms : List Nat} {sem : List SV → Res SV} {t : TA} {d : PSt → Res (List RV)} {n : Nat} {E : XK} (hE : (∀ c d σ H, W c d σ H → E c d H) ∨ ∀ a x t, sem a ≠ .er x t) (hn : ∀ rs τ τ', d τ = .ok rs τ' → rs.length = n) (h1 : SimA K W ms t d) : SimE K W ms (tCall (spOf K n [] sem) [] E t) (dCall sem d) := by
  intro C F τ σ H Q hm R h
  unfold dCall at h
  rw [Res.holds_bind] at h
  have hn' : ∀ rs τ', d τ = .ok rs τ' → rs.length = n := fun rs τ' => hn rs τ τ'
  cases e : d τ with
  | no => rw [e] at h; exact h.elim
  | er x τ1 =>
    refine h1 C F τ σ H _ hm R ?_
    rw [e] at h ⊢; exact h
  | ok rs τ1 =>
    refine h1 C F τ σ H _ hm R ?_
    rw [e] at h ⊢
    intro vs H1 F1 s1 R1 rvs
    have h : Res.holds (match leakAll rs τ1 with
      | some (ps, τ2) => callOut (sem (ps.map .fz)) τ2
      | none => .no) _ _ := h
    split at h
    · rename_i ps τ2 e2
      obtain ⟨F2, s2, R2, ra⟩ := leakAll_ok R1 rvs e2
      show spOf K n [] sem (vs ++ []) H1 Q E
      rw [List.append_nil]
      exact call0_ok (by rw [rvs.len]; exact hn' _ _ e) R2 (s1.trans s2) ra h (hE.imp (fun z c d H => z c d σ H) id)
    · exact h.elim
end
theorem dNil_len : ∀ rs τ τ', dNil τ = .ok rs τ' → rs.length = 0 := fun rs τ τ' e => by cases e; rfl
theorem dCons_len {d : PSt → Res RV} {ds : PSt → Res (List RV)} {n : Nat} (h : ∀ rs τ τ', ds τ = .ok rs τ' → rs.length = n) : ∀ rs τ τ', dCons d ds τ = .ok rs τ' → rs.length = n + 1 := by
  intro rs τ τ' e
  unfold dCons at e
  cases e1 : d τ with
  | no => rw [e1] at e; cases e
  | er x t => rw [e1] at e; cases e
  | ok r τ1 =>
    rw [e1] at e
    cases e2 : ds τ1 with
    | no => rw [Res.ok_bind, e2] at e; cases e
    | er x t => rw [Res.ok_bind, e2] at e; cases e
    | ok rs' τ2 =>
      rw [Res.ok_bind, e2] at e
      cases e
      rw [List.length_cons, h _ _ _ e2]
section
variable {X : Cx} {K : PySem.W.Frag} {W : WX} {ms : List Nat}
theorem me_call {sem : List SV → Res SV} {k n : Nat} {f : Addr} {fd : FuncData} {ps : List Str} {x : Str} {p pos : Pos} {e : Expr} {es : List Expr} {E : XK} {CX : CXT} (G : FnOk X.prog X.w X.K X.mg X.base CX k f fd ps (spOf K n [] sem)) (hr : Room k X.A) (hg : Gl X x) (hm : X.mg x = some (.ref f)) (hk : PySem.W.keepIn X.K (.ref f) = true) (hb : Binds X.K fd ps []) (hx : Passes CX X E) (hE : (∀ c d σ H, W c d σ H → E c d H) ∨ ∀ a x t, sem a ≠ .er x t)
    (ha : MA X K W ms (e :: es) t d) (hn : ∀ rs τ τ', d τ = .ok rs τ' → rs.length = n) (hdb : (x == ("__debug__" : Str)) = false := by decide) (he : starEach (e :: es) X.env = (false, eval e X.env) :: starEach es X.env := by rfl) (hpl : (backTo pos (starEach es X.env)).any (·.1) = false := by rfl) :
    ME X K W ms (.Call (.Name x p) (e :: es) [] pos) (tCall (spOf K n [] sem) [] E t) (dCall sem d) := ⟨ha.hK, pe_call G hr hg hm hk hb .nil hx ha.pe hdb he hpl, sim_call hE hn ha.sim⟩
end

/-! ### a call of a def that changes one of its arguments -/
@[simp] def leakBut : Nat → List RV → PSt → Option (List SV × PSt)
  | _, [], τ => some ([], τ)
  | 0, _ :: rs, τ => (leakAll rs τ).map fun x => (SV.un :: x.1.map SV.fz, x.2)
  | m + 1, r :: rs, τ => (leak r τ).bind fun x => (leakBut m rs x.2).map fun y => (SV.fz x.1 :: y.1, y.2)
@[simp] def callOut1 (m i : Nat) (r : Res SV) (τ : PSt) : Res RV := match r with
  | .ok r τc => outRV (τ.set i (τc.getD m .un)) r
  | .er x τc => .er x (τ.set i (τc.getD m .un))
  | .no => .no
def dCallM (m : Nat) (sem : List SV → Res SV) (da : PSt → Res (List RV)) : PSt → Res RV := fun τ => (da τ).bind fun rs τ1 => match rs[m]? with
  | some (.at i) => (match leakBut m rs τ1 with
    | some (ss, τ2) => (match τ2[i]? with
      | some (.ow p) => callOut1 m i (sem (ss.set m (.ow p))) τ2
      | _ => .no)
    | none => .no)
  | _ => .no
section
variable {K : PySem.W.Frag} {C : Ctx} {F F1 H H' : Hp} {τ τ' : PSt} {σ : St} {W : WX} {v : V}
/-- the frozen arguments -/
def SvsOk (K : PySem.W.Frag) (F : Hp) (vs : List V) (ss : List SV) : Prop := vs.length = ss.length ∧ ∀ (i : Nat) (s : SV), ss[i]? = some s → s = SV.un ∨ ∃ p v, s = SV.fz p ∧ vs[i]? = some v ∧ Rp K F v p
theorem leakBut_ok : ∀ {m : Nat} {vs : List V} {rs : List RV} {ss : List SV} {τ τ' : PSt} {F : Hp}, Rel K C F τ σ H → RvsOk K F σ vs rs → leakBut m rs τ = some (ss, τ') → ∃ F', Sub F F' ∧ Rel K C F' τ' σ H ∧ SvsOk K F' vs ss
  | m, _, _, _, _, _, F, R, .nil, e => by cases m <;> (cases e; exact ⟨F, Sub.refl F, R, rfl, fun i s h => by simp at h⟩)
  | 0, _, _, _, _, _, F, R, .cons (r := r) (rs := rs) h hs, e => by
    obtain ⟨⟨ps, τ2⟩, e1, e2⟩ := Option.map_eq_some_iff.mp e
    cases e2
    obtain ⟨F1, s1, R1, ra⟩ := leakAll_ok R hs e1
    refine ⟨F1, s1, R1, by simp [ra.len], fun i s hi => ?_⟩
    cases i with
    | zero => simp at hi; exact Or.inl hi.symm
    | succ i =>
      simp only [List.getElem?_cons_succ, List.getElem?_map, Option.map_eq_some_iff] at hi
      obtain ⟨p, e, rfl⟩ := hi
      obtain ⟨v, e', r⟩ := ra.get e
      exact .inr ⟨p, v, rfl, by simpa using e', r⟩
  | m + 1, _, _, _, _, _, F, R, .cons (r := r) (rs := rs) h hs, e => by
    obtain ⟨⟨p, τ1⟩, e1, e2⟩ := Option.bind_eq_some_iff.mp e
    obtain ⟨⟨ss, τ2⟩, e3, e4⟩ := Option.map_eq_some_iff.mp e2
    cases e4
    obtain ⟨F1, s1, R1, rp⟩ := leak_ok R h e1
    obtain ⟨F2, s2, R2, hl, hss⟩ := leakBut_ok (m := m) R1 (hs.mono s1) e3
    refine ⟨F2, s1.trans s2, R2, by simp [hl], fun i s hi => ?_⟩
    cases i with
    | zero => simp at hi; subst hi; exact .inr ⟨_, _, rfl, rfl, rp.mono s2⟩
    | succ i => simpa using hss i s (by simpa using hi)
theorem callee1 {own : Addr → Option Nat} {m i : Nat} {a : Addr} {p : PV} {vs : List V} {ss : List SV} (R : FrO K C own F τ σ H) (hs : SvsOk K F vs ss) (hv : vs[m]? = some (.ref a)) (hi : τ[i]? = some (.ow p)) (ha : σ[i]? = some (some (V.ref a))) :
    Rel K ⟨H, F, vs.map some, [m]⟩ F (ss.set m (.ow p)) (vs.map some) H := by
  obtain ⟨a', h1, h2, h3⟩ := R.slot _ _ hi
  rw [ha] at h1; cases h1
  obtain ⟨o, ho⟩ := h3.some_
  refine ⟨fun b => if b = a then some m else none, by rw [List.length_set, List.length_map]; exact hs.1.symm, R.sub, Sub.refl F, fun a o e _ => e, fun a o e => ⟨o, e⟩, fun a o e => .inl e, ?_, fun b j e => ?_, fun b j e => ?_, fun b j e => ?_, fun i hi => rfl, fun b ⟨j, hj, e⟩ => ?_, R.tups⟩
  · intro j s hj
    by_cases hmj : m = j
    · subst hmj
      have hl : m < ss.length := by
        have := (List.getElem?_eq_some_iff.mp hj).1
        rwa [List.length_set] at this
      rw [List.getElem?_set_self hl] at hj
      cases hj
      exact ⟨a, by rw [List.getElem?_map, hv]; rfl, by simp, h3⟩
    · rw [List.getElem?_set_ne hmj] at hj
      rcases hs.2 j s hj with rfl | ⟨q, v, rfl, e, r⟩
      · trivial
      · exact ⟨v, by rw [List.getElem?_map, e]; rfl, r⟩
  · by_cases hb : b = a <;> simp [hb] at e; rw [hb]; exact R.ownF a i h2
  · by_cases hb : b = a <;> simp [hb] at e; rw [hb]; exact ⟨o, ho⟩
  · by_cases hb : b = a <;> simp [hb] at e
    subst e
    exact .inr ⟨List.mem_singleton.mpr rfl, by show (vs.map some)[m]? = _; rw [List.getElem?_map, hv, hb]; rfl⟩
  · have hj : j = m := by simpa using hj
    subst hj
    have e : (vs.map some)[j]? = _ := e
    rw [List.getElem?_map, hv] at e
    cases e
    exact ⟨o, ho⟩
theorem back1 {vs : List V} {own own' : Addr → Option Nat} {m i : Nat} {a : Addr} {p : PV} {τc : PSt} (R : FrO K C own F τ σ H) (hv : vs[m]? = some (.ref a)) (hi : τ[i]? = some (.ow p)) (ha : σ[i]? = some (some (V.ref a))) (s : Sub F F1)
    (Rc : FrO K ⟨H, F, vs.map some, [m]⟩ own' F1 τc (vs.map some) H') : FrO K C (fun b => if own' b = some m then some i else if b = a then none else own b) F1 (τ.set i (τc.getD m .un)) σ H' := by
  obtain ⟨a', h1, h2, h3⟩ := R.slot _ _ hi
  rw [ha] at h1; cases h1
  have hB : ∀ b, (Ctx.mk H F (vs.map some) [m]).B b → b = a := fun b ⟨j, hj, e⟩ => by
    have hj : j = m := by simpa using hj
    subst hj
    have e : (vs.map some)[j]? = _ := e
    rw [List.getElem?_map, hv] at e
    cases e; rfl
  have kp : ∀ b o, H b = some o → b ≠ a → H' b = some o := fun b o e nb => Rc.keep b o e fun z => nb (hB b z)
  have c0 : C.H0 a = none ∨ C.B a := (R.ownB a i h2).imp id fun z => ⟨i, z⟩
  refine ⟨by rw [List.length_set]; exact R.len, Rc.sub, R.sub0.trans s, fun b o e nb => ?_, fun b o e => ?_, fun b o e => ?_, fun j t hj => ?_, fun b j e => ?_, fun b j e => ?_, fun b j e => ?_, R.bor, R.bH, Rc.tups⟩
  · refine kp b o (R.keep b o e nb) ?_
    rintro rfl
    rcases c0 with z | z
    · rw [z] at e; cases e
    · exact nb z
  · obtain ⟨o', e'⟩ := R.there b o e
    exact Rc.there b o' e'
  · rcases Rc.frz b o e with z | z | z
    · exact R.frz b o z
    · exact .inr (.inl (R.h0 z))
    · rw [hB b z]; exact .inr c0
  · by_cases hij : i = j
    · subst hij
      have hl : i < τ.length := (List.getElem?_eq_some_iff.mp hi).1
      rw [List.getElem?_set_self hl] at hj
      have hj : τc.getD m .un = t := Option.some.inj hj
      rw [List.getD_eq_getElem?_getD] at hj
      cases q : τc[m]? with
      | none => rw [q] at hj; subst hj; trivial
      | some t' =>
        rw [q] at hj
        have hj : t' = t := hj
        subst hj
        have := Rc.slot m t' q
        cases t' with
        | un => trivial
        | fz p' =>
          obtain ⟨w, g1, g2⟩ := this
          rw [List.getElem?_map, hv] at g1
          cases g1
          exact ⟨_, ha, g2⟩
        | ow p' =>
          obtain ⟨b, g1, g2, g3⟩ := this
          rw [List.getElem?_map, hv] at g1
          cases g1
          exact ⟨a, ha, by simp [g2], g3⟩
        | tr t =>
          obtain ⟨w, lab, g1, g2, g3⟩ := this
          rw [List.getElem?_map, hv] at g1
          cases g1
          exact ⟨_, lab, ha, g2, fun b π e => by simp [g3 b π e]⟩
        | ob c fs =>
          obtain ⟨b, dx, fvs, S, g1, g2, g3, g5, g6⟩ := this
          rw [List.getElem?_map, hv] at g1
          cases g1
          exact ⟨a, dx, fvs, S, ha, by simp [g2], g3, g5.frame (Sub.refl _) (fun _ _ => rfl) (fun b _ ob => by simp [ob]), g6⟩
    · have nm : ∀ b, own b = some j → b ≠ a ∧ own' b ≠ some m := fun b ob => by
        refine ⟨by rintro rfl; rw [h2] at ob; cases ob; exact hij rfl, fun z => ?_⟩
        rcases Rc.ownB b m z with y | ⟨_, y⟩
        · obtain ⟨o, e⟩ := R.ownH b _ ob
          have y : H b = none := y
          rw [y] at e; cases e
        · have y : (vs.map some)[m]? = _ := y
          rw [List.getElem?_map, hv] at y
          cases y
          rw [h2] at ob; cases ob; exact hij rfl
      rw [List.getElem?_set_ne hij] at hj
      have := R.slot j t hj
      cases t with
      | un => trivial
      | fz q => obtain ⟨w, g1, g2⟩ := this; exact ⟨w, g1, g2.mono s⟩
      | ow q =>
        obtain ⟨b, g1, g2, g3⟩ := this
        obtain ⟨o, e⟩ := g3.some_
        have nb : b ≠ a := by rintro rfl; rw [h2] at g2; cases g2; exact hij rfl
        exact ⟨b, g1, by simp [nb, g2, (nm b g2).2], (g3.mono s).frame ((kp b o e nb).trans e.symm)⟩
      | tr t => exact SlotOk.frame s (fun b ob => by obtain ⟨o, e⟩ := R.ownH b _ ob; rw [e]; exact kp b o e (nm b ob).1) (fun b ob => by simp [ob, (nm b ob).1, (nm b ob).2]) rfl this
      | ob c fs => exact SlotOk.frame s (fun b ob => by obtain ⟨o, e⟩ := R.ownH b _ ob; rw [e]; exact kp b o e (nm b ob).1) (fun b ob => by simp [ob, (nm b ob).1, (nm b ob).2]) rfl this
  · by_cases z : own' b = some m
    · exact Rc.ownF b m z
    · by_cases hb : b = a
      · simp [z, hb] at e
        exact absurd e (by rw [← hb]; simp [z])
      · simp [z, hb] at e
        cases q : F1 b with
        | none => rfl
        | some o =>
          rcases Rc.frz b o q with z | z | z
          · have z : F b = some o := z
            rw [R.ownF b _ e] at z; cases z
          · obtain ⟨o', e'⟩ := R.ownH b _ e
            have z : H b = none := z
            rw [z] at e'; cases e'
          · exact absurd (hB b z) hb
  · by_cases z : own' b = some m
    · exact Rc.ownH b m z
    · by_cases hb : b = a
      · simp [z, hb] at e
        exact absurd e (by rw [← hb]; simp [z])
      · simp [z, hb] at e
        obtain ⟨o', e'⟩ := R.ownH b _ e
        exact ⟨o', kp b o' e' hb⟩
  · by_cases z : own' b = some m
    · simp [z] at e
      subst e
      rcases Rc.ownB b m z with y | ⟨_, y⟩
      · have y : H b = none := y
        exact .inl (R.h0 y)
      · have y : (vs.map some)[m]? = _ := y
        rw [List.getElem?_map, hv] at y
        cases y
        exact R.ownB a i h2
    · by_cases hb : b = a
      · simp [z, hb] at e
        exact absurd e (by rw [← hb]; simp [z])
      · simp [z, hb] at e
        exact R.ownB b j e
theorem call1_ok {sem : List SV → Res SV} {vs : List V} {ss : List SV} {F0 : Hp} {Q : VK} {n m i : Nat} {p : PV} {E : XK} (hn : vs.length = n) (R : Rel K C F τ σ H) (s0 : Sub F0 F) (hs : SvsOk K F vs ss) (hi : τ[i]? = some (.ow p)) (hvi : ∃ v, vs[m]? = some v ∧ σ[i]? = some (some v))
    (h : (callOut1 m i (sem (ss.set m (.ow p))) τ).holds (OkE K C F0 σ Q) (ErE K C F0 σ W)) (hE : (∀ c d H, W c d σ H → E c d H) ∨ ∀ a x t, sem a ≠ .er x t) : spOf K n [m] sem vs H Q E := by
  obtain ⟨own, R⟩ := R
  obtain ⟨a, ha, h2, h3⟩ := R.slot _ _ hi
  obtain ⟨v, hv, hσ⟩ := hvi
  rw [ha] at hσ; cases hσ
  refine ⟨hn, F, _, callee1 R hs hv hi ha, ?_⟩
  cases e : sem (ss.set m (.ow p)) with
  | no => rw [e] at h; exact h.elim
  | er x τc =>
    rw [e] at h
    rcases hE with hE | hE
    · exact fun c d H' F' s ⟨own', Rc⟩ ex => hE _ _ _ (h c d H' F' (s0.trans s) ⟨_, back1 R hv hi ha s Rc⟩ ex)
    · exact absurd e (hE _ _ _)
  | ok r τc =>
    rw [e] at h
    intro v H' F' s ok
    cases r with
    | un => exact ok.elim
    | fz p' =>
      obtain ⟨⟨own', Rc⟩, rp⟩ := ok
      exact h v H' F' (s0.trans s) ⟨⟨_, back1 R hv hi ha s Rc⟩, rp⟩
    | ow p' =>
      obtain ⟨b, rfl, own', Rc, g1, g2, g3, g4⟩ := ok
      have g4 : H b = none := g4
      obtain ⟨o, ho⟩ := h3.some_
      have nb : b ≠ a := by rintro rfl; rw [g4] at ho; cases ho
      exact h _ H' F' (s0.trans s) ⟨b, rfl, _, back1 R hv hi ha s Rc, g1, by simp [nb, R.noOwn g4, g2], g3, R.h0 g4⟩
    | tr _ => exact ok.elim
    | ob _ _ => exact ok.elim
theorem RvsOk.get {vs : List V} {rs : List RV} {m : Nat} {r : RV} (h : RvsOk K F σ vs rs) (e : rs[m]? = some r) : ∃ v, vs[m]? = some v ∧ RvOk K F σ v r := by
  induction h generalizing m with
  | nil => simp at e
  | cons h _ ih =>
    cases m with
    | zero => simp at e; subst e; exact ⟨_, rfl, h⟩
    | succ m => simpa using ih (by simpa using e)
theorem sim_callM {ms : List Nat} {sem : List SV → Res SV} {t : TA} {d : PSt → Res (List RV)} {n m : Nat} {E : XK} (hE : (∀ c d σ H, W c d σ H → E c d H) ∨ ∀ a x t, sem a ≠ .er x t) (hn : ∀ rs τ τ', d τ = .ok rs τ' → rs.length = n) (h1 : SimA K W ms t d) : SimE K W ms (tCall (spOf K n [m] sem) [] E t) (dCallM m sem d) := by
  intro C F τ σ H Q hm R h
  unfold dCallM at h
  rw [Res.holds_bind] at h
  have hn' : ∀ rs τ', d τ = .ok rs τ' → rs.length = n := fun rs τ' => hn rs τ τ'
  cases e : d τ with
  | no => rw [e] at h; exact h.elim
  | er x τ1 =>
    refine h1 C F τ σ H _ hm R ?_
    rw [e] at h ⊢; exact h
  | ok rs τ1 =>
    refine h1 C F τ σ H _ hm R ?_
    rw [e] at h ⊢
    intro vs H1 F1 s1 R1 rvs
    have h : Res.holds (match rs[m]? with
      | some (.at i) => (match leakBut m rs τ1 with
        | some (ss, τ2) => (match τ2[i]? with
          | some (.ow p) => callOut1 m i (sem (ss.set m (.ow p))) τ2
          | _ => .no)
        | none => .no)
      | _ => .no) _ _ := h
    split at h
    · rename_i i e1
      split at h
      · rename_i ss τ2 e2
        split at h
        · rename_i p e3
          obtain ⟨F2, s2, R2, hs⟩ := leakBut_ok R1 rvs e2
          show spOf K n [m] sem (vs ++ []) H1 Q E
          rw [List.append_nil]
          exact call1_ok (by rw [rvs.len]; exact hn' _ _ e) R2 (s1.trans s2) hs e3 (rvs.get e1) h (hE.imp (fun z c d H => z c d σ H) id)
        · exact h.elim
      · exact h.elim
    · exact h.elim
end
section
variable {X : Cx} {K : PySem.W.Frag} {W : WX} {ms : List Nat}
theorem me_callM (m : Nat) {sem : List SV → Res SV} {k n : Nat} {f : Addr} {fd : FuncData} {ps : List Str} {x : Str} {p pos : Pos} {e : Expr} {es : List Expr} {E : XK} {CX : CXT} (G : FnOk X.prog X.w X.K X.mg X.base CX k f fd ps (spOf K n [m] sem)) (hr : Room k X.A) (hg : Gl X x) (hm : X.mg x = some (.ref f)) (hk : PySem.W.keepIn X.K (.ref f) = true) (hb : Binds X.K fd ps []) (hx : Passes CX X E) (hE : (∀ c d σ H, W c d σ H → E c d H) ∨ ∀ a x t, sem a ≠ .er x t)
    (ha : MA X K W ms (e :: es) t d) (hn : ∀ rs τ τ', d τ = .ok rs τ' → rs.length = n) (hdb : (x == ("__debug__" : Str)) = false := by decide) (he : starEach (e :: es) X.env = (false, eval e X.env) :: starEach es X.env := by rfl) (hpl : (backTo pos (starEach es X.env)).any (·.1) = false := by rfl) :
    ME X K W ms (.Call (.Name x p) (e :: es) [] pos) (tCall (spOf K n [m] sem) [] E t) (dCallM m sem d) := ⟨ha.hK, pe_call G hr hg hm hk hb .nil hx ha.pe hdb he hpl, sim_callM hE hn ha.sim⟩
end
/-! ### callees that let no exception out -/
def Res.noEr {α : Type} (r : Res α) : Res α := match r with
  | .er _ _ => .no
  | r => r
@[simp] theorem Res.noEr_ok {α : Type} (a : α) (τ : PSt) : (Res.ok a τ).noEr = .ok a τ := rfl
theorem noEr_ne {sem : List SV → Res SV} : ∀ a x t, (fun a => (sem a).noEr) a ≠ .er x t := fun a x t e => by
  have e : (sem a).noEr = .er x t := e
  unfold Res.noEr at e
  split at e
  · cases e
  · rename_i h; exact h _ _ e
theorem spOf_noEr {K : PySem.W.Frag} {k : Nat} {ms : List Nat} {sem : List SV → Res SV} (vs : List V) (H : Hp) (Q : VK) (E : XK) (h : spOf K k ms (fun a => (sem a).noEr) vs H Q E) : spOf K k ms sem vs H Q E := by
  obtain ⟨hl, F, τ, R, h⟩ := h
  refine ⟨hl, F, τ, R, ?_⟩
  have h : ((sem τ).noEr).holds _ _ := h
  cases e : sem τ with
  | ok r τ' => rw [e] at h; exact h
  | er x τ' => rw [e] at h; exact h.elim
  | no => rw [e] at h; exact h.elim
/-- a def of the module as callers need it -/
structure Fn (P : Program) (w : World) (K : PySem.W.Frag) (mg : Str → Option Value) (base : Heap) (x : Str) (k : Nat) (ps : List Str) (sp : Sp) : Prop where
  ex : ∃ f fd, mg x = some (.ref f) ∧ PySem.W.keepIn K (.ref f) = true ∧ Binds K fd ps [] ∧ FnOk P w K mg base CX0 k f fd ps sp
section
variable {X : Cx} {K : PySem.W.Frag} {W : WX} {ms : List Nat}
abbrev dCallN (sem : List SV → Res SV) (da : PSt → Res (List RV)) : PSt → Res RV := dCall (fun a => (sem a).noEr) da
abbrev dCallMN (m : Nat) (sem : List SV → Res SV) (da : PSt → Res (List RV)) : PSt → Res RV := dCallM m (fun a => (sem a).noEr) da
theorem me_callN {sem : List SV → Res SV} {k n : Nat} {ps : List Str} {x : Str} {p pos : Pos} {e : Expr} {es : List Expr} (G : Fn X.prog X.w X.K X.mg X.base x k ps (spOf K n [] sem)) (hr : Room k X.A) (hg : Gl X x)
    (ha : MA X K W ms (e :: es) t d) (hn : ∀ rs τ τ', d τ = .ok rs τ' → rs.length = n) (hdb : (x == ("__debug__" : Str)) = false := by decide) (he : starEach (e :: es) X.env = (false, eval e X.env) :: starEach es X.env := by rfl) (hpl : (backTo pos (starEach es X.env)).any (·.1) = false := by rfl) :
    ME X K W ms (.Call (.Name x p) (e :: es) [] pos) (tCall (spOf K n [] fun a => (sem a).noEr) [] E0 t) (dCallN sem d) := by
  obtain ⟨f, fd, hm, hk, hb, G⟩ := G.ex
  exact me_call (G.imp fun vs H Q E => spOf_noEr vs H Q E) hr hg hm hk hb pass0 (.inr noEr_ne) ha hn hdb he hpl
theorem me_callMN (m : Nat) {sem : List SV → Res SV} {k n : Nat} {ps : List Str} {x : Str} {p pos : Pos} {e : Expr} {es : List Expr} (G : Fn X.prog X.w X.K X.mg X.base x k ps (spOf K n [m] sem)) (hr : Room k X.A) (hg : Gl X x)
    (ha : MA X K W ms (e :: es) t d) (hn : ∀ rs τ τ', d τ = .ok rs τ' → rs.length = n) (hdb : (x == ("__debug__" : Str)) = false := by decide) (he : starEach (e :: es) X.env = (false, eval e X.env) :: starEach es X.env := by rfl) (hpl : (backTo pos (starEach es X.env)).any (·.1) = false := by rfl) :
    ME X K W ms (.Call (.Name x p) (e :: es) [] pos) (tCall (spOf K n [m] fun a => (sem a).noEr) [] E0 t) (dCallMN m sem d) := by
  obtain ⟨f, fd, hm, hk, hb, G⟩ := G.ex
  exact me_callM m (G.imp fun vs H Q E => spOf_noEr vs H Q E) hr hg hm hk hb pass0 (.inr noEr_ne) ha hn hdb he hpl
end
end VL

/-! VL6: what is walked, comprehensions, methods that change a list. -/
namespace VL
open PySem PySem.Spec L2

/-! ### what is walked -/
def dItA (d : PSt → Res RV) : PSt → Res (List PV) := fun τ => (d τ).bind fun r τ1 => match leak r τ1 with
  | some (.lst ps, τ2) => .ok ps τ2
  | some (.tup ps, τ2) => .ok ps τ2
  | some (.str l, τ2) => .ok (l.map fun c => .str [c]) τ2
  | some (.scr ns, τ2) => .ok (ns.map .int) τ2
  | _ => .no
/-- a list, a tuple, a text: whichever it is -/
def iAny (K : PySem.W.Frag) (te : TE) : TI := fun σ H R => te σ H fun x H1 => (∃ a, x = .ref a ∧ (∃ xs, SqL K H1 a xs) ∧ R (Itl K a) H1) ∨ (∃ a, x = .ref a ∧ (∃ xs, SqT K H1 a xs) ∧ R (Itt K a) H1) ∨ ∃ z, x = .str z ∧ R (Its z) H1
theorem pi_any {X : Cx} {tg e : Expr} {te : TE} (he : PE X e te) : PI X tg e (iAny X.K te) := by
  refine ⟨fun pins s σ H R I h => ?_⟩
  refine thn (he.run pins s σ H _ I h) fun v s1 ⟨x, H1, I1, r1, q1⟩ => ?_
  rcases q1 with ⟨a, e, ⟨xs, hq⟩, q⟩ | ⟨a, e, ⟨xs, hq⟩, q⟩ | ⟨z, e, q⟩
  · subst e
    cases r1
    obtain ⟨its, rv, p, hz⟩ := I1.list hq
    refine wpAny_pyIter_list p.isList ?_
    refine ⟨s1.heap.objs.size, [s1.heap.objs.size], _, _, H1, rfl, I1.kept (t' := s1.toks) fun b o e => Heap.get?_push_of_some _ e, turn_list a _, ⟨_, Heap.get?_push_size _ rfl, rfl, rfl⟩, fun b hb => ?_, q⟩
    have e : b = s1.heap.objs.size := by simpa using hb
    subst e
    exact I1.fpOk (Nat.le_refl _) (I1.hok.fresh (Nat.le_refl _))
  · subst e
    cases r1
    obtain ⟨its, rv, p, hz⟩ := I1.tuple hq
    refine wpAny_pyIter_tuple (show s1.heap.IsTuple a its.toArray from p) ?_
    refine ⟨s1.heap.objs.size, [s1.heap.objs.size], _, _, H1, rfl, I1.kept (t' := s1.toks) fun b o e => Heap.get?_push_of_some _ e, turn_tuple a _, ⟨_, Heap.get?_push_size _ rfl, rfl, rfl⟩, fun b hb => ?_, q⟩
    have e : b = s1.heap.objs.size := by simpa using hb
    subst e
    exact I1.fpOk (Nat.le_refl _) (I1.hok.fresh (Nat.le_refl _))
  · subst e
    obtain ⟨t, rfl⟩ := r1
    cases ha : z.cps.all (· < 128)
    · exact wpAny_pyIter_wide ha (pi_one (tk := s1.toks) I1 _ (turn_str _ z t "str_iterator" (.inr rfl)) ⟨_, Heap.get?_push_size _ rfl, rfl, rfl⟩ q)
    · exact wpAny_pyIter_ascii ha (pi_one (tk := s1.toks) I1 _ (turn_str _ z t "str_ascii_iterator" (.inl rfl)) ⟨_, Heap.get?_push_size _ rfl, rfl, rfl⟩ q)
section
variable {K : PySem.W.Frag} {C : Ctx} {F H : Hp} {τ : PSt} {σ : St}
theorem iters_list {a : Addr} {vs : List V} {ps : List PV} (h : SqL K F a vs) (r : RpAll K F vs ps) : Iters K (Itl K a) ps F := by
  intro C i F' τ σ H s R
  have q : SqL K H a vs := (s.trans R.sub).seq h
  refine ⟨fun hi => ?_, fun hi => ⟨vs, q, by rw [r.len]; exact hi⟩⟩
  have hl : i < vs.length := by rw [r.len]; exact hi
  refine ⟨⟨vs, vs[i], q, by simp [hl]⟩, fun x H' y => ?_⟩
  obtain ⟨rfl, y⟩ := y
  refine ⟨F', Sub.refl F', R, fun p hp => ?_⟩
  obtain ⟨v, e, rp⟩ := r.get hp
  rw [y vs q] at e
  cases e
  exact rp.mono s
theorem iters_tup {a : Addr} {vs : List V} {ps : List PV} (h : F a = some (.tup vs)) (r : RpAll K F vs ps) : Iters K (Itt K a) ps F := by
  intro C i F' τ σ H s R
  have q : SqT K H a vs := SqT.of (R.sub _ _ (s _ _ h))
  refine ⟨fun hi => ?_, fun hi => ⟨vs, q, by rw [r.len]; exact hi⟩⟩
  have hl : i < vs.length := by rw [r.len]; exact hi
  refine ⟨⟨vs, vs[i], q, by simp [hl]⟩, fun x H' y => ?_⟩
  obtain ⟨rfl, y⟩ := y
  refine ⟨F', Sub.refl F', R, fun p hp => ?_⟩
  obtain ⟨v, e, rp⟩ := r.get hp
  rw [y vs q] at e
  cases e
  exact rp.mono s
theorem iters_str {l : List Nat} : Iters K (Its (sl l)) (l.map fun c => .str [c]) F := by
  intro C i F' τ σ H s R
  have hs : (sl l).cps.size = l.length := by simp [sl]
  refine ⟨fun hi => ?_, fun hi => ?_⟩
  · rw [List.length_map] at hi
    refine ⟨by show i < (sl l).cps.size; rw [hs]; exact hi, fun x H' y => ?_⟩
    obtain ⟨rfl, c, e, rfl⟩ := y
    refine ⟨F', Sub.refl F', R, fun p hp => ?_⟩
    rw [List.getElem?_map, Option.map_eq_some_iff] at hp
    obtain ⟨c', e', rfl⟩ := hp
    have : c = c' := by
      have z : l[i]? = some c := by simpa [sl] using e
      rw [e'] at z; cases z; rfl
    subst this
    exact .str [c]
  · rw [List.length_map] at hi
    show (sl l).cps.size ≤ i
    rw [hs]; exact hi
theorem iters_range {lo : Int} {n : Nat} : Iters K (Itr lo n) ((List.range n).map fun (i : Nat) => .int (lo + i)) F := by
  intro C i F' τ σ H s R
  refine ⟨fun hi => ?_, fun hi => ?_⟩
  · rw [List.length_map, List.length_range] at hi
    refine ⟨hi, fun x H' y => ?_⟩
    obtain ⟨rfl, rfl⟩ := y
    refine ⟨F', Sub.refl F', R, fun p hp => ?_⟩
    rw [List.getElem?_map, Option.map_eq_some_iff] at hp
    obtain ⟨c', e', rfl⟩ := hp
    rw [List.getElem?_range hi] at e'
    cases e'
    exact .int _
  · rw [List.length_map, List.length_range] at hi
    exact hi
end
section
variable {X : Cx} {K : PySem.W.Frag} {W : WX} {ms : List Nat}
theorem mi_any {tg e : Expr} (h : ME X K W ms e t d) : MI X K W ms tg e (iAny K t) (dItA d) := by
  obtain ⟨rfl, p0, s0⟩ := h
  refine ⟨rfl, pi_any p0, ?_⟩
  intro C F τ σ H R hm Rl k
  unfold dItA at k
  rw [Res.holds_bind] at k
  refine s0 C F τ σ H _ hm Rl (k.imp (fun r τ1 k => ?_) fun _ _ x => x)
  intro v H1 F1 s1 ok
  obtain ⟨F1', s1', R1, rv⟩ := ok.froze
  split at k
  · rename_i ps τ2 e
    obtain ⟨F2, s2, R2, rp⟩ := leak_ok R1 rv (by rw [leak_nf]; exact e)
    cases rp with
    | lst h1 h2 => exact .inl ⟨_, rfl, ⟨_, SqL.of (R2.sub _ _ h1)⟩, k _ _ F2 ((s1.trans s1').trans s2) R2 (iters_list (SqL.of h1) h2)⟩
  · rename_i ps τ2 e
    obtain ⟨F2, s2, R2, rp⟩ := leak_ok R1 rv (by rw [leak_nf]; exact e)
    cases rp with
    | tup h1 h2 => exact .inr (.inl ⟨_, rfl, ⟨_, SqT.of (R2.sub _ _ h1)⟩, k _ _ F2 ((s1.trans s1').trans s2) R2 (iters_tup h1 h2)⟩)
  · rename_i l τ2 e
    obtain ⟨F2, s2, R2, rp⟩ := leak_ok R1 rv (by rw [leak_nf]; exact e)
    cases rp with
    | str l => exact .inr (.inr ⟨_, rfl, k _ _ F2 ((s1.trans s1').trans s2) R2 iters_str⟩)
  · rename_i ns τ2 e
    obtain ⟨F2, s2, R2, rp⟩ := leak_ok R1 rv (by rw [leak_nf]; exact e)
    cases rp with
    | scr h1 => exact .inl ⟨_, rfl, ⟨_, R2.sub.seq h1⟩, k _ _ F2 ((s1.trans s1').trans s2) R2 (iters_list h1 (RpAll.of_ints ns))⟩
  · exact k.elim
def rngP (lo hi : Int) : List PV := (List.range (hi - lo).toNat).map fun (i : Nat) => .int (lo + i)
/-- what a range takes -/
def In62 (n : Int) : Prop := -(2 ^ 62) ≤ n ∧ n < 2 ^ 62
noncomputable instance (n : Int) : Decidable (In62 n) := Classical.propDecidable _
theorem In62.of {n : Int} (h : -4000000000 ≤ n) (h' : n ≤ 4000000000) : In62 n := by constructor <;> omega
theorem In62.nat {n : Nat} (h : n ≤ 4000000000) : In62 (n : Int) := In62.of (by omega) (by omega)
noncomputable def dRng1 (da : PSt → Res (List RV)) : PSt → Res (List PV) := fun τ => (da τ).bind fun rs τ1 => match contents rs τ1 with
  | some [.int n] => if In62 n then .ok (rngP 0 n) τ1 else .no
  | _ => .no
noncomputable def dRng2 (da : PSt → Res (List RV)) : PSt → Res (List PV) := fun τ => (da τ).bind fun rs τ1 => match contents rs τ1 with
  | some [.int i, .int j] => if In62 i ∧ In62 j then .ok (rngP i j) τ1 else .no
  | _ => .no
theorem RpW.int_ {K : PySem.W.Frag} {F H : Hp} {v : V} {i : Int} (h : RpW K F H v (.int i)) : v = .int i := by
  rcases h with h | ⟨a, rfl, h⟩
  · cases h; rfl
  · exact h.elim
theorem mi_range1 {tg a : Expr} {p pos : Pos} (hg : Gl X "range") (hm : X.mg "range" = none) (ha : MA X K W ms [a] t d) (hs : starEach [a] X.env = [(false, eval a X.env)] := by rfl) : MI X K W ms tg (.Call (.Name "range" p) [a] [] pos) (iRng1 t) (dRng1 d) := by
  refine ⟨ha.hK, pi_range1 hg hm ha.pe hs, ?_⟩
  intro C F τ σ H R hm' Rl k
  unfold dRng1 at k
  rw [Res.holds_bind] at k
  refine ha.sim C F τ σ H _ hm' Rl (k.imp (fun rs τ1 k => ?_) fun _ _ x => x)
  intro vs H1 F1 s1 R1 rvs
  split at k
  · rename_i n e
    split at k
    · rename_i hn
      have := contents_ok R1 rvs e
      cases this with
      | cons h1 h2 => cases h2 with
        | nil =>
          rw [h1.int_]
          refine ⟨n, rfl, hn.1, hn.2, k _ _ F1 s1 R1 ?_⟩
          have := iters_range (K := K) (F := F1) (lo := 0) (n := n.toNat)
          unfold rngP
          rw [Int.sub_zero]
          exact this
    · exact k.elim
  · exact k.elim
theorem mi_range2 {tg a b : Expr} {p pos : Pos} (hg : Gl X "range") (hm : X.mg "range" = none) (ha : MA X K W ms [a, b] t d) (hs : starEach [a, b] X.env = [(false, eval a X.env), (false, eval b X.env)] := by rfl) (hs2 : starEach [b] X.env = [(false, eval b X.env)] := by rfl) : MI X K W ms tg (.Call (.Name "range" p) [a, b] [] pos) (iRng2 t) (dRng2 d) := by
  refine ⟨ha.hK, pi_range2 hg hm ha.pe hs hs2, ?_⟩
  intro C F τ σ H R hm' Rl k
  unfold dRng2 at k
  rw [Res.holds_bind] at k
  refine ha.sim C F τ σ H _ hm' Rl (k.imp (fun rs τ1 k => ?_) fun _ _ x => x)
  intro vs H1 F1 s1 R1 rvs
  split at k
  · rename_i i j e
    split at k
    · rename_i hn
      have := contents_ok R1 rvs e
      cases this with
      | cons h1 h2 => cases h2 with
        | cons h2 h3 => cases h3 with
          | nil =>
            rw [h1.int_, h2.int_]
            exact ⟨i, j, rfl, ⟨hn.1.1, hn.1.2, hn.2.1, hn.2.2⟩, k _ _ F1 s1 R1 iters_range⟩
    · exact k.elim
  · exact k.elim
def enumP (i : Nat) : List PV → List PV
  | [] => []
  | p :: ps => .tup [.int i, p] :: enumP (i + 1) ps
theorem enumP_get : ∀ {i j : Nat} {ps : List PV} {q : PV}, (enumP i ps)[j]? = some q → ∃ p, ps[j]? = some p ∧ q = .tup [.int ((i + j : Nat) : Int), p]
  | _, _, [], _, e => by simp [enumP] at e
  | i, 0, p :: ps, _, e => by simp [enumP] at e; subst e; exact ⟨p, rfl, rfl⟩
  | i, j + 1, p :: ps, _, e => by
    have := enumP_get (i := i + 1) (j := j) (ps := ps) (by simpa [enumP] using e)
    obtain ⟨p', h1, h2⟩ := this
    refine ⟨p', by simpa using h1, ?_⟩
    rw [h2, show i + 1 + j = i + (j + 1) by omega]
theorem enumP_len : ∀ (i : Nat) (ps : List PV), (enumP i ps).length = ps.length
  | _, [] => rfl
  | i, _ :: ps => by simp [enumP, enumP_len (i + 1) ps]
def dEnum (da : PSt → Res (List RV)) : PSt → Res (List PV) := fun τ => (da τ).bind fun rs τ1 => match leakAll rs τ1 with
  | some ([.lst ps], τ2) => .ok (enumP 0 ps) τ2
  | _ => .no
theorem mi_enum {e : Expr} {p pos tpos : Pos} {elts : List Expr} {kk : Nat} (hg : Gl X "enumerate") (hm : X.mg "enumerate" = none) (ha : MA X K W ms [e] t d) (hs : starEach [e] X.env = [(false, eval e X.env)] := by rfl) :
    MI X K W ms (.Tuple elts kk tpos) (.Call (.Name "enumerate" p) [e] [] pos) (iEnum K t) (dEnum d) := by
  obtain ⟨rfl, p0, s0⟩ := ha
  refine ⟨rfl, pi_enum hg hm p0 hs, ?_⟩
  intro C F τ σ H R hm' Rl k
  unfold dEnum at k
  rw [Res.holds_bind] at k
  refine s0 C F τ σ H _ hm' Rl (k.imp (fun rs τ1 k => ?_) fun _ _ x => x)
  intro vs H1 F1 s1 R1 rvs
  split at k
  · rename_i ps τ2 e
    obtain ⟨F2, s2, R2, ra⟩ := leakAll_ok R1 rvs e
    cases ra with
    | cons h1 h2 => cases h2 with
      | nil => cases h1 with
        | @lst a ws _ h1 h2 =>
          refine ⟨a, ws, rfl, SqL.of (R2.sub _ _ h1), k _ _ F2 (s1.trans s2) R2 ?_⟩
          intro C' i F' τ' σ' H' s R'
          have q : SqL X.K H' a ws := SqL.of (R'.sub _ _ (s _ _ h1))
          rw [enumP_len]
          refine ⟨fun hi => ?_, fun hi => ⟨ws, q, by rw [h2.len]; exact hi⟩⟩
          have hl : i < ws.length := by rw [h2.len]; exact hi
          refine ⟨⟨ws, ws[i], q, by simp [hl]⟩, fun x H2 y => ?_⟩
          obtain ⟨T, z, rfl, hT, rfl, hz⟩ := y
          obtain ⟨s3, R3⟩ := R'.new (o := .tup [.int (i : Nat), z]) hT
          refine ⟨_, s3, R3, fun p hp => ?_⟩
          obtain ⟨p', e1, rfl⟩ := enumP_get hp
          obtain ⟨v, e2, rp⟩ := h2.get e1
          rw [hz ws q] at e2
          cases e2
          rw [Nat.zero_add]
          exact .tup upd_same (.cons (.int _) (.cons (rp.mono (s.trans s3)) .nil))
  · exact k.elim
def zipP : List PV → List PV → List PV
  | p :: ps, q :: qs => .tup [p, q] :: zipP ps qs
  | _, _ => []
theorem zipP_get : ∀ {j : Nat} {ps qs : List PV} {z : PV}, (zipP ps qs)[j]? = some z → ∃ p q, ps[j]? = some p ∧ qs[j]? = some q ∧ z = .tup [p, q]
  | _, [], _, _, e => by simp [zipP] at e
  | _, _ :: _, [], _, e => by simp [zipP] at e
  | 0, p :: ps, q :: qs, _, e => by simp [zipP] at e; subst e; exact ⟨p, q, rfl, rfl, rfl⟩
  | j + 1, p :: ps, q :: qs, _, e => by simpa using zipP_get (j := j) (ps := ps) (qs := qs) (by simpa [zipP] using e)
theorem zipP_len : ∀ (ps qs : List PV), (zipP ps qs).length = min ps.length qs.length
  | [], _ => by simp [zipP]
  | _ :: _, [] => by simp [zipP]
  | _ :: ps, _ :: qs => by simp only [zipP, List.length_cons, zipP_len ps qs]; omega
def dZip (da : PSt → Res (List RV)) : PSt → Res (List PV) := fun τ => (da τ).bind fun rs τ1 => match leakAll rs τ1 with
  | some ([.lst ps, .lst qs], τ2) => .ok (zipP ps qs) τ2
  | _ => .no
theorem sim_zip {t : TA} {d : PSt → Res (List RV)} {K : PySem.W.Frag} (h : SimA K W ms t d) : SimI K W ms (iZip K t) (dZip d) := by
  intro C F τ σ H R hm' Rl k
  unfold dZip at k
  rw [Res.holds_bind] at k
  refine h C F τ σ H _ hm' Rl (k.imp (fun rs τ1 k => ?_) fun _ _ x => x)
  intro vs H1 F1 s1 R1 rvs
  split at k
  · rename_i ps qs τ2 e
    obtain ⟨F2, s2, R2, ra⟩ := leakAll_ok R1 rvs e
    cases ra with
    | cons h1 h2 => cases h2 with
      | cons g1 g2 => cases g2 with
        | nil => cases h1 with
          | @lst a ws _ h1 h2 => cases g1 with
            | @lst b us _ g1 g2 =>
              refine ⟨a, b, ws, us, rfl, SqL.of (R2.sub _ _ h1), SqL.of (R2.sub _ _ g1), k _ _ F2 (s1.trans s2) R2 ?_⟩
              intro C' i F' τ' σ' H' s R'
              have q : SqL K H' a ws := SqL.of (R'.sub _ _ (s _ _ h1))
              have q' : SqL K H' b us := SqL.of (R'.sub _ _ (s _ _ g1))
              have l1 := h2.len
              have l2 := g2.len
              rw [zipP_len]
              refine ⟨fun hi => ?_, fun hi => ⟨ws, us, q, q', by omega⟩⟩
              have hl : i < ws.length := by omega
              have hl' : i < us.length := by omega
              refine ⟨⟨ws, us, ws[i], us[i], q, q', by simp [hl], by simp [hl']⟩, fun x H2 y => ?_⟩
              obtain ⟨T, z, z', rfl, hT, rfl, hz, hz'⟩ := y
              obtain ⟨s3, R3⟩ := R'.new (o := .tup [z, z']) hT
              refine ⟨_, s3, R3, fun p hp => ?_⟩
              obtain ⟨p1, p2, e1, e2, rfl⟩ := zipP_get hp
              obtain ⟨v, f1, rp⟩ := h2.get e1
              obtain ⟨v', f2, rp'⟩ := g2.get e2
              rw [hz ws q] at f1
              rw [hz' us q'] at f2
              cases f1; cases f2
              exact .tup upd_same (.cons (rp.mono (s.trans s3)) (.cons (rp'.mono (s.trans s3)) .nil))
  · exact k.elim
end

/-! ### comprehensions -/
section
variable {K : PySem.W.Frag} {C : Ctx} {F F' H H' : Hp} {τ τ' : PSt} {σ : St} {L : Addr} {acc : List PV}
/-- the new list counts as one that stood before -/
def Ctx.with (C : Ctx) (L : Addr) (vs : List V) : Ctx := { C with H0 := upd C.H0 L (.lst vs) }
theorem NewAt.enter (h : NewAt K C F τ σ H L (.lst acc)) : ∃ vs, H L = some (.lst vs) ∧ RpAll K F vs acc ∧ F L = none ∧ C.H0 L = none ∧ Rel K (C.with L vs) F τ σ H := by
  obtain ⟨own, R, ⟨vs, e, r⟩, ho, hF, h0⟩ := h
  refine ⟨vs, e, r, hF, h0, own, R.len, R.sub, R.sub0, fun a o q nb => ?_, fun a o q => ?_, fun a o q => ?_, R.slot, R.ownF, R.ownH, fun a i q => ?_, R.bor, fun a hb => ?_, R.tups⟩
  · by_cases ha : a = L
    · subst ha
      have q : upd C.H0 a (.lst vs) a = some o := q
      rw [upd_same] at q; cases q; exact e
    · have q : upd C.H0 L (.lst vs) a = some o := q
      rw [upd_ne ha] at q; exact R.keep a o q nb
  · by_cases ha : a = L
    · subst ha; exact ⟨_, e⟩
    · have q : upd C.H0 L (.lst vs) a = some o := q
      rw [upd_ne ha] at q; exact R.there a o q
  · have ha : a ≠ L := by rintro rfl; rw [hF] at q; cases q
    rcases R.frz a o q with z | z | z
    · exact .inl z
    · exact .inr (.inl (by show upd C.H0 L _ a = none; rw [upd_ne ha]; exact z))
    · exact .inr (.inr z)
  · have ha : a ≠ L := by rintro rfl; rw [ho] at q; cases q
    rcases R.ownB a i q with z | z
    · exact .inl (by show upd C.H0 L _ a = none; rw [upd_ne ha]; exact z)
    · exact .inr z
  · by_cases ha : a = L
    · subst ha; exact ⟨_, upd_same⟩
    · obtain ⟨o, q⟩ := R.bH a hb
      exact ⟨o, by show upd C.H0 L _ a = _; rw [upd_ne ha]; exact q⟩
theorem Rel.leave {vs : List V} {own0 : Addr → Option Nat} {τ0 : PSt} {σ0 : St} {H0 F0 : Hp} (R0 : FrO K C own0 F0 τ0 σ0 H0) (hF : F0 L = none) (h0 : C.H0 L = none) (R : Rel K (C.with L vs) F' τ' σ H') :
    H' L = some (.lst vs) ∧ F' L = none ∧ ∃ own, own L = none ∧ FrO K C own F' τ' σ H' := by
  have nB : ¬ C.B L := fun z => by
    obtain ⟨o, e⟩ := R0.bH L z
    rw [h0] at e; cases e
  obtain ⟨own, R⟩ := R
  have e : H' L = some (.lst vs) := R.keep L _ upd_same nB
  have hF' : F' L = none := by
    cases q : F' L with
    | none => rfl
    | some o =>
      rcases R.frz L o q with z | z | z
      · have z : C.F0 L = some o := z
        rw [R0.sub0 _ _ z] at hF; cases hF
      · have z : upd C.H0 L _ L = none := z
        rw [upd_same] at z; cases z
      · exact absurd z nB
  have ho : own L = none := by
    cases q : own L with
    | none => rfl
    | some i =>
      rcases R.ownB L i q with z | z
      · have z : upd C.H0 L _ L = none := z
        rw [upd_same] at z; cases z
      · exact absurd ⟨i, z⟩ nB
  refine ⟨e, hF', own, ho, R.len, R.sub, R.sub0, fun a o q nb => ?_, fun a o q => ?_, fun a o q => ?_, R.slot, R.ownF, R.ownH, fun a i q => ?_, R.bor, R0.bH, R.tups⟩
  · have ha : a ≠ L := by rintro rfl; rw [h0] at q; cases q
    exact R.keep a o (by show upd C.H0 L _ a = _; rw [upd_ne ha]; exact q) nb
  · have ha : a ≠ L := by rintro rfl; rw [h0] at q; cases q
    exact R.there a o (by show upd C.H0 L _ a = _; rw [upd_ne ha]; exact q)
  · have ha : a ≠ L := by rintro rfl; rw [hF'] at q; cases q
    rcases R.frz a o q with z | z | z
    · exact .inl z
    · have z : upd C.H0 L _ a = none := z
      rw [upd_ne ha] at z; exact .inr (.inl z)
    · exact .inr (.inr z)
  · have ha : a ≠ L := by rintro rfl; rw [ho] at q; cases q
    rcases R.ownB a i q with z | z
    · have z : upd C.H0 L _ a = none := z
      rw [upd_ne ha] at z; exact .inl z
    · exact .inr z
theorem NewAt.grow {own : Addr → Option Nat} {vs : List V} {y : V} {q : PV} (R : FrO K C own F τ σ H) (ho : own L = none) (hF : F L = none) (h0 : C.H0 L = none) (e : H L = some (.lst vs)) (r : RpAll K F vs acc) (rq : Rp K F y q) :
    NewAt K C F τ σ (upd H L (.lst (vs ++ [y]))) L (.lst (acc ++ [q])) := by
  have nown : ∀ b i, own b = some i → b ≠ L := fun b i q z => by rw [z, ho] at q; cases q
  refine ⟨own, ⟨R.len, ?_, R.sub0, ?_, ?_, R.frz, ?_, R.ownF, ?_, R.ownB, R.bor, R.bH, fun b vs q => by
    by_cases hb : b = L
    · subst hb; rw [upd_same] at q; cases q
    · rw [upd_ne hb] at q; exact R.tups b vs q⟩, ⟨_, upd_same, r.append (.one rq)⟩, ho, hF, h0⟩
  · intro b u q
    rw [upd_ne (by rintro rfl; rw [hF] at q; cases q)]; exact R.sub b u q
  · intro b u q nb
    rw [upd_ne (by rintro rfl; rw [h0] at q; cases q)]; exact R.keep b u q nb
  · intro b u q
    rw [upd_ne (by rintro rfl; rw [h0] at q; cases q)]; exact R.there b u q
  · intro j t hj
    have := R.slot j t hj
    cases t with
    | un => trivial
    | fz q => exact this
    | ow q => obtain ⟨b, hb, ob, w'⟩ := this; exact ⟨b, hb, ob, w'.frame (upd_ne (nown b j ob))⟩
    | tr t => exact SlotOk.frame (Sub.refl _) (fun b ob => upd_ne (nown b j ob)) (fun _ ob => ob) rfl this
    | ob c fs => exact SlotOk.frame (Sub.refl _) (fun b ob => upd_ne (nown b j ob)) (fun _ ob => ob) rfl this
  · intro b i q
    rw [upd_ne (nown b i q)]; exact R.ownH b i q
end
theorem fgt_get : ∀ {is : List Nat} {τ : PSt} {i : Nat} {s : SV}, (fgt is τ)[i]? = some s → (i ∈ is → s = .un) ∧ (s ≠ .un → τ[i]? = some s)
  | [], τ, i, s, h => ⟨fun z => (nomatch z), fun _ => h⟩
  | j :: is, τ, i, s, h => by
    obtain ⟨h1, h2⟩ := fgt_get (is := is) (τ := τ.set j .un) h
    refine ⟨fun hi => ?_, fun hs => ?_⟩
    · rcases List.mem_cons.mp hi with rfl | hi
      · cases s with
        | un => rfl
        | fz p =>
          have := h2 (by simp)
          by_cases hl : i < τ.length
          · rw [List.getElem?_set_self hl] at this; cases this
          · rw [List.getElem?_eq_none (by rw [List.length_set]; omega)] at this; cases this
        | ow p =>
          have := h2 (by simp)
          by_cases hl : i < τ.length
          · rw [List.getElem?_set_self hl] at this; cases this
          · rw [List.getElem?_eq_none (by rw [List.length_set]; omega)] at this; cases this
        | tr t =>
          have := h2 (by simp)
          by_cases hl : i < τ.length
          · rw [List.getElem?_set_self hl] at this; cases this
          · rw [List.getElem?_eq_none (by rw [List.length_set]; omega)] at this; cases this
        | ob c fs =>
          have := h2 (by simp)
          by_cases hl : i < τ.length
          · rw [List.getElem?_set_self hl] at this; cases this
          · rw [List.getElem?_eq_none (by rw [List.length_set]; omega)] at this; cases this
      · exact h1 hi
    · have := h2 hs
      by_cases hij : j = i
      · subst hij
        by_cases hl : j < τ.length
        · rw [List.getElem?_set_self hl] at this; cases this; exact absurd rfl hs
        · rw [List.getElem?_eq_none (by rw [List.length_set]; omega)] at this; cases this
      · rw [List.getElem?_set_ne hij] at this; exact this
theorem fgt_len : ∀ {is : List Nat} {τ : PSt}, (fgt is τ).length = τ.length
  | [], _ => rfl
  | _ :: is, τ => by rw [fgt, fgt_len, List.length_set]
theorem wipe_off {σ : St} : ∀ {vs : List Nat} {j : Nat}, j ∉ vs → (wipe σ vs)[j]? = σ[j]?
  | [], _, _ => rfl
  | v :: vs, j, h => by
    simp only [List.mem_cons, not_or] at h
    unfold wipe
    rw [List.getElem?_set_ne (Ne.symm h.1)]
    exact wipe_off h.2
theorem wipe_on {σ : St} : ∀ {vs : List Nat} {j : Nat}, j ∈ vs → j < σ.length → (wipe σ vs)[j]? = some none
  | [], _, h, _ => nomatch h
  | v :: vs, j, h, hl => by
    unfold wipe
    by_cases hv : v = j
    · subst hv
      rw [List.getElem?_set_self (by rw [wipe_length]; exact hl)]
    · rw [List.getElem?_set_ne hv]
      rcases List.mem_cons.mp h with e | e
      · exact absurd e.symm hv
      · exact wipe_on e hl
theorem wipe_eq {σ σ' : St} {vs : List Nat} (h : OffIs vs σ σ') : wipe σ' vs = wipe σ vs := by
  apply List.ext_getElem?
  intro j
  by_cases hj : j ∈ vs
  · by_cases hl : j < σ.length
    · rw [wipe_on hj hl, wipe_on hj (by rw [h.1]; exact hl)]
    · rw [List.getElem?_eq_none (by rw [wipe_length, h.1]; omega), List.getElem?_eq_none (by rw [wipe_length]; omega)]
  · rw [wipe_off hj, wipe_off hj, h.2 j hj]
theorem wipe_wipe {σ : St} {vs : List Nat} : wipe (wipe σ vs) vs = wipe σ vs := wipe_eq ⟨wipe_length σ vs, fun j hj => wipe_off hj⟩
section
variable {K : PySem.W.Frag} {C : Ctx} {F F' H H' : Hp} {τ τ' : PSt} {σ σ' : St} {L : Addr} {vs : List Nat} {own : Addr → Option Nat}
theorem FrO.shift (R : FrO K C own F (VL.fgt vs τ) σ H) (o : OffIs vs σ σ') (hd : ∀ i ∈ vs, i ∉ C.ms) : FrO K C own F (VL.fgt vs τ) σ' H := by
  refine ⟨R.len.trans o.1.symm, R.sub, R.sub0, R.keep, R.there, R.frz, fun i s hi => ?_, R.ownF, R.ownH, R.ownB, fun i hi => ?_, R.bH, R.tups⟩
  · by_cases hv : i ∈ vs
    · rw [(fgt_get hi).1 hv]; trivial
    · have := R.slot i s hi
      cases s with
      | un => trivial
      | fz p => obtain ⟨v, h1, h2⟩ := this; exact ⟨v, (o.2 i hv).trans h1, h2⟩
      | ow p => obtain ⟨a, h1, h2⟩ := this; exact ⟨a, (o.2 i hv).trans h1, h2⟩
      | tr t => exact SlotOk.frame (Sub.refl _) (fun _ _ => rfl) (fun _ ob => ob) (o.2 i hv) this
      | ob c fs => exact SlotOk.frame (Sub.refl _) (fun _ _ => rfl) (fun _ ob => ob) (o.2 i hv) this
  · rw [o.2 i fun hv => hd i hv hi]
    exact R.bor i hi
theorem Rel.shift (R : Rel K C F (VL.fgt vs τ) σ H) (o : OffIs vs σ σ') (hd : ∀ i ∈ vs, i ∉ C.ms) : Rel K C F (VL.fgt vs τ) σ' H := let ⟨own, R⟩ := R; ⟨own, R.shift o hd⟩
theorem off_wipe : OffIs vs σ (wipe σ vs) := ⟨wipe_length σ vs, fun j hj => wipe_off hj⟩
theorem off_unwipe : OffIs vs (wipe σ vs) σ := ⟨(wipe_length σ vs).symm, fun j hj => (wipe_off hj).symm⟩
theorem FrO.fgt' (R : FrO K C own F τ σ H) : FrO K C own F (VL.fgt vs τ) σ H := by
  refine ⟨fgt_len.trans R.len, R.sub, R.sub0, R.keep, R.there, R.frz, fun i s hi => ?_, R.ownF, R.ownH, R.ownB, R.bor, R.bH, R.tups⟩
  cases s with
  | un => trivial
  | fz p => exact R.slot i _ ((fgt_get hi).2 (by simp))
  | ow p => exact R.slot i _ ((fgt_get hi).2 (by simp))
  | tr t => exact R.slot i _ ((fgt_get hi).2 (by simp))
  | ob c fs => exact R.slot i _ ((fgt_get hi).2 (by simp))
end
def lcF (vs : List Nat) (g : PV → PSt → Option PSt) (dt : PSt → Res Bool) (de : PSt → Res RV) : List PV → List PV → PSt → Res (List PV)
  | [], acc, τ => .ok acc τ
  | p :: ps, acc, τ => match g p τ with
    | some τ' => (match dt τ' with
      | .ok true τ2 => (match de τ2 with
        | .ok r τ3 => (match leak r τ3 with
          | some (q, τ4) => if acc.length < sizeLine then lcF vs g dt de ps (acc ++ [q]) (fgt vs τ4) else .no
          | none => .no)
        | _ => .no)
      | .ok false τ2 => lcF vs g dt de ps acc (fgt vs τ2)
      | _ => .no)
    | none => .no
def dLc (vs : List Nat) (di : PSt → Res (List PV)) (g : PV → PSt → Option PSt) (dt : PSt → Res Bool) (de : PSt → Res RV) : PSt → Res RV := fun τ => (di τ).bind fun items τ1 => (lcF vs g dt de items [] (fgt vs τ1)).bind fun ps τ2 => .ok (.nw (.lst ps)) τ2
def W0 : WX := fun _ _ _ _ => False
def dYes : PSt → Res Bool := fun τ => .ok true τ
theorem sim_yes {K : PySem.W.Frag} {W : WX} {ms : List Nat} : SimT K W ms tYes dYes := fun C F τ σ H Q hm R h => h H F (Sub.refl F) R
theorem sim_lc {K : PySem.W.Frag} {W : WX} {ms : List Nat} {wi : TI} {gt : TG} {tt : TT} {te : TE} {vs : List Nat} {di : PSt → Res (List PV)} {g : PV → PSt → Option PSt} {dt : PSt → Res Bool} {de : PSt → Res RV}
    (hd : ∀ i ∈ vs, i ∉ ms) (hi : SimI K W ms wi di) (hg : SimG K ms vs gt g) (ht : SimT K W0 ms tt dt) (he : SimE K W0 ms te de) : SimE K W ms (tLc wi gt tt te vs) (dLc vs di g dt de) := by
  intro C F τ σ H Q hm R k
  unfold dLc at k
  rw [Res.holds_bind] at k
  have hd' : ∀ i ∈ vs, i ∉ C.ms := fun i h => by rw [hm]; exact hd i h
  refine hi C F τ σ H _ hm R (k.imp (fun items τ1 k => ?_) fun _ _ x => x)
  intro J H1 F1 s1 R1 it L hL
  have n0 : NewAt K C F1 (fgt vs τ1) (wipe σ vs) (upd H1 L (.lst [])) L (.lst []) := by
    have := (R1.fgt (is := vs)).newOw hL (o := .lst []) (p := .lst []) .nil rfl
    obtain ⟨own, R2, h⟩ := this
    exact ⟨own, R2.shift off_wipe hd', h⟩
  rw [Res.holds_bind] at k
  refine ⟨fun i m H' => ∃ F' τ' acc, m = items.length - i ∧ i ≤ items.length ∧ Sub F1 F' ∧ NewAt K C F' (fgt vs τ') (wipe σ vs) H' L (.lst acc) ∧
    (lcF vs g dt de (items.drop i) acc (fgt vs τ')).holds (fun a τ => (Res.ok (RV.nw (.lst a)) τ).holds (OkE K C F σ Q) (ErE K C F σ W)) (ErE K C F σ W), ⟨_, F1, τ1, [], rfl, Nat.zero_le _, Sub.refl _, n0, by rw [List.drop_zero]; exact k⟩, ?_⟩
  rintro i m H2 ⟨F2, τ2, acc, rfl, hle, s2, n2, k2⟩
  obtain ⟨it1, it2⟩ := it C i F2 _ _ H2 s2 n2.rel
  by_cases hlt : i < items.length
  · obtain ⟨go, y⟩ := it1 hlt
    refine .inr ⟨go, fun H' => ∃ F' τ' acc, Sub F1 F' ∧ NewAt K C F' (fgt vs τ') (wipe σ vs) H' L (.lst acc) ∧
      (lcF vs g dt de (items.drop (i + 1)) acc (fgt vs τ')).holds (fun a τ => (Res.ok (RV.nw (.lst a)) τ).holds (OkE K C F σ Q) (ErE K C F σ W)) (ErE K C F σ W),
      fun H' ⟨F', τ', acc', s', n', k'⟩ => ⟨items.length - (i + 1), by omega, F', τ', acc', rfl, hlt, s', n', k'⟩, fun x H3 hy => ?_⟩
    -- the list counts as one that stood before
    obtain ⟨ws, e2, ra, hF, h0, R2⟩ := n2.enter
    obtain ⟨own2, Rn, _⟩ := id n2
    obtain ⟨F3, s3, R3, hx⟩ := ((it (C.with L ws) i F2 _ _ H2 s2 R2).1 hlt).2 x H3 hy
    rw [List.drop_eq_getElem_cons hlt] at k2
    unfold lcF at k2
    have hmw : (C.with L ws).ms = ms := hm
    cases eg : g items[i] (fgt vs τ2) with
    | none => rw [eg] at k2; exact k2.elim
    | some τ3 =>
      simp only [eg] at k2
      refine hg (C.with L ws) F3 _ _ H3 x _ τ3 _ hmw R3 (hx _ (by simp [hlt])) eg fun σ4 o4 R4 => ⟨by rw [wipe_eq o4, wipe_wipe], ?_⟩
      have ow4 : OffIs vs σ4 (wipe σ vs) := ⟨o4.1.symm, fun j hj => (o4.2 j hj).symm⟩
      refine ht (C.with L ws) F3 τ3 σ4 H3 _ hmw R4 ?_
      cases et : dt τ3 with
      | no => simp only [et] at k2; exact k2.elim
      | er e τ4 => simp only [et] at k2; exact k2.elim
      | ok b τ4 =>
        intro H5 F5 s5 R5
        cases b with
        | false =>
          simp only [et] at k2
          rw [if_neg (by decide)]
          obtain ⟨e5, hF5, own5, ho5, Rl⟩ := Rel.leave Rn hF h0 R5
          exact ⟨F5, τ4, acc, (s2.trans s3).trans s5, ⟨own5, (Rl.fgt' (vs := vs)).shift ow4 hd', ⟨ws, e5, ra.mono (s3.trans s5)⟩, ho5, hF5, h0⟩, k2⟩
        | true =>
          simp only [et] at k2
          rw [if_pos rfl]
          refine he (C.with L ws) F5 τ4 σ4 H5 _ hmw R5 ?_
          cases ee : de τ4 with
          | no => simp only [ee] at k2; exact k2.elim
          | er e τ4 => simp only [ee] at k2; exact k2.elim
          | ok r τ5 =>
            simp only [ee] at k2
            intro v6 H6 F6 s6 ok6
            obtain ⟨F7, s7, R7, rv7⟩ := ok6.froze
            cases el : leak r τ5 with
            | none => simp only [el] at k2; exact k2.elim
            | some pq =>
              obtain ⟨q, τ6⟩ := pq
              simp only [el] at k2
              obtain ⟨F8, s8, R8, rq⟩ := leak_ok R7 rv7 (by rw [leak_nf]; exact el)
              obtain ⟨e5, hF5, own5, ho5, Rl⟩ := Rel.leave Rn hF h0 R8
              have sA := (s3.trans s5).trans ((s6.trans s7).trans s8)
              split at k2
              · rename_i hz
                refine ⟨ws, e5, by rw [ra.len]; exact hz, F8, τ6, acc ++ [q], s2.trans sA, ?_, k2⟩
                exact NewAt.grow ((Rl.fgt' (vs := vs)).shift ow4 hd') ho5 hF5 h0 e5 (ra.mono sA) rq
              · exact k2.elim
  · have e : i = items.length := by omega
    refine .inl ⟨it2 (by omega), ?_⟩
    rw [List.drop_of_length_le (by omega)] at k2
    obtain ⟨own, R2, h⟩ := n2
    exact k2 _ H2 F2 (s1.trans s2) ⟨L, rfl, own, R2.shift off_unwipe hd', h⟩
/-- a clause's tests -/
structure MTs (X : Cx) (K : PySem.W.Frag) (W : WX) (ms : List Nat) (ifs : List Expr) (t : TT) (d : PSt → Res Bool) : Prop where
  hK : X.K = K
  pe : PTs X ifs t
  sim : SimT K W ms t d
section
variable {X : Cx} {K : PySem.W.Frag} {W : WX} {ms : List Nat}
theorem mts_nil (hK : X.K = K := by rfl) : MTs X K W ms [] tYes dYes := ⟨hK, pts_nil, sim_yes⟩
theorem mts_one {c : Expr} (h : MT X K W ms c t d) : MTs X K W ms [c] t d := ⟨h.hK, pts_one h.pe, h.sim⟩
theorem me_lc {elt tg iter : Expr} {ifs : List Expr} {scope : Scope} {own : List (Str × Nat)} {pos : Pos} {wi : TI} {gt : TG} {tt : TT} {te : TE} {di : PSt → Res (List PV)} {g : PV → PSt → Option PSt} {dt : PSt → Res Bool} {de : PSt → Res RV}
    (hc : X.calm = true) (hN : X.N.Nodup) (hi : MI X K W ms tg iter wi di) (ok : BlkOk X.N X.env.scope scope own)
    (hg : ∀ (s : Shared) (H : Hp) (C : Addr) (cl : List (Str × Addr)) (fp : List Addr), MG (X.blk s H scope (compEnvC scope cl C X.env) fp) K ms (own.map (·.2)) tg gt g) (ht : ∀ (s : Shared) (H : Hp) (C : Addr) (cl : List (Str × Addr)) (fp : List Addr), MTs (X.blk s H scope (compEnvC scope cl C X.env) fp) K W0 ms ifs tt dt)
    (he : ∀ (s : Shared) (H : Hp) (C : Addr) (cl : List (Str × Addr)) (fp : List Addr), ME (X.blk s H scope (compEnvC scope cl C X.env) fp) K W0 ms elt te de) (hd : ∀ i ∈ own.map (·.2), i ∉ ms := by decide) (hs : ∀ x, foldedSetIterable iter X.env x = pure x := by intro _; rfl) :
    ME X K W ms (.ListComp elt [⟨tg, iter, ifs, 0⟩] scope pos) (tLc wi gt tt te (own.map (·.2))) (dLc (own.map (·.2)) di g dt de) :=
  ⟨hi.hK, pe_lc hc hN hi.pe ok (fun s H C cl fp => (hg s H C cl fp).pe) (fun s H C cl fp => (ht s H C cl fp).pe) (fun s H C cl fp => (he s H C cl fp).pe) hs,
    sim_lc hd hi.sim (hg X.s_0 X.H_0 0 [] []).sim (ht X.s_0 X.H_0 0 [] []).sim (he X.s_0 X.H_0 0 [] []).sim⟩
/-- name = [..] -/
theorem ms_setLc {i : Nat} {y : Str} {py : Pos} {elt tg iter : Expr} {ifs : List Expr} {scope : Scope} {own : List (Str × Nat)} {pos spos : Pos} {wi : TI} {gt : TG} {tt : TT} {te : TE} {di : PSt → Res (List PV)} {g : PV → PSt → Option PSt} {dt : PSt → Res Bool} {de : PSt → Res RV}
    (hc : X.calm = true) (hN : X.N.Nodup) (hy : X.N[i]? = some y) (hyl : X.env.scope.names.lookup y = some .local) (hsw : swapsWith (.ListComp elt [⟨tg, iter, ifs, 0⟩] scope pos) (some (.Name y py)) spos.line X.env = pure true) (hi : MI X K W ms tg iter wi di) (ok : BlkOk X.N X.env.scope scope own)
    (hg : ∀ (s : Shared) (H : Hp) (C : Addr) (cl : List (Str × Addr)) (fp : List Addr), MG (X.blk s H scope (compEnvC scope cl C X.env) fp) K ms (own.map (·.2)) tg gt g) (ht : ∀ (s : Shared) (H : Hp) (C : Addr) (cl : List (Str × Addr)) (fp : List Addr), MTs (X.blk s H scope (compEnvC scope cl C X.env) fp) K W0 ms ifs tt dt)
    (he : ∀ (s : Shared) (H : Hp) (C : Addr) (cl : List (Str × Addr)) (fp : List Addr), ME (X.blk s H scope (compEnvC scope cl C X.env) fp) K W0 ms elt te de) (hd : ∀ i ∈ own.map (·.2), i ∉ ms := by decide) (hms : i ∉ ms := by decide) (hs : ∀ x, foldedSetIterable iter X.env x = pure x := by intro _; rfl) :
    MS X K W ms (.Assign [.Name y py] (.ListComp elt [⟨tg, iter, ifs, 0⟩] scope pos) spos) (tAsg (tLc wi gt tt te (own.map (·.2))) (gName i)) (dAsg i (dLc (own.map (·.2)) di g dt de)) :=
  ⟨hi.hK, ps_setLc hc hN hy hyl hsw hi.pe ok (fun s H C cl fp => (hg s H C cl fp).pe) (fun s H C cl fp => (ht s H C cl fp).pe) (fun s H C cl fp => (he s H C cl fp).pe) hs,
    sim_asg hms (sim_lc hd hi.sim (hg X.s_0 X.H_0 0 [] []).sim (ht X.s_0 X.H_0 0 [] []).sim (he X.s_0 X.H_0 0 [] []).sim)⟩
theorem ms_setLcF {i : Nat} {y : Str} {py : Pos} {elt tg iter : Expr} {ifs : List Expr} {scope : Scope} {own : List (Str × Nat)} {pos spos : Pos} {wi : TI} {gt : TG} {tt : TT} {te : TE} {di : PSt → Res (List PV)} {g : PV → PSt → Option PSt} {dt : PSt → Res Bool} {de : PSt → Res RV}
    (hc : X.calm = true) (hN : X.N.Nodup) (hy : X.N[i]? = some y) (hyl : X.env.scope.names.lookup y = some .local) (hsw : swapsWith (.ListComp elt [⟨tg, iter, ifs, 0⟩] scope pos) (some (.Name y py)) spos.line X.env = pure true) (hi : MI X K W ms tg iter wi di) (ok : BlkOk X.N X.env.scope scope own)
    (hg : ∀ (s : Shared) (H : Hp) (C : Addr) (cl : List (Str × Addr)) (fp : List Addr), MG (X.blk s H scope (compEnvC scope cl C X.env) fp) K ms (own.map (·.2)) tg gt g) (ht : ∀ (s : Shared) (H : Hp) (C : Addr) (cl : List (Str × Addr)) (fp : List Addr), MTs (X.blk s H scope (compEnvC scope cl C X.env) fp) K W0 ms ifs tt dt)
    (he : ∀ (s : Shared) (H : Hp) (C : Addr) (cl : List (Str × Addr)) (fp : List Addr), ME (X.blk s H scope (compEnvC scope cl C X.env) fp) K W0 ms elt te de) (hd : ∀ i ∈ own.map (·.2), i ∉ ms := by decide) (hms : i ∉ ms := by decide) (hs : ∀ x, foldedSetIterable iter X.env x = pure x := by intro _; rfl) :
    MS X K W ms (.Assign [.Name y py] (.ListComp elt [⟨tg, iter, ifs, 0⟩] scope pos) spos) (tAsg (tLc wi gt tt te (own.map (·.2))) (gName i)) (dAsgF i (dLc (own.map (·.2)) di g dt de)) :=
  ⟨hi.hK, ps_setLc hc hN hy hyl hsw hi.pe ok (fun s H C cl fp => (hg s H C cl fp).pe) (fun s H C cl fp => (ht s H C cl fp).pe) (fun s H C cl fp => (he s H C cl fp).pe) hs,
    sim_asgF hms (sim_lc hd hi.sim (hg X.s_0 X.H_0 0 [] []).sim (ht X.s_0 X.H_0 0 [] []).sim (he X.s_0 X.H_0 0 [] []).sim)⟩
end

/-! ### methods that change a list of one variable -/
/-- g: what the list is then, what the call gives; the arguments are frozen -/
def MutOk (K : PySem.W.Frag) (r : V → List V → Hp → VK → Prop) (g : List PV → List PV → Option (List PV × PV)) : Prop := ∀ F H a ws xs vs ps xs' z Q, Sub F H → H a = some (.lst ws) → RpAll K F ws xs → RpAll K F vs ps → g xs ps = some (xs', z) →
  (∀ ws' v, RpAll K F ws' xs' → Rp K F v z → Q v (upd H a (.lst ws'))) → r (.ref a) vs H Q
def dMut (i : Nat) (g : List PV → List PV → Option (List PV × PV)) (da : PSt → Res (List RV)) : PSt → Res RV := fun τ => match τ[i]? with
  | some (.ow (.lst _)) => (da τ).bind fun rs τ1 => (match leakAll rs τ1 with
    | some (ps, τ2) => (match τ2[i]? with
      | some (.ow (.lst xs)) => (match g xs ps with
        | some (xs', z) => .ok (.fz z) (τ2.set i (.ow (.lst xs')))
        | none => .no)
      | _ => .no)
    | none => .no)
  | _ => .no
theorem sim_mut {K : PySem.W.Frag} {W : WX} {ms : List Nat} {i : Nat} {r : V → List V → Hp → VK → Prop} {g : List PV → List PV → Option (List PV × PV)} {t : TA} {d : PSt → Res (List RV)} (hg : MutOk K r g) (h : SimA K W ms t d) : SimE K W ms (tBM K "list" r (tVar i) t) (dMut i g d) := by
  intro C F τ σ H Q hm R k
  unfold dMut at k
  split at k
  · rename_i p0 e0
    obtain ⟨own, R'⟩ := id R
    obtain ⟨a, ha, ho, ws, e, ra⟩ := R'.slot _ _ e0
    refine ⟨_, ha, .inl ⟨rfl, ws, SqL.of e⟩, ?_⟩
    rw [Res.holds_bind] at k
    refine h C F τ σ H _ hm R (k.imp (fun rs τ1 k => ?_) fun _ _ x => x)
    intro vs H1 F1 s1 R1 rvs
    split at k
    · rename_i ps τ2 e2
      obtain ⟨F2, s2, ⟨own2, R2⟩, rp⟩ := leakAll_ok R1 rvs e2
      split at k
      · rename_i xs e3
        split at k
        · rename_i xs' z e4
          obtain ⟨a', ha', ho', ws2, e5, ra2⟩ := R2.slot _ _ e3
          rw [ha] at ha'; cases ha'
          refine hg F2 H1 a ws2 xs vs ps xs' z _ R2.sub e5 ra2 rp e4 fun ws' v hw hv => ?_
          exact k v _ F2 (s1.trans s2) ⟨Rel.mutate R2 ho' ha ⟨ws', upd_same, hw⟩, hv⟩
        · exact k.elim
      · exact k.elim
    · exact k.elim
  · exact k.elim
section
variable {X : Cx} {K : PySem.W.Frag} {W : WX} {ms : List Nat}
theorem me_mut {o e : Expr} {es : List Expr} {name : Str} {apos cpos : Pos} {id : String} {i : Nat} {r : V → List V → Hp → VK → Prop} {g : List PV → List PV → Option (List PV × PV)} {da : PSt → Res (List RV)} (slot : Slot "list" name id) (hty : typeOf (.builtin id) = pure (.type "method_descriptor")) (hm : MtR X id r) (hg : MutOk K r g)
    (ho : PE X o (tVar i)) (ha : MA X K W ms (e :: es) t da) (hbase : attributeBase o name X.env (eval o X.env) = eval o X.env := by rfl)
    (hfew : ((backTo cpos (starEach (e :: es) X.env)).all (fun x => !x.1) && (backToKw cpos (keywordEach [] X.env)).all (fun x => x.1.isSome)
      && decide ((e :: es).length + ([] : List Keyword).length + (if ([] : List Keyword).isEmpty then 0 else 1) < 30)) = true := by rfl)
    (hline : (apos.endLine == cpos.line) = true := by rfl) (hs : starEach (e :: es) X.env = (false, eval e X.env) :: starEach es X.env := by rfl) (hplain : (backTo cpos (starEach es X.env)).any (·.1) = false := by rfl) :
    ME X K W ms (.Call (.Attribute o name apos) (e :: es) [] cpos) (tBM K "list" r (tVar i) t) (dMut i g da) := by
  obtain ⟨rfl, p0, s0⟩ := ha
  exact ⟨rfl, pe_bm PySem.F.plainAttrs_list slot hty hm ho p0 hbase hfew hline hs hplain, sim_mut hg s0⟩
theorem me_mut0 {o : Expr} {name : Str} {apos cpos : Pos} {id : String} {i : Nat} {r : V → List V → Hp → VK → Prop} {g : List PV → List PV → Option (List PV × PV)} (slot : Slot "list" name id) (hty : typeOf (.builtin id) = pure (.type "method_descriptor")) (hm : MtR X id r) (hg : MutOk K r g)
    (ho : PE X o (tVar i)) (hbase : attributeBase o name X.env (eval o X.env) = eval o X.env := by rfl) (hline : (apos.endLine == cpos.line) = true := by rfl) (hK : X.K = K := by rfl) : ME X K W ms (.Call (.Attribute o name apos) [] [] cpos) (tBM0 K "list" r (tVar i)) (dMut i g dNil) := by
  subst hK
  exact ⟨rfl, pe_bm0 PySem.F.plainAttrs_list slot hty hm ho hbase hline, sim_mut (t := tNil) hg sim_nil⟩
/-- xs[k] = e -/
def dSetIx (i : Nat) (di dv : PSt → Res RV) : PSt → SRes := fun τ => (dv τ).bindS fun r τ1 => match leak r τ1 with
  | some (p, τ2) => (match τ2[i]? with
    | some (.ow _) => (di τ2).bindS fun k τ3 => (match content k τ3, τ3[i]? with
      | some (.int n), some (.ow (.lst xs)) => (match ixN xs.length n with
        | some j => .nx (τ3.set i (.ow (.lst (xs.set j p))))
        | none => .no)
      | _, _ => .no)
    | _ => .no)
  | none => .no
theorem sim_setix {i : Nat} {ti tv : TE} {di dv : PSt → Res RV} (hi : SimE K W ms ti di) (hv : SimE K W ms tv dv) : SimS K W ms (tAsg tv (gSub (tVar i) ti rSetL)) (dSetIx i di dv) := by
  intro C F τ σ H D hm R k
  unfold dSetIx at k
  refine hv C F τ σ H _ hm R ((SH.bind (σ := σ) k).imp (fun r τ1 k => ?_) fun _ _ x => x)
  intro v H1 F1 s1 ok
  obtain ⟨F1', s1', R1, rv⟩ := ok.froze
  split at k
  · rename_i p τ2 e
    obtain ⟨F2, s2, R2, rp⟩ := leak_ok R1 rv (by rw [leak_nf]; exact e)
    split at k
    · rename_i p0 e0
      obtain ⟨own, R2'⟩ := id R2
      obtain ⟨a, ha, ho, _⟩ := R2'.slot _ _ e0
      refine ⟨_, ha, ?_⟩
      refine hi C F2 τ2 σ H1 _ hm R2 ((SH.bind (σ := σ) k).imp (fun r3 τ3 k => ?_) (ErE.up ((s1.trans s1').trans s2)))
      intro v3 H3 F3 s3 ok3
      obtain ⟨F3', s3', R3, rv3⟩ := ok3.froze
      split at k
      · rename_i n xs e3 e4
        split at k
        · rename_i j ej
          have hn := (content_ok R3 rv3 (by rw [content_nf]; exact e3)).int_
          obtain ⟨own3, R3⟩ := R3
          obtain ⟨a', ha', ho', ws, e5, ra⟩ := R3.slot _ _ e4
          rw [ha] at ha'; cases ha'
          refine ⟨a, ws, n, j, rfl, hn, e5, by rw [ra.len]; exact ej, ?_⟩
          exact k σ _ F3' (((s1.trans s1').trans s2).trans (s3.trans s3')) (Rel.mutate R3 ho' ha ⟨_, upd_same, ra.set j (rp.mono (s3.trans s3'))⟩)
        · exact k.elim
      · exact k.elim
    · exact k.elim
  · exact k.elim
theorem ms_setix {i : Nat} {o x e : Expr} {pos tpos : Pos} (ho : PE X o (tVar i)) (hi : ME X K W ms x ti di) (hv : ME X K W ms e tv dv)
    (ha : ∀ v, assign (.Subscript o x tpos) X.env v = (do
      let ov ← holding [v] (eval o X.env)
      let iv ← holding [v, ov] (eval x X.env)
      standAt tpos
      holding [v, ov, iv] (setItem ov iv v)
      release [v, ov, iv] []) := by intro _; rfl) (hs : swapsWithSole [.Subscript o x tpos] e pos.line X.env = pure false := by rfl) (hw : swappedStores [.Subscript o x tpos] e X.env = pure none := by rfl)
    (h1 : (assignEach [.Subscript o x tpos] X.env).map (·.2) = [assign (.Subscript o x tpos) X.env] := by rfl) :
    MS X K W ms (.Assign [.Subscript o x tpos] e pos) (tAsg tv (gSub (tVar i) ti rSetL)) (dSetIx i di dv) := ⟨hv.hK, ps_asg hv.pe (pg_sub ho hi.pe set_list ha) hs hw h1, sim_setix hi.sim hv.sim⟩
end
end VL

/-! VL7: what the operations of Python give, upon pure values. -/
namespace VL
open PySem PySem.Spec L2

section
variable {K : PySem.W.Frag} {F H : Hp} {v : V}
theorem RpW.int {i : Int} (h : RpW K F H v (.int i)) : v = .int i := h.int_
theorem RpW.str {l : List Nat} (h : RpW K F H v (.str l)) : v = .str (sl l) := by
  rcases h with h | ⟨a, rfl, h⟩
  · cases h; rfl
  · exact h.elim
theorem RpW.bl {b : Bool} (h : RpW K F H v (.bl b)) : v = .bl b := by
  rcases h with h | ⟨a, rfl, h⟩
  · cases h; rfl
  · exact h.elim
theorem RpW.non (h : RpW K F H v .non) : v = .non := by
  rcases h with h | ⟨a, rfl, h⟩
  · cases h; rfl
  · exact h.elim
theorem RpW.ty {n : String} (h : RpW K F H v (.ty n)) : v = .ty n := by
  rcases h with h | ⟨a, rfl, h⟩
  · cases h; rfl
  · exact h.elim
theorem RpW.lst {ps : List PV} (s : Sub F H) (h : RpW K F H v (.lst ps)) : ∃ a vs, v = V.ref a ∧ H a = some (.lst vs) ∧ RpAll K F vs ps := by
  rcases h with h | ⟨a, rfl, h⟩
  · cases h with
    | lst h r => exact ⟨_, _, rfl, s _ _ h, r⟩
  · obtain ⟨vs, h, r⟩ := h
    exact ⟨a, vs, rfl, h, r⟩
theorem RpW.tup {ps : List PV} (s : Sub F H) (h : RpW K F H v (.tup ps)) : ∃ a vs, v = V.ref a ∧ F a = some (.tup vs) ∧ H a = some (.tup vs) ∧ RpAll K F vs ps := by
  rcases h with h | ⟨a, rfl, h⟩
  · cases h with
    | tup h r => exact ⟨_, _, rfl, h, s _ _ h, r⟩
  · exact h.elim
theorem RpW.scr {ns : List Int} (s : Sub F H) (h : RpW K F H v (.scr ns)) : ∃ a, v = V.ref a ∧ SqL K H a (ns.map V.int) := by
  rcases h with h | ⟨a, rfl, h⟩
  · cases h with
    | scr h => exact ⟨_, rfl, s.seq h⟩
  · exact h.elim
theorem RpWs.one {vs : List V} {p : PV} (h : RpWs K F H vs [p]) : ∃ v, vs = [v] ∧ RpW K F H v p := by
  cases h with
  | cons h r => cases r; exact ⟨_, rfl, h⟩
theorem RpWs.two {vs : List V} {p q : PV} (h : RpWs K F H vs [p, q]) : ∃ v w, vs = [v, w] ∧ RpW K F H v p ∧ RpW K F H w q := by
  cases h with
  | cons h r => cases r with
    | cons h' r => cases r; exact ⟨_, _, rfl, h, h'⟩
theorem RpWs.zero {vs : List V} (h : RpWs K F H vs []) : vs = [] := by cases h; rfl
end
@[simp] def intsOf : List PV → Option (List Int)
  | [] => some []
  | .int i :: ps => (intsOf ps).map (i :: ·)
  | _ :: _ => none
theorem intsOf_ok : ∀ {ps : List PV} {ns : List Int}, intsOf ps = some ns → ps = ns.map PV.int
  | [], ns, e => by cases e; rfl
  | p :: ps, ns, e => by
    cases p <;> try cases e
    obtain ⟨ms, h, rfl⟩ := Option.map_eq_some_iff.mp e
    rw [intsOf_ok h]; rfl
@[simp] theorem intsOf_map (ns : List Int) : intsOf (ns.map PV.int) = some ns := by
  induction ns with
  | nil => rfl
  | cons n ns ih => simp [intsOf, ih]
@[simp] def strsOf : List PV → Option (List (List Nat))
  | [] => some []
  | .str i :: ps => (strsOf ps).map (i :: ·)
  | _ :: _ => none
theorem strsOf_ok : ∀ {ps : List PV} {ns : List (List Nat)}, strsOf ps = some ns → ps = ns.map PV.str
  | [], ns, e => by cases e; rfl
  | p :: ps, ns, e => by
    cases p <;> try cases e
    obtain ⟨ms, h, rfl⟩ := Option.map_eq_some_iff.mp e
    rw [strsOf_ok h]; rfl
@[simp] theorem strsOf_map (ns : List (List Nat)) : strsOf (ns.map PV.str) = some ns := by
  induction ns with
  | nil => rfl
  | cons n ns ih => simp [strsOf, ih]
@[simp] def blsOf : List PV → Option (List Bool)
  | [] => some []
  | .bl i :: ps => (blsOf ps).map (i :: ·)
  | _ :: _ => none
theorem blsOf_ok : ∀ {ps : List PV} {ns : List Bool}, blsOf ps = some ns → ps = ns.map PV.bl
  | [], ns, e => by cases e; rfl
  | p :: ps, ns, e => by
    cases p <;> try cases e
    obtain ⟨ms, h, rfl⟩ := Option.map_eq_some_iff.mp e
    rw [blsOf_ok h]; rfl
@[simp] theorem blsOf_map (ns : List Bool) : blsOf (ns.map PV.bl) = some ns := by
  induction ns with
  | nil => rfl
  | cons n ns ih => simp [blsOf, ih]

/-! ### ints -/
@[simp] def gI2 (f : Int → Int → Option PV) : PV → PV → Option GV
  | .int i, .int j => (f i j).map .old
  | _, _ => none
theorem ok_rI {K : PySem.W.Frag} {C : Int → Int → Prop} [∀ i j, Decidable (C i j)] {g : Int → Int → V} {f : Int → Int → PV} (h : ∀ F i j v, Rp K F v (f i j) ↔ v = g i j) : Op2Ok K (rI C g) (gI2 fun i j => if C i j then some (f i j) else none) := by
  intro F H x y p q z Q s hx hy e k
  cases p <;> try cases e
  cases q <;> try cases e
  rename_i i j
  obtain ⟨w, e1, e2⟩ := Option.map_eq_some_iff.mp e
  dsimp only at e1
  split at e1
  · rename_i hc
    cases e1; cases e2
    exact ⟨i, j, hx.int, hy.int, hc, k _ ((h F i j _).mpr rfl)⟩
  · cases e1
theorem ok_rI0 {K : PySem.W.Frag} {g : Int → Int → V} {f : Int → Int → PV} (h : ∀ F i j v, Rp K F v (f i j) ↔ v = g i j) : Op2Ok K (rI0 g) (gI2 fun i j => some (f i j)) := by
  intro F H x y p q z Q s hx hy e k
  cases p <;> try cases e
  cases q <;> try cases e
  rename_i i j
  exact ⟨i, j, hx.int, hy.int, k _ ((h F i j _).mpr rfl)⟩
theorem rp_int {K : PySem.W.Frag} {F : Hp} {i : Int} {v : V} : Rp K F v (.int i) ↔ v = .int i := ⟨fun h => by cases h; rfl, fun h => h ▸ .int i⟩
theorem rp_bl {K : PySem.W.Frag} {F : Hp} {i : Bool} {v : V} : Rp K F v (.bl i) ↔ v = .bl i := ⟨fun h => by cases h; rfl, fun h => h ▸ .bl i⟩
noncomputable instance (i j : Int) : Decidable (IntMulOk i j) := Classical.propDecidable _
noncomputable instance (i j : Int) : Decidable (CDivW i j) := Classical.propDecidable _
noncomputable instance (i j : Int) : Decidable (CPow i j) := Classical.propDecidable _
abbrev gAddI := gI2 fun i j => some (.int (i + j))
abbrev gSubI := gI2 fun i j => some (.int (i - j))
noncomputable abbrev gMulI := gI2 fun i j => if IntMulOk i j then some (.int (i * j)) else none
noncomputable abbrev gDivI := gI2 fun i j => if CDivW i j then some (.int (i / j)) else none
abbrev gModI := gI2 fun i j => if 0 < j then some (.int (i % j)) else none
noncomputable abbrev gPowI := gI2 fun i j => if CPow i j then some (.int (i ^ j.toNat)) else none
abbrev gAndI := gI2 fun i j => some (.int (Builtin.bitAnd i j))
abbrev gLt := gI2 fun i j => some (.bl (decide (i < j)))
abbrev gLe := gI2 fun i j => some (.bl (decide (i ≤ j)))
abbrev gGt := gI2 fun i j => some (.bl (decide (j < i)))
abbrev gGe := gI2 fun i j => some (.bl (decide (j ≤ i)))
section
variable {K : PySem.W.Frag} {X : Cx}
theorem ok_add : Op2Ok K (rI0 fun i j => .int (i + j)) gAddI := ok_rI0 fun _ _ _ _ => rp_int
theorem ok_sub : Op2Ok K (rI0 fun i j => .int (i - j)) gSubI := ok_rI0 fun _ _ _ _ => rp_int
theorem ok_and : Op2Ok K (rI0 fun i j => .int (Builtin.bitAnd i j)) gAndI := ok_rI0 fun _ _ _ _ => rp_int
theorem op_mulX : OpR X (binaryOp .Mult) (rI IntMulOk fun i j => .int (i * j)) := opI fun _ _ _ _ _ _ _ hc q => PyProof.Rows.mul_int q hc
theorem ok_mul : Op2Ok K (rI IntMulOk fun i j => .int (i * j)) gMulI := ok_rI fun _ _ _ _ => rp_int
theorem ok_div : Op2Ok K (rI CDivW fun i j => .int (i / j)) gDivI := ok_rI fun _ _ _ _ => rp_int
theorem ok_mod : Op2Ok K (rI (fun _ j => 0 < j) fun i j => .int (i % j)) gModI := ok_rI (C := fun _ j => 0 < j) fun _ _ _ _ => rp_int
theorem ok_pow : Op2Ok K (rI CPow fun i j => .int (i ^ j.toNat)) gPowI := ok_rI fun _ _ _ _ => rp_int
theorem ok_lt : Op2Ok K (rI0 fun i j => .bl (decide (i < j))) gLt := ok_rI0 fun _ _ _ _ => rp_bl
theorem ok_le : Op2Ok K (rI0 fun i j => .bl (decide (i ≤ j))) gLe := ok_rI0 fun _ _ _ _ => rp_bl
theorem ok_gt : Op2Ok K (rI0 fun i j => .bl (decide (j < i))) gGt := ok_rI0 fun _ _ _ _ => rp_bl
theorem ok_ge : Op2Ok K (rI0 fun i j => .bl (decide (j ≤ i))) gGe := ok_rI0 fun _ _ _ _ => rp_bl
end
@[simp] def gNeg : PV → Option GV
  | .int i => some (.old (.int (-i)))
  | _ => none
theorem ok_neg {K : PySem.W.Frag} : Op1Ok K (rU fun i => .int (-i)) gNeg := by
  intro F H x p z Q s hx e k
  cases p <;> cases e
  exact ⟨_, hx.int, k _ (.int _)⟩

/-! ### lists, texts, tuples put together -/
@[simp] def gAddS : PV → PV → Option GV
  | .str a, .str b => if a.length + b.length ≤ sizeLine then some (.old (.str (a ++ b))) else none
  | _, _ => none
@[simp] def gCat : PV → PV → Option GV
  | .lst a, .lst b => if a.length + b.length ≤ sizeLine then some (.nw (.lst (a ++ b))) else none
  | _, _ => none
@[simp] def gCatT : PV → PV → Option GV
  | .tup (p :: a), .tup [] => if (p :: a).length ≤ sizeLine then some (.old (.tup (p :: a))) else none
  | .tup (p :: a), .tup (q :: b) => if (p :: a).length + (q :: b).length ≤ sizeLine then some (.tp (.tup (p :: a ++ q :: b))) else none
  | _, _ => none
def In63 (n : Int) : Prop := -(2 ^ 63) ≤ n ∧ n < 2 ^ 63
noncomputable instance (n : Int) : Decidable (In63 n) := Classical.propDecidable _
theorem In63.of {n : Int} (h : -4000000000 ≤ n) (h' : n ≤ 4000000000) : In63 n := by constructor <;> omega
@[simp] noncomputable def gRep : PV → PV → Option GV
  | .lst a, .int k => if In63 k ∧ a.length * k.toNat ≤ sizeLine then some (.nw (.lst (List.replicate k.toNat a).flatten)) else none
  | _, _ => none
theorem sl_app (a b : List Nat) : sl a ++ sl b = sl (a ++ b) := by
  show (⟨(sl a).cps ++ (sl b).cps⟩ : Str) = _
  simp [sl]
section
variable {K : PySem.W.Frag}
theorem ok_addS : Op2Ok K (fun x y H Q => ∃ i j, x = .str i ∧ y = .str j ∧ i.length + j.length ≤ sizeLine ∧ Q (.str (i ++ j)) H) gAddS := by
  intro F H x y p q z Q s hx hy e k
  unfold gAddS at e
  split at e
  · split at e
    · cases e
      rename_i hz
      exact ⟨_, _, hx.str, hy.str, by rw [sl_length, sl_length]; exact hz, by rw [sl_app]; exact k _ (.str _)⟩
    · cases e
  · cases e
theorem ok_cat : Op2Ok K rCat gCat := by
  intro F H x y p q z Q s hx hy e k
  unfold gCat at e
  split at e
  · split at e
    · cases e
      rename_i hz
      obtain ⟨a, vs, rfl, h1, r1⟩ := hx.lst s
      obtain ⟨b, ws, rfl, h2, r2⟩ := hy.lst s
      exact ⟨a, b, vs, ws, rfl, rfl, h1, h2, by rw [r1.len, r2.len]; exact hz, fun p hp => k.2 p (.lst (vs ++ ws)) hp (r1.append r2)⟩
    · cases e
  · cases e
theorem ok_catT : Op2Ok K (rCatT K) gCatT := by
  intro F H x y p q z Q s hx hy e k
  unfold gCatT at e
  split at e
  · split at e
    · cases e
      rename_i hz
      obtain ⟨a, vs, rfl, f1, h1, r1⟩ := hx.tup s
      obtain ⟨b, ws, rfl, f2, h2, r2⟩ := hy.tup s
      cases r2
      refine ⟨a, b, vs, [], rfl, rfl, SqT.of h1, SqT.of h2, fun z => (by subst z; cases r1), by rw [r1.len]; simpa using hz, fun _ => k _ (.tup f1 r1), fun z => absurd rfl z⟩
    · cases e
  · split at e
    · cases e
      rename_i hz
      obtain ⟨a, vs, rfl, f1, h1, r1⟩ := hx.tup s
      obtain ⟨b, ws, rfl, f2, h2, r2⟩ := hy.tup s
      refine ⟨a, b, vs, ws, rfl, rfl, SqT.of h1, SqT.of h2, fun z => (by subst z; cases r1), by rw [r1.len, r2.len]; exact hz, fun z => (by subst z; cases r2), fun _ p hp => k p (.tup (vs ++ ws)) hp (r1.append r2)⟩
    · cases e
  · cases e
theorem RpAll.flat {F : Hp} {vs : List V} {ps : List PV} (r : RpAll K F vs ps) : ∀ n, RpAll K F (List.replicate n vs).flatten (List.replicate n ps).flatten
  | 0 => .nil
  | n + 1 => by
    rw [List.replicate_succ, List.replicate_succ, List.flatten_cons, List.flatten_cons]
    exact r.append (RpAll.flat r n)
theorem ok_rep : Op2Ok K rRep gRep := by
  intro F H x y p q z Q s hx hy e k
  unfold gRep at e
  split at e
  · split at e
    · cases e
      rename_i hz
      obtain ⟨a, vs, rfl, h1, r1⟩ := hx.lst s
      exact ⟨a, _, vs, rfl, hy.int, h1, hz.1.1, hz.1.2, by rw [r1.len]; exact hz.2, fun p hp => k.2 p (.lst _) hp (r1.flat _)⟩
    · cases e
  · cases e
end
abbrev gAdd := gOr gAddI (gOr gAddS (gOr gCat gCatT))
noncomputable abbrev gMul := gOr gMulI gRep
def rAddX (K : PySem.W.Frag) : R2 := fun x y H Q => rI0 (fun i j => .int (i + j)) x y H Q ∨ (∃ i j, x = .str i ∧ y = .str j ∧ i.length + j.length ≤ sizeLine ∧ Q (.str (i ++ j)) H) ∨ rCat x y H Q ∨ rCatT K x y H Q
def rMulX : R2 := fun x y H Q => rI IntMulOk (fun i j => .int (i * j)) x y H Q ∨ rRep x y H Q
section
variable {X : Cx} {K : PySem.W.Frag} {W : WX} {ms : List Nat}
theorem op_addX : OpR X (binaryOp .Add) (rAddX X.K) := op_or op_add (op_or op_add_str (op_or op_cat op_catT))
theorem ok_addX : Op2Ok K (rAddX K) gAdd := ok_add.or (ok_addS.or (ok_cat.or ok_catT))
theorem op_mulXX : OpR X (binaryOp .Mult) rMulX := op_or op_mulX op_rep
theorem ok_mulX : Op2Ok K rMulX gMul := ok_mul.or ok_rep
theorem me_add {a b : Expr} {pos : Pos} (h1 : ME X K W ms a ta d1) (h2 : ME X K W ms b tb d2) : ME X K W ms (.BinOp a .Add b pos) (tOp (rAddX K) ta tb) (dOp2 gAdd d1 d2) := by obtain ⟨rfl, p, s⟩ := h1; exact me_bin op_addX ok_addX ⟨rfl, p, s⟩ h2
theorem me_sub {a b : Expr} {pos : Pos} (h1 : ME X K W ms a ta d1) (h2 : ME X K W ms b tb d2) : ME X K W ms (.BinOp a .Sub b pos) (tOp (rI0 fun i j => .int (i - j)) ta tb) (dOp2 gSubI d1 d2) := me_bin op_sub ok_sub h1 h2
theorem me_mul {a b : Expr} {pos : Pos} (h1 : ME X K W ms a ta d1) (h2 : ME X K W ms b tb d2) : ME X K W ms (.BinOp a .Mult b pos) (tOp rMulX ta tb) (dOp2 gMul d1 d2) := me_bin op_mulXX ok_mulX h1 h2
theorem me_fdiv {a b : Expr} {pos : Pos} (h1 : ME X K W ms a ta d1) (h2 : ME X K W ms b tb d2) : ME X K W ms (.BinOp a .FloorDiv b pos) (tOp (rI CDivW fun i j => .int (i / j)) ta tb) (dOp2 gDivI d1 d2) := me_bin op_fdivW ok_div h1 h2
theorem me_mod {a b : Expr} {pos : Pos} (h1 : ME X K W ms a ta d1) (h2 : ME X K W ms b tb d2) : ME X K W ms (.BinOp a .Mod b pos) (tOp (rI (fun _ j => 0 < j) fun i j => .int (i % j)) ta tb) (dOp2 gModI d1 d2) := me_bin op_mod ok_mod h1 h2
theorem me_pow {a b : Expr} {pos : Pos} (h1 : ME X K W ms a ta d1) (h2 : ME X K W ms b tb d2) : ME X K W ms (.BinOp a .Pow b pos) (tOp (rI CPow fun i j => .int (i ^ j.toNat)) ta tb) (dOp2 gPowI d1 d2) := me_bin op_pow ok_pow h1 h2
theorem me_band {a b : Expr} {pos : Pos} (h1 : ME X K W ms a ta d1) (h2 : ME X K W ms b tb d2) : ME X K W ms (.BinOp a .BitAnd b pos) (tOp (rI0 fun i j => .int (Builtin.bitAnd i j)) ta tb) (dOp2 gAndI d1 d2) := me_bin op_and ok_and h1 h2
theorem me_neg {a : Expr} {pos : Pos} (h : ME X K W ms a t d) : ME X K W ms (.UnaryOp .USub a pos) (tUn (rU fun i => .int (-i)) t) (dOp1 gNeg d) := me_un un_neg ok_neg h
end

/-! ### == -/
mutual
def toD : PV → Option PyData
  | .non => some .none
  | .bl b => some (.bool b)
  | .int i => some (.int i)
  | .str l => some (.str (sl l))
  | .lst ps => (toDs ps).map .list
  | .tup ps => (toDs ps).map .tuple
  | .scr ns => some (.list (ns.map .int))
  | _ => none
def toDs : List PV → Option (List PyData)
  | [] => some []
  | p :: ps => (toD p).bind fun d => (toDs ps).map (d :: ·)
end
theorem dp_ints {K : PySem.W.Frag} {H : Hp} : ∀ ns : List Int, DpAll K H (ns.map V.int) (ns.map PyData.int)
  | [] => .nil
  | n :: ns => .cons (.int n) (dp_ints ns)
mutual
theorem toD_ok {K : PySem.W.Frag} {F H : Hp} (s : Sub F H) : ∀ (p : PV) (v : V) (d : PyData), Rp K F v p → toD p = some d → Dp K H v d
  | .non, _, _, h, e => by cases h; cases e; exact .non
  | .bl b, _, _, h, e => by cases h; cases e; exact .bl b
  | .int i, _, _, h, e => by cases h; cases e; exact .int i
  | .str l, _, _, h, e => by cases h; cases e; exact .str _
  | .lst ps, _, _, h, e => by
    cases h with
    | lst h r =>
      obtain ⟨ds, e1, rfl⟩ := Option.map_eq_some_iff.mp (by simpa [toD] using e)
      exact .lst (SqL.of (s _ _ h)) (toDs_ok s ps _ ds r e1)
  | .tup ps, _, _, h, e => by
    cases h with
    | tup h r =>
      obtain ⟨ds, e1, rfl⟩ := Option.map_eq_some_iff.mp (by simpa [toD] using e)
      exact .tup (SqT.of (s _ _ h)) (toDs_ok s ps _ ds r e1)
  | .scr ns, _, _, h, e => by
    cases h with
    | scr h => cases e; exact .lst (s.seq h) (dp_ints ns)
  | .dic _ _, _, _, _, e => by cases e
  | .obj _ _, _, _, _, e => by cases e
  | .fn _, _, _, _, e => by cases e
  | .ty _, _, _, _, e => by cases e
theorem toDs_ok {K : PySem.W.Frag} {F H : Hp} (s : Sub F H) : ∀ (ps : List PV) (vs : List V) (ds : List PyData), RpAll K F vs ps → toDs ps = some ds → DpAll K H vs ds
  | [], _, _, h, e => by cases h; cases e; exact .nil
  | p :: ps, _, _, h, e => by
    cases h with
    | cons h r =>
      obtain ⟨d, e1, e2⟩ := Option.bind_eq_some_iff.mp (by simpa [toDs] using e)
      obtain ⟨ds, e3, rfl⟩ := Option.map_eq_some_iff.mp e2
      exact .cons (toD_ok s p _ d h e1) (toDs_ok s ps _ ds r e3)
end
theorem RpW.dp {K : PySem.W.Frag} {F H : Hp} {v : V} {p : PV} {d : PyData} (s : Sub F H) (h : RpW K F H v p) (e : toD p = some d) : Dp K H v d := by
  rcases h with h | ⟨a, rfl, h⟩
  · exact toD_ok s p v d h e
  · cases p <;> try exact h.elim
    · obtain ⟨vs, h, r⟩ := h
      obtain ⟨ds, e1, rfl⟩ := Option.map_eq_some_iff.mp (by simpa [toD] using e)
      exact .lst (SqL.of h) (toDs_ok s _ _ ds r e1)
    all_goals cases e
/-- plain values -/
@[simp] def eqS : PV → PV → Option Bool
  | .int i, .int j => some (decide (i = j))
  | .str a, .str b => some (decide (a = b))
  | .bl a, .bl b => some (decide (a = b))
  | .non, .non => some true
  | .non, .int _ | .non, .bl _ | .non, .str _ | .int _, .non | .bl _, .non | .str _, .non | .int _, .str _ | .str _, .int _ | .bl _, .str _ | .str _, .bl _ => some false
  | _, _ => none
def eqDeep (p q : PV) : Option Bool := (toD p).bind fun d => (toD q).bind fun e => if SeqAt.shaped d = true ∧ SeqAt.shaped e = true then some (PyData.eqv d e) else none
@[simp] def gEqS (p q : PV) : Option GV := (eqS p q).map fun b => .old (.bl b)
@[simp] def gNeS (p q : PV) : Option GV := (eqS p q).map fun b => .old (.bl !b)
@[simp] def gEqDp (p q : PV) : Option GV := (eqDeep p q).map fun b => .old (.bl b)
@[simp] def gNeDp (p q : PV) : Option GV := (eqDeep p q).map fun b => .old (.bl !b)
abbrev gEq := gOr gEqS gEqDp
abbrev gNe := gOr gNeS gNeDp
theorem eqS_ok {K : PySem.W.Frag} {F H : Hp} {x y : V} {p q : PV} {b : Bool} (hx : RpW K F H x p) (hy : RpW K F H y q) (e : eqS p q = some b) : scal x y = true ∧ decide (x = y) = b := by
  unfold eqS at e
  split at e <;> cases e
  · rw [hx.int, hy.int]; exact ⟨rfl, by rw [decide_eq_decide]; exact ⟨fun z => V.int.inj z, fun z => by rw [z]⟩⟩
  · rw [hx.str, hy.str]; exact ⟨rfl, by rw [decide_eq_decide]; exact ⟨fun z => sl_inj (V.str.inj z), fun z => by rw [z]⟩⟩
  · rw [hx.bl, hy.bl]; exact ⟨rfl, by rw [decide_eq_decide]; exact ⟨fun z => V.bl.inj z, fun z => by rw [z]⟩⟩
  · rw [hx.non, hy.non]; exact ⟨rfl, by simp⟩
  · rw [hx.non, hy.int]; exact ⟨rfl, by simp⟩
  · rw [hx.non, hy.bl]; exact ⟨rfl, by simp⟩
  · rw [hx.non, hy.str]; exact ⟨rfl, by simp⟩
  · rw [hx.int, hy.non]; exact ⟨rfl, by simp⟩
  · rw [hx.bl, hy.non]; exact ⟨rfl, by simp⟩
  · rw [hx.str, hy.non]; exact ⟨rfl, by simp⟩
  · rw [hx.int, hy.str]; exact ⟨rfl, by simp⟩
  · rw [hx.str, hy.int]; exact ⟨rfl, by simp⟩
  · rw [hx.bl, hy.str]; exact ⟨rfl, by simp⟩
  · rw [hx.str, hy.bl]; exact ⟨rfl, by simp⟩
section
variable {K : PySem.W.Frag} {X : Cx} {W : WX} {ms : List Nat}
theorem ok_eqS : Op2Ok K rEq gEqS := by
  intro F H x y p q z Q s hx hy e k
  obtain ⟨b, e1, rfl⟩ := Option.map_eq_some_iff.mp e
  obtain ⟨h1, h2⟩ := eqS_ok hx hy e1
  exact ⟨h1, by rw [h2]; exact k _ (.bl _)⟩
theorem ok_neS : Op2Ok K rNe gNeS := by
  intro F H x y p q z Q s hx hy e k
  obtain ⟨b, e1, rfl⟩ := Option.map_eq_some_iff.mp e
  obtain ⟨h1, h2⟩ := eqS_ok hx hy e1
  exact ⟨h1, by rw [h2]; exact k _ (.bl _)⟩
theorem eqDeep_ok {F H : Hp} {x y : V} {p q : PV} {b : Bool} (s : Sub F H) (hx : RpW K F H x p) (hy : RpW K F H y q) (e : eqDeep p q = some b) : ∃ d d', Dp K H x d ∧ Dp K H y d' ∧ SeqAt.shaped d = true ∧ SeqAt.shaped d' = true ∧ b = PyData.eqv d d' := by
  obtain ⟨d, e1, e2⟩ := Option.bind_eq_some_iff.mp e
  obtain ⟨d', e3, e4⟩ := Option.bind_eq_some_iff.mp e2
  split at e4
  · rename_i h
    cases e4
    exact ⟨d, d', hx.dp s e1, hy.dp s e3, h.1, h.2, rfl⟩
  · cases e4
theorem ok_eqD : Op2Ok K (rEqD K) gEqDp := by
  intro F H x y p q z Q s hx hy e k
  obtain ⟨b, e1, rfl⟩ := Option.map_eq_some_iff.mp e
  obtain ⟨d, d', h1, h2, h3, h4, rfl⟩ := eqDeep_ok s hx hy e1
  exact ⟨d, d', h1, h2, h3, h4, k _ (.bl _)⟩
theorem ok_neD : Op2Ok K (rNeD K) gNeDp := by
  intro F H x y p q z Q s hx hy e k
  obtain ⟨b, e1, rfl⟩ := Option.map_eq_some_iff.mp e
  obtain ⟨d, d', h1, h2, h3, h4, rfl⟩ := eqDeep_ok s hx hy e1
  exact ⟨d, d', h1, h2, h3, h4, k _ (.bl _)⟩
def rEqX (K : PySem.W.Frag) : R2 := fun x y H Q => rEq x y H Q ∨ rEqD K x y H Q
def rNeX (K : PySem.W.Frag) : R2 := fun x y H Q => rNe x y H Q ∨ rNeD K x y H Q
theorem op_eqX (hu : X.A.units + 64 < cLine) : OpR X (compareOp .Eq) (rEqX X.K) := op_or op_eq (op_eqD hu)
theorem op_neX (hu : X.A.units + 64 < cLine) : OpR X (compareOp .NotEq) (rNeX X.K) := op_or op_ne (op_neD hu)
theorem ok_eq : Op2Ok K (rEqX K) gEq := ok_eqS.or ok_eqD
theorem ok_ne : Op2Ok K (rNeX K) gNe := ok_neS.or ok_neD

/-! ### items, lengths -/
@[simp] def gIxL : PV → PV → Option GV
  | .lst ps, .int i => (atI ps i).map .old
  | .tup ps, .int i => (atI ps i).map .old
  | .scr ns, .int i => (atI ns i).map fun n => .old (.int n)
  | .str l, .int i => if l.length ≤ sizeLine then (atI l i).map fun c => .old (.str [c]) else none
  | _, _ => none
theorem atI_rp {F : Hp} {vs : List V} {ps : List PV} {i : Int} {p : PV} (r : RpAll K F vs ps) (e : atI ps i = some p) : ∃ v, atI vs i = some v ∧ Rp K F v p := by
  unfold atI at e ⊢
  rw [r.len]
  obtain ⟨j, e1, e2⟩ := Option.bind_eq_some_iff.mp e
  obtain ⟨v, e3, h⟩ := r.get e2
  exact ⟨v, by rw [e1]; exact e3, h⟩
theorem atI_map {α β : Type} (f : α → β) (xs : List α) (i : Int) : atI (xs.map f) i = (atI xs i).map f := by
  unfold atI
  rw [List.length_map]
  cases ixN xs.length i <;> simp
theorem ok_ix : Op2Ok K (rIx K) gIxL := by
  intro F H x y p q z Q s hx hy e k
  unfold gIxL at e
  split at e
  · obtain ⟨p, e1, rfl⟩ := Option.map_eq_some_iff.mp e
    obtain ⟨a, vs, rfl, h1, r1⟩ := hx.lst s
    obtain ⟨v, e2, rp⟩ := atI_rp r1 e1
    exact .inl ⟨a, vs, _, v, rfl, hy.int, SqL.of h1, e2, k _ rp⟩
  · obtain ⟨p, e1, rfl⟩ := Option.map_eq_some_iff.mp e
    obtain ⟨a, vs, rfl, _, h1, r1⟩ := hx.tup s
    obtain ⟨v, e2, rp⟩ := atI_rp r1 e1
    exact .inr (.inl ⟨a, vs, _, v, rfl, hy.int, SqT.of h1, e2, k _ rp⟩)
  · obtain ⟨n, e1, rfl⟩ := Option.map_eq_some_iff.mp e
    obtain ⟨a, rfl, h1⟩ := hx.scr s
    exact .inl ⟨a, _, _, _, rfl, hy.int, h1, by rw [atI_map, e1]; rfl, k _ (.int n)⟩
  · split at e
    · rename_i hz
      obtain ⟨c, e1, rfl⟩ := Option.map_eq_some_iff.mp e
      exact .inr (.inr ⟨_, _, c, hx.str, hy.int, by rw [sl_length]; exact hz, by rw [cps_sl]; exact e1, k _ (.str [c])⟩)
    · cases e
  · cases e
theorem me_eq {a b : Expr} {pos : Pos} (hu : X.A.units + 64 < cLine) (h1 : ME X K W ms a ta d1) (h2 : ME X K W ms b tb d2) (hm : behindInMarks .Eq b = false := by rfl) : ME X K W ms (.Compare a [.Eq] [b] pos) (tOp (rEqX K) ta tb) (dOp2 gEq d1 d2) := by obtain ⟨rfl, p, s⟩ := h1; exact me_cmp (op_eqX hu) ok_eq ⟨rfl, p, s⟩ h2 hm
theorem mt_eq {a b : Expr} {pos : Pos} (hu : X.A.units + 64 < cLine) (h1 : ME X K W ms a ta d1) (h2 : ME X K W ms b tb d2) (hm : behindInMarks .Eq b = false := by rfl) : MT X K W ms (.Compare a [.Eq] [b] pos) (tTest (tOp (rEqX K) ta tb)) (dTst (dOp2 gEq d1 d2)) := by obtain ⟨rfl, p, s⟩ := h1; exact mt_cmp (op_eqX hu) ok_eq ⟨rfl, p, s⟩ h2 hm
theorem me_ne {a b : Expr} {pos : Pos} (hu : X.A.units + 64 < cLine) (h1 : ME X K W ms a ta d1) (h2 : ME X K W ms b tb d2) (hm : behindInMarks .NotEq b = false := by rfl) : ME X K W ms (.Compare a [.NotEq] [b] pos) (tOp (rNeX K) ta tb) (dOp2 gNe d1 d2) := by obtain ⟨rfl, p, s⟩ := h1; exact me_cmp (op_neX hu) ok_ne ⟨rfl, p, s⟩ h2 hm
theorem mt_ne {a b : Expr} {pos : Pos} (hu : X.A.units + 64 < cLine) (h1 : ME X K W ms a ta d1) (h2 : ME X K W ms b tb d2) (hm : behindInMarks .NotEq b = false := by rfl) : MT X K W ms (.Compare a [.NotEq] [b] pos) (tTest (tOp (rNeX K) ta tb)) (dTst (dOp2 gNe d1 d2)) := by obtain ⟨rfl, p, s⟩ := h1; exact mt_cmp (op_neX hu) ok_ne ⟨rfl, p, s⟩ h2 hm
@[simp] def gLen : List PV → Option GV
  | [.lst ps] => some (.old (.int ps.length))
  | [.tup ps] => some (.old (.int ps.length))
  | [.scr ps] => some (.old (.int ps.length))
  | [.str l] => if l.length ≤ sizeLine then some (.old (.int l.length)) else none
  | _ => none
theorem ok_len : OpNOk K (fun xs H Q => ∃ x n, xs = [x] ∧ LenV K x H n ∧ Q (.int n) H) gLen := by
  intro F H vs ps z Q s hx e k
  unfold gLen at e
  split at e
  · cases e
    obtain ⟨v, rfl, h⟩ := hx.one
    obtain ⟨a, ws, rfl, h1, r1⟩ := h.lst s
    exact ⟨_, _, rfl, .inl ⟨_, SqL.of h1, rfl⟩, by rw [r1.len]; exact k _ (.int _)⟩
  · cases e
    obtain ⟨v, rfl, h⟩ := hx.one
    obtain ⟨a, ws, rfl, _, h1, r1⟩ := h.tup s
    exact ⟨_, _, rfl, .inr ⟨_, SqT.of h1, rfl⟩, by rw [r1.len]; exact k _ (.int _)⟩
  · cases e
    obtain ⟨v, rfl, h⟩ := hx.one
    obtain ⟨a, rfl, h1⟩ := h.scr s
    exact ⟨_, _, rfl, .inl ⟨_, h1, rfl⟩, by rw [List.length_map]; exact k _ (.int _)⟩
  · split at e
    · cases e
      rename_i hz
      obtain ⟨v, rfl, h⟩ := hx.one
      exact ⟨_, _, rfl, by rw [h.str]; exact ⟨by rw [sl_length]; exact hz, rfl⟩, by rw [sl_length]; exact k _ (.int _)⟩
    · cases e
  · cases e
@[simp] def gSum : List PV → Option GV
  | [.lst ps] => (intsOf ps).map fun ns => .old (.int ns.sum)
  | _ => none
theorem ok_sum : OpNOk K (rSum K) gSum := by
  intro F H vs ps z Q s hx e k
  unfold gSum at e
  split at e
  · obtain ⟨ns, e1, rfl⟩ := Option.map_eq_some_iff.mp e
    obtain ⟨v, rfl, h⟩ := hx.one
    obtain ⟨a, ws, rfl, h1, r1⟩ := h.lst s
    rw [intsOf_ok e1] at r1
    have := r1.ints
    subst this
    exact ⟨a, ns, rfl, SqL.of h1, k _ (.int _)⟩
  · cases e
@[simp] def gAll : List PV → Option GV
  | [.lst ps] => (blsOf ps).map fun ns => .old (.bl (ns.all id))
  | _ => none
theorem ok_all : OpNOk K (rAll K) gAll := by
  intro F H vs ps z Q s hx e k
  unfold gAll at e
  split at e
  · obtain ⟨ns, e1, rfl⟩ := Option.map_eq_some_iff.mp e
    obtain ⟨v, rfl, h⟩ := hx.one
    obtain ⟨a, ws, rfl, h1, r1⟩ := h.lst s
    rw [blsOf_ok e1] at r1
    have := r1.bls
    subst this
    exact ⟨a, ns, rfl, SqL.of h1, k _ (.bl _)⟩
  · cases e
@[simp] def gAny : List PV → Option GV
  | [.lst ps] => (blsOf ps).map fun ns => .old (.bl (ns.any id))
  | _ => none
theorem ok_any : OpNOk K (rAny K) gAny := by
  intro F H vs ps z Q s hx e k
  unfold gAny at e
  split at e
  · obtain ⟨ns, e1, rfl⟩ := Option.map_eq_some_iff.mp e
    obtain ⟨v, rfl, h⟩ := hx.one
    obtain ⟨a, ws, rfl, h1, r1⟩ := h.lst s
    rw [blsOf_ok e1] at r1
    have := r1.bls
    subst this
    exact ⟨a, ns, rfl, SqL.of h1, k _ (.bl _)⟩
  · cases e
@[simp] def gAbs : List PV → Option GV
  | [.int i] => some (.old (.int (if i < 0 then -i else i)))
  | _ => none
theorem ok_abs : OpNOk K (fun xs H Q => ∃ i, xs = [.int i] ∧ Q (.int (if i < 0 then -i else i)) H) gAbs := by
  intro F H vs ps z Q s hx e k
  unfold gAbs at e
  split at e
  · cases e
    obtain ⟨v, rfl, h⟩ := hx.one
    exact ⟨_, by rw [h.int], k _ (.int _)⟩
  · cases e
@[simp] def gMin2 : List PV → Option GV
  | [.int i, .int j] => some (.old (.int (if j < i then j else i)))
  | _ => none
theorem ok_min2 : OpNOk K (fun xs H Q => ∃ i j, xs = [.int i, .int j] ∧ Q (.int (if j < i then j else i)) H) gMin2 := by
  intro F H vs ps z Q s hx e k
  unfold gMin2 at e
  split at e
  · cases e
    obtain ⟨v, w, rfl, h, h'⟩ := hx.two
    exact ⟨_, _, by rw [h.int, h'.int], k _ (.int _)⟩
  · cases e
@[simp] def gMax2 : List PV → Option GV
  | [.int i, .int j] => some (.old (.int (if j > i then j else i)))
  | _ => none
theorem ok_max2 : OpNOk K (fun xs H Q => ∃ i j, xs = [.int i, .int j] ∧ Q (.int (if j > i then j else i)) H) gMax2 := by
  intro F H vs ps z Q s hx e k
  unfold gMax2 at e
  split at e
  · cases e
    obtain ⟨v, w, rfl, h, h'⟩ := hx.two
    exact ⟨_, _, by rw [h.int, h'.int], k _ (.int _)⟩
  · cases e
@[simp] def gInt1 : List PV → Option GV
  | [.int i] => some (.old (.int i))
  | [.bl b] => some (.old (.int (if b then 1 else 0)))
  | _ => none
theorem ok_int1 : OpNOk K (fun xs H Q => (∃ i, xs = [.int i] ∧ Q (.int i) H) ∨ ∃ k, xs = [.bl k] ∧ Q (.int (if k then 1 else 0)) H) gInt1 := by
  intro F H vs ps z Q s hx e k
  unfold gInt1 at e
  split at e
  · cases e
    obtain ⟨v, rfl, h⟩ := hx.one
    exact .inl ⟨_, by rw [h.int], k _ (.int _)⟩
  · cases e
    obtain ⟨v, rfl, h⟩ := hx.one
    exact .inr ⟨_, by rw [h.bl], k _ (.int _)⟩
  · cases e
@[simp] def gList1 : List PV → Option GV
  | [.lst ps] => some (.nw (.lst ps))
  | [.tup ps] => some (.nw (.lst ps))
  | [.scr ns] => some (.nw (.lst (ns.map .int)))
  | _ => none
theorem ok_list1 : OpNOk K (fun xs H Q => ∃ p ys, xs = [.ref p] ∧ (SqL K H p ys ∨ SqT K H p ys) ∧ ∀ l, H l = none → Q (.ref l) (upd H l (.lst ys))) gList1 := by
  intro F H vs ps z Q s hx e k
  unfold gList1 at e
  split at e
  · cases e
    obtain ⟨v, rfl, h⟩ := hx.one
    obtain ⟨a, ws, rfl, h1, r1⟩ := h.lst s
    exact ⟨a, ws, rfl, .inl (SqL.of h1), fun l hl => k.2 l (.lst ws) hl r1⟩
  · cases e
    obtain ⟨v, rfl, h⟩ := hx.one
    obtain ⟨a, ws, rfl, _, h1, r1⟩ := h.tup s
    exact ⟨a, ws, rfl, .inr (SqT.of h1), fun l hl => k.2 l (.lst ws) hl r1⟩
  · cases e
    obtain ⟨v, rfl, h⟩ := hx.one
    obtain ⟨a, rfl, h1⟩ := h.scr s
    exact ⟨a, _, rfl, .inl h1, fun l hl => k.2 l (.lst _) hl (RpAll.of_ints _)⟩
  · cases e
/-! ### isinstance of built-in types -/
@[simp] def tyName : PV → Option String
  | .non => some "NoneType"
  | .bl _ => some "bool"
  | .int _ => some "int"
  | .str _ => some "str"
  | .lst _ => some "list"
  | .scr _ => some "list"
  | .tup _ => some "tuple"
  | .dic false _ => some "dict"
  | _ => none
theorem tyName_ok {F H : Hp} {v : V} {p : PV} {n : String} (s : Sub F H) (h : RpW K F H v p) (e : tyName p = some n) : TyX K H v (.type n) := by
  unfold tyName at e
  split at e <;> cases e
  · rw [h.non]; exact .base .non
  · rw [h.bl]; exact .base (.bl _)
  · rw [h.int]; exact .base (.int _)
  · rw [h.str]; exact .base (.str _)
  · obtain ⟨a, vs, rfl, h1, _⟩ := h.lst s; exact .base (.lst h1)
  · rcases h with h | ⟨a, rfl, h⟩
    · cases h with
      | scr h =>
        rcases s.seq h with (h | ⟨o, h⟩) | ⟨o, _, _, e, c, _⟩
        · exact .base (.lst h)
        · exact .base (.frz h)
        · exact .kList e c
    · exact h.elim
  · obtain ⟨a, vs, rfl, _, h1, _⟩ := h.tup s; exact .base (.tup h1)
  · rcases h with h | ⟨a, rfl, h⟩
    · cases h with
      | dk h _ _ =>
        rcases s.rd h with h | ⟨o, h⟩
        · exact .base (.dK h)
        · exact .fDict h
    · obtain ⟨_, h, _⟩ := h; exact .base (.dK h)
def kitAnyB (t : String) : List String → Option Bool
  | [] => some false
  | n :: ns => (kitB t n).bind fun b => if b then some true else kitAnyB t ns
@[simp] def tysOf : List PV → Option (List String)
  | [] => some []
  | .ty n :: ps => (tysOf ps).map (n :: ·)
  | _ :: _ => none
@[simp] def gIsi : List PV → Option GV
  | [p, .ty n] => (tyName p).bind fun t => (kitB t n).map fun b => .old (.bl b)
  | [p, .tup ts] => (tyName p).bind fun t => (tysOf ts).bind fun ns => (kitAnyB t ns).map fun b => .old (.bl b)
  | _ => none
theorem tys_ok {F : Hp} : ∀ {ps : List PV} {vs : List V} {ns : List String}, RpAll K F vs ps → tysOf ps = some ns → Paired ClsV vs (ns.map Value.type)
  | [], _, _, .nil, e => by cases e; exact .nil
  | p :: ps, _, _, .cons h r, e => by
    cases p <;> try cases e
    obtain ⟨ns, e1, rfl⟩ := Option.map_eq_some_iff.mp e
    cases h
    exact .cons (.ty _) (tys_ok r e1)
theorem kitAny_ok : ∀ {t : String} {ns : List String} {b : Bool}, kitAnyB t ns = some b → PySem.W.kitAny K (.type t) (ns.map Value.type) = some b
  | t, [], b, e => by cases e; exact kitAny_nil
  | t, n :: ns, b, e => by
    obtain ⟨c, e1, e2⟩ := Option.bind_eq_some_iff.mp e
    cases c with
    | true => cases e2; exact kitAny_cons (kit_ty e1) (fun z => nomatch z) fun _ => rfl
    | false => exact kitAny_cons (kit_ty e1) (fun _ => kitAny_ok e2) fun z => nomatch z
theorem ok_isi : OpNOk K (fun xs H Q => rIsi K xs H Q ∨ rIsiT K xs H Q) gIsi := by
  intro F H vs ps z Q s hx e k
  unfold gIsi at e
  split at e
  · obtain ⟨t, e1, e2⟩ := Option.bind_eq_some_iff.mp e
    obtain ⟨b, e3, rfl⟩ := Option.map_eq_some_iff.mp e2
    obtain ⟨v, w, rfl, h, h'⟩ := hx.two
    exact .inl ⟨v, _, _, _, b, by rw [h'.ty], .ty _, tyName_ok s h e1, kit_ty e3, k _ (.bl b)⟩
  · obtain ⟨t, e1, e2⟩ := Option.bind_eq_some_iff.mp e
    obtain ⟨ns, e3, e4⟩ := Option.bind_eq_some_iff.mp e2
    obtain ⟨b, e5, rfl⟩ := Option.map_eq_some_iff.mp e4
    obtain ⟨v, w, rfl, h, h'⟩ := hx.two
    obtain ⟨a, ws, rfl, _, h1, r1⟩ := h'.tup s
    exact .inr ⟨v, a, ws, _, _, b, rfl, h1, tys_ok r1 e3, tyName_ok s h e1, kitAny_ok e5, k _ (.bl b)⟩
  · cases e
theorem me_ty {x : Str} {n : String} {pos : Pos} (hg : Gl X x) (hm : X.mg x = none) (hv : bootBuiltins x = some (.type n)) (hn : x ≠ "__name__" := by decide) (hd : (x == ("__debug__" : Str)) = false := by decide) (hK : X.K = K := by rfl) : ME X K W ms (.Name x pos) (tC (.ty n)) (dC (.ty n)) :=
  ⟨hK, pe_bltn hg hm hv rfl hn hd, sim_c fun _ => .ty n⟩
theorem me_gint {x : Str} {i : Int} {pos : Pos} (hg : Gl X x) (hm : ∃ t, X.mg x = some (.int i t)) (hd : (x == ("__debug__" : Str)) = false := by decide) (hK : X.K = K := by rfl) : ME X K W ms (.Name x pos) (tC (.int i)) (dC (.int i)) := by
  obtain ⟨t, hm⟩ := hm
  exact ⟨hK, pe_glob hg hm ⟨t, rfl⟩ hd, sim_c fun _ => .int i⟩
theorem me_gstr {x : Str} (l : List Nat) {pos : Pos} (hg : Gl X x) (hm : ∃ t, X.mg x = some (.str (sl l) t)) (hd : (x == ("__debug__" : Str)) = false := by decide) (hK : X.K = K := by rfl) : ME X K W ms (.Name x pos) (tC (.str (sl l))) (dC (.str l)) := by
  obtain ⟨t, hm⟩ := hm
  exact ⟨hK, pe_glob hg hm ⟨t, rfl⟩ hd, sim_c fun _ => .str l⟩
end

/-! ### slices -/
def cutP {α : Type} (xs : List α) (lo hi : Option Int) : List α := (xs.drop (HT.sIx xs.length 0 lo)).take (HT.sIx xs.length xs.length hi - HT.sIx xs.length 0 lo)
@[simp] def gSl : PV → Option Int → Option Int → Option GV
  | .lst ps, lo, hi => some (.nw (.lst (cutP ps lo hi)))
  | .scr ns, lo, hi => some (.nw (.lst ((cutP ns lo hi).map .int)))
  | .str l, lo, hi => if l.length ≤ sizeLine then some (.old (.str (cutP l lo hi))) else none
  | .tup ps, lo, hi => if HT.sIx ps.length 0 lo = 0 ∧ HT.sIx ps.length ps.length hi = ps.length then none else some (.tp (.tup (cutP ps lo hi)))
  | _, _, _ => none
theorem SlR.or {X : Cx} {r r' : V → Option Int → Option Int → Hp → VK → Prop} (h : SlR X r) (h' : SlR X r') : SlR X (fun x lo hi H Q => r x lo hi H Q ∨ r' x lo hi H Q) := by
  intro pins s σ H x v vl vu lo hi sl Q I rx hs pl pu q
  rcases q with q | q
  · exact h pins s σ H x v vl vu lo hi sl Q I rx hs pl pu q
  · exact h' pins s σ H x v vl vu lo hi sl Q I rx hs pl pu q
def rSlX (K : PySem.W.Frag) : V → Option Int → Option Int → Hp → VK → Prop := fun x lo hi H Q => rSlL K x lo hi H Q ∨ rSlS x lo hi H Q ∨ rSlT K x lo hi H Q
theorem sl_any {X : Cx} : SlR X (rSlX X.K) := sl_list.or (sl_str.or sl_tup)
theorem RpAll.cut {K : PySem.W.Frag} {F : Hp} {vs : List V} {ps : List PV} (r : RpAll K F vs ps) (lo hi : Option Int) : RpAll K F (cutV vs lo hi) (cutP ps lo hi) := by
  unfold cutV cutP
  rw [r.len]
  exact (r.drop _).take _
theorem cutS_sl (l : List Nat) (lo hi : Option Int) : cutS (sl l) lo hi = sl (cutP l lo hi) := by
  unfold cutS cutP
  rw [sl_length, cps_sl]; rfl
theorem ok_sl {K : PySem.W.Frag} : SlOk K (rSlX K) gSl := by
  intro F H x p lo hi z Q s hx e k
  unfold gSl at e
  split at e
  · cases e
    obtain ⟨a, vs, rfl, h1, r1⟩ := hx.lst s
    exact .inl ⟨a, vs, rfl, SqL.of h1, fun p hp => k.2 p (.lst _) hp (r1.cut _ _)⟩
  · cases e
    obtain ⟨a, rfl, h1⟩ := hx.scr s
    refine .inl ⟨a, _, rfl, h1, fun p hp => k.2 p (.lst _) hp ?_⟩
    rename_i ns
    have : cutV (List.map V.int ns) lo hi = List.map V.int (cutP ns lo hi) := by
      unfold cutV cutP
      rw [List.length_map, List.map_take, List.map_drop]
    rw [this]
    exact RpAll.of_ints _
  · split at e
    · cases e
      rename_i hz
      refine .inr (.inl ⟨_, hx.str, by rw [sl_length]; exact hz, ?_⟩)
      rw [cutS_sl]
      exact k _ (.str _)
    · cases e
  · split at e
    · cases e
    · cases e
      rename_i hz
      obtain ⟨a, vs, rfl, _, h1, r1⟩ := hx.tup s
      exact .inr (.inr ⟨a, vs, rfl, SqT.of h1, by rw [r1.len]; exact hz, fun p hp => k p (.tup _) hp (r1.cut _ _)⟩)
  · cases e
theorem me_slice {X : Cx} {W : WX} {ms : List Nat} {e : Expr} {lo hi : Option Expr} {p2 pos : Pos} (he : ME X K W ms e t d) (hl : MO X K W ms lo tl dl) (hh : MO X K W ms hi th dh) : ME X K W ms (.Subscript e (.Slice lo hi none p2) pos) (tSl (rSlX K) t tl th) (dSl gSl d dl dh) := by obtain ⟨rfl, p, s⟩ := he; exact me_sl sl_any ok_sl ⟨rfl, p, s⟩ hl hh

/-! ### methods of lists -/
section
variable {K : PySem.W.Frag}
@[simp] def gApp : List PV → List PV → Option (List PV × PV)
  | xs, [p] => if xs.length < sizeLine then some (xs ++ [p], .non) else none
  | _, _ => none
theorem ok_app : MutOk K rAppend gApp := by
  intro F H a ws xs vs ps xs' z Q s h rx rv e k
  unfold gApp at e
  split at e
  · split at e
    · rename_i hz
      cases e
      cases rv with
      | cons h1 r => cases r; exact ⟨a, ws, _, rfl, rfl, h, by rw [rx.len]; exact hz, k _ _ (rx.append (.one h1)) .non⟩
    · cases e
  · cases e
@[simp] def gPop : List PV → List PV → Option (List PV × PV)
  | xs, [] => (xs[xs.length - 1]?).map fun z => (xs.dropLast, z)
  | _, _ => none
theorem ok_pop : MutOk K rPop gPop := by
  intro F H a ws xs vs ps xs' z Q s h rx rv e k
  unfold gPop at e
  split at e
  · obtain ⟨w, e1, e2⟩ := Option.map_eq_some_iff.mp e
    cases e2
    cases rv
    obtain ⟨v, e3, rp⟩ := rx.get e1
    exact ⟨a, ws, v, rfl, rfl, h, by rw [rx.len]; exact e3, k _ _ rx.dropLast rp⟩
  · cases e
@[simp] def gRev : List PV → List PV → Option (List PV × PV)
  | xs, [] => some (xs.reverse, .non)
  | _, _ => none
theorem ok_rev : MutOk K rReverse gRev := by
  intro F H a ws xs vs ps xs' z Q s h rx rv e k
  unfold gRev at e
  split at e
  · cases e
    cases rv
    exact ⟨a, ws, rfl, rfl, h, k _ _ rx.reverse .non⟩
  · cases e
@[simp] def gExt : List PV → List PV → Option (List PV × PV)
  | xs, [.lst ys] => if xs.length + ys.length ≤ sizeLine then some (xs ++ ys, .non) else none
  | _, _ => none
theorem ok_ext : MutOk K rExtend gExt := by
  intro F H a ws xs vs ps xs' z Q s h rx rv e k
  unfold gExt at e
  split at e
  · split at e
    · rename_i hz
      cases e
      cases rv with
      | cons h1 r =>
        cases r
        cases h1 with
        | lst h2 r2 => exact ⟨a, _, ws, _, rfl, rfl, h, s _ _ h2, by rw [rx.len, r2.len]; exact hz, k _ _ (rx.append r2) .non⟩
    · cases e
  · cases e
end
end VL

/-! VL8: more operations: dicts, None, in, texts of numbers; two targets; the bounds of loops. -/
namespace VL
open PySem PySem.Spec L2

/-- more turns than any while of ours makes -/
def FUEL : Nat := 1000000
def dNoPart : PSt → Res (Option Int) := fun τ => .ok none τ
def dDictK : PSt → Res RV := fun τ => .ok (.nw (.dic false [])) τ
def dDictT : PSt → Res RV := fun τ => .ok (.nw (.dic true [])) τ
section
variable {X : Cx} {K : PySem.W.Frag} {W : WX} {ms : List Nat}
theorem ms_doc {x j pos pos'} (hK : X.K = K := by rfl) : MS X K W ms (.Expr (.Constant (.str x) j pos) pos') tNext dNext := ⟨hK, ps_doc, sim_next⟩
def dAsg2 (g1 g2 : PV → PSt → Option PSt) (d : PSt → Res RV) : PSt → SRes := fun τ => (d τ).bindS fun r τ1 => match leak r τ1 with
  | some (p, τ2) => (match (g1 p τ2).bind (g2 p) with
    | some τ3 => .nx τ3
    | none => .no)
  | none => .no
theorem ms_asg2 {is1 is2 : List Nat} {t1 t2 e : Expr} {pos : Pos} (he : ME X K W ms e t d) (h1 : MG X K ms is1 t1 u1 g1) (h2 : MG X K ms is2 t2 u2 g2) (ha : (assignEach [t1, t2] X.env).map (·.2) = [assign t1 X.env, assign t2 X.env] := by rfl) (hw : swappedStores [t1, t2] e X.env = pure none := by rfl) :
    MS X K W ms (.Assign [t1, t2] e pos) (tAsg2 t u1 u2) (dAsg2 g1 g2 d) := by
  refine ⟨he.hK, ps_asg2 he.pe h1.pe h2.pe ha hw, ?_⟩
  intro C F τ σ H D hm R k
  refine he.sim C F τ σ H _ hm R ((SH.bind (σ := σ) k).imp (fun r τ1 k => ?_) fun _ _ x => x)
  intro v H1 F1 s1 ok
  obtain ⟨F1', s1', R1, rv⟩ := ok.froze
  split at k
  · rename_i p τ2 e
    obtain ⟨F2, s2, R2, rp⟩ := leak_ok R1 rv (by rw [leak_nf]; exact e)
    split at k
    · rename_i τ3 e3
      obtain ⟨τ4, e4, e5⟩ := Option.bind_eq_some_iff.mp e3
      exact h1.sim C F2 τ2 σ H1 v p τ4 _ hm R2 rp e4 fun σ' _ R3 => h2.sim C F2 τ4 σ' H1 v p τ3 _ hm R3 rp e5 fun σ'' _ R4 => k _ _ F2 ((s1.trans s1').trans s2) R4
    · exact k.elim
  · exact k.elim
theorem mt_chain {op op' : CmpOp} {r r' : R2} {g g' : PV → PV → Option GV} {a b c : Expr} {pos : Pos} (ho : OpR X (compareOp op) r) (ho' : OpR X (compareOp op') r') (hg : Op2Ok K r g) (hg' : Op2Ok K r' g') (h1 : ME X K W ms a ta da) (h2 : ME X K W ms b tb db) (h3 : ME X K W ms c tc dc)
    (hm : lastMarks [op, op'] [b, c] = false := by with_unfolding_all rfl) : MT X K W ms (.Compare a [op, op'] [b, c] pos) (fun σ H Q => tChain r r' ta tb tc σ H fun x H' => ∃ k, x = .bl k ∧ Q k H') (dTst (dChain g g' da db dc)) :=
  ⟨h1.hK, pt_chain ho ho' h1.pe h2.pe h3.pe hm, sim_tst (me_chain (pos := pos) ho ho' hg hg' h1 h2 h3 hm).sim⟩

/-! ### None -/
@[simp] def isNonP : PV → Bool
  | .non => true
  | _ => false
theorem isNon_ok {F H : Hp} {x : V} {p : PV} (h : RpW K F H x p) : decide (x = .non) = isNonP p := by
  cases p with
  | non => rw [h.non]; rfl
  | _ =>
    rcases h with h | ⟨a, rfl, h⟩
    · cases h <;> rfl
    · rfl
@[simp] def gIsN : PV → PV → Option GV
  | p, .non => some (.old (.bl (isNonP p)))
  | _, _ => none
@[simp] def gNotN : PV → PV → Option GV
  | p, .non => some (.old (.bl (!isNonP p)))
  | _, _ => none
theorem ok_isN : Op2Ok K (fun x y H Q => y = .non ∧ Q (.bl (decide (x = .non))) H) gIsN := by
  intro F H x y p q z Q s hx hy e k
  cases q <;> cases e
  exact ⟨hy.non, by rw [isNon_ok hx]; exact k _ (.bl _)⟩
theorem ok_notN : Op2Ok K (fun x y H Q => y = .non ∧ Q (.bl (!decide (x = .non))) H) gNotN := by
  intro F H x y p q z Q s hx hy e k
  cases q <;> cases e
  exact ⟨hy.non, by rw [isNon_ok hx]; exact k _ (.bl _)⟩

/-! ### dicts: what they hold -/
def lookP (kvs : List (PK × PV)) (k : PK) : Option PV := (kvs.find? fun kv => decide (kv.1 = k)).map (·.2)
def putP (kvs : List (PK × PV)) (k : PK) (v : PV) : List (PK × PV) := if (lookP kvs k).isSome then kvs.map fun kv => if kv.1 = k then (kv.1, v) else kv else kvs ++ [(k, v)]
theorem look_ok {F : Hp} {κ : Type} [DecidableEq κ] (f : κ → PK) (hf : ∀ a b, f a = f b → a = b) (k : κ) : ∀ {kvs : List (κ × V)} {kps : List (PK × PV)}, kps.map (·.1) = kvs.map (fun x => f x.1) → RpAll K F (kvs.map (·.2)) (kps.map (·.2)) →
    (lookP kps (f k) = none ∧ valV kvs k = none) ∨ ∃ p v, lookP kps (f k) = some p ∧ valV kvs k = some v ∧ Rp K F v p
  | [], [], _, _ => .inl ⟨rfl, rfl⟩
  | [], _ :: _, e, _ => by simp at e
  | _ :: _, [], e, _ => by simp at e
  | (k', v) :: kvs, (pk, p) :: kps, e, r => by
    simp only [List.map_cons, List.cons.injEq] at e
    obtain ⟨e1, e2⟩ := e
    cases r with
    | cons h r =>
      by_cases hk : k' = k
      · subst hk
        exact .inr ⟨p, v, by simp [lookP, List.find?_cons, e1], by rw [valV_pos rfl], h⟩
      · have hp : pk ≠ f k := fun z => hk (hf _ _ (e1.symm.trans z))
        have := look_ok f hf k e2 r
        rw [valV_neg hk]
        have e3 : lookP ((pk, p) :: kps) (f k) = lookP kps (f k) := by simp [lookP, List.find?_cons, hp]
        rw [e3]
        exact this
theorem put_ok {F : Hp} {κ : Type} [DecidableEq κ] (f : κ → PK) (hf : ∀ a b, f a = f b → a = b) (k : κ) {v : V} {p : PV} (hv : Rp K F v p) {kvs : List (κ × V)} {kps : List (PK × PV)} (e : kps.map (·.1) = kvs.map (fun x => f x.1)) (r : RpAll K F (kvs.map (·.2)) (kps.map (·.2))) :
    (putP kps (f k) p).map (·.1) = (putK kvs k v).map (fun x => f x.1) ∧ RpAll K F ((putK kvs k v).map (·.2)) ((putP kps (f k) p).map (·.2)) := by
  have hs : (lookP kps (f k)).isSome = (valV kvs k).isSome := by
    rcases look_ok f hf k e r with ⟨h1, h2⟩ | ⟨_, _, h1, h2, _⟩ <;> rw [h1, h2] <;> rfl
  unfold putP putK
  rw [valV_any, hs]
  cases (valV kvs k).isSome with
  | false =>
    simp only [Bool.false_eq_true, if_false]
    refine ⟨by simp [e], ?_⟩
    rw [List.map_append, List.map_append]
    exact r.append (.one hv)
  | true =>
    simp only [if_true]
    clear hs
    induction kvs generalizing kps with
    | nil =>
      cases kps with
      | nil => exact ⟨rfl, .nil⟩
      | cons _ _ => simp at e
    | cons kv kvs ih =>
      cases kps with
      | nil => simp at e
      | cons kp kps =>
        obtain ⟨k', v'⟩ := kv
        obtain ⟨pk, p'⟩ := kp
        simp only [List.map_cons, List.cons.injEq] at e
        obtain ⟨e1, e2⟩ := e
        cases r with
        | cons h r =>
          obtain ⟨i1, i2⟩ := ih e2 r
          simp only [List.map_cons]
          by_cases hk : k' = k
          · subst hk
            rw [if_pos e1, if_pos rfl]
            exact ⟨by simp only [List.cons.injEq]; exact ⟨e1, by simpa using i1⟩, .cons hv i2⟩
          · rw [if_neg (fun z => hk (hf _ _ (e1.symm.trans z))), if_neg hk]
            exact ⟨by simp only [List.cons.injEq]; exact ⟨e1, by simpa using i1⟩, .cons h i2⟩
/-- a value as a key -/
theorem pk_ok {F H : Hp} {y : V} {q : PV} {k : PK} (h : RpW K F H y q) (e : pk? false q = some k) : ∃ key, y = kV key ∧ k = pkA key := by
  cases q <;> cases e
  · exact ⟨.inl _, h.int, rfl⟩
  · exact ⟨.inr _, h.str, by simp [pkA, pkK, pk1, cps_sl]⟩
theorem pkS_ok {F : Hp} : ∀ {ps : List PV} {vs : List V} {ks : List (Sum Int (List Nat))}, RpAll K F vs ps → ps.mapM pkS? = some ks → ∃ keys : List Key, vs = keys.map kV ∧ ks = keys.map pkK
  | [], _, ks, .nil, e => by
    cases e
    exact ⟨[], rfl, rfl⟩
  | p :: ps, _, ks, .cons h r, e => by
    rw [List.mapM_cons] at e
    obtain ⟨k, e1, e2⟩ := Option.bind_eq_some_iff.mp e
    obtain ⟨ks', e3, e4⟩ := Option.bind_eq_some_iff.mp e2
    cases e4
    obtain ⟨keys, rfl, rfl⟩ := pkS_ok r e3
    cases p <;> cases e1
    · cases h; exact ⟨.inl _ :: keys, rfl, rfl⟩
    · cases h; exact ⟨.inr _ :: keys, rfl, by simp [pkK, cps_sl]⟩
theorem pkT_ok {F H : Hp} {y : V} {q : PV} {k : PK} (s : Sub F H) (h : RpW K F H y q) (e : pk? true q = some k) : ∃ keys b, y = V.ref b ∧ F b = some (.tup (keys.map kV)) ∧ H b = some (.tup (keys.map kV)) ∧ k = pkT keys := by
  cases q <;> try cases e
  obtain ⟨ks, e1, rfl⟩ := Option.map_eq_some_iff.mp (show (List.mapM pkS? _).map PK.tup = some k from e)
  obtain ⟨a, vs, rfl, f1, h1, r⟩ := h.tup s
  obtain ⟨keys, rfl, rfl⟩ := pkS_ok r e1
  exact ⟨keys, a, rfl, f1, h1, rfl⟩
theorem RpW.dicK {F H : Hp} {v : V} {kps : List (PK × PV)} (s : Sub F H) (h : RpW K F H v (.dic false kps)) : ∃ a kvs, v = V.ref a ∧ Rd H a (.dK kvs) ∧ kps.map (·.1) = kvs.map (fun x => pkA x.1) ∧ RpAll K F (kvs.map (·.2)) (kps.map (·.2)) := by
  rcases h with h | ⟨a, rfl, h⟩
  · cases h with
    | dk h e r => exact ⟨_, _, rfl, s.rd h, e, r⟩
  · obtain ⟨kvs, h, e, r⟩ := h
    exact ⟨a, kvs, rfl, .inl h, e, r⟩
theorem RpW.dicT {F H : Hp} {v : V} {kps : List (PK × PV)} (s : Sub F H) (h : RpW K F H v (.dic true kps)) : ∃ a kvs, v = V.ref a ∧ Rd H a (.dT kvs) ∧ kps.map (·.1) = kvs.map (fun x => pkT x.1) ∧ RpAll K F (kvs.map (·.2)) (kps.map (·.2)) := by
  rcases h with h | ⟨a, rfl, h⟩
  · cases h with
    | dt h e r => exact ⟨_, _, rfl, s.rd h, e, r⟩
  · obtain ⟨kvs, h, e, r⟩ := h
    exact ⟨a, kvs, rfl, .inl h, e, r⟩
/-- what a dict holds at a key -/
theorem dget_ok {F H : Hp} {x y : V} {t : Bool} {kps : List (PK × PV)} {q : PV} {k : PK} (s : Sub F H) (hx : RpW K F H x (.dic t kps)) (hy : RpW K F H y q) (e : pk? t q = some k) :
    ∃ a o, x = V.ref a ∧ DGet H a y o ∧ ((lookP kps k = none ∧ o = none) ∨ ∃ p v, lookP kps k = some p ∧ o = some v ∧ Rp K F v p) := by
  cases t with
  | false =>
    obtain ⟨a, kvs, rfl, h, e1, r⟩ := hx.dicK s
    obtain ⟨key, rfl, rfl⟩ := pk_ok hy e
    exact ⟨a, _, rfl, .inl ⟨kvs, key, h, rfl, rfl⟩, look_ok pkA (fun _ _ => pkA_inj) key e1 r⟩
  | true =>
    obtain ⟨a, kvs, rfl, h, e1, r⟩ := hx.dicT s
    obtain ⟨keys, b, rfl, _, hb, rfl⟩ := pkT_ok s hy e
    exact ⟨a, _, rfl, .inr ⟨kvs, keys, b, h, rfl, hb, rfl⟩, look_ok pkT (fun _ _ => pkT_inj) keys e1 r⟩
/-! ### items of anything -/
def rDGet : R2 := fun x y H Q => ∃ a v, x = .ref a ∧ DGet H a y (some v) ∧ Q v H
theorem ix_dict (hu : X.A.units + 1 < cLine) : IxR X rDGet := by
  intro value slice pins s σ H x y v u Q I rx ry h hs
  obtain ⟨a, w, rfl, g, q⟩ := h
  cases rx
  exact PyProof.Rows.tail_any (dict_typeIs I g) PySem.F.slot_dict_getitem.lookup (d_getItem hu I g ry fun w' s3 I3 rw' => ⟨w, H, I3, rw', q⟩) hs
@[simp] def gIxD : PV → PV → Option GV
  | .dic t kvs, q => (pk? t q).bind fun k => (lookP kvs k).map .old
  | _, _ => none
theorem ok_ixD : Op2Ok K rDGet gIxD := by
  intro F H x y p q z Q s hx hy e k
  unfold gIxD at e
  split at e
  · obtain ⟨key, e1, e2⟩ := Option.bind_eq_some_iff.mp e
    obtain ⟨w, e3, rfl⟩ := Option.map_eq_some_iff.mp e2
    obtain ⟨a, o, rfl, g, h⟩ := dget_ok s hx hy e1
    rcases h with ⟨h1, _⟩ | ⟨p, v, h1, rfl, rp⟩
    · rw [h1] at e3; cases e3
    · rw [h1] at e3; cases e3; exact ⟨a, v, rfl, g, k _ rp⟩
  · cases e
abbrev gIx := gOr gIxL gIxD
def rIxX (K : PySem.W.Frag) : R2 := fun x y H Q => rIx K x y H Q ∨ rDGet x y H Q
theorem me_ixX {a b : Expr} {pos : Pos} (hu : X.A.units + 1 < cLine) (h1 : ME X K W ms a ta d1) (h2 : ME X K W ms b tb d2) (hs : PlainIx b) : ME X K W ms (.Subscript a b pos) (tOp (rIxX K) ta tb) (dOp2 gIx d1 d2) := by obtain ⟨rfl, p, s⟩ := h1; exact me_ix (ix_seq.or (ix_dict hu)) (ok_ix.or ok_ixD) ⟨rfl, p, s⟩ h2 hs
/-! ### d[k] = v -/
def dPut (i : Nat) (dk dv : PSt → Res RV) : PSt → SRes := fun τ => (dv τ).bindS fun r τ1 => match leak r τ1 with
  | some (p, τ2) => (match τ2[i]? with
    | some (.ow _) => (dk τ2).bindS fun kr τ3 => (match leak kr τ3 with
      | some (q, τ4) => (match τ4[i]? with
        | some (.ow (.dic t kvs)) => (match pk? t q with
          | some k => if kvs.length < sizeLine then .nx (τ4.set i (.ow (.dic t (putP kvs k p)))) else .no
          | none => .no)
        | _ => .no)
      | none => .no)
    | _ => .no)
  | none => .no
theorem ms_dput {i : Nat} {o x e : Expr} {pos pos' : Pos} (hu : X.A.units + 1 < cLine) (ho : PE X o (tVar i)) (hk : ME X K W ms x tk dk) (hv : ME X K W ms e tv dv) (hs : swapsWith e (some (.Subscript o x pos')) pos.line X.env = pure false := by rfl) :
    MS X K W ms (.Assign [.Subscript o x pos'] e pos) (sDPut (tVar i) tk tv) (dPut i dk dv) := by
  refine ⟨hk.hK, ps_dput hu ho hk.pe hv.pe hs, ?_⟩
  intro C F τ σ H D hm R k
  refine hv.sim C F τ σ H _ hm R ((SH.bind (σ := σ) k).imp (fun r τ1 k => ?_) fun _ _ x => x)
  intro v H1 F1 s1 ok
  obtain ⟨F1', s1', R1, rv⟩ := ok.froze
  split at k
  · rename_i p τ2 e
    obtain ⟨F2, s2, R2, rp⟩ := leak_ok R1 rv (by rw [leak_nf]; exact e)
    split at k
    · rename_i p0 e0
      obtain ⟨own, R2'⟩ := id R2
      obtain ⟨a, ha, ho', _⟩ := R2'.slot _ _ e0
      refine ⟨_, ha, ?_⟩
      refine hk.sim C F2 τ2 σ H1 _ hm R2 ((SH.bind (σ := σ) k).imp (fun r3 τ3 k => ?_) (ErE.up ((s1.trans s1').trans s2)))
      intro v3 H3 F3 s3 ok3
      obtain ⟨F3', s3', R3, rv3⟩ := ok3.froze
      split at k
      · rename_i q τ4 e4
        obtain ⟨F4, s4, R4, rq⟩ := leak_ok R3 rv3 (by rw [leak_nf]; exact e4)
        split at k
        · rename_i t kvs e5
          split at k
          · rename_i key e6
            split at k
            · rename_i hz
              have sA := (s3.trans s3').trans s4
              obtain ⟨own4, R4⟩ := R4
              obtain ⟨a', ha', ho4, hw⟩ := R4.slot _ _ e5
              rw [ha] at ha'; cases ha'
              cases t with
              | false =>
                obtain ⟨kvs', h1, h2, h3⟩ := hw
                obtain ⟨key', rfl, rfl⟩ := pk_ok (K := K) (F := F4) (H := H3) (.inl rq) e6
                obtain ⟨g1, g2⟩ := put_ok pkA (fun _ _ => pkA_inj) key' (rp.mono sA) h2 h3
                have hl : kvs'.length < sizeLine := by have := congrArg List.length h2; rw [List.length_map, List.length_map] at this; omega
                refine ⟨a, _, rfl, .inl ⟨kvs', key', h1, rfl, hl, rfl⟩, ?_⟩
                exact k σ _ F4 (((s1.trans s1').trans s2).trans sA) (Rel.mutate R4 ho4 ha ⟨_, upd_same, g1, g2⟩)
              | true =>
                obtain ⟨kvs', h1, h2, h3⟩ := hw
                obtain ⟨keys, b, rfl, _, hb, rfl⟩ := pkT_ok (K := K) R4.sub (.inl rq) e6
                obtain ⟨g1, g2⟩ := put_ok pkT (fun _ _ => pkT_inj) keys (rp.mono sA) h2 h3
                have hl : kvs'.length < sizeLine := by have := congrArg List.length h2; rw [List.length_map, List.length_map] at this; omega
                refine ⟨a, _, rfl, .inr ⟨kvs', keys, b, h1, rfl, hb, hl, rfl⟩, ?_⟩
                exact k σ _ F4 (((s1.trans s1').trans s2).trans sA) (Rel.mutate R4 ho4 ha ⟨_, upd_same, g1, g2⟩)
            · exact k.elim
          · exact k.elim
        · exact k.elim
      · exact k.elim
    · exact k.elim
  · exact k.elim

/-! ### in -/
def rDIn (neg : Bool) : R2 := fun x y H Q => ∃ a o, y = .ref a ∧ DGet H a x o ∧ Q (.bl (if neg then !o.isSome else o.isSome)) H
theorem op_in_dict (hu : X.A.units + 1 < cLine) : OpR X (compareOp .In) (rDIn false) := by
  intro pins s σ H x y v u Q I rx ry h
  obtain ⟨a, o, rfl, g, q⟩ := h
  cases ry
  exact d_in hu I g rx fun s' I' => ⟨.bl o.isSome, H, I', rfl, q⟩
theorem op_notIn_dict (hu : X.A.units + 1 < cLine) : OpR X (compareOp .NotIn) (rDIn true) := by
  intro pins s σ H x y v u Q I rx ry h
  obtain ⟨a, o, rfl, g, q⟩ := h
  cases ry
  exact d_notIn hu I g rx fun s' I' => ⟨.bl (!o.isSome), H, I', rfl, q⟩
/-- is it in: one sign in a text, a text | an int in a list or tuple of such, a key in a dict -/
def inP : PV → PV → Option Bool
  | .str [c], .str l => some (decide (c ∈ l))
  | .str a, .lst ps => (strsOf ps).map fun ls => decide (a ∈ ls)
  | .str a, .tup ps => (strsOf ps).map fun ls => decide (a ∈ ls)
  | .int a, .lst ps => (intsOf ps).map fun ls => decide (a ∈ ls)
  | .int a, .tup ps => (intsOf ps).map fun ls => decide (a ∈ ls)
  | _, _ => none
def inD : PV → PV → Option Bool
  | q, .dic t kvs => (pk? t q).map fun k => (lookP kvs k).isSome
  | _, _ => none
@[simp] def gInA (p q : PV) : Option GV := (inP p q).map fun b => .old (.bl b)
@[simp] def gNotInA (p q : PV) : Option GV := (inP p q).map fun b => .old (.bl !b)
@[simp] def gInD (p q : PV) : Option GV := (inD p q).map fun b => .old (.bl b)
@[simp] def gNotInD (p q : PV) : Option GV := (inD p q).map fun b => .old (.bl !b)
abbrev gIn := gOr gInA gInD
abbrev gNotIn := gOr gNotInA gNotInD
theorem inV_strs (a : List Nat) : ∀ ls : List (List Nat), inV (.str (sl a)) (ls.map fun l => V.str (sl l)) = decide (a ∈ ls)
  | [] => by simp [inV]
  | l :: ls => by
    have ih := inV_strs a ls
    unfold inV at ih ⊢
    rw [List.map_cons, List.any_cons, ih]
    simp only [eqV]
    by_cases h : a = l
    · subst h; simp
    · have h1 : (sl l == sl a) = false := beq_eq_false_iff_ne.mpr fun z => h (sl_inj z).symm
      rw [h1]; simp [h]
theorem inV_ints (a : Int) : ∀ ls : List Int, inV (.int a) (ls.map V.int) = decide (a ∈ ls)
  | [] => by simp [inV]
  | l :: ls => by
    have ih := inV_ints a ls
    unfold inV at ih ⊢
    rw [List.map_cons, List.any_cons, ih]
    simp only [eqV]
    by_cases h : a = l
    · subst h; simp
    · have h1 : (l == a) = false := beq_eq_false_iff_ne.mpr fun z => h z.symm
      rw [h1]; simp [h]
theorem flat_strs (ls : List (List Nat)) : (ls.map fun l => V.str (sl l)).all flatV = true := by
  rw [List.all_eq_true]; intro x hx
  obtain ⟨l, _, rfl⟩ := List.mem_map.mp hx; rfl
theorem flat_ints (ls : List Int) : (ls.map V.int).all flatV = true := by
  rw [List.all_eq_true]; intro x hx
  obtain ⟨l, _, rfl⟩ := List.mem_map.mp hx; rfl
def rInA (K : PySem.W.Frag) (neg : Bool) : R2 := fun x y H Q => (∃ (c : Nat) (z : Str), x = .str ⟨#[c]⟩ ∧ y = .str z ∧ Q (.bl (if neg then !decide (c ∈ z.cps.toList) else decide (c ∈ z.cps.toList))) H) ∨ rIn K neg x y H Q
theorem op_inA : OpR X (compareOp .In) (rInA X.K false) := op_or op_in_sign op_in_seq
theorem op_notInA : OpR X (compareOp .NotIn) (rInA X.K true) := op_or op_notIn_sign op_notIn_seq
theorem inA_ok {F H : Hp} {x y : V} {p q : PV} {b : Bool} {Q : VK} {neg : Bool} (s : Sub F H) (hx : RpW K F H x p) (hy : RpW K F H y q) (e : inP p q = some b) (k : Q (.bl (if neg then !b else b)) H) : rInA K neg x y H Q := by
  unfold inP at e
  split at e
  · cases e
    exact .inl ⟨_, _, hx.str, hy.str, by rw [cps_sl]; exact k⟩
  · obtain ⟨ls, e1, rfl⟩ := Option.map_eq_some_iff.mp e
    obtain ⟨a, vs, rfl, h1, r⟩ := hy.lst s
    rw [strsOf_ok e1] at r
    have := r.strs; subst this
    exact .inr ⟨a, _, rfl, .inl (SqL.of h1), by rw [hx.str]; rfl, flat_strs ls, by rw [hx.str, inV_strs]; exact k⟩
  · obtain ⟨ls, e1, rfl⟩ := Option.map_eq_some_iff.mp e
    obtain ⟨a, vs, rfl, _, h1, r⟩ := hy.tup s
    rw [strsOf_ok e1] at r
    have := r.strs; subst this
    exact .inr ⟨a, _, rfl, .inr (SqT.of h1), by rw [hx.str]; rfl, flat_strs ls, by rw [hx.str, inV_strs]; exact k⟩
  · obtain ⟨ls, e1, rfl⟩ := Option.map_eq_some_iff.mp e
    obtain ⟨a, vs, rfl, h1, r⟩ := hy.lst s
    rw [intsOf_ok e1] at r
    have := r.ints; subst this
    exact .inr ⟨a, _, rfl, .inl (SqL.of h1), by rw [hx.int]; rfl, flat_ints ls, by rw [hx.int, inV_ints]; exact k⟩
  · obtain ⟨ls, e1, rfl⟩ := Option.map_eq_some_iff.mp e
    obtain ⟨a, vs, rfl, _, h1, r⟩ := hy.tup s
    rw [intsOf_ok e1] at r
    have := r.ints; subst this
    exact .inr ⟨a, _, rfl, .inr (SqT.of h1), by rw [hx.int]; rfl, flat_ints ls, by rw [hx.int, inV_ints]; exact k⟩
  · cases e
theorem inD_ok {F H : Hp} {x y : V} {p q : PV} {b : Bool} {Q : VK} {neg : Bool} (s : Sub F H) (hx : RpW K F H x p) (hy : RpW K F H y q) (e : inD p q = some b) (k : Q (.bl (if neg then !b else b)) H) : rDIn neg x y H Q := by
  unfold inD at e
  split at e
  · obtain ⟨key, e1, rfl⟩ := Option.map_eq_some_iff.mp e
    obtain ⟨a, o, rfl, g, h⟩ := dget_ok s hy hx e1
    refine ⟨a, o, rfl, g, ?_⟩
    rcases h with ⟨h1, rfl⟩ | ⟨p, v, h1, rfl, _⟩
    · rw [h1] at k; exact k
    · rw [h1] at k; exact k
  · cases e
theorem ok_inA : Op2Ok K (rInA K false) gInA := by
  intro F H x y p q z Q s hx hy e k
  obtain ⟨b, e1, rfl⟩ := Option.map_eq_some_iff.mp e
  exact inA_ok s hx hy e1 (k _ (.bl b))
theorem ok_notInA : Op2Ok K (rInA K true) gNotInA := by
  intro F H x y p q z Q s hx hy e k
  obtain ⟨b, e1, rfl⟩ := Option.map_eq_some_iff.mp e
  exact inA_ok s hx hy e1 (k _ (.bl !b))
theorem ok_inD : Op2Ok K (rDIn false) gInD := by
  intro F H x y p q z Q s hx hy e k
  obtain ⟨b, e1, rfl⟩ := Option.map_eq_some_iff.mp e
  exact inD_ok s hx hy e1 (k _ (.bl b))
theorem ok_notInD : Op2Ok K (rDIn true) gNotInD := by
  intro F H x y p q z Q s hx hy e k
  obtain ⟨b, e1, rfl⟩ := Option.map_eq_some_iff.mp e
  exact inD_ok s hx hy e1 (k _ (.bl !b))
def rInX (K : PySem.W.Frag) (neg : Bool) : R2 := fun x y H Q => rInA K neg x y H Q ∨ rDIn neg x y H Q
theorem op_inX (hu : X.A.units + 1 < cLine) : OpR X (compareOp .In) (rInX X.K false) := op_or op_inA (op_in_dict hu)
theorem op_notInX (hu : X.A.units + 1 < cLine) : OpR X (compareOp .NotIn) (rInX X.K true) := op_or op_notInA (op_notIn_dict hu)
theorem ok_in : Op2Ok K (rInX K false) gIn := ok_inA.or ok_inD
theorem ok_notIn : Op2Ok K (rInX K true) gNotIn := ok_notInA.or ok_notInD

/-! ### int, str, tuple of a value -/
@[simp] def gIntS : List PV → Option GV
  | [.str l] => if l.length ≤ 640 then (PySem.intText? (sl l)).map fun n => .old (.int n) else none
  | _ => none
theorem ok_intS : OpNOk K (fun xs H Q => ∃ a n, xs = [.str a] ∧ PySem.intText? a = some n ∧ a.length ≤ 640 ∧ Q (.int n) H) gIntS := by
  intro F H vs ps z Q s hx e k
  unfold gIntS at e
  split at e
  · split at e
    · rename_i hz
      obtain ⟨n, e1, rfl⟩ := Option.map_eq_some_iff.mp e
      obtain ⟨v, rfl, h⟩ := hx.one
      exact ⟨_, n, by rw [h.str], e1, by rw [sl_length]; exact hz, k _ (.int n)⟩
    · cases e
  · cases e
abbrev gInt := gOrN gInt1 gIntS
theorem ok_int : OpNOk K (fun xs H Q => ((∃ i, xs = [.int i] ∧ Q (.int i) H) ∨ ∃ k, xs = [.bl k] ∧ Q (.int (if k then 1 else 0)) H) ∨ ∃ a n, xs = [.str a] ∧ PySem.intText? a = some n ∧ a.length ≤ 640 ∧ Q (.int n) H) gInt := ok_int1.or ok_intS
theorem rp_cps {F : Hp} (x : Str) : Rp K F (.str x) (.str x.cps.toList) := by
  have := Rp.str (K := K) (F := F) x.cps.toList
  rw [sl_cps] at this
  exact this
@[simp] def gStrI : List PV → Option GV
  | [.int i] => if i.natAbs.log2 < 1920 then some (.old (.str ((toString i : String) : Str).cps.toList)) else none
  | _ => none
theorem ok_stri : OpNOk K (fun xs H Q => ∃ i, xs = [.int i] ∧ i.natAbs.log2 < 1920 ∧ Q (.str (toString i)) H) gStrI := by
  intro F H vs ps z Q s hx e k
  unfold gStrI at e
  split at e
  · split at e
    · rename_i hz
      cases e
      obtain ⟨v, rfl, h⟩ := hx.one
      refine ⟨_, by rw [h.int], hz, k _ ?_⟩
      exact rp_cps _
    · cases e
  · cases e
@[simp] def gTuple1 : List PV → Option GV
  | [.lst ps] => some (.tp (.tup ps))
  | [.tup ps] => some (.old (.tup ps))
  | _ => none
theorem ok_tuple1 : OpNOk K (fun xs H Q => ∃ p ys, xs = [.ref p] ∧ ((SqL K H p ys ∧ ∀ l, H l = none → Q (.ref l) (upd H l (.tup ys))) ∨ (SqT K H p ys ∧ Q (.ref p) H))) gTuple1 := by
  intro F H vs ps z Q s hx e k
  unfold gTuple1 at e
  split at e
  · cases e
    obtain ⟨v, rfl, h⟩ := hx.one
    obtain ⟨a, ws, rfl, h1, r1⟩ := h.lst s
    exact ⟨a, ws, rfl, .inl ⟨SqL.of h1, fun l hl => k l (.tup ws) hl r1⟩⟩
  · cases e
    obtain ⟨v, rfl, h⟩ := hx.one
    obtain ⟨a, ws, rfl, f1, h1, r1⟩ := h.tup s
    exact ⟨a, ws, rfl, .inr ⟨SqT.of h1, k _ (.tup f1 r1)⟩⟩
  · cases e
end
/-! ### the calls and signs that read the frame, for a named frame -/
section
variable {X : Cx} {K : PySem.W.Frag}
theorem k_len (hK : X.K = K) : CallR X (.builtin "len") (fun xs H Q => ∃ x n, xs = [x] ∧ LenV K x H n ∧ Q (.int n) H) := by subst hK; exact call_len
theorem k_sum (hK : X.K = K) (hc : X.calm = true) : CallR X (.builtin "sum") (rSum K) := by subst hK; exact cr_sum hc
theorem k_all (hK : X.K = K) (hc : X.calm = true) : CallR X (.builtin "all") (rAll K) := by subst hK; exact cr_all hc
theorem k_any (hK : X.K = K) (hc : X.calm = true) : CallR X (.builtin "any") (rAny K) := by subst hK; exact cr_any hc
theorem k_isi (hK : X.K = K) : CallR X (.builtin "isinstance") (fun xs H Q => rIsi K xs H Q ∨ rIsiT K xs H Q) := by subst hK; exact call_or call_isi call_isiT
theorem k_listOf (hK : X.K = K) : CallR X (.type "list") (fun xs H Q => ∃ p ys, xs = [.ref p] ∧ (SqL K H p ys ∨ SqT K H p ys) ∧ ∀ l, H l = none → Q (.ref l) (upd H l (.lst ys))) := by subst hK; exact call_list_of
theorem k_tupleOf (hK : X.K = K) : CallR X (.type "tuple") (fun xs H Q => ∃ p ys, xs = [.ref p] ∧ ((SqL K H p ys ∧ ∀ l, H l = none → Q (.ref l) (upd H l (.tup ys))) ∨ (SqT K H p ys ∧ Q (.ref p) H))) := by subst hK; exact call_tuple_of
theorem k_in (hK : X.K = K) (hu : X.A.units + 1 < cLine) : OpR X (compareOp .In) (rInX K false) := by subst hK; exact op_inX hu
theorem k_notIn (hK : X.K = K) (hu : X.A.units + 1 < cLine) : OpR X (compareOp .NotIn) (rInX K true) := by subst hK; exact op_notInX hu
end
end VL

/-! VL9: division by ints of any size, repr, the law's own call. -/
namespace VL
open PySem PySem.Spec L2 PyProof.Rows

/-! ### // by any int above nought -/
structure Big (X : Cx) : Prop where
  seer : X.base.NoSeer
  tree : X.prog.given.tree = none
  deep : X.A.depth + 100 < recursionLimit
  top : ∃ env l, X.stack = env :: l ∧ env.scope.isGenerator = false ∧ env.scope.isCoroutine = false ∧ env.builtins = builtinsNs ∧ env.globals = mainGlobals
abbrev gDivP := gI2 fun i j => if 0 < j then some (.int (i / j)) else none
theorem ok_divP {K : PySem.W.Frag} : Op2Ok K (rI (fun _ j => 0 < j) fun i j => .int (i / j)) gDivP := ok_rI (C := fun _ j => 0 < j) fun _ _ _ _ => rp_int
theorem op_divP {X : Cx} (B : Big X) : OpR X (binaryOp .FloorDiv) (rI (fun _ j => 0 < j) fun i j => .int (i / j)) := by
  rintro pins s σ H _ _ v u Q I rx ry ⟨i, j, rfl, rfl, pos, q⟩
  obtain ⟨t, rfl⟩ := rx
  obtain ⟨t', rfl⟩ := ry
  obtain ⟨env, l, e, e1, e2, e3, e4⟩ := B.top
  have room : PylongRoom (model X.prog X.w) X.A s := PylongRoom.of I.nolimit B.deep (SeerAt.of (B.seer.keeps I.bk) B.tree (I.ok.frames.trans (congrArg some e)) e1 e2 e3 e4)
  have pos' : (0 : Int) < j := pos
  refine floordiv_int (by omega) ?_ (Or.inr room)
  rw [Int.fdiv_eq_ediv_of_nonneg i (by omega)]
  exact ⟨V.int (i / j), H, I.tok _, ⟨s.toks, rfl⟩, q⟩
theorem me_fdivP {X : Cx} {K : PySem.W.Frag} {W : WX} {ms : List Nat} {a b : Expr} {pos : Pos} (B : Big X) (h1 : ME X K W ms a ta d1) (h2 : ME X K W ms b tb d2) : ME X K W ms (.BinOp a .FloorDiv b pos) (tOp (rI (fun _ j => 0 < j) fun i j => .int (i / j)) ta tb) (dOp2 gDivP d1 d2) := me_bin (op_divP B) ok_divP h1 h2

/-! ### repr -/
def isSeq : PyData → Bool
  | .list _ => true
  | .tuple _ => true
  | _ => false
def rRepr (K : PySem.W.Frag) : List V → Hp → VK → Prop := fun xs H Q => ∃ v d, xs = [v] ∧ Dp K H v d ∧ isSeq d = true ∧ d.showable = true ∧ d.hasDict = false ∧ d.depth ≤ 100 ∧ d.shown.length ≤ sizeLine ∧ Q (.str d.shown) H
theorem call_repr {X : Cx} (hg : X.A.guards = some []) (hu : X.A.units + 200 < cLine) : CallR X (.builtin "repr") (rRepr X.K) := by
  rintro pins s σ H _ us Q I r ⟨v, d, rfl, hd, hq, h1, h2, h3, h4, q⟩
  obtain ⟨u, rfl, ru⟩ := vals1 r
  obtain ⟨as, rd⟩ := Dp.reads I d v u hd ru
  have : ∃ a, u = .ref a := by
    cases rd <;> first | exact ⟨_, rfl⟩ | cases hq
  obtain ⟨a, rfl⟩ := this
  exact repr_of_reads' rd h1 (PyData.noDict_hsm h2) hg (by omega) (fun _ _ e => e) (fun h' w tk kp => ⟨V.str d.shown, H, I.kept kp, ⟨w, rfl⟩, q⟩) h4
theorem k_repr {X : Cx} {K : PySem.W.Frag} (hK : X.K = K) (hg : X.A.guards = some []) (hu : X.A.units + 200 < cLine) : CallR X (.builtin "repr") (rRepr K) := by subst hK; exact call_repr hg hu
def gRepr : List PV → Option GV
  | [p] => (toD p).bind fun d => if isSeq d = true ∧ d.showable = true ∧ d.hasDict = false ∧ d.depth ≤ 100 ∧ d.shown.length ≤ sizeLine then some (.old (.str d.shown.cps.toList)) else none
  | _ => none
theorem toD_okW {K : PySem.W.Frag} {F H : Hp} {v : V} {p : PV} {d : PyData} (s : Sub F H) (h : RpW K F H v p) (e : toD p = some d) : Dp K H v d := by
  rcases h with h | ⟨a, rfl, h⟩
  · exact toD_ok s p v d h e
  · cases p <;> try exact h.elim
    · obtain ⟨vs, h, r⟩ := h
      obtain ⟨ds, e1, rfl⟩ := Option.map_eq_some_iff.mp (by simpa [toD] using e)
      exact .lst (SqL.of h) (toDs_ok s _ vs ds r e1)
    · cases e
    · cases e
theorem ok_repr {K : PySem.W.Frag} : OpNOk K (rRepr K) gRepr := by
  intro F H vs ps z Q s hx e k
  unfold gRepr at e
  split at e
  · obtain ⟨d, e1, e2⟩ := Option.bind_eq_some_iff.mp e
    split at e2
    · rename_i hh
      cases e2
      obtain ⟨v, rfl, h⟩ := hx.one
      exact ⟨v, d, rfl, toD_okW s h e1, hh.1, hh.2.1, hh.2.2.1, hh.2.2.2.1, hh.2.2.2.2, k _ (rp_cps _)⟩
    · cases e2
  · cases e

/-! ### the law's own call -/
/-- what the head tells at the law's own call -/
structure TopG (K : PySem.W.Frag) (mg : Str → Option Value) (base : Heap) : Prop where
  kin : K.In base
  ns : base.Ns mainGlobals mg
  seer : base.NoSeer
theorem hide_ns {h : Heap} {H : Hp} {a b : Addr} {vs : List Value} (only : ∀ c, H c ≠ none → c = a) (ha : h.get? a = some { cls := .type "list", data := .seq vs.toArray }) {m : Str → Option Value} (n : h.Ns b m) : (hidT h H).Ns b m := by
  obtain ⟨o, es, ep, e, d, r⟩ := n
  refine ⟨o, es, ep, hidT_get e ?_, d, r⟩
  refine Classical.byContradiction fun z => ?_
  have := only b z
  subst this
  rw [ha] at e
  cases e
  exact Data.noConfusion (show Data.seq vs.toArray _ = Data.dict es ep from d)
theorem hide_plain {h : Heap} {H : Hp} {a b : Addr} {vs : List Value} (only : ∀ c, H c ≠ none → c = a) (ha : h.get? a = some { cls := .type "list", data := .seq vs.toArray }) {o : Obj} (e : h.get? b = some o) (hc : o.cls = .type "module") : (hidT h H).get? b = some o := by
  refine hidT_get e (Classical.byContradiction fun z => ?_)
  have := only b z
  subst this
  rw [ha] at e
  cases e
  exact absurd (Value.type.inj (show Value.type "list" = Value.type "module" from hc)) (by decide)
theorem hide_seer {h : Heap} {H : Hp} {a : Addr} {vs : List Value} (only : ∀ c, H c ≠ none → c = a) (ha : h.get? a = some { cls := .type "list", data := .seq vs.toArray }) (S : h.NoSeer) : (hidT h H).NoSeer where
  statics := let ⟨m, n, r⟩ := S.statics; ⟨m, hide_ns only ha n, r⟩
  mods := let ⟨m, n, r⟩ := S.mods; ⟨m, hide_ns only ha n, r⟩
  imp := let ⟨m, n, r⟩ := S.imp; ⟨m, hide_ns only ha n, r⟩
  main := let ⟨m, bm, ob, n, r1, r2, r3, r4⟩ := S.main; ⟨m, bm, ob, hide_ns only ha n, r1, hide_plain only ha r2 r3, r3, r4⟩
/-- a def's run at one state, the callers known -/
theorem run_at {CX : CXT} {P : Program} {w : World} {K : PySem.W.Frag} {mg : Str → Option Value} {base : Heap} {x qual : Str} {params : Arguments} {body : List Stmt} {scope : Scope} {dvs : List V} {kws : List (Str × V)} {f : Addr} {fd : FuncData} {N ps : List Str}
    (D : FunD K x qual params body scope dvs kws f fd) (S : FnScope N ps scope) {A : Around} {outer : List Env} {s : Shared} {H : Hp} {args : Args} {us : List Value} {vs : List V} {Q : VK} {E : XK}
    (room : A.depth < recursionLimit) (calm : A.handled = none) (e0 : Env0 P w K mg base A outer s H) (bt : BindsTo s fd args (ps.zip us)) (rv : Vals vs us) (len : vs.length = ps.length)
    (inner : ∀ cdv, ∃ t, PSs (cxOf CX P w K mg base N qual scope f cdv A outer s H E) body t ∧ t { nx := fun _ H' => Q .non H', rt := Q } (L2.start N vs) H) :
    codeAny (model P w) A (.call (.ref f) args) (CR CX outer P w H s Q E) s := by
  obtain ⟨oc, od, dV, kV, doc, pm, an, cdv, ct, osl, rfl, look, code, _⟩ := D.ex
  have kin : K.In s.heap := e0.mod.kin.keeps fun b o z => (e0.bs b o z).1
  have parOk : ∀ q ∈ ps.zip us, scope.names.lookup q.1 = some .local ∨ (scope.names.lookup q.1 = some .cell ∧ ((cellsFrom (s.heap.objs.size + 1) scope.names []).lookup q.1).isSome = true) := by
    rintro ⟨n, v⟩ hq
    exact (S.par n (List.of_mem_zip hq).1).imp id fun z => ⟨z, PySem.W.cellsFrom_some _ _ _ (Or.inl z)⟩
  refine codeAny_call_function room (kin _ _ look) rfl S.co S.gen rfl (PySem.W.codeRec_of kin code) (bt _ _ _ _ ?_)
  refine wpAny_newFunctionEnv_cells S.kind parOk fun env he s1 inc => ?_
  subst he
  refine ⟨(e0.mod.nolimit.keeps fun b o z => (e0.bs b o z).1).keeps inc.toInCall.keep, codeAny_func ?_⟩
  obtain ⟨t, ht, hq⟩ := inner cdv
  refine wpAny_mono (ht.run [] s1 (L2.start N vs) H _ (inv_start S calm e0 len rv inc) hq) (fun fl s' done => ?_) fun _ _ z => z
  cases fl with
  | next =>
    obtain ⟨σ', H', J, q⟩ := done
    exact ⟨V.non, H', J.os, J.bare, J.base, J.hok, rfl, q⟩
  | ret u =>
    obtain ⟨v, σ', H', J, ru, q⟩ := done
    exact ⟨v, H', J.os, J.bare, J.base, J.hok, ru, q⟩
  | brk => obtain ⟨_, _, _, q⟩ := done; exact q.elim
  | cont => obtain ⟨_, _, _, q⟩ := done; exact q.elim
/-- what is asked of a law's def: over every base that the head allows, it answers True -/
abbrev LawBody (P : Program) (w : World) (K : PySem.W.Frag) (mg : Str → Option Value) (base : Heap) (N : List Str) (qual : Str) (scope : Scope) (f : Addr) (body : List Stmt) (ns : List Int) : Prop :=
  ∀ (cdv : Value) (s : Shared) (H : Hp) (a : Addr), Only H → SqL K H a (ns.map V.int) →
    ∃ t, PSs (cxOf CX0 P w K mg base N qual scope f cdv callerA [] s H (fun _ _ _ => False)) body t ∧ t { nx := fun _ H' => (fun v _ => v = V.bl true) V.non H', rt := fun v _ => v = V.bl true } (L2.start N [.ref a]) H
/-- the end of a law: its def answers True at every script -/
theorem law_end {l : PySem.W.OpenLaw} {n : Nat} {q : Program} {loose : List Str} {XP : (Str → Option Value) → Heap → Prop} {YP : World → Heap → Prop} {d : DefRec} {x y : Str}
    (hn : l.most = some n) (hn2 : n ≤ sizeLine) (hdf : d.params.defaults = []) (himp : importsNone q = true)
    (F : ∀ (w : World) (mg : Str → Option Value) (fa : Addr) (h : Heap), YP w h → h.Ns mainGlobals mg → mg d.name = some (.ref fa) →
      ∃ (K : PySem.W.Frag) (qual : Str) (params : Arguments) (body : List Stmt) (scope : Scope) (fd : FuncData) (N : List Str), K.In h ∧ FunD K y qual params body scope [] [] fa fd ∧ FnScope N [x] scope ∧ (∀ (s : Shared) (u : Value), BindsTo s fd ⟨[u], []⟩ [(x, u)]) ∧
        ∀ (base : Heap) (ns : List Int), TopG K mg base → ns.length ≤ n → (∀ z ∈ ns, Builtin.Int.intBits z ≤ 1048576) → LawBody l.prog w K mg base N qual scope fa body ns) :
    PySem.W.WalkO q loose XP YP l.row.toRowW d [] (fun f vs => PySem.call f vs) := by
  refine Att.attach_callB hn hdf fun w s₀ s₁ mg mb fa o pm cd doc a vs ns G Y ho hd hcd hmg hobj hints hlen hbits hg => ?_
  obtain ⟨K, qual, params, body, scope, fd, N, kin, D, S, bt, hbody⟩ := F w mg fa _ Y G.T.g hmg
  have main : ∀ H : Hp, Only H → SqL K H a (ns.map V.int) → HOk l.prog w H s₁.heap → (∀ b, H b ≠ none → b = a) → (H a ≠ none → K.lookup a = none) →
      codeAny (model l.prog w) callerA (.call (.ref fa) ⟨[.ref a], []⟩) (fun r s' => r = .ok (.ret (.bool true)) ∧ OldK s₁.heap s'.heap ∧ s'.os = s₁.os ∧ AllBare s'.gens) s₁ := by
    intro H only sq hok tr free
    have kinB : K.In (hidT s₁.heap H) := fun b o e => hidT_get (kin b o e) (Classical.byContradiction fun z => by
      have := tr b z
      subst this
      rw [free z] at e
      cases e)
    have mo : Mod K mg (hidT s₁.heap H) := ⟨kinB, hide_ns tr hobj G.T.g, ⟨mb, hide_ns tr hobj G.T.b, G.T.builtins⟩, let ⟨mc, h1, h2⟩ := G.T.nolimit; ⟨mc, hide_ns tr hobj h1, h2⟩⟩
    have e0 : Env0 l.prog w K mg (hidT s₁.heap H) callerA [] s₁ H := ⟨rfl, mo, fun b o e => of_hidT e, Nat.le_of_eq (hidT_size _ _), trivial, fun b z => (List.not_mem_nil z).elim, hok, .of_eq hg⟩
    refine codeAny_mono (run_at (CX := CX0) (E := fun _ _ _ => False) (Q := fun v _ => v = V.bl true) D S (by decide) rfl e0 (us := [Value.ref a]) (bt s₁ (.ref a)) (vs := [V.ref a]) (.cons rfl .nil) rfl fun cdv => hbody _ ns ⟨kinB, hide_ns tr hobj G.T.g, hide_seer tr hobj (G.T.seer himp)⟩ hlen hbits cdv s₁ H a only sq) fun r s' h => ?_
    cases r with
    | error e => exact False.elim h
    | ok fl =>
      cases fl <;> try exact False.elim h
      obtain ⟨v, H', os, bare, un, hok', ru, ev⟩ := h
      have ev' : v = V.bl true := ev
      subst ev'
      cases (show _ = Value.bool true from ru)
      refine ⟨rfl, OldK.of_keep fun b o e => ?_, os, bare⟩
      rcases only b with z | ⟨ob, xs, z⟩
      · exact un.keep b o e z (fun y => (List.not_mem_nil y).elim) (fun y => (List.not_mem_nil y).elim)
      · obtain ⟨e1, _⟩ := hok b _ z
        obtain ⟨e2, _⟩ := hok' b _ (un.frzs b ob _ z)
        rw [e] at e1
        cases e1
        exact e2
  have iv := vals_ints hints
  cases look : K.lookup a with
  | some o' =>
    obtain rfl : _ = o' := Option.some.inj (hobj.symm.trans (kin a o' look))
    exact main (fun _ => none) (fun _ => .inl rfl) (.inr ⟨_, vs.toArray, _, look, rfl, rfl, rfl, by rw [List.size_toArray, hints.length]; exact Nat.le_trans hlen hn2, by simpa using iv⟩) (fun b u z => by cases (show (none : Option HO) = some u from z)) (fun b z => absurd rfl z) fun z => absurd rfl z
  | none =>
    refine main (fun b => if b = a then some (.frz { cls := .type "list", data := .seq vs.toArray } (.lst (ns.map V.int))) else none) (fun b => ?_) (.inl (.inr ⟨{ cls := .type "list", data := .seq vs.toArray }, if_pos rfl⟩)) (fun b u z => ?_) (fun b z => ?_) fun _ => look
    · by_cases e : b = a
      · exact .inr ⟨_, _, if_pos e⟩
      · exact .inl (if_neg e)
    · by_cases e : b = a
      · subst e
        cases (if_pos rfl).symm.trans z
        exact ⟨hobj, by rw [List.length_map]; exact Nat.le_trans hlen hn2, vs, _, iv, hobj⟩
      · cases (if_neg e).symm.trans z
    · exact Classical.byContradiction fun e => z (if_neg e)
end VL

/-! VL10: the law's entry, defs that call themselves, the strict comparison of the laws. -/
namespace VL
open PySem PySem.Spec L2 PyProof.Rows
section
variable {P : Program} {w : World} {K : PySem.W.Frag} {mg : Str → Option Value} {base : Heap}
/-- the script, as the law's def gets it -/
theorem top_sp {H : Hp} {a : Addr} {ns : List Int} {sem : List SV → Res SV} {E : XK} (only : Only H) (sq : SqL K H a (ns.map V.int)) (h : ∃ τ, sem [.fz (.scr ns)] = .ok (.fz (.bl true)) τ) : spOf K 1 [] sem [.ref a] H (fun v _ => v = V.bl true) E := by
  obtain ⟨τ, e⟩ := h
  refine ⟨rfl, H, [.fz (.scr ns)], ⟨fun _ => none, rfl, Sub.refl H, Sub.refl H, fun a o e _ => e, fun a o e => ⟨o, e⟩, fun a o e => .inl e, ?_, fun a i e => (nomatch e), fun a i e => (nomatch e), fun a i e => (nomatch e), fun i hi => (nomatch hi), fun a ⟨i, hi, _⟩ => (nomatch hi), fun a vs e => e⟩, ?_⟩
  · intro i s hi
    cases i with
    | zero => cases hi; exact ⟨V.ref a, rfl, .scr sq⟩
    | succ i => cases hi
  · rw [e]
    intro v H' F' s ok
    obtain ⟨R, rv⟩ := ok
    cases rv
    rfl
theorem top_room {k : Nat} (env : Env) (h : k ≤ 200) : Room k (callerA.deeper env) :=
  ⟨rfl, by show 1 + claimMargin + 1 + 3 * k + 5 < recursionLimit; unfold claimMargin recursionLimit; omega, by show 4 + 3 + 16 * k + 200 < cLine; unfold cLine; omega⟩
theorem hu200 {k : Nat} {A : Around} (hr : Room k A) : A.units + 200 < cLine := by have := hr.un; omega
theorem big_of {X : Cx} {k : Nat} (hr : Room k X.A) (hk : 35 ≤ k) (hN : X.base.NoSeer) (hT : X.prog.given.tree = none)
    (top : ∃ env l, X.stack = env :: l ∧ env.scope.isGenerator = false ∧ env.scope.isCoroutine = false ∧ env.builtins = builtinsNs ∧ env.globals = mainGlobals := by exact ⟨_, _, rfl, rfl, rfl, rfl, rfl⟩) : Big X :=
  ⟨hN, hT, by have := hr.dp; omega, top⟩
theorem spOf_imp {k : Nat} {ms : List Nat} {sem sem' : List SV → Res SV} (h : ∀ a, sem a = .no ∨ sem' a = sem a) {vs : List V} {H : Hp} {Q : VK} {E : XK} (q : spOf K k ms sem vs H Q E) : spOf K k ms sem' vs H Q E := by
  obtain ⟨hl, F, τ, R, z⟩ := q
  refine ⟨hl, F, τ, R, ?_⟩
  rcases h τ with e | e
  · rw [e] at z; exact z.elim
  · rw [e]; exact z
theorem Fn.imp {x : Str} {k n : Nat} {ms : List Nat} {ps : List Str} {sem sem' : List SV → Res SV} (G : Fn P w K mg base x k ps (spOf K n ms sem')) (h : ∀ a, sem a = .no ∨ sem' a = sem a) : Fn P w K mg base x k ps (spOf K n ms sem) := by
  obtain ⟨f, fd, h1, h2, h3, h4⟩ := G.ex
  exact ⟨f, fd, h1, h2, h3, h4.imp fun vs H Q E q => spOf_imp h q⟩
theorem Fn.mono {x : Str} {j k : Nat} {ps : List Str} {sp : Sp} (G : Fn P w K mg base x j ps sp) (h : j ≤ k) : Fn P w K mg base x k ps sp := by
  obtain ⟨f, fd, h1, h2, h3, h4⟩ := G.ex
  exact ⟨f, fd, h1, h2, h3, h4.mono h⟩
/-- a def of which nothing is promised -/
theorem Fn.zero {x : Str} {k n : Nat} {ms : List Nat} {ps : List Str} {f : Addr} {fd : FuncData} (hm : mg x = some (.ref f)) (hk : PySem.W.keepIn K (.ref f) = true) (hb : Binds K fd ps []) : Fn P w K mg base x k ps (spOf K n ms fun _ => .no) := by
  have no : ∀ {vs H Q E}, spOf K n ms (fun _ => .no) vs H Q E → False := fun {vs H Q E} ⟨_, _, _, _, z⟩ => z
  exact ⟨f, fd, hm, hk, hb, fun vs H Q E q => (no q).elim, fun A outer s H args us vs Q E _ _ _ _ q => (no q).elim⟩
/-- a def that calls itself: c n is its worth n turns deep -/
theorem Fn.selfCall {x : Str} {b n : Nat} {ms : List Nat} {ps : List Str} {f : Addr} {fd : FuncData} {step : (List SV → Res SV) → List SV → Res SV} {c : Nat → List SV → Res SV} (hm : mg x = some (.ref f)) (hk : PySem.W.keepIn K (.ref f) = true) (hb : Binds K fd ps [])
    (hs : ∀ (self : List SV → Res SV) (kk : Nat), b ≤ kk → Fn P w K mg base x kk ps (spOf K n ms self) → Fn P w K mg base x (kk + 1) ps (spOf K n ms (step self)))
    (h0 : c 0 = fun _ => .no) (h1 : ∀ m a, c (m + 1) a = .no ∨ step (c m) a = c (m + 1) a) : ∀ m, Fn P w K mg base x (b + m) ps (spOf K n ms (c m))
  | 0 => by rw [h0]; exact Fn.zero hm hk hb
  | m + 1 => (hs (c m) (b + m) (Nat.le_add_right _ _) (Fn.selfCall hm hk hb hs h0 h1 m)).imp (h1 m)
end

/-! ### the laws' strict comparison -/
/-- plain values at most n deep -/
def flat : Nat → PV → Bool
  | 0, _ => false
  | _ + 1, .non => true
  | _ + 1, .bl _ => true
  | _ + 1, .int _ => true
  | _ + 1, .str _ => true
  | n + 1, .lst ps => ps.all (flat n) && decide (ps.length ≤ 4000000000)
  | n + 1, .tup ps => ps.all (flat n) && decide (ps.length ≤ 4000000000)
  | _ + 1, _ => false
open Classical in
noncomputable def sameC : Nat → List SV → Res SV := fun n args => match args with
  | [.fz a, .fz b] => if flat n a = true ∧ flat n b = true then .ok (.fz (.bl (decide (a = b)))) [.un, .un] else .no
  | _ => .no
theorem sameC_zero : sameC 0 = fun _ => .no := by
  funext args
  unfold sameC
  split
  · simp [flat]
  · rfl
end VL

/-! VL11 (printed by mkev.py): the pure readings, evaluated. -/
namespace VL
open PySem PySem.Spec L2
section
variable {α β : Type}
@[simp] theorem bind_ok (a : α) (τ : PSt) (f : α → PSt → Res β) : (Res.ok a τ).bind f = f a τ := rfl
@[simp] theorem bind_er (e : PExc) (τ : PSt) (f : α → PSt → Res β) : (Res.er e τ : Res α).bind f = .er e τ := rfl
@[simp] theorem bind_no (f : α → PSt → Res β) : (Res.no : Res α).bind f = .no := rfl
@[simp] theorem bindS_ok (a : α) (τ : PSt) (f : α → PSt → SRes) : (Res.ok a τ).bindS f = f a τ := rfl
@[simp] theorem bindS_er (e : PExc) (τ : PSt) (f : α → PSt → SRes) : (Res.er e τ : Res α).bindS f = .er e τ := rfl
@[simp] theorem bindS_no (f : α → PSt → SRes) : (Res.no : Res α).bindS f = .no := rfl
@[simp] theorem bind_ite (c : Prop) [Decidable c] (a b : Res α) (f : α → PSt → Res β) : (if c then a else b).bind f = if c then a.bind f else b.bind f := by split <;> rfl
@[simp] theorem bindS_ite (c : Prop) [Decidable c] (a b : Res α) (f : α → PSt → SRes) : (if c then a else b).bindS f = if c then a.bindS f else b.bindS f := by split <;> rfl
end
def fgtS (is : List Nat) (r : SRes) : SRes := match r with
  | .nx τ' => .nx (fgt is τ')
  | .ct τ' => .ct (fgt is τ')
  | .bk τ' => .bk (fgt is τ')
  | r => r
section
variable (is : List Nat) (d : PSt → SRes) (τ : PSt)
@[simp] theorem e_dFgt : dFgt is d τ = fgtS is (d τ) := rfl
@[simp] theorem fgtS_nx : fgtS is (.nx τ) = .nx (fgt is τ) := rfl
@[simp] theorem fgtS_ct : fgtS is (.ct τ) = .ct (fgt is τ) := rfl
@[simp] theorem fgtS_bk : fgtS is (.bk τ) = .bk (fgt is τ) := rfl
@[simp] theorem fgtS_rt (r : SV) : fgtS is (.rt r τ) = .rt r τ := rfl
@[simp] theorem fgtS_er (e : PExc) : fgtS is (.er e τ) = .er e τ := rfl
@[simp] theorem fgtS_no : fgtS is .no = .no := rfl
@[simp] theorem fgtS_ite (c : Prop) [Decidable c] (a b : SRes) : fgtS is (if c then a else b) = if c then fgtS is a else fgtS is b := by split <;> rfl
end
@[simp] theorem gout_old (p : PV) (τ : PSt) : gout (some (.old p)) τ = .ok (.fz p) τ := rfl
@[simp] theorem gout_nw (p : PV) (τ : PSt) : gout (some (.nw p)) τ = if isTup p then .no else .ok (.nw p) τ := rfl
@[simp] theorem gout_tp (p : PV) (τ : PSt) : gout (some (.tp p)) τ = .ok (.fz p) τ := rfl
@[simp] theorem gout_none (τ : PSt) : gout none τ = .no := rfl
@[simp] theorem gout_ite (c : Prop) [Decidable c] (a b : Option GV) (τ : PSt) : gout (if c then a else b) τ = if c then gout a τ else gout b τ := by split <;> rfl
@[simp] theorem noEr_no {α : Type} : (Res.no : Res α).noEr = .no := rfl
@[simp] theorem noEr_er {α : Type} (e : PExc) (τ : PSt) : (Res.er e τ : Res α).noEr = .no := rfl
def orG (a b : Option GV) : Option GV := match a with
  | some z => some z
  | none => b
@[simp] theorem orG_some (z : GV) (b : Option GV) : orG (some z) b = some z := rfl
@[simp] theorem orG_none (b : Option GV) : orG none b = b := rfl
@[simp] theorem orG_ite (c : Prop) [Decidable c] (x y b : Option GV) : orG (if c then x else y) b = if c then orG x b else orG y b := by split <;> rfl
@[simp] theorem e_gOr (g g' : PV → PV → Option GV) (p q : PV) : gOr g g' p q = orG (g p q) (g' p q) := rfl
@[simp] theorem e_gOrN (g g' : List PV → Option GV) (ps : List PV) : gOrN g g' ps = orG (g ps) (g' ps) := rfl
@[simp] theorem size_v : sizeLine = 16777216 := rfl
theorem atI_nat {α : Type} (xs : List α) (k : Nat) : atI xs (k : Int) = xs[k]? := by
  unfold atI ixN
  rw [if_pos (Int.natCast_nonneg k)]
  by_cases h : (k : Int) < xs.length
  · rw [if_pos h]; rfl
  · rw [if_neg h]
    exact (List.getElem?_eq_none (by omega)).symm
@[simp] theorem atI_cast {α : Type} (xs : List α) (k : Nat) : atI xs (k : Int) = xs[k]? := atI_nat xs k
@[simp] theorem atI_0 {α : Type} (xs : List α) : atI xs 0 = xs[0]? := atI_nat xs 0
@[simp] theorem atI_1 {α : Type} (xs : List α) : atI xs 1 = xs[1]? := atI_nat xs 1
@[simp] theorem atI_lit {α : Type} (xs : List α) (n : Nat) : atI xs (no_index (OfNat.ofNat n : Int)) = xs[(OfNat.ofNat n : Nat)]? := atI_nat xs n
theorem atI_pos {α : Type} (xs : List α) {i : Int} (h : 0 ≤ i) : atI xs i = xs[i.toNat]? := by
  obtain ⟨k, rfl⟩ := Int.eq_ofNat_of_zero_le h
  exact atI_nat xs k
@[simp] theorem atI_m1 {α : Type} (xs : List α) : atI xs (-1) = xs.getLast? := by
  cases xs with
  | nil => rfl
  | cons x xs =>
    unfold atI ixN
    rw [if_neg (by decide), if_pos (by rw [List.length_cons]; omega), List.getLast?_eq_getElem?]
    show (x :: xs)[(-1 + ((x :: xs).length : Int)).toNat]? = _
    rw [List.length_cons, show (-1 + ((xs.length + 1 : Nat) : Int)).toNat = xs.length + 1 - 1 by omega]
def thenS (r : SRes) (d : PSt → SRes) : SRes := match r with
  | .nx τ' => d τ'
  | r => r
section
variable (d d' : PSt → SRes) (τ : PSt)
@[simp] theorem e_dSeq : dSeq d d' τ = thenS (d τ) d' := rfl
@[simp] theorem then_nx : thenS (.nx τ) d = d τ := rfl
@[simp] theorem then_bk : thenS (.bk τ) d = .bk τ := rfl
@[simp] theorem then_ct : thenS (.ct τ) d = .ct τ := rfl
@[simp] theorem then_rt (r : SV) : thenS (.rt r τ) d = .rt r τ := rfl
@[simp] theorem then_er (e : PExc) : thenS (.er e τ) d = .er e τ := rfl
@[simp] theorem then_no : thenS .no d = .no := rfl
@[simp] theorem then_ite (c : Prop) [Decidable c] (a b : SRes) : thenS (if c then a else b) d = if c then thenS a d else thenS b d := by split <;> rfl
end
@[simp] theorem e_dVar (i : Nat) (τ : PSt) : dVar i τ = (match τ[i]? with
  | some (.fz p) => .ok (.fz p) τ
  | some (.ow _) => .ok (.at i) τ
  | some (.tr _) => .ok (.at i) τ
  | _ => .no) := rfl
@[simp] theorem e_dC (p : PV) (τ : PSt) : dC p τ = (.ok (.fz p) τ) := rfl
noncomputable def dOp2_k2 (g : PV → PV → Option GV) (d1 d2 : PSt → Res RV) (r1 : RV) : RV → PSt → Res RV := fun r2 τ2 => gout (c2 g (content r1 τ2) (content r2 τ2)) τ2
@[simp] theorem e_dOp2_k2 (g : PV → PV → Option GV) (d1 d2 : PSt → Res RV) (r1 : RV) (r2 : RV) (τ2 : PSt) : dOp2_k2 g d1 d2 r1 r2 τ2 = (gout (c2 g (content r1 τ2) (content r2 τ2)) τ2) := rfl
noncomputable def dOp2_k1 (g : PV → PV → Option GV) (d1 d2 : PSt → Res RV) : RV → PSt → Res RV := fun r1 τ1 => (d2 τ1).bind (dOp2_k2 g d1 d2 r1)
@[simp] theorem e_dOp2_k1 (g : PV → PV → Option GV) (d1 d2 : PSt → Res RV) (r1 : RV) (τ1 : PSt) : dOp2_k1 g d1 d2 r1 τ1 = ((d2 τ1).bind (dOp2_k2 g d1 d2 r1)) := rfl
@[simp] theorem e_dOp2 (g : PV → PV → Option GV) (d1 d2 : PSt → Res RV) (τ : PSt) : dOp2 g d1 d2 τ = ((d1 τ).bind (dOp2_k1 g d1 d2)) := rfl
noncomputable def dOp1_k1 (g : PV → Option GV) (d : PSt → Res RV) : RV → PSt → Res RV := fun r τ1 => gout ((content r τ1).bind g) τ1
@[simp] theorem e_dOp1_k1 (g : PV → Option GV) (d : PSt → Res RV) (r : RV) (τ1 : PSt) : dOp1_k1 g d r τ1 = (gout ((content r τ1).bind g) τ1) := rfl
@[simp] theorem e_dOp1 (g : PV → Option GV) (d : PSt → Res RV) (τ : PSt) : dOp1 g d τ = ((d τ).bind (dOp1_k1 g d)) := rfl
@[simp] theorem e_dNil (τ : PSt) : dNil  τ = (.ok [] τ) := rfl
noncomputable def dCons_k2 (d : PSt → Res RV) (ds : PSt → Res (List RV)) (r : RV) : List RV → PSt → Res (List RV) := fun rs τ2 => .ok (r.nf :: rs) τ2
@[simp] theorem e_dCons_k2 (d : PSt → Res RV) (ds : PSt → Res (List RV)) (r : RV) (rs : List RV) (τ2 : PSt) : dCons_k2 d ds r rs τ2 = (.ok (r.nf :: rs) τ2) := rfl
noncomputable def dCons_k1 (d : PSt → Res RV) (ds : PSt → Res (List RV)) : RV → PSt → Res (List RV) := fun r τ1 => (ds τ1).bind (dCons_k2 d ds r)
@[simp] theorem e_dCons_k1 (d : PSt → Res RV) (ds : PSt → Res (List RV)) (r : RV) (τ1 : PSt) : dCons_k1 d ds r τ1 = ((ds τ1).bind (dCons_k2 d ds r)) := rfl
@[simp] theorem e_dCons (d : PSt → Res RV) (ds : PSt → Res (List RV)) (τ : PSt) : dCons d ds τ = ((d τ).bind (dCons_k1 d ds)) := rfl
noncomputable def dCB_k1 (g : List PV → Option GV) (da : PSt → Res (List RV)) : List RV → PSt → Res RV := fun rs τ1 => gout ((contents rs τ1).bind g) τ1
@[simp] theorem e_dCB_k1 (g : List PV → Option GV) (da : PSt → Res (List RV)) (rs : List RV) (τ1 : PSt) : dCB_k1 g da rs τ1 = (gout ((contents rs τ1).bind g) τ1) := rfl
@[simp] theorem e_dCB (g : List PV → Option GV) (da : PSt → Res (List RV)) (τ : PSt) : dCB g da τ = ((da τ).bind (dCB_k1 g da)) := rfl
@[simp] theorem e_dBM (T : String) (g : PV → List PV → Option GV) (d : PSt → Res RV) (da : PSt → Res (List RV)) (τ : PSt) : dBM T g d da τ = ((d τ).bind fun r τ1 =>
  if ((content r τ1).map (tyP T)) = some true then (da τ1).bind fun rs τ2 => gout ((content r τ2).bind fun p => (contents rs τ2).bind fun ps => g p ps) τ2 else .no) := rfl
noncomputable def dTup_k1 (da : PSt → Res (List RV)) : List RV → PSt → Res RV := fun rs τ1 => match leakAll rs τ1 with
  | some (ps, τ2) => if ps.length ≤ sizeLine then .ok (.fz (.tup ps)) τ2 else .no
  | none => .no
@[simp] theorem e_dTup_k1 (da : PSt → Res (List RV)) (rs : List RV) (τ1 : PSt) : dTup_k1 da rs τ1 = (match leakAll rs τ1 with
  | some (ps, τ2) => if ps.length ≤ sizeLine then .ok (.fz (.tup ps)) τ2 else .no
  | none => .no) := rfl
@[simp] theorem e_dTup (da : PSt → Res (List RV)) (τ : PSt) : dTup da τ = ((da τ).bind (dTup_k1 da)) := rfl
noncomputable def dLst_k1 (da : PSt → Res (List RV)) : List RV → PSt → Res RV := fun rs τ1 => match leakAll rs τ1 with
  | some (ps, τ2) => if ps.length ≤ sizeLine then .ok (.nw (.lst ps)) τ2 else .no
  | none => .no
@[simp] theorem e_dLst_k1 (da : PSt → Res (List RV)) (rs : List RV) (τ1 : PSt) : dLst_k1 da rs τ1 = (match leakAll rs τ1 with
  | some (ps, τ2) => if ps.length ≤ sizeLine then .ok (.nw (.lst ps)) τ2 else .no
  | none => .no) := rfl
@[simp] theorem e_dLst (da : PSt → Res (List RV)) (τ : PSt) : dLst da τ = ((da τ).bind (dLst_k1 da)) := rfl
noncomputable def dPart_k1 (d : PSt → Res RV) : RV → PSt → Res (Option Int) := fun r τ1 => match content r τ1 with
  | some (.int i) => .ok (some i) τ1
  | _ => .no
@[simp] theorem e_dPart_k1 (d : PSt → Res RV) (r : RV) (τ1 : PSt) : dPart_k1 d r τ1 = (match content r τ1 with
  | some (.int i) => .ok (some i) τ1
  | _ => .no) := rfl
@[simp] theorem e_dPart (d : PSt → Res RV) (τ : PSt) : dPart d τ = ((d τ).bind (dPart_k1 d)) := rfl
noncomputable def dSl_k3 (g : PV → Option Int → Option Int → Option GV) (d : PSt → Res RV) (dl dh : PSt → Res (Option Int)) (r : RV) (lo : Option Int) : Option Int → PSt → Res RV := fun hi τ3 => gout ((content r τ3).bind fun p => g p lo hi) τ3
@[simp] theorem e_dSl_k3 (g : PV → Option Int → Option Int → Option GV) (d : PSt → Res RV) (dl dh : PSt → Res (Option Int)) (r : RV) (lo : Option Int) (hi : Option Int) (τ3 : PSt) : dSl_k3 g d dl dh r lo hi τ3 = (gout ((content r τ3).bind fun p => g p lo hi) τ3) := rfl
noncomputable def dSl_k2 (g : PV → Option Int → Option Int → Option GV) (d : PSt → Res RV) (dl dh : PSt → Res (Option Int)) (r : RV) : Option Int → PSt → Res RV := fun lo τ2 => (dh τ2).bind (dSl_k3 g d dl dh r lo)
@[simp] theorem e_dSl_k2 (g : PV → Option Int → Option Int → Option GV) (d : PSt → Res RV) (dl dh : PSt → Res (Option Int)) (r : RV) (lo : Option Int) (τ2 : PSt) : dSl_k2 g d dl dh r lo τ2 = ((dh τ2).bind (dSl_k3 g d dl dh r lo)) := rfl
noncomputable def dSl_k1 (g : PV → Option Int → Option Int → Option GV) (d : PSt → Res RV) (dl dh : PSt → Res (Option Int)) : RV → PSt → Res RV := fun r τ1 => (dl τ1).bind (dSl_k2 g d dl dh r)
@[simp] theorem e_dSl_k1 (g : PV → Option Int → Option Int → Option GV) (d : PSt → Res RV) (dl dh : PSt → Res (Option Int)) (r : RV) (τ1 : PSt) : dSl_k1 g d dl dh r τ1 = ((dl τ1).bind (dSl_k2 g d dl dh r)) := rfl
@[simp] theorem e_dSl (g : PV → Option Int → Option Int → Option GV) (d : PSt → Res RV) (dl dh : PSt → Res (Option Int)) (τ : PSt) : dSl g d dl dh τ = ((d τ).bind (dSl_k1 g d dl dh)) := rfl
noncomputable def dTst_k1 (d : PSt → Res RV) : RV → PSt → Res Bool := fun r τ1 => match content r τ1 with
  | some (.bl b) => .ok b τ1
  | _ => .no
@[simp] theorem e_dTst_k1 (d : PSt → Res RV) (r : RV) (τ1 : PSt) : dTst_k1 d r τ1 = (match content r τ1 with
  | some (.bl b) => .ok b τ1
  | _ => .no) := rfl
@[simp] theorem e_dTst (d : PSt → Res RV) (τ : PSt) : dTst d τ = ((d τ).bind (dTst_k1 d)) := rfl
noncomputable def dTru_k1 (d : PSt → Res RV) : RV → PSt → Res Bool := fun r τ1 => match (content r τ1).bind truP with
  | some b => .ok b τ1
  | none => .no
@[simp] theorem e_dTru_k1 (d : PSt → Res RV) (r : RV) (τ1 : PSt) : dTru_k1 d r τ1 = (match (content r τ1).bind truP with
  | some b => .ok b τ1
  | none => .no) := rfl
@[simp] theorem e_dTru (d : PSt → Res RV) (τ : PSt) : dTru d τ = ((d τ).bind (dTru_k1 d)) := rfl
noncomputable def dNot_k1 (d : PSt → Res Bool) : Bool → PSt → Res Bool := fun b τ1 => .ok (!b) τ1
@[simp] theorem e_dNot_k1 (d : PSt → Res Bool) (b : Bool) (τ1 : PSt) : dNot_k1 d b τ1 = (.ok (!b) τ1) := rfl
@[simp] theorem e_dNot (d : PSt → Res Bool) (τ : PSt) : dNot d τ = ((d τ).bind (dNot_k1 d)) := rfl
noncomputable def dAnd_k1 (d d' : PSt → Res Bool) : Bool → PSt → Res Bool := fun b τ1 => if b then d' τ1 else .ok false τ1
@[simp] theorem e_dAnd_k1 (d d' : PSt → Res Bool) (b : Bool) (τ1 : PSt) : dAnd_k1 d d' b τ1 = (if b then d' τ1 else .ok false τ1) := rfl
@[simp] theorem e_dAnd (d d' : PSt → Res Bool) (τ : PSt) : dAnd d d' τ = ((d τ).bind (dAnd_k1 d d')) := rfl
noncomputable def dOr_k1 (d d' : PSt → Res Bool) : Bool → PSt → Res Bool := fun b τ1 => if b then .ok true τ1 else d' τ1
@[simp] theorem e_dOr_k1 (d d' : PSt → Res Bool) (b : Bool) (τ1 : PSt) : dOr_k1 d d' b τ1 = (if b then .ok true τ1 else d' τ1) := rfl
@[simp] theorem e_dOr (d d' : PSt → Res Bool) (τ : PSt) : dOr d d' τ = ((d τ).bind (dOr_k1 d d')) := rfl
noncomputable def dAndV_k1 (d d' : PSt → Res RV) : RV → PSt → Res RV := fun r τ1 => match content r τ1 with
  | some (.bl true) => d' τ1
  | some (.bl false) => .ok (.fz (.bl false)) τ1
  | _ => .no
@[simp] theorem e_dAndV_k1 (d d' : PSt → Res RV) (r : RV) (τ1 : PSt) : dAndV_k1 d d' r τ1 = (match content r τ1 with
  | some (.bl true) => d' τ1
  | some (.bl false) => .ok (.fz (.bl false)) τ1
  | _ => .no) := rfl
@[simp] theorem e_dAndV (d d' : PSt → Res RV) (τ : PSt) : dAndV d d' τ = ((d τ).bind (dAndV_k1 d d')) := rfl
noncomputable def dOrV_k1 (d d' : PSt → Res RV) : RV → PSt → Res RV := fun r τ1 => match content r τ1 with
  | some (.bl true) => .ok (.fz (.bl true)) τ1
  | some (.bl false) => d' τ1
  | _ => .no
@[simp] theorem e_dOrV_k1 (d d' : PSt → Res RV) (r : RV) (τ1 : PSt) : dOrV_k1 d d' r τ1 = (match content r τ1 with
  | some (.bl true) => .ok (.fz (.bl true)) τ1
  | some (.bl false) => d' τ1
  | _ => .no) := rfl
@[simp] theorem e_dOrV (d d' : PSt → Res RV) (τ : PSt) : dOrV d d' τ = ((d τ).bind (dOrV_k1 d d')) := rfl
noncomputable def dIf_k1 (c : PSt → Res Bool) (d d' : PSt → Res RV) : Bool → PSt → Res RV := fun b τ1 => if b then d τ1 else d' τ1
@[simp] theorem e_dIf_k1 (c : PSt → Res Bool) (d d' : PSt → Res RV) (b : Bool) (τ1 : PSt) : dIf_k1 c d d' b τ1 = (if b then d τ1 else d' τ1) := rfl
@[simp] theorem e_dIf (c : PSt → Res Bool) (d d' : PSt → Res RV) (τ : PSt) : dIf c d d' τ = ((c τ).bind (dIf_k1 c d d')) := rfl
noncomputable def dChain_k2 (g g' : PV → PV → Option GV) (da db dc : PSt → Res RV) (r1 : RV) : RV → PSt → Res RV := fun r2 τ2 => match c2 g (content r1 τ2) (content r2 τ2) with
  | some (.old (.bl true)) => (dc τ2).bind fun r3 τ3 => gout (c2 g' (content r2 τ3) (content r3 τ3)) τ3
  | some (.old (.bl false)) => .ok (.fz (.bl false)) τ2
  | _ => .no
@[simp] theorem e_dChain_k2 (g g' : PV → PV → Option GV) (da db dc : PSt → Res RV) (r1 : RV) (r2 : RV) (τ2 : PSt) : dChain_k2 g g' da db dc r1 r2 τ2 = (match c2 g (content r1 τ2) (content r2 τ2) with
  | some (.old (.bl true)) => (dc τ2).bind fun r3 τ3 => gout (c2 g' (content r2 τ3) (content r3 τ3)) τ3
  | some (.old (.bl false)) => .ok (.fz (.bl false)) τ2
  | _ => .no) := rfl
noncomputable def dChain_k1 (g g' : PV → PV → Option GV) (da db dc : PSt → Res RV) : RV → PSt → Res RV := fun r1 τ1 => (db τ1).bind (dChain_k2 g g' da db dc r1)
@[simp] theorem e_dChain_k1 (g g' : PV → PV → Option GV) (da db dc : PSt → Res RV) (r1 : RV) (τ1 : PSt) : dChain_k1 g g' da db dc r1 τ1 = ((db τ1).bind (dChain_k2 g g' da db dc r1)) := rfl
@[simp] theorem e_dChain (g g' : PV → PV → Option GV) (da db dc : PSt → Res RV) (τ : PSt) : dChain g g' da db dc τ = ((da τ).bind (dChain_k1 g g' da db dc)) := rfl
@[simp] theorem e_dNext (τ : PSt) : dNext  τ = (.nx τ) := rfl
@[simp] theorem e_dAsg (i : Nat) (d : PSt → Res RV) (τ : PSt) : dAsg i d τ = ((d τ).bindS (putRV i)) := rfl
noncomputable def dAsgF_k1 (i : Nat) (d : PSt → Res RV) : RV → PSt → SRes := fun r τ1 => match leak r τ1 with
    | some (p, τ') => .nx (τ'.set i (.fz p))
    | none => .no
@[simp] theorem e_dAsgF_k1 (i : Nat) (d : PSt → Res RV) (r : RV) (τ1 : PSt) : dAsgF_k1 i d r τ1 = (match leak r τ1 with
    | some (p, τ') => .nx (τ'.set i (.fz p))
    | none => .no) := rfl
@[simp] theorem e_dAsgF (i : Nat) (d : PSt → Res RV) (τ : PSt) : dAsgF i d τ = ((d τ).bindS (dAsgF_k1 i d)) := rfl
@[simp] theorem e_gN (i : Nat) (p : PV) (τ : PSt) : gN i p τ = (some (τ.set i (.fz p))) := rfl
@[simp] theorem e_gT (g : List PV → PSt → Option PSt) (p : PV) (τ : PSt) : gT g p τ = (match p with
  | .tup ps => g ps τ
  | .lst ps => g ps τ
  | _ => none) := rfl
@[simp] theorem e_gL0 (ps : List PV) (τ : PSt) : gL0  ps τ = (match ps with
  | [] => some τ
  | _ => none) := rfl
@[simp] theorem e_gLc (g : PV → PSt → Option PSt) (gs : List PV → PSt → Option PSt) (ps : List PV) (τ : PSt) : gLc g gs ps τ = (match ps with
  | p :: ps => (g p τ).bind (gs ps)
  | [] => none) := rfl
noncomputable def dAsgG_k1 (g : PV → PSt → Option PSt) (d : PSt → Res RV) : RV → PSt → SRes := fun r τ1 => match leak r τ1 with
  | some (p, τ2) => match g p τ2 with
    | some τ3 => .nx τ3
    | none => .no
  | none => .no
@[simp] theorem e_dAsgG_k1 (g : PV → PSt → Option PSt) (d : PSt → Res RV) (r : RV) (τ1 : PSt) : dAsgG_k1 g d r τ1 = (match leak r τ1 with
  | some (p, τ2) => match g p τ2 with
    | some τ3 => .nx τ3
    | none => .no
  | none => .no) := rfl
@[simp] theorem e_dAsgG (g : PV → PSt → Option PSt) (d : PSt → Res RV) (τ : PSt) : dAsgG g d τ = ((d τ).bindS (dAsgG_k1 g d)) := rfl
noncomputable def dPar_k1 (i j : Nat) (da : PSt → Res (List RV)) : List RV → PSt → SRes := fun rs τ1 => match leakAll rs τ1 with
  | some ([p, q], τ2) => .nx ((τ2.set i (.fz p)).set j (.fz q))
  | _ => .no
@[simp] theorem e_dPar_k1 (i j : Nat) (da : PSt → Res (List RV)) (rs : List RV) (τ1 : PSt) : dPar_k1 i j da rs τ1 = (match leakAll rs τ1 with
  | some ([p, q], τ2) => .nx ((τ2.set i (.fz p)).set j (.fz q))
  | _ => .no) := rfl
@[simp] theorem e_dPar (i j : Nat) (da : PSt → Res (List RV)) (τ : PSt) : dPar i j da τ = ((da τ).bindS (dPar_k1 i j da)) := rfl
noncomputable def dIfS_k1 (c : PSt → Res Bool) (d d' : PSt → SRes) : Bool → PSt → SRes := fun b τ1 => if b then d τ1 else d' τ1
@[simp] theorem e_dIfS_k1 (c : PSt → Res Bool) (d d' : PSt → SRes) (b : Bool) (τ1 : PSt) : dIfS_k1 c d d' b τ1 = (if b then d τ1 else d' τ1) := rfl
@[simp] theorem e_dIfS (c : PSt → Res Bool) (d d' : PSt → SRes) (τ : PSt) : dIfS c d d' τ = ((c τ).bindS (dIfS_k1 c d d')) := rfl
@[simp] theorem e_dRet (ms : List Nat) (d : PSt → Res RV) (τ : PSt) : dRet ms d τ = ((d τ).bindS (retRV ms)) := rfl
noncomputable def dExp_k1 (d : PSt → Res RV) : RV → PSt → SRes := fun r_ τ1 => .nx τ1
@[simp] theorem e_dExp_k1 (d : PSt → Res RV) (r_ : RV) (τ1 : PSt) : dExp_k1 d r_ τ1 = (.nx τ1) := rfl
@[simp] theorem e_dExp (d : PSt → Res RV) (τ : PSt) : dExp d τ = ((d τ).bindS (dExp_k1 d)) := rfl
@[simp] theorem e_turnF (g : PV → PSt → Option PSt) (d : PSt → SRes) (p : PV) (τ : PSt) : turnF g d p τ = (match g p τ with
  | some τ' => d τ'
  | none => .no) := rfl
noncomputable def dFor_k1 (di : PSt → Res (List PV)) (g : PV → PSt → Option PSt) (d : PSt → SRes) : List PV → PSt → SRes := fun items τ1 => loopF (turnF g d) items τ1
@[simp] theorem e_dFor_k1 (di : PSt → Res (List PV)) (g : PV → PSt → Option PSt) (d : PSt → SRes) (items : List PV) (τ1 : PSt) : dFor_k1 di g d items τ1 = (loopF (turnF g d) items τ1) := rfl
@[simp] theorem e_dFor (di : PSt → Res (List PV)) (g : PV → PSt → Option PSt) (d : PSt → SRes) (τ : PSt) : dFor di g d τ = ((di τ).bindS (dFor_k1 di g d)) := rfl
noncomputable def dCall_k1 (sem : List SV → Res SV) (da : PSt → Res (List RV)) : List RV → PSt → Res RV := fun rs τ1 => match leakAll rs τ1 with
  | some (ps, τ2) => callOut (sem (ps.map .fz)) τ2
  | none => .no
@[simp] theorem e_dCall_k1 (sem : List SV → Res SV) (da : PSt → Res (List RV)) (rs : List RV) (τ1 : PSt) : dCall_k1 sem da rs τ1 = (match leakAll rs τ1 with
  | some (ps, τ2) => callOut (sem (ps.map .fz)) τ2
  | none => .no) := rfl
@[simp] theorem e_dCall (sem : List SV → Res SV) (da : PSt → Res (List RV)) (τ : PSt) : dCall sem da τ = ((da τ).bind (dCall_k1 sem da)) := rfl
noncomputable def dCallM_k1 (m : Nat) (sem : List SV → Res SV) (da : PSt → Res (List RV)) : List RV → PSt → Res RV := fun rs τ1 => match rs[m]? with
  | some (.at i) => (match leakBut m rs τ1 with
    | some (ss, τ2) => (match τ2[i]? with
      | some (.ow p) => callOut1 m i (sem (ss.set m (.ow p))) τ2
      | _ => .no)
    | none => .no)
  | _ => .no
@[simp] theorem e_dCallM_k1 (m : Nat) (sem : List SV → Res SV) (da : PSt → Res (List RV)) (rs : List RV) (τ1 : PSt) : dCallM_k1 m sem da rs τ1 = (match rs[m]? with
  | some (.at i) => (match leakBut m rs τ1 with
    | some (ss, τ2) => (match τ2[i]? with
      | some (.ow p) => callOut1 m i (sem (ss.set m (.ow p))) τ2
      | _ => .no)
    | none => .no)
  | _ => .no) := rfl
@[simp] theorem e_dCallM (m : Nat) (sem : List SV → Res SV) (da : PSt → Res (List RV)) (τ : PSt) : dCallM m sem da τ = ((da τ).bind (dCallM_k1 m sem da)) := rfl
noncomputable def dItA_k1 (d : PSt → Res RV) : RV → PSt → Res (List PV) := fun r τ1 => match leak r τ1 with
  | some (.lst ps, τ2) => .ok ps τ2
  | some (.tup ps, τ2) => .ok ps τ2
  | some (.str l, τ2) => .ok (l.map fun c => .str [c]) τ2
  | some (.scr ns, τ2) => .ok (ns.map .int) τ2
  | _ => .no
@[simp] theorem e_dItA_k1 (d : PSt → Res RV) (r : RV) (τ1 : PSt) : dItA_k1 d r τ1 = (match leak r τ1 with
  | some (.lst ps, τ2) => .ok ps τ2
  | some (.tup ps, τ2) => .ok ps τ2
  | some (.str l, τ2) => .ok (l.map fun c => .str [c]) τ2
  | some (.scr ns, τ2) => .ok (ns.map .int) τ2
  | _ => .no) := rfl
@[simp] theorem e_dItA (d : PSt → Res RV) (τ : PSt) : dItA d τ = ((d τ).bind (dItA_k1 d)) := rfl
noncomputable def dRng1_k1 (da : PSt → Res (List RV)) : List RV → PSt → Res (List PV) := fun rs τ1 => match contents rs τ1 with
  | some [.int n] => if In62 n then .ok (rngP 0 n) τ1 else .no
  | _ => .no
@[simp] theorem e_dRng1_k1 (da : PSt → Res (List RV)) (rs : List RV) (τ1 : PSt) : dRng1_k1 da rs τ1 = (match contents rs τ1 with
  | some [.int n] => if In62 n then .ok (rngP 0 n) τ1 else .no
  | _ => .no) := rfl
@[simp] theorem e_dRng1 (da : PSt → Res (List RV)) (τ : PSt) : dRng1 da τ = ((da τ).bind (dRng1_k1 da)) := rfl
noncomputable def dRng2_k1 (da : PSt → Res (List RV)) : List RV → PSt → Res (List PV) := fun rs τ1 => match contents rs τ1 with
  | some [.int i, .int j] => if In62 i ∧ In62 j then .ok (rngP i j) τ1 else .no
  | _ => .no
@[simp] theorem e_dRng2_k1 (da : PSt → Res (List RV)) (rs : List RV) (τ1 : PSt) : dRng2_k1 da rs τ1 = (match contents rs τ1 with
  | some [.int i, .int j] => if In62 i ∧ In62 j then .ok (rngP i j) τ1 else .no
  | _ => .no) := rfl
@[simp] theorem e_dRng2 (da : PSt → Res (List RV)) (τ : PSt) : dRng2 da τ = ((da τ).bind (dRng2_k1 da)) := rfl
noncomputable def dEnum_k1 (da : PSt → Res (List RV)) : List RV → PSt → Res (List PV) := fun rs τ1 => match leakAll rs τ1 with
  | some ([.lst ps], τ2) => .ok (enumP 0 ps) τ2
  | _ => .no
@[simp] theorem e_dEnum_k1 (da : PSt → Res (List RV)) (rs : List RV) (τ1 : PSt) : dEnum_k1 da rs τ1 = (match leakAll rs τ1 with
  | some ([.lst ps], τ2) => .ok (enumP 0 ps) τ2
  | _ => .no) := rfl
@[simp] theorem e_dEnum (da : PSt → Res (List RV)) (τ : PSt) : dEnum da τ = ((da τ).bind (dEnum_k1 da)) := rfl
noncomputable def dZip_k1 (da : PSt → Res (List RV)) : List RV → PSt → Res (List PV) := fun rs τ1 => match leakAll rs τ1 with
  | some ([.lst ps, .lst qs], τ2) => .ok (zipP ps qs) τ2
  | _ => .no
@[simp] theorem e_dZip_k1 (da : PSt → Res (List RV)) (rs : List RV) (τ1 : PSt) : dZip_k1 da rs τ1 = (match leakAll rs τ1 with
  | some ([.lst ps, .lst qs], τ2) => .ok (zipP ps qs) τ2
  | _ => .no) := rfl
@[simp] theorem e_dZip (da : PSt → Res (List RV)) (τ : PSt) : dZip da τ = ((da τ).bind (dZip_k1 da)) := rfl
noncomputable def dLc_k1 (vs : List Nat) (di : PSt → Res (List PV)) (g : PV → PSt → Option PSt) (dt : PSt → Res Bool) (de : PSt → Res RV) : List PV → PSt → Res RV := fun items τ1 => (lcF vs g dt de items [] (fgt vs τ1)).bind fun ps τ2 => .ok (.nw (.lst ps)) τ2
@[simp] theorem e_dLc_k1 (vs : List Nat) (di : PSt → Res (List PV)) (g : PV → PSt → Option PSt) (dt : PSt → Res Bool) (de : PSt → Res RV) (items : List PV) (τ1 : PSt) : dLc_k1 vs di g dt de items τ1 = ((lcF vs g dt de items [] (fgt vs τ1)).bind fun ps τ2 => .ok (.nw (.lst ps)) τ2) := rfl
@[simp] theorem e_dLc (vs : List Nat) (di : PSt → Res (List PV)) (g : PV → PSt → Option PSt) (dt : PSt → Res Bool) (de : PSt → Res RV) (τ : PSt) : dLc vs di g dt de τ = ((di τ).bind (dLc_k1 vs di g dt de)) := rfl
@[simp] theorem e_dYes (τ : PSt) : dYes  τ = (.ok true τ) := rfl
@[simp] theorem e_dMut (i : Nat) (g : List PV → List PV → Option (List PV × PV)) (da : PSt → Res (List RV)) (τ : PSt) : dMut i g da τ = (match τ[i]? with
  | some (.ow (.lst _)) => (da τ).bind fun rs τ1 => (match leakAll rs τ1 with
    | some (ps, τ2) => (match τ2[i]? with
      | some (.ow (.lst xs)) => (match g xs ps with
        | some (xs', z) => .ok (.fz z) (τ2.set i (.ow (.lst xs')))
        | none => .no)
      | _ => .no)
    | none => .no)
  | _ => .no) := rfl
noncomputable def dSetIx_k1 (i : Nat) (di dv : PSt → Res RV) : RV → PSt → SRes := fun r τ1 => match leak r τ1 with
  | some (p, τ2) => (match τ2[i]? with
    | some (.ow _) => (di τ2).bindS fun k τ3 => (match content k τ3, τ3[i]? with
      | some (.int n), some (.ow (.lst xs)) => (match ixN xs.length n with
        | some j => .nx (τ3.set i (.ow (.lst (xs.set j p))))
        | none => .no)
      | _, _ => .no)
    | _ => .no)
  | none => .no
@[simp] theorem e_dSetIx_k1 (i : Nat) (di dv : PSt → Res RV) (r : RV) (τ1 : PSt) : dSetIx_k1 i di dv r τ1 = (match leak r τ1 with
  | some (p, τ2) => (match τ2[i]? with
    | some (.ow _) => (di τ2).bindS fun k τ3 => (match content k τ3, τ3[i]? with
      | some (.int n), some (.ow (.lst xs)) => (match ixN xs.length n with
        | some j => .nx (τ3.set i (.ow (.lst (xs.set j p))))
        | none => .no)
      | _, _ => .no)
    | _ => .no)
  | none => .no) := rfl
@[simp] theorem e_dSetIx (i : Nat) (di dv : PSt → Res RV) (τ : PSt) : dSetIx i di dv τ = ((dv τ).bindS (dSetIx_k1 i di dv)) := rfl
@[simp] theorem e_dNoPart (τ : PSt) : dNoPart  τ = (.ok none τ) := rfl
@[simp] theorem e_dDictK (τ : PSt) : dDictK  τ = (.ok (.nw (.dic false [])) τ) := rfl
@[simp] theorem e_dDictT (τ : PSt) : dDictT  τ = (.ok (.nw (.dic true [])) τ) := rfl
noncomputable def dAsg2_k1 (g1 g2 : PV → PSt → Option PSt) (d : PSt → Res RV) : RV → PSt → SRes := fun r τ1 => match leak r τ1 with
  | some (p, τ2) => (match (g1 p τ2).bind (g2 p) with
    | some τ3 => .nx τ3
    | none => .no)
  | none => .no
@[simp] theorem e_dAsg2_k1 (g1 g2 : PV → PSt → Option PSt) (d : PSt → Res RV) (r : RV) (τ1 : PSt) : dAsg2_k1 g1 g2 d r τ1 = (match leak r τ1 with
  | some (p, τ2) => (match (g1 p τ2).bind (g2 p) with
    | some τ3 => .nx τ3
    | none => .no)
  | none => .no) := rfl
@[simp] theorem e_dAsg2 (g1 g2 : PV → PSt → Option PSt) (d : PSt → Res RV) (τ : PSt) : dAsg2 g1 g2 d τ = ((d τ).bindS (dAsg2_k1 g1 g2 d)) := rfl
noncomputable def dPut_k1 (i : Nat) (dk dv : PSt → Res RV) : RV → PSt → SRes := fun r τ1 => match leak r τ1 with
  | some (p, τ2) => (match τ2[i]? with
    | some (.ow _) => (dk τ2).bindS fun kr τ3 => (match leak kr τ3 with
      | some (q, τ4) => (match τ4[i]? with
        | some (.ow (.dic t kvs)) => (match pk? t q with
          | some k => if kvs.length < sizeLine then .nx (τ4.set i (.ow (.dic t (putP kvs k p)))) else .no
          | none => .no)
        | _ => .no)
      | none => .no)
    | _ => .no)
  | none => .no
@[simp] theorem e_dPut_k1 (i : Nat) (dk dv : PSt → Res RV) (r : RV) (τ1 : PSt) : dPut_k1 i dk dv r τ1 = (match leak r τ1 with
  | some (p, τ2) => (match τ2[i]? with
    | some (.ow _) => (dk τ2).bindS fun kr τ3 => (match leak kr τ3 with
      | some (q, τ4) => (match τ4[i]? with
        | some (.ow (.dic t kvs)) => (match pk? t q with
          | some k => if kvs.length < sizeLine then .nx (τ4.set i (.ow (.dic t (putP kvs k p)))) else .no
          | none => .no)
        | _ => .no)
      | none => .no)
    | _ => .no)
  | none => .no) := rfl
@[simp] theorem e_dPut (i : Nat) (dk dv : PSt → Res RV) (τ : PSt) : dPut i dk dv τ = ((dv τ).bindS (dPut_k1 i dk dv)) := rfl
end VL

/-! VL12: tools for the pure laws. -/
namespace VL
open PySem PySem.Spec L2

/-- a statement's end: on, or the next turn -/
def Nx (r : SRes) (P : PSt → Prop) : Prop := match r with
  | .nx τ => P τ
  | .ct τ => P τ
  | _ => False
@[simp] theorem Nx_nx {τ : PSt} {P : PSt → Prop} : Nx (.nx τ) P = P τ := rfl
@[simp] theorem Nx_ct {τ : PSt} {P : PSt → Prop} : Nx (.ct τ) P = P τ := rfl
theorem loop_inv {step : PV → PSt → SRes} (I : Nat → PSt → Prop) : ∀ (items : List PV) (k : Nat) (τ : PSt), (∀ i p τ, items[i]? = some p → I (k + i) τ → Nx (step p τ) (I (k + i + 1))) → I k τ → ∃ τ', loopF step items τ = .nx τ' ∧ I (k + items.length) τ'
  | [], k, τ, _, h0 => ⟨τ, rfl, h0⟩
  | p :: ps, k, τ, h, h0 => by
    have h1 := h 0 p τ rfl h0
    have go : ∀ τ1, I (k + 1) τ1 → ∃ τ', loopF step ps τ1 = .nx τ' ∧ I (k + (p :: ps).length) τ' := fun τ1 q => by
      obtain ⟨τ', e, q'⟩ := loop_inv I ps (k + 1) τ1 (fun i q τ hq hI => by
        have := h (i + 1) q τ (by simpa using hq) (by rw [show k + (i + 1) = k + 1 + i by omega]; exact hI)
        rw [show k + (i + 1) + 1 = k + 1 + i + 1 by omega] at this
        exact this) q
      exact ⟨τ', e, by rw [List.length_cons, show k + (ps.length + 1) = k + 1 + ps.length by omega]; exact q'⟩
    unfold loopF
    cases e : step p τ with
    | nx τ1 => rw [e] at h1; exact go τ1 h1
    | ct τ1 => rw [e] at h1; exact go τ1 h1
    | bk τ1 => rw [e] at h1; exact h1.elim
    | rt r τ1 => rw [e] at h1; exact h1.elim
    | er x τ1 => rw [e] at h1; exact h1.elim
    | no => rw [e] at h1; exact h1.elim
/-- the same, from the first item on; J hides the invariant from simp -/
theorem loop_on {step : PV → PSt → SRes} (I : Nat → PSt → Prop) {items : List PV} {τ : PSt} (h0 : I 0 τ) (h : ∀ (J : Nat → PSt → Prop), (∀ k τ, I k τ → J k τ) → ∀ i p τ, items[i]? = some p → I i τ → Nx (step p τ) (J (i + 1))) : ∃ τ', loopF step items τ = .nx τ' ∧ I items.length τ' := by
  have := loop_inv I items 0 τ (fun i p τ hp hI => by simpa using h I (fun _ _ z => z) i p τ hp (by simpa using hI)) h0
  simpa using this

@[simp] theorem nat1_ne (n : Nat) : ((n : Int) + 1 = 0) = False := eq_false (by omega)
@[simp] theorem mask_s (ms : List Nat) (k : Nat) (τ : PSt) : mask ms (k + 1) τ = mask ms k τ ++ [if k ∈ ms then τ.getD k .un else .un] := by unfold mask; rw [List.range_succ, List.map_append]; rfl
@[simp] theorem mask_0 (ms : List Nat) (τ : PSt) : mask ms 0 τ = [] := rfl
@[simp] theorem mask_1 (ms : List Nat) (τ : PSt) : mask ms 1 τ = [if 0 ∈ ms then τ.getD 0 .un else .un] := mask_s ms 0 τ
@[simp] theorem mask_2 (ms : List Nat) (τ : PSt) : mask ms 2 τ = [if 0 ∈ ms then τ.getD 0 .un else .un, if 1 ∈ ms then τ.getD 1 .un else .un] := by rw [mask_s, mask_1]; rfl
@[simp] theorem mask_3 (ms : List Nat) (τ : PSt) : mask ms 3 τ = [if 0 ∈ ms then τ.getD 0 .un else .un, if 1 ∈ ms then τ.getD 1 .un else .un, if 2 ∈ ms then τ.getD 2 .un else .un] := by rw [mask_s, mask_2]; rfl
@[simp] theorem mask_4 (ms : List Nat) (τ : PSt) : mask ms 4 τ = [if 0 ∈ ms then τ.getD 0 .un else .un, if 1 ∈ ms then τ.getD 1 .un else .un, if 2 ∈ ms then τ.getD 2 .un else .un, if 3 ∈ ms then τ.getD 3 .un else .un] := by rw [mask_s, mask_3]; rfl
@[simp] theorem mask_5 (ms : List Nat) (τ : PSt) : mask ms 5 τ = [if 0 ∈ ms then τ.getD 0 .un else .un, if 1 ∈ ms then τ.getD 1 .un else .un, if 2 ∈ ms then τ.getD 2 .un else .un, if 3 ∈ ms then τ.getD 3 .un else .un, if 4 ∈ ms then τ.getD 4 .un else .un] := by rw [mask_s, mask_4]; rfl

/-! ### the feed of the laws -/
def pkV (feed : List Int) (m : Int) : Int := (feed.getLast?.getD 0) % m
def pkF (feed : List Int) : List Int := feed.dropLast
theorem pkV_lo (feed : List Int) {m : Int} (h : 0 < m) : 0 ≤ pkV feed m := Int.emod_nonneg _ (by omega)
theorem pkV_hi (feed : List Int) {m : Int} (h : 0 < m) : pkV feed m < m := Int.emod_lt_of_pos _ h
theorem rng_get {lo hi : Int} {i : Nat} {p : PV} (h : (rngP lo hi)[i]? = some p) : p = .int (lo + i) ∧ lo + i < hi := by
  unfold rngP at h
  rw [List.getElem?_map, Option.map_eq_some_iff] at h
  obtain ⟨j, hj, rfl⟩ := h
  obtain ⟨h1, h2⟩ := List.getElem?_eq_some_iff.mp hj
  rw [List.getElem_range] at h2
  rw [List.length_range] at h1
  subst h2
  exact ⟨rfl, by omega⟩
/-- numbers of a feed -/
def Feed (l : List Int) : Prop := ∀ x ∈ l, 0 ≤ x ∧ x < 1000
theorem Feed.snoc {l : List Int} {x : Int} (h : Feed l) (h0 : 0 ≤ x) (h1 : x < 1000) : Feed (l ++ [x]) := fun y hy => by
  rcases List.mem_append.mp hy with z | z
  · exact h y z
  · rw [List.mem_singleton.mp z]; exact ⟨h0, h1⟩
theorem cdiv1000 (i : Int) : CDivW i 1000 := by constructor <;> decide
theorem cdiv1009 (i : Int) : CDivW i 1009 := by constructor <;> decide
theorem mul_l {i j : Int} (h : Builtin.Int.intBits i ≤ 64) : IntMulOk i j := IntMulOk.of_left h
theorem mul_r {i j : Int} (h : Builtin.Int.intBits j ≤ 64) : IntMulOk i j := IntMulOk.of_right h
@[simp] theorem In62_lit (n : Nat) : In62 (no_index (OfNat.ofNat n : Int)) ↔ n < 4611686018427387904 := by
  show In62 (n : Int) ↔ _
  unfold In62
  constructor
  · rintro ⟨_, h⟩; omega
  · intro h; constructor <;> omega
@[simp] theorem In62_0 : In62 0 := In62.of (by decide) (by decide)
@[simp] theorem In62_1 : In62 1 := In62.of (by decide) (by decide)
@[simp] theorem cpow18 : CPow 10 18 := by unfold CPow; decide
@[simp] theorem rng_len (lo hi : Int) : (rngP lo hi).length = (hi - lo).toNat := by simp [rngP]
theorem mapInt_get {ns : List Int} {i : Nat} {p : PV} (h : (ns.map PV.int)[i]? = some p) : ∃ n, ns[i]? = some n ∧ p = .int n := by
  rw [List.getElem?_map, Option.map_eq_some_iff] at h
  obtain ⟨n, h1, h2⟩ := h
  exact ⟨n, h1, h2.symm⟩
end VL

/-! VL13: deep equality of plain data; widths of ints. -/
namespace VL
open PySem PySem.Spec L2

theorem toDs_ints : ∀ ns : List Int, toDs (ns.map PV.int) = some (ns.map PyData.int)
  | [] => by simp [toDs]
  | n :: ns => by simp [toDs, toD, toDs_ints ns]
theorem can_ints : ∀ ns : List Int, PyData.canLayAll0 (ns.map PyData.int) = true
  | [] => rfl
  | n :: ns => by simp [PyData.canLayAll0, PyData.canLay0, can_ints ns]
theorem depth_ints : ∀ ns : List Int, PyData.depthAll (ns.map PyData.int) = 0
  | [] => rfl
  | n :: ns => by simp [PyData.depthAll, PyData.depth, depth_ints ns]
theorem eqDeep_self {p : PV} {d : PyData} (h : toD p = some d) (hs : SeqAt.shaped d = true) : eqDeep p p = some true := by
  unfold eqDeep
  rw [h]
  simp [hs, SeqAt.eqv_refl d (SeqAt.canLay_of_shaped hs)]
@[simp] theorem eqDeep_ints (ns : List Int) : eqDeep (.lst (ns.map PV.int)) (.lst (ns.map PV.int)) = some true := by
  refine eqDeep_self (d := .list (ns.map .int)) (by simp [toD, toDs_ints]) ?_
  simp [SeqAt.shaped, PyData.canLay0, PyData.depth, can_ints, depth_ints]

/-! ### isinstance -/
@[simp] theorem kit_NoneType_bool : kitB "NoneType" "bool" = some false := by decide +kernel
@[simp] theorem kit_NoneType_int : kitB "NoneType" "int" = some false := by decide +kernel
@[simp] theorem kit_NoneType_str : kitB "NoneType" "str" = some false := by decide +kernel
@[simp] theorem kit_NoneType_list : kitB "NoneType" "list" = some false := by decide +kernel
@[simp] theorem kit_NoneType_tuple : kitB "NoneType" "tuple" = some false := by decide +kernel
@[simp] theorem kit_NoneType_dict : kitB "NoneType" "dict" = some false := by decide +kernel
@[simp] theorem kit_bool_bool : kitB "bool" "bool" = some true := by decide +kernel
@[simp] theorem kit_bool_int : kitB "bool" "int" = some true := by decide +kernel
@[simp] theorem kit_bool_str : kitB "bool" "str" = some false := by decide +kernel
@[simp] theorem kit_bool_list : kitB "bool" "list" = some false := by decide +kernel
@[simp] theorem kit_bool_tuple : kitB "bool" "tuple" = some false := by decide +kernel
@[simp] theorem kit_bool_dict : kitB "bool" "dict" = some false := by decide +kernel
@[simp] theorem kit_int_bool : kitB "int" "bool" = some false := by decide +kernel
@[simp] theorem kit_int_int : kitB "int" "int" = some true := by decide +kernel
@[simp] theorem kit_int_str : kitB "int" "str" = some false := by decide +kernel
@[simp] theorem kit_int_list : kitB "int" "list" = some false := by decide +kernel
@[simp] theorem kit_int_tuple : kitB "int" "tuple" = some false := by decide +kernel
@[simp] theorem kit_int_dict : kitB "int" "dict" = some false := by decide +kernel
@[simp] theorem kit_str_bool : kitB "str" "bool" = some false := by decide +kernel
@[simp] theorem kit_str_int : kitB "str" "int" = some false := by decide +kernel
@[simp] theorem kit_str_str : kitB "str" "str" = some true := by decide +kernel
@[simp] theorem kit_str_list : kitB "str" "list" = some false := by decide +kernel
@[simp] theorem kit_str_tuple : kitB "str" "tuple" = some false := by decide +kernel
@[simp] theorem kit_str_dict : kitB "str" "dict" = some false := by decide +kernel
@[simp] theorem kit_list_bool : kitB "list" "bool" = some false := by decide +kernel
@[simp] theorem kit_list_int : kitB "list" "int" = some false := by decide +kernel
@[simp] theorem kit_list_str : kitB "list" "str" = some false := by decide +kernel
@[simp] theorem kit_list_list : kitB "list" "list" = some true := by decide +kernel
@[simp] theorem kit_list_tuple : kitB "list" "tuple" = some false := by decide +kernel
@[simp] theorem kit_list_dict : kitB "list" "dict" = some false := by decide +kernel
@[simp] theorem kit_tuple_bool : kitB "tuple" "bool" = some false := by decide +kernel
@[simp] theorem kit_tuple_int : kitB "tuple" "int" = some false := by decide +kernel
@[simp] theorem kit_tuple_str : kitB "tuple" "str" = some false := by decide +kernel
@[simp] theorem kit_tuple_list : kitB "tuple" "list" = some false := by decide +kernel
@[simp] theorem kit_tuple_tuple : kitB "tuple" "tuple" = some true := by decide +kernel
@[simp] theorem kit_tuple_dict : kitB "tuple" "dict" = some false := by decide +kernel
@[simp] theorem kit_dict_bool : kitB "dict" "bool" = some false := by decide +kernel
@[simp] theorem kit_dict_int : kitB "dict" "int" = some false := by decide +kernel
@[simp] theorem kit_dict_str : kitB "dict" "str" = some false := by decide +kernel
@[simp] theorem kit_dict_list : kitB "dict" "list" = some false := by decide +kernel
@[simp] theorem kit_dict_tuple : kitB "dict" "tuple" = some false := by decide +kernel
@[simp] theorem kit_dict_dict : kitB "dict" "dict" = some true := by decide +kernel
@[simp] theorem kitAny_0 (t : String) : kitAnyB t [] = some false := rfl
@[simp] theorem kitAny_s (t n : String) (ns : List String) : kitAnyB t (n :: ns) = (kitB t n).bind fun b => if b then some true else kitAnyB t ns := rfl

/-! ### widths -/
theorem bits_lt {i : Int} {k : Nat} (h : Builtin.Int.intBits i ≤ k) : i.natAbs < 2 ^ k := by
  unfold Builtin.Int.intBits at h
  split at h
  · rename_i z
    obtain rfl : i = 0 := by simpa using z
    exact Nat.pos_of_ne_zero (by simp)
  · rename_i z
    have z' : i.natAbs ≠ 0 := by simpa using z
    exact (Nat.log2_lt z').mp (by omega)
theorem bits_of_lt {i : Int} {k : Nat} (h : i.natAbs < 2 ^ k) : Builtin.Int.intBits i ≤ k := by
  unfold Builtin.Int.intBits
  split
  · exact Nat.zero_le _
  · rename_i z
    have z' : i.natAbs ≠ 0 := by simpa using z
    exact (Nat.log2_lt z').mpr h
theorem mul_ok {i j : Int} {a b : Nat} (ha : i.natAbs < 2 ^ a) (hb : j.natAbs < 2 ^ b) (h : a + b ≤ 134217728) : IntMulOk i j := by
  have h1 := bits_of_lt ha
  have h2 := bits_of_lt hb
  unfold IntMulOk
  intro z
  simp only [Bool.and_eq_true, decide_eq_true_eq] at z
  have z2 : ((Builtin.Int.intBits i + Builtin.Int.intBits j : Nat) : Int) > (bitsLine : Nat) := by
    have := z.2
    unfold Builtin.Int.intTooBig at this
    simpa using this
  have : bitsLine = 134217728 := by decide
  omega

/-! ### loops that look for a fault -/
theorem loop_good {step : PV → PSt → SRes} {τ : PSt} : ∀ {items : List PV}, (∀ p ∈ items, step p τ = .nx τ) → loopF step items τ = .nx τ
  | [], _ => rfl
  | p :: ps, h => by
    unfold loopF
    rw [h p (List.mem_cons_self ..)]
    exact loop_good fun q hq => h q (List.mem_cons_of_mem _ hq)
theorem loop_bad {step : PV → PSt → SRes} {τ : PSt} {r : SV} : ∀ {items : List PV}, (∀ p ∈ items, step p τ = .nx τ ∨ ∃ τ', step p τ = .rt r τ') → (∃ p ∈ items, step p τ ≠ .nx τ) → ∃ τ', loopF step items τ = .rt r τ'
  | [], _, ⟨_, h, _⟩ => nomatch h
  | p :: ps, h, hb => by
    unfold loopF
    rcases h p (List.mem_cons_self ..) with e | ⟨τ', e⟩
    · rw [e]
      refine loop_bad (fun q hq => h q (List.mem_cons_of_mem _ hq)) ?_
      obtain ⟨q, hq, hn⟩ := hb
      rcases List.mem_cons.mp hq with z | z
      · subst z; exact absurd e hn
      · exact ⟨q, z, hn⟩
    · rw [e]; exact ⟨τ', rfl⟩
@[simp] theorem sameC_fz (n : Nat) (a b : PV) : sameC n [.fz a, .fz b] = if flat n a = true ∧ flat n b = true then .ok (.fz (.bl (@decide (a = b) (Classical.propDecidable _)))) [.un, .un] else .no := rfl
theorem sameC_cases (n : Nat) (args : List SV) : sameC n args = .no ∨ ∃ a b, args = [.fz a, .fz b] ∧ flat n a = true ∧ flat n b = true := by
  unfold sameC
  split
  · rename_i a b
    by_cases h : flat n a = true ∧ flat n b = true
    · exact .inr ⟨a, b, rfl, h⟩
    · exact .inl (if_neg h)
  · exact .inl rfl
theorem mem_rng {lo hi : Int} {p : PV} (h : p ∈ rngP lo hi) : ∃ k : Nat, p = .int (lo + k) ∧ lo + k < hi := by
  obtain ⟨i, hi', e⟩ := List.mem_iff_getElem.mp h
  have := rng_get (i := i) (by rw [List.getElem?_eq_getElem hi', e])
  exact ⟨i, this⟩
end VL

/-! VL14: plain data: what repr and deep equality ask of it; comprehensions over typed lists. -/
namespace VL
open PySem PySem.Spec L2

mutual
/-- none, truths, ints below 10 ^ 12, texts; lists and tuples of such -/
def plainP : PV → Bool
  | .non => true
  | .bl _ => true
  | .int i => decide (i.natAbs < 1000000000000)
  | .str l => l.all fun c => decide (c < 1114112)
  | .lst ps => plainPs ps
  | .tup ps => plainPs ps
  | _ => false
def plainPs : List PV → Bool
  | [] => true
  | p :: ps => plainP p && plainPs ps
end
mutual
/-- signs and items -/
def bulk : PV → Nat
  | .str l => l.length
  | .lst ps => bulks ps
  | .tup ps => bulks ps
  | _ => 0
def bulks : List PV → Nat
  | [] => 0
  | p :: ps => bulk p + 1 + bulks ps
end
mutual
def deep : PV → Nat
  | .lst ps => deeps ps + 1
  | .tup ps => deeps ps + 1
  | _ => 0
def deeps : List PV → Nat
  | [] => 0
  | p :: ps => max (deep p) (deeps ps)
end
structure DatOk (d : PyData) (b n : Nat) : Prop where
  can : d.canLay0 = true
  show_ : d.showable = true
  nod : d.hasDict = false
  short : d.leavesShort 13 = true
  bulk : d.bulk = b
  deep : d.depth = n
structure DatsOk (ds : List PyData) (b n : Nat) : Prop where
  can : PyData.canLayAll0 ds = true
  show_ : PyData.showableAll ds = true
  nod : PyData.hasDictAll ds = false
  short : PyData.leavesShortAll 13 ds = true
  bulk : PyData.bulkAll ds = b
  deep : PyData.depthAll ds = n
mutual
theorem plain_dat : ∀ p : PV, plainP p = true → ∃ d, toD p = some d ∧ DatOk d (bulk p) (deep p)
  | .non, _ => ⟨.none, rfl, rfl, rfl, rfl, rfl, rfl, rfl⟩
  | .bl b, _ => ⟨.bool b, rfl, rfl, rfl, rfl, rfl, rfl, rfl⟩
  | .int i, h => by
    have h' : i.natAbs < 1000000000000 := by simpa [plainP] using h
    refine ⟨.int i, rfl, rfl, ?_, rfl, ?_, rfl, rfl⟩
    · simp only [PyData.showable, decide_eq_true_eq]
      by_cases z : i.natAbs = 0
      · rw [z]; decide
      · have : i.natAbs.log2 < 64 := (Nat.log2_lt z).mpr (by omega)
        omega
    · have := int_text_length_le10 (a := i) (k := 12) (by decide) (by omega)
      have e : (Str.ofString (toString i)).length = (toString i).length := ofString_length _
      have e2 : (PyData.shown (.int i)).length ≤ 13 := by
        show (Str.ofString (toString i)).length ≤ 13
        rw [e]; omega
      simpa [PyData.leavesShort] using e2
  | .str l, h => by
    have h' : ∀ c ∈ l, c < 1114112 := by simpa [plainP] using h
    refine ⟨.str (sl l), rfl, ?_, rfl, rfl, ?_, ?_, rfl⟩
    · simp only [PyData.canLay0, PyData.strOk, sl]
      simpa using h'
    · simp only [PyData.leavesShort, cps_sl, List.all_eq_true, decide_eq_true_eq]
      intro c hc; have := h' c hc; omega
    · simp [PyData.bulk, sl, bulk]
  | .lst ps, h => by
    obtain ⟨ds, e, k⟩ := plains_dat ps (by simpa [plainP] using h)
    refine ⟨.list ds, by simp [toD, e], k.can, k.show_, k.nod, k.short, ?_, ?_⟩
    · simp only [PyData.bulk, bulk]; exact k.bulk
    · simp only [PyData.depth, deep]; rw [k.deep]
  | .tup ps, h => by
    obtain ⟨ds, e, k⟩ := plains_dat ps (by simpa [plainP] using h)
    refine ⟨.tuple ds, by simp [toD, e], k.can, k.show_, k.nod, k.short, ?_, ?_⟩
    · simp only [PyData.bulk, bulk]; exact k.bulk
    · simp only [PyData.depth, deep]; rw [k.deep]
  | .dic _ _, h => by simp [plainP] at h
  | .obj _ _, h => by simp [plainP] at h
  | .fn _, h => by simp [plainP] at h
  | .scr _, h => by simp [plainP] at h
  | .ty _, h => by simp [plainP] at h
theorem plains_dat : ∀ ps : List PV, plainPs ps = true → ∃ ds, toDs ps = some ds ∧ DatsOk ds (bulks ps) (deeps ps)
  | [], _ => ⟨[], by simp [toDs], rfl, rfl, rfl, rfl, rfl, rfl⟩
  | p :: ps, h => by
    have h' : plainP p = true ∧ plainPs ps = true := by simpa [plainPs] using h
    obtain ⟨d, e1, k1⟩ := plain_dat p h'.1
    obtain ⟨ds, e2, k2⟩ := plains_dat ps h'.2
    refine ⟨d :: ds, by simp [toDs, e1, e2], ?_, ?_, ?_, ?_, ?_, ?_⟩
    · simp [PyData.canLayAll0, k1.can, k2.can]
    · simp [PyData.showableAll, k1.show_, k2.show_]
    · simp [PyData.hasDictAll, k1.nod, k2.nod]
    · simp [PyData.leavesShortAll, k1.short, k2.short]
    · simp [PyData.bulkAll, bulks, k1.bulk, k2.bulk]
    · simp [PyData.depthAll, deeps, k1.deep, k2.deep]
end
def isSeqP : PV → Bool
  | .lst _ => true
  | .tup _ => true
  | _ => false
/-- repr of plainP data -/
def shownP (p : PV) : List Nat := ((toD p).getD .none).shown.cps.toList
theorem repr_plain {p : PV} (h : plainP p = true) (hq : isSeqP p = true) (hb : bulk p ≤ 1048576) (hd : deep p ≤ 64) : gRepr [p] = some (.old (.str (shownP p))) := by
  obtain ⟨d, e, k⟩ := plain_dat p h
  have hs : isSeq d = true := by
    cases p <;> simp [isSeqP] at hq
    · obtain ⟨ds, _, rfl⟩ := Option.map_eq_some_iff.mp (by simpa [toD] using e); rfl
    · obtain ⟨ds, _, rfl⟩ := Option.map_eq_some_iff.mp (by simpa [toD] using e); rfl
  have hz : d.shown.length ≤ sizeLine := PyData.shown_fits_bulk (B := 13) (by decide) (by decide) k.short (by rw [k.bulk]; omega)
  unfold gRepr shownP
  rw [e, Option.getD_some]
  show (Option.bind (toD p) _) = _
  rw [e, Option.bind_some]
  rw [if_pos ⟨hs, k.show_, k.nod, by rw [k.deep]; omega, hz⟩]
theorem eq_plain {p : PV} (h : plainP p = true) (hd : deep p ≤ 64) : eqDeep p p = some true := by
  obtain ⟨d, e, k⟩ := plain_dat p h
  exact eqDeep_self e (by unfold SeqAt.shaped; rw [k.can, k.deep]; simpa using hd)

/-! ### comprehensions -/
def lcStep (vs : List Nat) (g : PV → PSt → Option PSt) (dt : PSt → Res Bool) (de : PSt → Res RV) (p : PV) (τ : PSt) : Res (Option PV) := match g p τ with
  | some τ' => (dt τ').bind fun b τ2 => if b then (de τ2).bind (fun r τ3 => match leak r τ3 with
      | some (q, τ4) => .ok (some q) (fgt vs τ4)
      | none => .no) else .ok none (fgt vs τ2)
  | none => .no
def lcLeak (vs : List Nat) (r : RV) (τ3 : PSt) : Res (Option PV) := match leak r τ3 with
  | some (q, τ4) => .ok (some q) (fgt vs τ4)
  | none => .no
def lcElt (vs : List Nat) (de : PSt → Res RV) (b : Bool) (τ2 : PSt) : Res (Option PV) := if b then (de τ2).bind (lcLeak vs) else .ok none (fgt vs τ2)
def lcGo (vs : List Nat) (dt : PSt → Res Bool) (de : PSt → Res RV) (o : Option PSt) : Res (Option PV) := match o with
  | some τ' => (dt τ').bind (lcElt vs de)
  | none => .no
@[simp] theorem e_lcStep (vs g dt de) (p : PV) (τ : PSt) : lcStep vs g dt de p τ = lcGo vs dt de (g p τ) := rfl
@[simp] theorem e_lcGo (vs dt de) (τ' : PSt) : lcGo vs dt de (some τ') = (dt τ').bind (lcElt vs de) := rfl
@[simp] theorem e_lcElt1 (vs de) (τ2 : PSt) : lcElt vs de true τ2 = (de τ2).bind (lcLeak vs) := rfl
@[simp] theorem e_lcElt0 (vs de) (τ2 : PSt) : lcElt vs de false τ2 = .ok none (fgt vs τ2) := rfl
@[simp] theorem e_lcElt (vs de) (c : Prop) [Decidable c] (τ2 : PSt) : lcElt vs de (decide c) τ2 = if c then (de τ2).bind (lcLeak vs) else .ok none (fgt vs τ2) := by
  unfold lcElt; by_cases h : c <;> simp [h]
@[simp] theorem e_lcLeak (vs) (r : RV) (τ : PSt) : lcLeak vs r τ = (match leak r τ with
  | some (q, τ4) => .ok (some q) (fgt vs τ4)
  | none => .no) := rfl
theorem lc_typed {α : Type} {vs : List Nat} {g : PV → PSt → Option PSt} {dt : PSt → Res Bool} {de : PSt → Res RV} {τ : PSt} (enc : α → PV) (f : α → Option PV) : ∀ (xs : List α) (acc : List PV), (∀ x ∈ xs, lcStep vs g dt de (enc x) τ = .ok (f x) τ) → acc.length + xs.length ≤ 16777216 →
    lcF vs g dt de (xs.map enc) acc τ = .ok (acc ++ xs.filterMap f) τ
  | [], acc, _, _ => by simp [lcF]
  | x :: xs, acc, h, hl => by
    have h1 := h x (List.mem_cons_self ..)
    have go : ∀ acc', acc'.length ≤ acc.length + 1 → lcF vs g dt de (xs.map enc) acc' τ = .ok (acc' ++ xs.filterMap f) τ := fun acc' ha => lc_typed enc f xs acc' (fun y hy => h y (List.mem_cons_of_mem _ hy)) (by simp at hl; omega)
    rw [List.map_cons]
    unfold lcF
    unfold lcStep at h1
    cases e1 : g (enc x) τ with
    | none => rw [e1] at h1; cases h1
    | some τ' =>
      rw [e1] at h1
      simp only at h1 ⊢
      cases e2 : dt τ' with
      | er x t => rw [e2] at h1; cases h1
      | no => rw [e2] at h1; cases h1
      | ok b τ2 =>
        rw [e2] at h1
        cases b with
        | false =>
          have h2 : Res.ok none (fgt vs τ2) = Res.ok (f x) τ := h1
          cases e6 : f x with
          | some q => rw [e6] at h2; cases h2
          | none =>
            rw [e6] at h2
            injection h2 with _ h3
            simp only [h3]
            rw [go acc (by omega)]
            simp [e6]
        | true =>
          have h2 : (de τ2).bind (fun r τ3 => match leak r τ3 with
            | some (q, τ4) => .ok (some q) (fgt vs τ4)
            | none => .no) = Res.ok (f x) τ := h1
          simp only
          cases e3 : de τ2 with
          | er x t => rw [e3] at h2; cases h2
          | no => rw [e3] at h2; cases h2
          | ok r τ3 =>
            rw [e3] at h2
            simp only [Res.ok_bind] at h2
            simp only
            cases e4 : leak r τ3 with
            | none => rw [e4] at h2; cases h2
            | some qt =>
              obtain ⟨q, τ4⟩ := qt
              rw [e4] at h2
              simp only at h2 ⊢
              injection h2 with h3 h4
              rw [if_pos (by simp at hl; show acc.length < 16777216; omega), h4, go _ (by simp)]
              simp [← h3]
/-- the same, every item taken -/
theorem lc_map {α β : Type} {vs : List Nat} {g : PV → PSt → Option PSt} {dt : PSt → Res Bool} {de : PSt → Res RV} {τ : PSt} (enc : α → PV) (encB : β → PV) (f : α → β) {xs : List α} (h : ∀ x ∈ xs, lcStep vs g dt de (enc x) τ = .ok (some (encB (f x))) τ) (hl : xs.length ≤ 16777216) :
    lcF vs g dt de (xs.map enc) [] τ = .ok ((xs.map f).map encB) τ := by
  rw [lc_typed enc (fun x => some (encB (f x))) xs [] h (by simpa using hl)]
  simp [List.filterMap_eq_map']
/-- the same, some items left out -/
theorem lc_filter {α β : Type} {vs : List Nat} {g : PV → PSt → Option PSt} {dt : PSt → Res Bool} {de : PSt → Res RV} {τ : PSt} (enc : α → PV) (encB : β → PV) (f : α → Option β) {xs : List α} (h : ∀ x ∈ xs, lcStep vs g dt de (enc x) τ = .ok ((f x).map encB) τ) (hl : xs.length ≤ 16777216) :
    lcF vs g dt de (xs.map enc) [] τ = .ok ((xs.filterMap f).map encB) τ := by
  rw [lc_typed enc (fun x => (f x).map encB) xs [] h (by simpa using hl)]
  simp [List.map_filterMap]
theorem enum_map {α : Type} (enc : α → PV) : ∀ (xs : List α) (k : Nat), enumP k (xs.map enc) = (xs.zipIdx k).map fun x => PV.tup [.int x.2, enc x.1]
  | [], _ => rfl
  | x :: xs, k => by
    rw [List.map_cons, enumP, List.zipIdx_cons, List.map_cons, enum_map enc xs (k + 1)]
/-- a comprehension over enumerate -/
theorem lc_enum {α β : Type} {vs : List Nat} {g : PV → PSt → Option PSt} {dt : PSt → Res Bool} {de : PSt → Res RV} {τ : PSt} (enc : α → PV) (encB : β → PV) (f : α → Nat → β) {xs : List α} (h : ∀ k x, xs[k]? = some x → lcStep vs g dt de (.tup [.int (k : Nat), enc x]) τ = .ok (some (encB (f x k))) τ) (hl : xs.length ≤ 16777216) :
    lcF vs g dt de (enumP 0 (xs.map enc)) [] τ = .ok ((xs.zipIdx.map fun x => f x.1 x.2).map encB) τ := by
  rw [enum_map]
  refine lc_map (fun x : α × Nat => PV.tup [.int x.2, enc x.1]) encB (fun x => f x.1 x.2) (fun x hx => h x.2 x.1 ?_) (by simpa using hl)
  have := List.mem_zipIdx_iff_getElem?.mp hx
  simpa using this
theorem sum_zipIdx {α : Type} (f : α → Int) (g : Nat → Int) : ∀ (xs : List α) (k : Nat), ((xs.zipIdx k).map fun x => f x.1 + g x.2).sum = (xs.map f).sum + ((List.range' k xs.length).map g).sum
  | [], _ => rfl
  | x :: xs, k => by
    rw [List.zipIdx_cons, List.map_cons, List.sum_cons, sum_zipIdx f g xs (k + 1), List.map_cons, List.sum_cons, List.length_cons, List.range'_succ, List.map_cons, List.sum_cons]
    dsimp only
    omega
theorem range_getD : ∀ (l : List Int), (List.range' 0 l.length).map (fun k => l.getD k 0) = l := by
  intro l
  refine List.ext_getElem (by simp) fun k h1 h2 => ?_
  simp [List.getElem?_eq_getElem h2]
theorem sum_bounds : ∀ (ps : List Int) (B : Int), (∀ p ∈ ps, 0 ≤ p ∧ p ≤ B) → 0 ≤ ps.sum ∧ ps.sum ≤ ps.length * B
  | [], B, _ => by simp
  | p :: ps, B, h => by
    obtain ⟨h1, h2⟩ := sum_bounds ps B fun q hq => h q (List.mem_cons_of_mem _ hq)
    obtain ⟨h3, h4⟩ := h p (List.mem_cons_self ..)
    rw [List.sum_cons, List.length_cons, Int.natCast_succ, Int.add_mul]
    omega
end VL

/-! VL15: three targets; extend by a tuple. -/
namespace VL
open PySem PySem.Spec L2 PyProof.Rows
section
variable {X : Cx} {K : PySem.W.Frag} {W : WX} {ms : List Nat}
def dAsg3 (g1 g2 g3 : PV → PSt → Option PSt) (d : PSt → Res RV) : PSt → SRes := fun τ => (d τ).bindS fun r τ1 => match leak r τ1 with
  | some (p, τ2) => (match ((g1 p τ2).bind (g2 p)).bind (g3 p) with
    | some τ3 => .nx τ3
    | none => .no)
  | none => .no
theorem ms_asg3 {is1 is2 is3 : List Nat} {t1 t2 t3 e : Expr} {pos : Pos} (he : ME X K W ms e t d) (h1 : MG X K ms is1 t1 u1 g1) (h2 : MG X K ms is2 t2 u2 g2) (h3 : MG X K ms is3 t3 u3 g3) (ha : (assignEach [t1, t2, t3] X.env).map (·.2) = [assign t1 X.env, assign t2 X.env, assign t3 X.env] := by rfl) (hw : swappedStores [t1, t2, t3] e X.env = pure none := by rfl) :
    MS X K W ms (.Assign [t1, t2, t3] e pos) (tAsg3 t u1 u2 u3) (dAsg3 g1 g2 g3 d) := by
  refine ⟨he.hK, ps_asg3 he.pe h1.pe h2.pe h3.pe ha hw, ?_⟩
  intro C F τ σ H D hm R k
  refine he.sim C F τ σ H _ hm R ((SH.bind (σ := σ) k).imp (fun r τ1 k => ?_) fun _ _ x => x)
  intro v H1 F1 s1 ok
  obtain ⟨F1', s1', R1, rv⟩ := ok.froze
  split at k
  · rename_i p τ2 e
    obtain ⟨F2, s2, R2, rp⟩ := leak_ok R1 rv (by rw [leak_nf]; exact e)
    split at k
    · rename_i τ3 e3
      obtain ⟨τ5, e6, e7⟩ := Option.bind_eq_some_iff.mp e3
      obtain ⟨τ4, e4, e5⟩ := Option.bind_eq_some_iff.mp e6
      exact h1.sim C F2 τ2 σ H1 v p τ4 _ hm R2 rp e4 fun σ' _ R3 => h2.sim C F2 τ4 σ' H1 v p τ5 _ hm R3 rp e5 fun σ2 _ R4 => h3.sim C F2 τ5 σ2 H1 v p τ3 _ hm R4 rp e7 fun σ'' _ R5 => k _ _ F2 ((s1.trans s1').trans s2) R5
    · exact k.elim
  · exact k.elim
@[simp] theorem e_dAsg3 (g1 g2 g3 : PV → PSt → Option PSt) (d : PSt → Res RV) (τ : PSt) : dAsg3 g1 g2 g3 d τ = (d τ).bindS (fun r τ1 => match leak r τ1 with
  | some (p, τ2) => (match ((g1 p τ2).bind (g2 p)).bind (g3 p) with
    | some τ3 => .nx τ3
    | none => .no)
  | none => .no) := rfl
end

/-! ### extend by a tuple -/
theorem extend_tup (l : Addr) (items : Array Value) (n : Nat) (b : Addr) (dd : Option Addr) (sl : Array (Option Value)) (more : Array Value) (n2 : Nat) (short : ¬(!items.isEmpty && Builtin.List.listTooLong (items.size + more.size)) = true) (fit : items.size ≤ sizeLine) (fit2 : items.size + more.size ≤ sizeLine + 1) :
    Meets (Builtin.«list.extend» ⟨[.ref l, .ref b], []⟩) (fun _ R s => s.heap.get? l = some { cls := .type "list", dict := none, data := .seq items n, slots := #[] } ∧ s.heap.get? b = some { cls := .type "tuple", dict := dd, data := .seq more n2, slots := sl } ∧
      R (.ok (.ret Value.none)) { s with heap := s.heap.update l (Obj.mapSeq fun x => x ++ more), toks := s.toks }) :=
  .of_wp fun prog w A R s h => by
    obtain ⟨hp, g, d, tk, os⟩ := s
    obtain ⟨atL, atB, h⟩ := h
    have tt := sub_tuple_tuple
    have tl := sub_tuple_list
    have whole : (items ++ more).size ≤ sizeLine + 1 := by rw [Array.size_append]; exact fit2
    wp_walk using (wpAny_updateSeq atL rfl (hz := fit) (_hz' := whole)), wpAny_loadPart' atL, wpAny_loadPart' atB
    exact ⟨_, rfl, h⟩
section
variable {X : Cx} {K : PySem.W.Frag}
def rExtT (K : PySem.W.Frag) : V → List V → Hp → VK → Prop := fun x vs H Q => ∃ l b xs zs, x = .ref l ∧ vs = [.ref b] ∧ H l = some (.lst xs) ∧ SqT K H b zs ∧ xs.length + zs.length ≤ sizeLine ∧ Q .non (upd H l (.lst (xs ++ zs)))
theorem mt_extT : MtR X "list.extend" (rExtT X.K) := by
  rintro pins s σ H _ vs _ us Q I rx rv ⟨l, b, xs, zs, rfl, rfl, hH, hB, hz, q⟩
  cases rx
  obtain ⟨u, rfl, ru⟩ := rv.one
  cases ru
  obtain ⟨z, its, n, r, hl, e⟩ := I.lstM hH
  obtain ⟨its2, r2, pl, hz2⟩ := I.tuple hB
  have q2 := r2.length
  obtain ⟨⟨c2, dd, data, sl⟩, ho, hc, n2, hd⟩ := pl
  dsimp only at hc hd
  subst hc hd
  have size : its.toArray.size + its2.toArray.size ≤ sizeLine := by rw [List.size_toArray, List.size_toArray]; omega
  have short : ¬ (!its.toArray.isEmpty && Builtin.List.listTooLong (its.toArray.size + its2.toArray.size)) = true := by rw [notLongL size, Bool.and_false]; decide
  refine call_meets F.slot_list_extend ⟨_, e, rfl⟩ F.entry_list_extend (F.args_list_extend_2 _ _) (extend_tup l its.toArray n b dd sl its2.toArray n2 short (by rw [List.size_toArray]; omega) (by omega)) ⟨e, ho, ?_⟩
  exact ⟨.non, _, I.lset (its' := its ++ its2) hH e (by simp) (r.append r2) (by rw [List.length_append]; omega), rfl, q⟩
theorem mt_or {id : String} {r r' : V → List V → Hp → VK → Prop} (h : MtR X id r) (h' : MtR X id r') : MtR X id (fun x vs H Q => r x vs H Q ∨ r' x vs H Q) := by
  intro pins s σ H x vs v us Q I rx rv q
  rcases q with q | q
  · exact h pins s σ H x vs v us Q I rx rv q
  · exact h' pins s σ H x vs v us Q I rx rv q
theorem mt_extX (hK : X.K = K) : MtR X "list.extend" (fun x vs H Q => rExtend x vs H Q ∨ rExtT K x vs H Q) := by subst hK; exact mt_or mt_extend mt_extT
@[simp] def gExtX : List PV → List PV → Option (List PV × PV)
  | xs, [.lst ys] => if xs.length + ys.length ≤ sizeLine then some (xs ++ ys, .non) else none
  | xs, [.tup ys] => if xs.length + ys.length ≤ sizeLine then some (xs ++ ys, .non) else none
  | _, _ => none
theorem ok_extX : MutOk K (fun x vs H Q => rExtend x vs H Q ∨ rExtT K x vs H Q) gExtX := by
  intro F H a ws xs vs ps xs' z Q s h rx rv e k
  unfold gExtX at e
  split at e
  · split at e
    · rename_i hz
      cases e
      cases rv with
      | cons h1 r =>
        cases r
        cases h1 with
        | lst h2 r2 => exact .inl ⟨a, _, ws, _, rfl, rfl, h, s _ _ h2, by rw [rx.len, r2.len]; exact hz, k _ _ (rx.append r2) .non⟩
    · cases e
  · split at e
    · rename_i hz
      cases e
      cases rv with
      | cons h1 r =>
        cases r
        cases h1 with
        | tup h2 r2 => exact .inr ⟨a, _, ws, _, rfl, rfl, h, SqT.of (s _ _ h2), by rw [rx.len, r2.len]; exact hz, k _ _ (rx.append r2) .non⟩
    · cases e
  · cases e
end

/-! ### while -/
def whAgain (n : Nat) (c : PSt → Res Bool) (d : PSt → SRes) (r : SRes) : SRes := match r with
  | .nx τ2 => whileF n c d τ2
  | .ct τ2 => whileF n c d τ2
  | .bk τ2 => .nx τ2
  | r => r
def whTurn (n : Nat) (c : PSt → Res Bool) (d : PSt → SRes) (b : Bool) (τ1 : PSt) : SRes := if b then whAgain n c d (d τ1) else .nx τ1
theorem while_s (n : Nat) (c : PSt → Res Bool) (d : PSt → SRes) (τ : PSt) : whileF (n + 1) c d τ = (c τ).bindS (whTurn n c d) := rfl
@[simp] theorem whTurn_t (n : Nat) (c : PSt → Res Bool) (d : PSt → SRes) (τ1 : PSt) : whTurn n c d true τ1 = whAgain n c d (d τ1) := rfl
@[simp] theorem whTurn_f (n : Nat) (c : PSt → Res Bool) (d : PSt → SRes) (τ1 : PSt) : whTurn n c d false τ1 = .nx τ1 := rfl
@[simp] theorem whAgain_nx (n : Nat) (c : PSt → Res Bool) (d : PSt → SRes) (τ : PSt) : whAgain n c d (.nx τ) = whileF n c d τ := rfl
@[simp] theorem whAgain_ct (n : Nat) (c : PSt → Res Bool) (d : PSt → SRes) (τ : PSt) : whAgain n c d (.ct τ) = whileF n c d τ := rfl
@[simp] theorem whAgain_bk (n : Nat) (c : PSt → Res Bool) (d : PSt → SRes) (τ : PSt) : whAgain n c d (.bk τ) = .nx τ := rfl
@[simp] theorem whAgain_rt (n : Nat) (c : PSt → Res Bool) (d : PSt → SRes) (r : SV) (τ : PSt) : whAgain n c d (.rt r τ) = .rt r τ := rfl
theorem while_fuel {c : PSt → Res Bool} {d : PSt → SRes} {τ : PSt} {r : SRes} (h : whileF (999999 + 1) c d τ = r) : whileF FUEL c d τ = r := h
/-! ### slices by natural places -/
theorem cut_nat {α : Type} (xs : List α) (s a : Nat) : cutP xs (some (s : Int)) (some (a : Int)) = (xs.take a).drop s := by
  have e : ∀ (d k : Nat), HT.sIx xs.length d (some (k : Int)) = min k xs.length := fun d k => by
    unfold HT.sIx
    dsimp only
    split <;> omega
  unfold cutP
  rw [e, e, List.drop_take]
  by_cases h : xs.length ≤ s
  · rw [List.drop_eq_nil_of_le (show xs.length ≤ min s xs.length by omega), List.drop_eq_nil_of_le h]
    simp
  · rw [show min s xs.length = s by omega]
    by_cases h2 : xs.length ≤ a
    · rw [List.take_of_length_le (by rw [List.length_drop]; omega), List.take_of_length_le (by rw [List.length_drop]; omega)]
    · rw [show min a xs.length = a by omega]
theorem take_dropWhile {α : Type} (p : α → Bool) : ∀ (l : List α) (m : Nat), (l.take m).drop (l.takeWhile p).length = (l.take m).dropWhile p
  | [], m => by simp
  | x :: l, 0 => by simp
  | x :: l, m + 1 => by
    rw [List.take_succ_cons, List.takeWhile_cons, List.dropWhile_cons]
    cases p x with
    | false => simp
    | true => simpa using take_dropWhile p l m
theorem ixN_nat (n k : Nat) : ixN n (k : Int) = if k < n then some k else none := by
  unfold ixN
  rw [if_pos (Int.natCast_nonneg k)]
  by_cases h : k < n
  · rw [if_pos h, if_pos (by omega)]; rfl
  · rw [if_neg h, if_neg (by omega)]
@[simp] theorem ixN_cast (n k : Nat) : ixN n (k : Int) = if k < n then some k else none := ixN_nat n k
@[simp] theorem ixN_0 (n : Nat) : ixN n 0 = if 0 < n then some 0 else none := ixN_nat n 0
@[simp] theorem ixN_1 (n : Nat) : ixN n 1 = if 1 < n then some 1 else none := ixN_nat n 1
@[simp] theorem ixN_lit (n k : Nat) : ixN n (no_index (OfNat.ofNat k : Int)) = if (OfNat.ofNat k : Nat) < n then some (OfNat.ofNat k : Nat) else none := ixN_nat n k
@[simp] theorem atI_cast1 {α : Type} (xs : List α) (k : Nat) : atI xs ((k : Int) + 1) = xs[k + 1]? := atI_nat xs (k + 1)
@[simp] theorem ixN_cast1 (n k : Nat) : ixN n ((k : Int) + 1) = if k + 1 < n then some (k + 1) else none := ixN_nat n (k + 1)
end VL

/-! VL16: d.get, greatest and least of a list, sorted texts. -/
namespace VL
open PySem PySem.Spec L2 PyProof.Rows
section
variable {X : Cx} {K : PySem.W.Frag}
/-! ### d.get(k), d.get(k, x) -/
def isDicP : PV → Bool
  | .dic _ _ => true
  | _ => false
@[simp] theorem isDicP_dic (t : Bool) (kvs : List (PK × PV)) : isDicP (.dic t kvs) = true := rfl
/-- defaults that nobody owns -/
def flatP : PV → Bool
  | .non => true
  | .int _ => true
  | .bl _ => true
  | .str _ => true
  | _ => false
def gGetD : PV → List PV → Option GV
  | .dic t kvs, [q, z] => if flatP z then (pk? t q).map fun k => .old ((lookP kvs k).getD z) else none
  | _, _ => none
def dGetM (d : PSt → Res RV) (da : PSt → Res (List RV)) : PSt → Res RV := fun τ => (d τ).bind fun r τ1 =>
  if ((content r τ1).map isDicP) = some true then (da τ1).bind fun rs τ2 => gout ((content r τ2).bind fun p => (contents rs τ2).bind fun ps => gGetD p ps) τ2 else .no
theorem isD_of {F H : Hp} {x : V} {p : PV} (s : Sub F H) (h : RpW K F H x p) (e : isDicP p = true) : ∃ a, x = V.ref a ∧ IsD H a := by
  cases p <;> try cases e
  rename_i t kvs
  cases t with
  | false => obtain ⟨a, ks, rfl, h, _⟩ := h.dicK s; exact ⟨a, rfl, .inl ⟨_, h⟩⟩
  | true => obtain ⟨a, ks, rfl, h, _⟩ := h.dicT s; exact ⟨a, rfl, .inr ⟨_, h⟩⟩
theorem RpW.flat {F H : Hp} {x : V} {p : PV} (h : RpW K F H x p) (e : flatP p = true) : Rp K F x p := by
  rcases h with h | ⟨a, rfl, h⟩
  · exact h
  · cases p <;> first | exact h.elim | (exact absurd e (by simp [flatP]))
theorem sim_get2 {W : WX} {ms : List Nat} {td ty tx : TE} {d dy dx : PSt → Res RV} (h1 : SimE K W ms td d) (h2 : SimE K W ms ty dy) (h3 : SimE K W ms tx dx) : SimE K W ms (tDGet2 td ty tx) (dGetM d (dCons dy (dCons dx dNil))) := by
  intro C F τ σ H Q hm R h
  unfold dGetM at h
  rw [Res.holds_bind] at h
  refine h1 C F τ σ H _ hm R (h.imp (fun r1 τ1 k => ?_) fun _ _ x => x)
  intro v1 H1 F1 s1 ok1
  obtain ⟨F1', s1', R1, rv1⟩ := ok1.froze
  split at k
  · rename_i e
    obtain ⟨p0, e0, e0'⟩ := Option.map_eq_some_iff.mp e
    obtain ⟨a, rfl, hd⟩ := isD_of R1.sub (content_ok R1 rv1 (by rw [content_nf]; exact e0)) e0'
    refine ⟨a, rfl, hd, ?_⟩
    rw [Res.holds_bind] at k
    refine (sim_cons h2 (sim_cons h3 sim_nil)) C F1' τ1 σ H1 (fun vs H3 => ∃ o, DGet H3 a (vs.getD 0 .non) o ∧ Q (o.getD (vs.getD 1 .non)) H3) hm R1 (k.imp (fun r2 τ2 k2 => ?_) (ErE.up (s1.trans s1')))
    intro vs H2 F2 s2 R2 rvs
    obtain ⟨z, ez, gk⟩ := gk_of R2 ((s1.trans s1').trans s2) k2
    simp only [Option.bind_eq_some_iff] at ez
    obtain ⟨p, e1, ps, e2, e3⟩ := ez
    have rp := content_ok R2 (rv1.mono s2) (by rw [content_nf]; exact e1)
    have ra := contents_ok R2 rvs e2
    unfold gGetD at e3
    split at e3
    · split at e3
      · rename_i t kvs q z' hz
        obtain ⟨key, e4, rfl⟩ := Option.map_eq_some_iff.mp e3
        obtain ⟨y, w, rfl, ry, rw'⟩ := ra.two
        obtain ⟨a', o, ea, g, hh⟩ := dget_ok R2.sub rp ry e4
        cases ea
        refine ⟨o, g, ?_⟩
        rcases hh with ⟨n1, rfl⟩ | ⟨pp, v, n1, rfl, rpp⟩
        · rw [n1] at gk; exact gk _ (rw'.flat hz)
        · rw [n1] at gk; exact gk _ rpp
      · cases e3
    · cases e3
  · exact k.elim
theorem me_dget2 {W : WX} {ms : List Nat} {o e f : Expr} {apos cpos : Pos} (hu : X.A.units + 1 < cLine) (ho : ME X K W ms o td d) (he : ME X K W ms e ty dy) (hf : ME X K W ms f tx dx) (m : M2 X o "get" apos e f cpos) : ME X K W ms (.Call (.Attribute o "get" apos) [e, f] [] cpos) (tDGet2 td ty tx) (dGetM d (dCons dy (dCons dx dNil))) :=
  ⟨ho.hK, pe_dget2 hu ho.pe he.pe hf.pe m, sim_get2 ho.sim he.sim hf.sim⟩
/-! ### greatest and least -/
def gMaxL : List PV → Option GV
  | [.lst ps] => (intsOf ps).bind fun ns => (ns.max?).map fun m => .old (.int m)
  | _ => none
theorem max_uniq {ns : List Int} {m n : Int} (e : ns.max? = some m) (h : n ∈ ns) (h2 : ∀ y ∈ ns, y ≤ n) : n = m := by
  have h3 := (List.max?_eq_some_iff.mp e)
  have := h3.2 n h
  have := h2 m h3.1
  omega
theorem ok_maxL : OpNOk K (rMax K) gMaxL := by
  intro F H vs ps z Q s hx e k
  unfold gMaxL at e
  split at e
  · obtain ⟨ns, e1, e2⟩ := Option.bind_eq_some_iff.mp e
    obtain ⟨m, e3, rfl⟩ := Option.map_eq_some_iff.mp e2
    obtain ⟨v, rfl, h⟩ := hx.one
    obtain ⟨a, ws, rfl, h1, r1⟩ := h.lst s
    rw [intsOf_ok e1] at r1
    have := r1.ints
    subst this
    refine ⟨a, ns, rfl, SqL.of h1, ?_, fun n hn hm => ?_⟩
    · cases ns with
      | nil => cases e3
      | cons _ _ => exact Nat.succ_pos _
    · rw [max_uniq e3 hn hm]; exact k _ (.int _)
  · cases e
theorem k_maxL (hK : X.K = K) (hc : X.calm = true) : CallR X (.builtin "max") (rMax K) := by subst hK; exact cr_max hc
/-! ### sorted texts -/
def sortT (ls : List (List Nat)) : List (List Nat) := ls.mergeSort fun a b => decide (a ≤ b)
theorem sortT_pair (ls : List (List Nat)) : (sortT ls).Pairwise (· ≤ ·) := by
  have := List.pairwise_mergeSort (le := fun a b : List Nat => decide (a ≤ b)) (fun a b c h1 h2 => by
    simp only [decide_eq_true_eq] at *
    exact List.le_trans h1 h2) (fun a b => by
    simp only [Bool.or_eq_true, decide_eq_true_eq]
    exact List.le_total a b) ls
  exact this.imp fun h => by simpa using h
theorem rising_le : ∀ (l : List (List Nat)) (p : List Nat), risingS (sl p) (l.map sl) = true → (p :: l).Pairwise (· ≤ ·)
  | [], p, _ => List.pairwise_singleton _ _
  | x :: r, p, h => by
    simp only [List.map_cons, risingS, Bool.and_eq_true, Bool.not_eq_true', cps_sl, PyProof.Rows.ltCps_eq, decide_eq_false_iff_not] at h
    have ih := rising_le r x h.2
    have hx : p ≤ x := List.not_lt.mp h.1
    refine List.pairwise_cons.mpr ⟨fun y hy => ?_, ih⟩
    rcases List.mem_cons.mp hy with rfl | hy
    · exact hx
    · exact List.le_trans hx ((List.pairwise_cons.mp ih).1 y hy)
theorem sl_surj : ∀ ys : List Str, ∃ ls : List (List Nat), ys = ls.map sl
  | [] => ⟨[], rfl⟩
  | y :: ys => by
    obtain ⟨ls, rfl⟩ := sl_surj ys
    exact ⟨y.cps.toList :: ls, by rw [List.map_cons, sl_cps]⟩
theorem sorted_uniq {ls ms : List (List Nat)} (h : (ms.map sl).Perm (ls.map sl)) (hs : sortedS (ms.map sl) = true) : ms = sortT ls := by
  have p : ms.Perm ls := by
    have := h.map (fun x : Str => x.cps.toList)
    rw [List.map_map, List.map_map] at this
    have e : ((fun x : Str => x.cps.toList) ∘ sl) = id := by funext l; simp [cps_sl]
    rw [e, List.map_id, List.map_id] at this
    exact this
  refine List.Perm.eq_of_pairwise (le := (· ≤ ·)) (fun a b _ _ h1 h2 => List.le_antisymm h1 h2) ?_ (sortT_pair ls) (p.trans (List.mergeSort_perm ls _).symm)
  cases ms with
  | nil => exact List.Pairwise.nil
  | cons m ms => exact rising_le ms m hs
def gSortS : List PV → Option GV
  | [.lst ps] => (strsOf ps).bind fun ls => if ls.length < 64 then some (.nw (.lst ((sortT ls).map .str))) else none
  | _ => none
theorem ok_sortS : OpNOk K (rSortedS K) gSortS := by
  intro F H vs ps z Q s hx e k
  unfold gSortS at e
  split at e
  · obtain ⟨ls, e1, e2⟩ := Option.bind_eq_some_iff.mp e
    split at e2
    · rename_i hz
      cases e2
      obtain ⟨v, rfl, h⟩ := hx.one
      obtain ⟨a, ws, rfl, h1, r1⟩ := h.lst s
      rw [strsOf_ok e1] at r1
      have := r1.strs
      subst this
      refine ⟨a, ls.map sl, rfl, by rw [List.map_map]; exact SqL.of h1, by rw [List.length_map]; exact hz, fun ys p hp hs hn => ?_⟩
      obtain ⟨ms, rfl⟩ := sl_surj ys
      obtain rfl := sorted_uniq hp hs
      rw [List.map_map]
      exact k.2 p (.lst _) hn (RpAll.of_strs _)
    · cases e2
  · cases e
theorem k_sortS (hK : X.K = K) : CallR X (.builtin "sorted") (rSortedS K) := by subst hK; exact cr_sortedS
end
end VL

/-! VL17: list(d.keys()). -/
namespace VL
open PySem PySem.Spec L2 PyProof.Rows
section
variable {X : Cx} {K : PySem.W.Frag}
def tKeysL (td : TE) : TE := fun σ H Q => td σ H fun x H1 => ∃ a kvs, x = .ref a ∧ Rd H1 a (.dK kvs) ∧ kvs.length ≤ sizeLine ∧ ∀ l, H1 l = none → Q (.ref l) (upd H1 l (.lst (kvs.map fun q => kV q.1)))
theorem pe_listKeys {o : Expr} {apos cpos p pos : Pos} {td : TE} (hc : X.calm = true) (he : PE X o td) (hg : Gl X "list") (hm : X.mg "list" = none)
    (hbase : attributeBase o "keys" X.env (eval o X.env) = eval o X.env := by rfl) (hline : (apos.endLine == cpos.line) = true := by rfl)
    (hs : starEach [.Call (.Attribute o "keys" apos) [] [] cpos] X.env = [(false, eval (.Call (.Attribute o "keys" apos) [] [] cpos) X.env)] := by rfl) :
    PE X (.Call (.Name "list" p) [.Call (.Attribute o "keys" apos) [] [] cpos] [] pos) (tKeysL td) := by
  refine ⟨fun pins s σ H Q I h => ?_⟩
  refine wpAny_Call_Name_kw (ld_blt I hg hm PyProof.Rows.boot_list ?_ (by decide) (by decide))
  refine PyProof.Rows.callWith_type1 ?_ hs rfl
  rw [hs]
  refine Calls.spliced_cons ?_
  refine wpAny_Call_method (T := "dict") (id := "dict.keys") hbase rfl hline F.plainAttrs_dict F.slot_dict_keys F.type_dict_keys (thn (he.run pins s σ H _ I h) fun u s1 ⟨x, H1, I1, rx, a, kvs, ex, hd, hz, q⟩ => ?_)
  subst ex
  obtain rfl : u = Value.ref a := rx
  obtain ⟨z, lo, vs, rel, dd⟩ := dk_rd I1.hok hd
  obtain ⟨ep, hat⟩ := dd.dictAt
  refine ⟨dd.typeIs, dd.mapOf.noDict, ?_⟩
  have I2 : Inv X pins σ H1 { s1 with heap := s1.heap.push { cls := .type "dict_keys", data := .fields #[.ref a] } } := I1.kept (t' := s1.toks) fun b ob e => Heap.get?_push_of_some _ e
  show wpAny _ _ (callWith cpos (.builtin "dict.keys") [.ref a] [] []) _ X.xe s1
  refine method_meetsIn F.slot_dict_keys F.entry_dict_keys rfl (PySem.evalArgs_none ⟨rfl, dd.typeIs, F.args_dict_keys_1 _, _, PySem.W.kdl_meets_keys (mixKind X.prog X.w) a lo, ⟨vs, dd⟩, ?_⟩)
  refine Calls.spliced_nil ?_
  refine PySem.W.kdl_call (PySem.W.kdl_keys (knd := mixKind X.prog X.w) (r := s1.heap.objs.size) (d := a) (kvs := vs) (ep := ep)) (I.ok.hd hc) ⟨⟨_, Heap.get?_push_size _ rfl, rfl, rfl⟩, hat.push _⟩ (by rw [← rel.length]; exact hz) fun h' tk acc c kp hl hacc => ?_
  have hal : acc.toList.length = vs.length := by rw [Array.length_toList, hacc.1]
  have kv := keys_at hal fun j v e => by
    obtain ⟨k, x, e1, e2⟩ := hacc.2 j v (by rw [← Array.getElem?_toList]; exact e)
    exact ⟨k, x, e1, e2⟩
  have ek : kvs.map (fun q => kV q.1) = vs.map fun q => kV q.1 := by
    have := congrArg (List.map kV) rel.keys
    rw [List.map_map, List.map_map] at this
    exact this
  have fresh := I2.hok.fresh (Nat.le_refl _)
  refine ⟨.ref _, upd H1 _ (.lst (kvs.map fun q => kV q.1)), I2.laid (t' := tk) kp (Nat.le_refl _) (show ObjOk X.prog X.w _ h' _ (.lst _) from ⟨by rw [List.length_map]; exact hz, acc.toList, c, by rw [ek]; exact kv, by simpa using hl⟩), rfl, q _ fresh⟩
def rKeys : V → Hp → VK → Prop := fun x H Q => ∃ a kvs, x = .ref a ∧ Rd H a (.dK kvs) ∧ kvs.length ≤ sizeLine ∧ ∀ l, H l = none → Q (.ref l) (upd H l (.lst (kvs.map fun q => kV q.1)))
@[simp] def gKeys : PV → Option GV
  | .dic false kvs => if kvs.length ≤ sizeLine then some (.nw (.lst (kvs.map fun q => q.1.pv))) else none
  | _ => none
theorem rp_key {F : Hp} (k : Key) : Rp K F (kV k) (pkA k).pv := by
  cases k with
  | inl i => exact .int i
  | inr x => exact rp_cps x
theorem rp_keys {F : Hp} : ∀ {kvs : List (Key × V)} {kps : List (PK × PV)}, kps.map (·.1) = kvs.map (fun x => pkA x.1) → RpAll K F (kvs.map fun q => kV q.1) (kps.map fun q => q.1.pv)
  | [], [], _ => .nil
  | [], _ :: _, e => by simp at e
  | _ :: _, [], e => by simp at e
  | kv :: kvs, kp :: kps, e => by
    simp only [List.map_cons, List.cons.injEq] at e
    refine .cons ?_ (rp_keys e.2)
    show Rp K F (kV kv.1) kp.1.pv
    rw [e.1]
    exact rp_key kv.1
theorem ok_keys : Op1Ok K rKeys gKeys := by
  intro F H x p z Q s hx e k
  unfold gKeys at e
  split at e
  · split at e
    · rename_i hz
      cases e
      obtain ⟨a, kvs, rfl, h, e1, r⟩ := hx.dicK s
      have hl := congrArg List.length e1
      rw [List.length_map, List.length_map] at hl
      exact ⟨a, kvs, rfl, h, by rw [← hl]; exact hz, fun l hn => k.2 l (.lst _) hn (rp_keys e1)⟩
    · cases e
  · cases e
theorem me_listKeys {W : WX} {ms : List Nat} {o : Expr} {apos cpos p pos : Pos} (hc : X.calm = true) (he : ME X K W ms o td d) (hg : Gl X "list") (hm : X.mg "list" = none)
    (hbase : attributeBase o "keys" X.env (eval o X.env) = eval o X.env := by rfl) (hline : (apos.endLine == cpos.line) = true := by rfl)
    (hs : starEach [.Call (.Attribute o "keys" apos) [] [] cpos] X.env = [(false, eval (.Call (.Attribute o "keys" apos) [] [] cpos) X.env)] := by rfl) :
    ME X K W ms (.Call (.Name "list" p) [.Call (.Attribute o "keys" apos) [] [] cpos] [] pos) (tUn rKeys td) (dOp1 gKeys d) :=
  ⟨he.hK, pe_listKeys hc he.pe hg hm hbase hline hs, sim_op1 (r := rKeys) ok_keys he.sim⟩
end
end VL

/-! VL18: the keys of any dict; any alike data, sorted. -/
namespace VL
open PySem PySem.Spec L2 PyProof.Rows PySem.W

/-! ### list(d.keys()) -/
section
variable {prog : Program} {w : World}
theorem keysR (dd : Addr) (nosys : (dd == sysModules) = false) :
    MeetsIn prog w (Builtin.«dict.keys» ⟨[.ref dd], []⟩) (fun _ R s => s.TypeIs (.ref dd) "dict" ∧
      R (.ok (.ret (.ref s.heap.objs.size))) { s with heap := s.heap.push { cls := .type "dict_keys", data := .fields #[.ref dd] } }) :=
  .of_wp fun A R s ⟨isD, fin⟩ => by
    refine wpAny_bind ?k1
    unfold Builtin.Dict.noArgs
    refine wpAny_bind (wpAny_notOrdered_dict isD ?k2)
    show wpAny _ _ (pure dd) _ _ s
    refine wpAny_pure ?k3
    show wpAny _ _ (Builtin.Dict.showsAll dd >>= _) _ _ s
    unfold Builtin.Dict.showsAll
    rw [if_neg (by simp [nosys])]
    refine wpAny_bind (wpAny_pure ?k4)
    exact wpAny_bind (wpAny_newObj_type (wpAny_pure ⟨_, rfl, fin⟩))
end
section
variable {X : Cx} {K : PySem.W.Frag}
def rKeysX (K : PySem.W.Frag) : V → Hp → VK → Prop := fun x H Q => rKeys x H Q ∨ ∃ a kvs, x = .ref a ∧ Rd H a (.dT kvs) ∧ ∀ l bs, H l = none → IsKeys H kvs bs → Q (.ref l) (upd H l (.lst (bs.map V.ref)))
theorem raw_list {P : Program} {w : World} {es : Array DictEntry} {ks : List (List Key × Addr × Value)} {knd : HeapKind P w (List Key)} (he : es.toList = ks.map (entryOfKey knd)) {acc : List Value} (hl : acc.length = es.size)
    (h : ∀ (j : Nat) (v : Value), acc[j]? = some v → ∃ hi : j < es.size, v = es[j].key) : acc = ks.map fun x => Value.ref x.2.1 := by
  have l1 : es.size = ks.length := size_of_entries he
  refine List.ext_getElem (by simp; omega) fun j h1 h2 => ?_
  obtain ⟨hi, hv⟩ := h j acc[j] (List.getElem?_eq_getElem h1)
  have qe := entry_at he j
  rw [Array.getElem?_eq_getElem hi, List.getElem?_eq_getElem (show j < ks.length by omega)] at qe
  have e2 := Option.some.inj qe
  rw [hv, e2, List.getElem_map]
  rfl
theorem pe_listKeysX {o : Expr} {apos cpos p pos : Pos} {td : TE} (hc : X.calm = true) (he : PE X o td) (hg : Gl X "list") (hm : X.mg "list" = none)
    (hbase : attributeBase o "keys" X.env (eval o X.env) = eval o X.env := by rfl) (hline : (apos.endLine == cpos.line) = true := by rfl)
    (hs : starEach [.Call (.Attribute o "keys" apos) [] [] cpos] X.env = [(false, eval (.Call (.Attribute o "keys" apos) [] [] cpos) X.env)] := by rfl) :
    PE X (.Call (.Name "list" p) [.Call (.Attribute o "keys" apos) [] [] cpos] [] pos) (tUn (rKeysX X.K) td) := by
  refine ⟨fun pins s σ H Q I h => ?_⟩
  refine wpAny_Call_Name_kw (ld_blt I hg hm PyProof.Rows.boot_list ?_ (by decide) (by decide))
  refine PyProof.Rows.callWith_type1 ?_ hs rfl
  rw [hs]
  refine Calls.spliced_cons ?_
  refine wpAny_Call_method (T := "dict") (id := "dict.keys") hbase rfl hline F.plainAttrs_dict F.slot_dict_keys F.type_dict_keys (thn (he.run pins s σ H _ I h) fun u s1 ⟨x, H1, I1, rx, q⟩ => ?_)
  rcases q with ⟨a, kvs, ex, hd, hz, q⟩ | ⟨a, kvs, ex, hd, q⟩
  · subst ex
    obtain rfl : u = Value.ref a := rx
    obtain ⟨z, lo, vs, rel, dd⟩ := dk_rd I1.hok hd
    obtain ⟨ep, hat⟩ := dd.dictAt
    refine ⟨dd.typeIs, dd.mapOf.noDict, ?_⟩
    have I2 : Inv X pins σ H1 { s1 with heap := s1.heap.push { cls := .type "dict_keys", data := .fields #[.ref a] } } := I1.kept (t' := s1.toks) fun b ob e => Heap.get?_push_of_some _ e
    show wpAny _ _ (callWith cpos (.builtin "dict.keys") [.ref a] [] []) _ X.xe s1
    refine method_meetsIn F.slot_dict_keys F.entry_dict_keys rfl (PySem.evalArgs_none ⟨rfl, dd.typeIs, F.args_dict_keys_1 _, _, keysR a lo, dd.typeIs, ?_⟩)
    refine Calls.spliced_nil ?_
    refine PySem.W.kdl_call (PySem.W.kdl_keys (knd := mixKind X.prog X.w) (r := s1.heap.objs.size) (d := a) (kvs := vs) (ep := ep)) (I.ok.hd hc) ⟨⟨_, Heap.get?_push_size _ rfl, rfl, rfl⟩, hat.push _⟩ (by rw [← rel.length]; exact hz) fun h' tk acc c kp hl hacc => ?_
    have hal : acc.toList.length = vs.length := by rw [Array.length_toList, hacc.1]
    have kv := keys_at hal fun j v e => by
      obtain ⟨k, x, e1, e2⟩ := hacc.2 j v (by rw [← Array.getElem?_toList]; exact e)
      exact ⟨k, x, e1, e2⟩
    have ek : kvs.map (fun q => kV q.1) = vs.map fun q => kV q.1 := by
      have := congrArg (List.map kV) rel.keys
      rw [List.map_map, List.map_map] at this
      exact this
    have fresh := I2.hok.fresh (Nat.le_refl _)
    refine ⟨.ref _, upd H1 _ (.lst (kvs.map fun q => kV q.1)), I2.laid (t' := tk) kp (Nat.le_refl _) (show ObjOk X.prog X.w _ h' _ (.lst _) from ⟨by rw [List.length_map]; exact hz, acc.toList, c, by rw [ek]; exact kv, by simpa using hl⟩), rfl, q _ fresh⟩
  · subst ex
    obtain rfl : u = Value.ref a := rx
    obtain ⟨hz, lo, ks, pr, ob, es, ep, ho, hx, hdt, hent, hn⟩ := (show ObjOk X.prog X.w H1 s1.heap a (.dT kvs) from hd.ok I1.hok)
    have ty : s1.TypeIs (.ref a) "dict" := ⟨ob, ho, hx.1⟩
    have l1 : es.size = ks.length := size_of_entries hent
    have l2 : kvs.length = ks.length := Paired.length pr
    refine ⟨ty, fun b eb => by cases eb; exact ⟨ob, ho, hx.2.1⟩, ?_⟩
    have I2 : Inv X pins σ H1 { s1 with heap := s1.heap.push { cls := .type "dict_keys", data := .fields #[.ref a] } } := I1.kept (t' := s1.toks) fun b ob e => Heap.get?_push_of_some _ e
    show wpAny _ _ (callWith cpos (.builtin "dict.keys") [.ref a] [] []) _ X.xe s1
    refine method_meetsIn F.slot_dict_keys F.entry_dict_keys rfl (PySem.evalArgs_none ⟨rfl, ty, F.args_dict_keys_1 _, _, keysR a lo, ty, ?_⟩)
    refine Calls.spliced_nil ?_
    refine PySem.W.kdl_call (PySem.KdlSrc.rawKeys (r := s1.heap.objs.size) (d := a) (es := es) (ep := ep)) (I.ok.hd hc) ⟨⟨_, Heap.get?_push_size _ rfl, rfl, rfl⟩, Heap.DictRaw.push ⟨ob, ho, hx, hdt⟩ _⟩ (by omega) fun h' tk acc c kp hl hacc => ?_
    have ea := raw_list hent (acc := acc.toList) (by rw [Array.length_toList, hacc.1]) fun j v e => hacc.2 j v (by rw [← Array.getElem?_toList]; exact e)
    have fresh := I2.hok.fresh (Nat.le_refl _)
    have eb : acc.toList = (ks.map fun x => x.2.1).map Value.ref := by rw [ea, List.map_map]; rfl
    refine ⟨.ref _, upd H1 _ (.lst ((ks.map fun x => x.2.1).map V.ref)), I2.laid (t' := tk) kp (Nat.le_refl _) (show ObjOk X.prog X.w _ h' _ (.lst _) from ⟨by rw [List.length_map, List.length_map, ← l2]; exact hz, acc.toList, c, by rw [eb]; exact vals_refs _, by simpa using hl⟩), rfl, q _ _ fresh (isKeys_of pr)⟩
@[simp] def gKeysX : PV → Option GV
  | .dic false kvs => if kvs.length ≤ sizeLine then some (.nw (.lst (kvs.map fun q => q.1.pv))) else none
  | .dic true kvs => some (.nw (.lst (kvs.map fun q => q.1.pv)))
  | _ => none

theorem rp_key1 {F : Hp} (k : Key) : Rp K F (kV k) (pvK (pkK k)) := by
  cases k with
  | inl i => exact .int i
  | inr x => exact rp_cps x
theorem rp_keyT {F : Hp} : ∀ ks : List Key, RpAll K F (ks.map kV) ((ks.map pkK).map pvK)
  | [] => .nil
  | k :: ks => .cons (rp_key1 k) (rp_keyT ks)
theorem rp_keysT {F H : Hp} (ht : ∀ a vs, H a = some (.tup vs) → F a = some (.tup vs)) : ∀ {kvs : List (List Key × V)} {kps : List (PK × PV)} {bs : List Addr}, kps.map (·.1) = kvs.map (fun x => pkT x.1) → IsKeys H kvs bs → RpAll K F (bs.map V.ref) (kps.map fun q => q.1.pv)
  | [], [], _, _, .nil => .nil
  | [], _ :: _, _, e, _ => by simp at e
  | _ :: _, [], _, e, _ => by simp at e
  | kv :: kvs, kp :: kps, _, e, .cons h t => by
    simp only [List.map_cons, List.cons.injEq] at e
    refine .cons ?_ (rp_keysT ht e.2 t)
    show Rp K F _ kp.1.pv
    rw [e.1]
    exact .tup (ht _ _ h) (rp_keyT kv.1)
def isDic2 : PV → Bool
  | .dic _ _ => true
  | _ => false
def dKeysX (d : PSt → Res RV) : PSt → Res RV := fun τ => (d τ).bind fun r τ1 => gout ((content r τ1).bind gKeysX) τ1
theorem sim_keysX {W : WX} {ms : List Nat} {t : TE} {d : PSt → Res RV} (h1 : SimE K W ms t d) : SimE K W ms (tUn (rKeysX K) t) (dKeysX d) := by
  intro C F τ σ H Q hm R h
  unfold dKeysX at h
  rw [Res.holds_bind] at h
  refine h1 C F τ σ H _ hm R (h.imp (fun r1 τ1 k => ?_) fun _ _ x => x)
  intro v1 H1 F1 s1 ok1
  obtain ⟨F1', s1', R1, rv1⟩ := ok1.froze
  obtain ⟨z, ez, gk⟩ := gk_of R1 (s1.trans s1') k
  simp only [Option.bind_eq_some_iff] at ez
  obtain ⟨p, e1, e2⟩ := ez
  have hx := content_ok R1 rv1 (by rw [content_nf]; exact e1)
  obtain ⟨own, RF⟩ := R1
  unfold gKeysX at e2
  split at e2
  · split at e2
    · rename_i kvs hz
      cases e2
      obtain ⟨a, kvs, rfl, h, e1, r⟩ := hx.dicK RF.sub
      have hl := congrArg List.length e1
      rw [List.length_map, List.length_map] at hl
      exact .inl ⟨a, kvs, rfl, h, by rw [← hl]; exact hz, fun l hn => gk.2 l (.lst _) hn (rp_keys e1)⟩
    · cases e2
  · cases e2
    obtain ⟨a, kvs, rfl, h, e1, r⟩ := hx.dicT RF.sub
    exact .inr ⟨a, kvs, rfl, h, fun l bs hn hk => gk.2 l (.lst _) hn (rp_keysT RF.tups e1 hk)⟩
  · cases e2
theorem me_listKeysX {W : WX} {ms : List Nat} {o : Expr} {apos cpos p pos : Pos} (hc : X.calm = true) (he : ME X K W ms o td d) (hg : Gl X "list") (hm : X.mg "list" = none)
    (hbase : attributeBase o "keys" X.env (eval o X.env) = eval o X.env := by rfl) (hline : (apos.endLine == cpos.line) = true := by rfl)
    (hs : starEach [.Call (.Attribute o "keys" apos) [] [] cpos] X.env = [(false, eval (.Call (.Attribute o "keys" apos) [] [] cpos) X.env)] := by rfl) :
    ME X K W ms (.Call (.Name "list" p) [.Call (.Attribute o "keys" apos) [] [] cpos] [] pos) (tUn (rKeysX K) td) (dKeysX d) := by
  obtain ⟨rfl, pe, s⟩ := he
  exact ⟨rfl, pe_listKeysX hc pe hg hm hbase hline hs, sim_keysX s⟩

/-! ### sorted(xs) of alike data -/
def rSortD (K : PySem.W.Frag) : List V → Hp → VK → Prop := fun vs H Q => ∃ a ws ds, vs = [V.ref a] ∧ SqL K H a ws ∧ DpAll K H ws ds ∧ AllAlike ds ∧ Sortable ds ∧ (∀ d ∈ ds, d.depth ≤ 60) ∧
  ∀ p, H p = none → Q (.ref p) (upd H p (.lst (((ws.zip ds).mergeSort (dataLe false Prod.snd)).map Prod.fst)))
theorem dp_len {H : Hp} : ∀ {ws : List V} {ds : List PyData}, DpAll K H ws ds → ws.length = ds.length
  | _, _, .nil => rfl
  | _, _, .cons _ r => congrArg (· + 1) (dp_len r)
theorem each_of {pins : List (Addr × Obj)} {σ : L2.St} {H : Hp} {s : Shared} (I : L2.Inv X pins σ H s) : ∀ {ws : List V} {ds : List PyData} {us : List Value}, DpAll X.K H ws ds → Vals ws us →
    EachIs (fun (u : Value) (b : V × PyData) => RelV b.1 u) us (ws.zip ds) ∧ EachIs (fun (u : Value) (b : V × PyData) => ∃ as, Reads s.heap u b.2 as) us (ws.zip ds)
  | _, _, _, .nil, .nil => ⟨.nil, .nil⟩
  | _, _, _, .cons h r, .cons g t => by
    obtain ⟨e1, e2⟩ := each_of I r t
    exact ⟨.cons g e1, .cons (Dp.reads I _ _ _ h g) e2⟩
theorem each_vals : ∀ {us : List Value} {bs : List (V × PyData)}, EachIs (fun (u : Value) (b : V × PyData) => RelV b.1 u) us bs → Vals (bs.map Prod.fst) us
  | _, _, .nil => .nil
  | _, _, .cons h r => .cons h (each_vals r)
theorem zip_snd {α β : Type} : ∀ {a : List α} {b : List β}, a.length = b.length → (a.zip b).map Prod.snd = b := fun h => List.map_snd_zip (by omega)
theorem cr_sortD (hu : X.A.units + 70 < cLine) : CallR X (.builtin "sorted") (rSortD X.K) := by
  intro pins s σ H vs us Q I r h
  obtain ⟨a, ws, ds, rfl, hs, hd, ha, hk, hdep, q⟩ := h
  obtain ⟨its, rv, hl, hz⟩ := I.list hs
  rw [Vals.ref1 r]
  have lw := dp_len hd
  obtain ⟨e, er⟩ := each_of I hd rv
  have e2 : (ws.zip ds).map Prod.snd = ds := zip_snd lw
  have hb : (ws.zip ds).length ≤ sizeLine := by rw [List.length_zip]; omega
  refine sorted_data (enc := Prod.snd) hl.isList e er (by rw [e2]; exact ha) (by rw [e2]; exact hk) hb (fun b hb' => ?_) fun out ho eo => ?_
  · have := hdep b.2 (by rw [← e2]; exact List.mem_map.mpr ⟨b, hb', rfl⟩)
    show X.A.units + 2 + b.2.depth < cLine
    omega
  obtain ⟨ep, he'⟩ := PyProof.Rows.sortedAll_at s.heap its out.toArray
  have hlen : (((ws.zip ds).mergeSort (dataLe false Prod.snd)).map Prod.fst).length ≤ sizeLine := by
    rw [List.length_map, List.length_mergeSort]; exact hb
  exact ⟨.ref _, upd H (s.heap.objs.size + 1) (.lst (((ws.zip ds).mergeSort (dataLe false Prod.snd)).map Prod.fst)), I.laid (t' := s.toks) (fun _ _ => PyProof.Rows.sortedAll_old) (Nat.le_succ _) ⟨hlen, out, ep, each_vals eo, he'⟩, rfl, q _ (I.hok.fresh (Nat.le_succ _))⟩
noncomputable def gSort : List PV → Option GV := open Classical in fun l => match l with
  | [.lst ps] => (toDs ps).bind fun ds => if AllAlike ds ∧ Sortable ds ∧ (∀ d ∈ ds, d.depth ≤ 60) then some (.nw (.lst (((ps.zip ds).mergeSort (dataLe false Prod.snd)).map Prod.fst))) else none
  | _ => none
theorem toDs_len : ∀ {ps : List PV} {ds : List PyData}, toDs ps = some ds → ps.length = ds.length
  | [], ds, e => by simp [toDs] at e; subst e; rfl
  | p :: ps, ds, e => by
    simp only [toDs, Option.bind_eq_some_iff, Option.map_eq_some_iff] at e
    obtain ⟨d, e1, ds', e2, rfl⟩ := e
    simp [toDs_len e2]
theorem rp_zip {F : Hp} (f : V × PV → V) : ∀ {ws : List V} {ps : List PV}, RpAll K F ws ps → ∀ x ∈ ws.zip ps, Rp K F x.1 x.2
  | _, _, .nil, x, h => nomatch h
  | _, _, .cons h r, x, hx => by
    rw [List.zip_cons_cons] at hx
    rcases List.mem_cons.mp hx with rfl | hx
    · exact h
    · exact rp_zip f r x hx
theorem rp_of_pairs {F : Hp} : ∀ {l : List (V × PV)}, (∀ x ∈ l, Rp K F x.1 x.2) → RpAll K F (l.map Prod.fst) (l.map Prod.snd)
  | [], _ => .nil
  | x :: l, h => .cons (h x (List.mem_cons_self ..)) (rp_of_pairs fun y hy => h y (List.mem_cons_of_mem _ hy))
theorem rp_sorted {F : Hp} {ws : List V} {ps : List PV} {ds : List PyData} (r : RpAll K F ws ps) (hl : ps.length = ds.length) :
    RpAll K F (((ws.zip ds).mergeSort (dataLe false Prod.snd)).map Prod.fst) (((ps.zip ds).mergeSort (dataLe false Prod.snd)).map Prod.fst) := by
  have hw := r.len
  let T := (ws.zip ps).zip ds
  have z1 : ∀ {a : List V} {b : List PV} {c : List PyData}, a.length = b.length → b.length = c.length → ((a.zip b).zip c).map (fun x => (x.1.1, x.2)) = a.zip c := by
    intro a
    induction a with
    | nil => intro b c h1 h2; simp
    | cons x a ih =>
      intro b c h1 h2
      match b, c, h1, h2 with
      | y :: b, z :: c, h1, h2 => simp at h1 h2 ⊢; exact ih h1 h2
      | y :: b, [], h1, h2 => simp at h2
      | [], _, h1, h2 => simp at h1
  have z2 : ∀ {a : List V} {b : List PV} {c : List PyData}, a.length = b.length → b.length = c.length → ((a.zip b).zip c).map (fun x => (x.1.2, x.2)) = b.zip c := by
    intro a
    induction a with
    | nil => intro b c h1 h2; simp at h1; simp [List.length_eq_zero_iff.mp h1.symm]
    | cons x a ih =>
      intro b c h1 h2
      match b, c, h1, h2 with
      | y :: b, z :: c, h1, h2 => simp at h1 h2 ⊢; exact ih h1 h2
      | y :: b, [], h1, h2 => simp at h2
      | [], _, h1, h2 => simp at h1
  have s1 := sort_maps (r := dataLe false fun x : (V × PV) × PyData => x.2) (s := dataLe false (Prod.snd : V × PyData → PyData)) (fun x : (V × PV) × PyData => (x.1.1, x.2)) (l := T) fun _ _ _ _ => rfl
  have s2 := sort_maps (r := dataLe false fun x : (V × PV) × PyData => x.2) (s := dataLe false (Prod.snd : PV × PyData → PyData)) (fun x : (V × PV) × PyData => (x.1.2, x.2)) (l := T) fun _ _ _ _ => rfl
  rw [z1 hw hl] at s1
  rw [z2 hw hl] at s2
  rw [← s1, ← s2, List.map_map, List.map_map]
  have := rp_of_pairs (K := K) (F := F) (l := (T.mergeSort (dataLe false fun x => x.2)).map fun x => x.1) fun x hx => by
    obtain ⟨y, hy, rfl⟩ := List.mem_map.mp hx
    have hy' : y ∈ T := (List.mergeSort_perm T _).mem_iff.mp hy
    exact rp_zip Prod.fst r _ (List.of_mem_zip hy').1
  rw [List.map_map, List.map_map] at this
  exact this
theorem ok_sort : OpNOk K (rSortD K) gSort := by
  intro F H vs ps z Q s hx e k
  unfold gSort at e
  split at e
  · obtain ⟨ds, e1, e2⟩ := Option.bind_eq_some_iff.mp e
    split at e2
    · rename_i hc
      cases e2
      obtain ⟨v, rfl, h⟩ := hx.one
      obtain ⟨a, ws, rfl, h1, r1⟩ := h.lst s
      exact ⟨a, ws, ds, rfl, SqL.of h1, toDs_ok s _ _ _ r1 e1, hc.1, hc.2.1, hc.2.2, fun p hp => k.2 p (.lst _) hp (rp_sorted r1 (toDs_len e1))⟩
    · cases e2
  · cases e
theorem k_sort (hK : X.K = K) (hu : X.A.units + 200 < cLine) : CallR X (.builtin "sorted") (rSortD K) := by subst hK; exact cr_sortD (by omega)

/-- typed lists, sorted -/
theorem toDs_map {α : Type} (enc : α → PV) (encD : α → PyData) (h : ∀ x, toD (enc x) = some (encD x)) : ∀ xs : List α, toDs (xs.map enc) = some (xs.map encD)
  | [] => by simp [toDs]
  | x :: xs => by simp [toDs, h, toDs_map enc encD h xs]
theorem zip_maps {α β γ : Type} (f : α → β) (g : α → γ) : ∀ xs : List α, (xs.map f).zip (xs.map g) = xs.map fun x => (f x, g x)
  | [] => rfl
  | x :: xs => by simp only [List.map_cons, List.zip_cons_cons, zip_maps f g xs]
theorem gSort_typed {α : Type} (enc : α → PV) (encD : α → PyData) (h : ∀ x, toD (enc x) = some (encD x)) (xs : List α) (ha : ∀ x y, alike (encD x) (encD y) = true) (hk : Sortable (xs.map encD)) (hd : ∀ x, (encD x).depth ≤ 60) :
    gSort [.lst (xs.map enc)] = some (.nw (.lst ((xs.mergeSort (dataLe false encD)).map enc))) := by
  unfold gSort
  dsimp only
  rw [toDs_map enc encD h, Option.bind_some, if_pos]
  · have z := zip_maps enc encD xs
    rw [z, ← sort_maps (r := dataLe false encD) (s := dataLe false Prod.snd) (fun x => (enc x, encD x)) fun _ _ _ _ => rfl, List.map_map]
    rfl
  · refine ⟨AllAlike.of ha, hk, fun d hd' => ?_⟩
    obtain ⟨x, _, rfl⟩ := List.mem_map.mp hd'
    exact hd x
theorem me_dnewX {W : WX} {ms : List Nat} {pos} (hK : X.K = K := by rfl) : ME X K W ms (.Dict [] [] pos) tDNewK dDictK := me_dnew hK
theorem me_dnewTX {W : WX} {ms : List Nat} {pos} (hK : X.K = K := by rfl) : ME X K W ms (.Dict [] [] pos) tDNewT dDictT := me_dnewT hK
section
variable (d : PSt → Res RV) (da : PSt → Res (List RV)) (r : RV) (rs : List RV) (τ : PSt)
def dKeysX_k : RV → PSt → Res RV := fun r τ1 => gout ((content r τ1).bind gKeysX) τ1
@[simp] theorem e_dKeysX : dKeysX d τ = (d τ).bind dKeysX_k := rfl
@[simp] theorem e_dKeysX_k : dKeysX_k r τ = gout ((content r τ).bind gKeysX) τ := rfl
def dGetM_k2 : RV → List RV → PSt → Res RV := fun r rs τ => gout ((content r τ).bind fun p => (contents rs τ).bind fun ps => gGetD p ps) τ
def dGetM_k1 (da : PSt → Res (List RV)) : RV → PSt → Res RV := fun r τ1 => if ((content r τ1).map isDicP) = some true then (da τ1).bind (dGetM_k2 r) else .no
@[simp] theorem e_dGetM : dGetM d da τ = (d τ).bind (dGetM_k1 da) := rfl
@[simp] theorem e_dGetM_k1 : dGetM_k1 da r τ = if ((content r τ).map isDicP) = some true then (da τ).bind (dGetM_k2 r) else .no := rfl
@[simp] theorem e_dGetM_k2 : dGetM_k2 r rs τ = gout ((content r τ).bind fun p => (contents rs τ).bind fun ps => gGetD p ps) τ := rfl
@[simp] theorem e_gGetD (t : Bool) (kvs : List (PK × PV)) (q z : PV) : gGetD (.dic t kvs) [q, z] = if flatP z then (pk? t q).map fun k => .old ((lookP kvs k).getD z) else none := rfl
@[simp] theorem flatP_non : flatP .non = true := rfl
@[simp] theorem flatP_int (i : Int) : flatP (.int i) = true := rfl
@[simp] theorem flatP_bl (i : Bool) : flatP (.bl i) = true := rfl
@[simp] theorem flatP_str (i : List Nat) : flatP (.str i) = true := rfl
end
end
end VL

/-! VL19: dicts over typed data; loops over typed lists. -/
namespace VL
open PySem PySem.Spec L2
section
variable {α β : Type} [DecidableEq α]
/-- what a row of pairs holds at a key; a pair put in -/
def getA (l : List (α × β)) (k : α) : Option β := (l.find? fun x => decide (x.1 = k)).map (·.2)
def putA (l : List (α × β)) (k : α) (v : β) : List (α × β) := if (getA l k).isSome then l.map (fun x => if x.1 = k then (x.1, v) else x) else l ++ [(k, v)]
def encA (ek : α → PK) (ev : β → PV) (l : List (α × β)) : List (PK × PV) := l.map fun x => (ek x.1, ev x.2)
theorem look_enc {ek : α → PK} {ev : β → PV} (hi : ∀ a b, ek a = ek b → a = b) (k : α) : ∀ l : List (α × β), lookP (encA ek ev l) (ek k) = (getA l k).map ev
  | [] => rfl
  | x :: l => by
    have ih := look_enc (ev := ev) hi k l
    unfold lookP getA encA at ih ⊢
    rw [List.map_cons, List.find?_cons, List.find?_cons]
    by_cases h : x.1 = k
    · subst h; simp
    · have h' : ¬ ek x.1 = ek k := fun z => h (hi _ _ z)
      simp only [h, h', decide_false]
      exact ih
theorem put_enc {ek : α → PK} {ev : β → PV} (hi : ∀ a b, ek a = ek b → a = b) (k : α) (v : β) (l : List (α × β)) : putP (encA ek ev l) (ek k) (ev v) = encA ek ev (putA l k v) := by
  unfold putP putA
  rw [look_enc hi]
  cases e : getA l k with
  | none => simp [encA]
  | some w =>
    simp only [Option.map_some, Option.isSome_some, if_true]
    unfold encA
    rw [List.map_map, List.map_map]
    refine List.map_congr_left fun x _ => ?_
    by_cases h : x.1 = k
    · simp [h]
    · have h' : ¬ ek x.1 = ek k := fun z => h (hi _ _ z)
      simp [h, h']
theorem getA_mem {l : List (α × β)} {k : α} {v : β} (h : getA l k = some v) : (k, v) ∈ l := by
  unfold getA at h
  obtain ⟨x, hx, rfl⟩ := Option.map_eq_some_iff.mp h
  have h1 := List.find?_some hx
  have h2 := List.mem_of_find?_eq_some hx
  obtain rfl : x.1 = k := by simpa using h1
  exact h2
theorem getA_some {l : List (α × β)} {k : α} (h : k ∈ l.map (·.1)) : ∃ v, getA l k = some v := by
  unfold getA
  obtain ⟨x, hx, rfl⟩ := List.mem_map.mp h
  cases e : l.find? (fun y => decide (y.1 = x.1)) with
  | none => exact absurd (List.find?_eq_none.mp e x hx) (by simp)
  | some y => exact ⟨_, rfl⟩
theorem getA_none {l : List (α × β)} {k : α} : getA l k = none ↔ k ∉ l.map (·.1) := by
  constructor
  · intro h hk
    obtain ⟨v, e⟩ := getA_some hk
    rw [h] at e; cases e
  · intro h
    cases e : getA l k with
    | none => rfl
    | some v => exact absurd (List.mem_map.mpr ⟨_, getA_mem e, rfl⟩) h
theorem isSome_getA {l : List (α × β)} {k : α} : (getA l k).isSome = decide (k ∈ l.map (·.1)) := by
  cases e : getA l k with
  | none => simp only [Option.isSome_none]; exact (decide_eq_false (getA_none.mp e)).symm
  | some v => simp only [Option.isSome_some]; exact (decide_eq_true (List.mem_map.mpr ⟨_, getA_mem e, rfl⟩)).symm
theorem mem_putA {l : List (α × β)} {k : α} {v : β} {x : α × β} (h : x ∈ putA l k v) : x = (k, v) ∨ x ∈ l := by
  unfold putA at h
  split at h
  · obtain ⟨y, hy, rfl⟩ := List.mem_map.mp h
    split
    · rename_i e; exact .inl (by rw [e])
    · exact .inr hy
  · rcases List.mem_append.mp h with h | h
    · exact .inr h
    · exact .inl (List.mem_singleton.mp h)
theorem putA_len (l : List (α × β)) (k : α) (v : β) : (putA l k v).length ≤ l.length + 1 := by
  unfold putA; split <;> simp
theorem putA_keys (l : List (α × β)) (k : α) (v : β) : (putA l k v).map (·.1) = if k ∈ l.map (·.1) then l.map (·.1) else l.map (·.1) ++ [k] := by
  unfold putA
  rw [isSome_getA]
  by_cases h : k ∈ l.map (·.1)
  · rw [if_pos h, if_pos (by simpa using h), List.map_map]
    refine List.map_congr_left fun x _ => ?_
    show (if x.1 = k then (x.1, v) else x).1 = x.1
    split <;> rfl
  · rw [if_neg h, if_neg (by simpa using h), List.map_append]; rfl
theorem keys_putA {l : List (α × β)} {k a : α} {v : β} : a ∈ (putA l k v).map (·.1) ↔ a = k ∨ a ∈ l.map (·.1) := by
  rw [putA_keys]
  split
  · rename_i h
    constructor
    · exact .inr
    · rintro (rfl | h') <;> assumption
  · rw [List.mem_append, List.mem_singleton]; exact Or.comm
theorem putA_nodup {l : List (α × β)} {k : α} {v : β} (h : (l.map (·.1)).Nodup) : ((putA l k v).map (·.1)).Nodup := by
  rw [putA_keys]
  split
  · exact h
  · rename_i h'
    exact List.nodup_append.mpr ⟨h, by simp, fun a ha b hb => by rw [List.mem_singleton] at hb; subst hb; exact fun z => h' (z ▸ ha)⟩
theorem getA_put {l : List (α × β)} {k a : α} {v : β} : getA (putA l k v) a = if a = k then some v else getA l a := by
  unfold putA
  cases e : getA l k with
  | none =>
    simp only [Option.isSome_none, Bool.false_eq_true, if_false]
    unfold getA at e ⊢
    rw [List.find?_append]
    by_cases h : a = k
    · subst h
      rw [if_pos rfl, Option.map_eq_none_iff.mp e]; simp
    · rw [if_neg h]
      have : ¬ k = a := fun z => h z.symm
      simp [List.find?_cons, this]
  | some w =>
    simp only [Option.isSome_some, if_true]
    have key : ∀ m : List (α × β), getA (m.map fun x => if x.1 = k then (x.1, v) else x) a = if a = k then (if k ∈ m.map (·.1) then some v else none) else getA m a := by
      intro m
      induction m with
      | nil => unfold getA; split <;> simp
      | cons x m ih =>
        unfold getA at ih ⊢
        rw [List.map_cons, List.find?_cons]
        by_cases h1 : x.1 = k
        · by_cases h2 : a = k
          · subst h1 h2; simp
          · have h3 : ¬ k = a := fun z => h2 z.symm
            simp only [h1, if_true, h2, if_false, h3, decide_false, List.find?_cons] at ih ⊢
            exact ih
        · by_cases h2 : a = k
          · subst h2
            simp only [h1, if_false, decide_false, if_true] at ih ⊢
            rw [ih]
            have : (a ∈ (x :: m).map (·.1)) ↔ a ∈ m.map (·.1) := by
              rw [List.map_cons, List.mem_cons]
              exact ⟨fun z => z.elim (fun y => absurd y.symm h1) id, .inr⟩
            simp only [this]
          · simp only [h1, if_false, h2] at ih ⊢
            rw [List.find?_cons]
            by_cases h3 : x.1 = a
            · simp [h3]
            · simp only [h3, decide_false]; exact ih
    rw [key l]
    split
    · rw [if_pos (List.mem_map.mpr ⟨_, getA_mem e, rfl⟩)]
    · rfl
end
/-! ### loops over typed lists -/
theorem loop_fold {α σ : Type} {step : PV → PSt → SRes} (enc : α → PV) (st : σ → PSt) (f : σ → α → σ) (P : σ → Prop) : ∀ (xs : List α) (s : σ), P s → (∀ s x, x ∈ xs → P s → (step (enc x) (st s) = .nx (st (f s x)) ∨ step (enc x) (st s) = .ct (st (f s x))) ∧ P (f s x)) →
    loopF step (xs.map enc) (st s) = .nx (st (xs.foldl f s)) ∧ P (xs.foldl f s)
  | [], s, hp, _ => ⟨rfl, hp⟩
  | x :: xs, s, hp, h => by
    obtain ⟨h1, h2⟩ := h s x (List.mem_cons_self ..) hp
    have := loop_fold enc st f P xs (f s x) h2 fun s y hy => h s y (List.mem_cons_of_mem _ hy)
    rw [List.map_cons, List.foldl_cons]
    unfold loopF
    rcases h1 with e | e <;> rw [e] <;> exact this
/-- the same over enumerate or a range: the item's place is told -/
theorem loop_foldI {σ : Type} {step : PV → PSt → SRes} {items : List PV} (st : σ → PSt) (f : σ → Nat → σ) (P : Nat → σ → Prop) (s : σ) (hp : P 0 s) (h : ∀ i p s, items[i]? = some p → P i s → (step p (st s) = .nx (st (f s i)) ∨ step p (st s) = .ct (st (f s i))) ∧ P (i + 1) (f s i)) :
    loopF step items (st s) = .nx (st ((List.range items.length).foldl f s)) ∧ P items.length ((List.range items.length).foldl f s) := by
  have key : ∀ (l : List PV) (k : Nat) (s : σ), (∀ i p, l[i]? = some p → items[k + i]? = some p) → P k s → loopF step l (st s) = .nx (st ((List.range' k l.length).foldl f s)) ∧ P (k + l.length) ((List.range' k l.length).foldl f s) := by
    intro l
    induction l with
    | nil => intro k s _ hp; exact ⟨rfl, hp⟩
    | cons p l ih =>
      intro k s hl hp
      obtain ⟨h1, h2⟩ := h k p s (by simpa using hl 0 p rfl) hp
      have := ih (k + 1) (f s k) (fun i q hq => by have := hl (i + 1) q (by simpa using hq); rwa [show k + (i + 1) = k + 1 + i by omega] at this) h2
      rw [List.length_cons, List.range'_succ, List.foldl_cons, show k + (l.length + 1) = k + 1 + l.length by omega]
      unfold loopF
      rcases h1 with e | e <;> rw [e] <;> exact this
  have := key items 0 s (fun i p hp => by simpa using hp) hp
  rw [List.range_eq_range']
  simpa using this
end VL

/-! VL20: texts by their methods. -/
namespace VL
open PySem PySem.Spec L2 PyProof.Rows
section
variable {X : Cx} {K : PySem.W.Frag}
theorem map_slV (ls : List (List Nat)) : ls.map (fun l => V.str (sl l)) = (ls.map sl).map V.str := by rw [List.map_map]; rfl
/-! ### sep.join(xs) -/
def rJoin (K : PySem.W.Frag) : V → List V → Hp → VK → Prop := fun x xs H Q => ∃ a p, ∃ ys : List Str, x = .str a ∧ xs = [.ref p] ∧ (SqL K H p (ys.map V.str) ∨ SqT K H p (ys.map V.str)) ∧
    (ys.map (·.length)).sum + ys.length * a.length ≤ 16777216 ∧ Q (.str (Txt.join a ys)) H
theorem k_join (hK : X.K = K) : MtR X "str.join" (rJoin K) := by subst hK; exact mt_join
def joinP (a : List Nat) (ls : List (List Nat)) : Option GV := if (ls.map (·.length)).sum + ls.length * a.length ≤ 16777216 then some (.old (.str (TL.joinL a ls))) else none
@[simp] def gJoin : PV → List PV → Option GV
  | .str a, [.lst ps] => (strsOf ps).bind fun ls => joinP a ls
  | .str a, [.tup ps] => (strsOf ps).bind fun ls => joinP a ls
  | _, _ => none
theorem join_sl (a : List Nat) (ls : List (List Nat)) : Txt.join (sl a) (ls.map sl) = sl (TL.joinL a ls) := by
  refine TL.ext_tl ?_
  rw [TL.join_eq, TL.tl_join, List.map_map]
  have e : TL.tl ∘ sl = id := by funext l; exact cps_sl l
  rw [e, List.map_id, show TL.tl (sl a) = a from cps_sl a]
  exact (cps_sl _).symm
theorem lens_sl (ls : List (List Nat)) : (ls.map sl).map (·.length) = ls.map (·.length) := by
  rw [List.map_map]; exact List.map_congr_left fun l _ => sl_length l
theorem joinP_ok {F H : Hp} {a p : _} {ls : List (List Nat)} {z : GV} {Q : VK} (hs : SqL K H p (ls.map fun l => V.str (sl l)) ∨ SqT K H p (ls.map fun l => V.str (sl l))) (e : joinP a ls = some z) (k : GK K F H Q z) : rJoin K (.str (sl a)) [.ref p] H Q := by
  unfold joinP at e
  split at e
  · rename_i hz
    cases e
    rw [map_slV] at hs
    exact ⟨sl a, p, ls.map sl, rfl, rfl, hs, by rw [lens_sl, List.length_map, sl_length]; exact hz, by rw [join_sl]; exact k _ (.str _)⟩
  · cases e
theorem ok_join : MthOk K (rJoin K) gJoin := by
  intro F H x vs p ps z Q s hx hv e k
  unfold gJoin at e
  split at e
  · obtain ⟨ls, e1, e2⟩ := Option.bind_eq_some_iff.mp e
    obtain rfl := hx.str
    obtain ⟨v, rfl, h⟩ := hv.one
    obtain ⟨a, ws, rfl, h1, r1⟩ := h.lst s
    rw [strsOf_ok e1] at r1
    have := r1.strs
    subst this
    exact joinP_ok (.inl (SqL.of h1)) e2 k
  · obtain ⟨ls, e1, e2⟩ := Option.bind_eq_some_iff.mp e
    obtain rfl := hx.str
    obtain ⟨v, rfl, h⟩ := hv.one
    obtain ⟨a, ws, rfl, _, h1, r1⟩ := h.tup s
    rw [strsOf_ok e1] at r1
    have := r1.strs
    subst this
    exact joinP_ok (.inr (SqT.of h1)) e2 k
  · cases e
/-! ### s.split(sep) -/
def rSplit : V → List V → Hp → VK → Prop := fun x xs H Q => ∃ a b, x = .str a ∧ xs = [.str b] ∧ (b.length == 0) = false ∧ a.length + 2 ≤ sizeLine ∧ rNewStrs (Txt.split a b) H Q
@[simp] def gSplit : PV → List PV → Option GV
  | .str a, [.str b] => if b ≠ [] ∧ b.all (· < 256) = true ∧ a.length + 2 ≤ sizeLine then some (.nw (.lst ((TL.spl b 0 [] a).map .str))) else none
  | _, _ => none
theorem str_tl (x : Str) : sl (TL.tl x) = x := sl_cps x
theorem split_sl {a b : List Nat} (hb : b ≠ []) (h : b.all (· < 256) = true) : Txt.split (sl a) (sl b) = (TL.spl b 0 [] a).map sl := by
  have tb : TL.tl (sl b) = b := cps_sl b
  have e := TL.split_spl (sl a) (sl b) (by rw [tb]; exact hb) (TL.kind_ok (by simpa [sl] using h))
  rw [tb, show TL.tl (sl a) = a from cps_sl a] at e
  rw [← e, List.map_map]
  have : (sl ∘ TL.tl) = id := by funext x; exact str_tl x
  rw [this, List.map_id]
theorem ok_split : MthOk K rSplit gSplit := by
  intro F H x vs p ps z Q s hx hv e k
  unfold gSplit at e
  split at e
  · split at e
    · rename_i hh
      cases e
      obtain rfl := hx.str
      obtain ⟨v, rfl, h⟩ := hv.one
      obtain rfl := h.str
      refine ⟨_, _, rfl, rfl, ?_, by rw [sl_length]; exact hh.2.2, fun p hp => ?_⟩
      · rw [sl_length]
        simpa using hh.1
      · rw [split_sl hh.1 hh.2.1, ← map_slV]
        exact k.2 p (.lst _) hp (RpAll.of_strs _)
    · cases e
  · cases e
/-! ### startswith, endswith, count -/
def rS2 (g : Str → Str → V) : V → List V → Hp → VK → Prop := fun x xs H Q => ∃ a b, x = .str a ∧ xs = [.str b] ∧ Q (g a b) H
@[simp] def gS2 (f : List Nat → List Nat → PV) : PV → List PV → Option GV
  | .str a, [.str b] => some (.old (f a b))
  | _, _ => none
theorem ok_s2 {g : Str → Str → V} {f : List Nat → List Nat → PV} (h : ∀ F a b, Rp K F (g (sl a) (sl b)) (f a b)) : MthOk K (rS2 g) (gS2 f) := by
  intro F H x vs p ps z Q s hx hv e k
  unfold gS2 at e
  split at e
  · cases e
    obtain rfl := hx.str
    obtain ⟨v, rfl, h'⟩ := hv.one
    obtain rfl := h'.str
    exact ⟨_, _, rfl, rfl, k _ (h F _ _)⟩
  · cases e
def startsP (a b : List Nat) : Bool := Txt.startswith (sl a) (sl b)
def endsP (a b : List Nat) : Bool := Txt.endswith (sl a) (sl b)
def countP (a b : List Nat) : Int := Txt.count (sl a) (sl b)
abbrev gStarts := gS2 fun a b => .bl (startsP a b)
abbrev gEnds := gS2 fun a b => .bl (endsP a b)
abbrev gCount := gS2 fun a b => .int (countP a b)
theorem k_starts : MtR X "str.startswith" (rS2 fun a b => .bl (Txt.startswith a b)) := mt_startswith
theorem k_ends : MtR X "str.endswith" (rS2 fun a b => .bl (Txt.endswith a b)) := mt_endswith
theorem k_count : MtR X "str.count" (rS2 fun a b => .int (Txt.count a b)) := mt_count
theorem ok_starts : MthOk K (rS2 fun a b => .bl (Txt.startswith a b)) gStarts := ok_s2 fun F a b => .bl _
theorem ok_ends : MthOk K (rS2 fun a b => .bl (Txt.endswith a b)) gEnds := ok_s2 fun F a b => .bl _
theorem ok_count : MthOk K (rS2 fun a b => .int (Txt.count a b)) gCount := ok_s2 fun F a b => .int _
/-! ### lower -/
def rLower : V → List V → Hp → VK → Prop := fun x xs H Q => ∃ a, x = .str a ∧ xs = [] ∧ a.length ≤ 5592405 ∧ Q (.str (Txt.lower a)) H
def lowerP (a : List Nat) : List Nat := (Txt.lower (sl a)).cps.toList
@[simp] def gLower : PV → List PV → Option GV
  | .str a, [] => if a.length ≤ 5592405 then some (.old (.str (lowerP a))) else none
  | _, _ => none
theorem k_lower : MtR X "str.lower" rLower := mt_lower
theorem ok_lower : MthOk K rLower gLower := by
  intro F H x vs p ps z Q s hx hv e k
  unfold gLower at e
  split at e
  · split at e
    · rename_i hz
      cases e
      obtain rfl := hx.str
      obtain rfl := hv.zero
      exact ⟨_, rfl, rfl, by rw [sl_length]; exact hz, k _ (rp_cps _)⟩
    · cases e
  · cases e
/-! ### what they are -/
theorem joinL_nil : ∀ ls : List (List Nat), TL.joinL [] ls = ls.flatten
  | [] => rfl
  | [p] => by simp [TL.joinL]
  | p :: q :: r => by rw [TL.joinL, joinL_nil (q :: r)]; simp
end
end VL

/-! VL21: exceptions: what the classes must have, raise, calls of defs that raise, try. -/
namespace VL
open PySem PySem.Spec L2 PyProof.Rows

/-! ### the head, with further facts -/
section
variable {fb : PySem.W.Frag → Bool} {fa : List He.Fa} {fn : List He.DefD} {K : PySem.W.Frag}
def obsX (fb : PySem.W.Frag → Bool) (fa : List He.Fa) (fn : List He.DefD) (K : PySem.W.Frag) : He.AlD := ((He.obsD fa fn K).1 && fb K, (He.obsD fa fn K).2)
def SaysX (fb : PySem.W.Frag → Bool) (fa : List He.Fa) (fn : List He.DefD) (K : PySem.W.Frag) : Prop := obsX fb fa fn K = He.valD fn
def obsXG (n : Nat) (fb : PySem.W.Frag → Bool) (fa : List He.Fa) (fn : List He.DefD) (g : Addr → Option Obj) : He.AlD := obsX fb fa fn (He.frG g (cStatics :: sysModules :: He.asD g n))
def hookX (n : Nat) (fb : PySem.W.Frag → Bool) (fa : List He.Fa) (fn : List He.DefD) : PySem.W.Hook where
  α := He.AlD
  obs := fun s => obsXG n fb fa fn s.heap.get?
  val := fun _ => He.valD fn
  says := fun _ h => ∃ K : PySem.W.Frag, K.In h ∧ SaysX fb fa fn K
  of := fun _ _ e => ⟨_, He.frG_in, e⟩
  keeps := fun _ _ _ ⟨K, hK, c⟩ k => ⟨K, PySem.W.Frag.In.keeps hK k, c⟩
theorem obsXG_eq {n : Nat} {g : Addr → Option Obj} {s : Shared} (h : ∀ a, g a = s.heap.get? a) : obsXG n fb fa fn g = (hookX n fb fa fn).obs s := by
  have e : g = s.heap.get? := funext h
  rw [e]; rfl
theorem SaysX.b (c : SaysX fb fa fn K) : fb K = true := (He.ba (show ((He.obsD fa fn K).1 && fb K) = true from congrArg (fun z : He.AlD => z.1) c)).2
theorem SaysX.d (c : SaysX fb fa fn K) : He.SaysD fa fn K := by
  have h1 := (He.ba (show ((He.obsD fa fn K).1 && fb K) = true from congrArg (fun z : He.AlD => z.1) c)).1
  have h2 : (He.obsD fa fn K).2 = fn.map He.DefD.val := congrArg (fun z : He.AlD => z.2) c
  show He.obsD fa fn K = (true, fn.map He.DefD.val)
  exact Prod.ext h1 h2
end

/-! ### exception classes of the program -/
/-- over ValueError -/
def oexB (K : PySem.W.Frag) (C : Addr) : Bool := (match K.lookup C with
  | some ⟨.type "type", _, .cls cd, osl⟩ => (match cd.mro, osl.toList with
    | .ref D :: bm, [_, _, _, _, some (.builtin n), _] => decide (D = C) && (decide (n = "ValueError.__new__") && (!cd.hasDel && (cd.hasDict && PySem.HandSPX.refsVE bm)))
    | _, _ => false)
  | _ => false) && (He.eqO (PySem.W.findIn K (.ref C) "__setattr__") (some (some (.builtin "object.__setattr__"))) && (decide (PySem.W.subIn K (.ref C) (.type "BaseException") = some true) && (decide (PySem.W.typeIn K (.ref C) = some (.type "type")) && PySem.W.keepIn K (.ref C))))
theorem oexB_ok {K : PySem.W.Frag} {C : Addr} (h : oexB K C = true) : OexC K C := by
  obtain ⟨h1, h⟩ := He.ba h
  obtain ⟨h2, h⟩ := He.ba h
  obtain ⟨h3, h⟩ := He.ba h
  obtain ⟨h4, h5⟩ := He.ba h
  refine ⟨?_, He.eqO_ok h2, of_decide_eq_true h3, of_decide_eq_true h4, h5⟩
  split at h1
  · rename_i dd cd osl ho
    split at h1
    · rename_i D bm k0 k1 k2 k3 n k5 hm hs
      obtain ⟨a1, h1⟩ := He.ba h1
      obtain ⟨a2, h1⟩ := He.ba h1
      obtain ⟨a3, h1⟩ := He.ba h1
      obtain ⟨a4, a5⟩ := He.ba h1
      obtain rfl := of_decide_eq_true a1
      obtain rfl := of_decide_eq_true a2
      obtain ⟨nm, bs, mro, nsA, qn, hd, sn, sub, ab, col, dl⟩ := cd
      dsimp only at hm a3 a4
      simp only [Bool.not_eq_true'] at a3
      subst hm a3 a4
      have hsl : osl = #[k0, k1, k2, k3, some (.builtin "ValueError.__new__"), k5] := by
        obtain ⟨l⟩ := osl
        simp only at hs
        rw [hs]
      subst hsl
      exact ⟨nm, qn, nsA, bs, bm, sn, sub, ab, col, dd, k0, k1, k2, k3, k5, ho, a5⟩
    · cases h1
  · cases h1
/-- G.__init__ is ValueError's -/
structure VeI (K : PySem.W.Frag) (G : Addr) : Prop where
  rd : PySem.W.readsIn K G (.type "type") = true
  sp : PySem.W.specialIn K (.ref G) "__getattribute__" = some (some (.builtin "type.__getattribute__"))
  at_ : PySem.W.findCls K (.ref G) (.type "type") "__init__" = some (.val (.builtin "ValueError.__init__"))
def veiB (K : PySem.W.Frag) (G : Addr) : Bool := PySem.W.readsIn K G (.type "type") && (He.eqO (PySem.W.specialIn K (.ref G) "__getattribute__") (some (some (.builtin "type.__getattribute__"))) &&
  match PySem.W.findCls K (.ref G) (.type "type") "__init__" with
  | some (.val (.builtin n)) => decide (n = "ValueError.__init__")
  | _ => false)
theorem veiB_ok {K : PySem.W.Frag} {G : Addr} (h : veiB K G = true) : VeI K G := by
  obtain ⟨h1, h⟩ := He.ba h
  obtain ⟨h2, h3⟩ := He.ba h
  refine ⟨h1, He.eqO_ok h2, ?_⟩
  split at h3
  · rename_i n e
    rw [e, of_decide_eq_true h3]
  · cases h3
/-- C's own __init__ stands at fI; the fields' names are no attributes of C's -/
structure ExC (K : PySem.W.Frag) (C fI : Addr) (fs : List Str) : Prop where
  oex : OexC K C
  iC : PySem.W.findIn K (.ref C) "__init__" = some (some (.ref fI))
  tI : PySem.W.typeIn K (.ref fI) = some (.type "function")
  no : ∀ f ∈ fs, PySem.W.findIn K (.ref C) f = some none
  xf : XfC K C
def exCB (K : PySem.W.Frag) (C fI : Addr) (fs : List Str) : Bool := oexB K C && (He.eqO (PySem.W.findIn K (.ref C) "__init__") (some (some (.ref fI))) && (decide (PySem.W.typeIn K (.ref fI) = some (.type "function")) && ((fs.all fun f => He.eqO (PySem.W.findIn K (.ref C) f) (some none)) && xfB K C)))
theorem exCB_ok {K : PySem.W.Frag} {C fI : Addr} {fs : List Str} (h : exCB K C fI fs = true) : ExC K C fI fs := by
  obtain ⟨h1, h⟩ := He.ba h
  obtain ⟨h2, h⟩ := He.ba h
  obtain ⟨h3, h⟩ := He.ba h
  obtain ⟨h4, h5⟩ := He.ba h
  exact ⟨oexB_ok h1, He.eqO_ok h2, of_decide_eq_true h3, fun f hf => He.eqO_ok (List.all_eq_true.mp h4 f hf), xfB_ok h5⟩

/-! ### an __init__ of such a class -/
section
variable {X : Cx} {e : Expr} {es : List Expr} {ta : TA} {p1 p2 pos : Pos} {G : Addr} {x : Str}
theorem pe_oinit {pl : Sem Bool} (hg : Gl X x) (hm : X.mg x = some (.ref G)) (T : VeI X.K G) (ha : PA X (e :: es) ta)
    (hc : eval (.Call (.Attribute (.Name x p1) "__init__" p2) (e :: es) [] pos) X.env = (do
      let cls ← eval (.Name x p1) X.env
      standAt p2.atName
      let (f, first) ← holding [cls] (getMethod cls "__init__" pl)
      callWith pos f first (backTo pos (starEach (e :: es) X.env)) (backToKw pos (keywordEach [] X.env))) := by rfl) (hdb : (x == ("__debug__" : Str)) = false := by decide)
    (he : starEach (e :: es) X.env = (false, eval e X.env) :: starEach es X.env := by rfl) (hpl : (backTo pos (starEach es X.env)).any (·.1) = false := by rfl) :
    PE X (.Call (.Attribute (.Name x p1) "__init__" p2) (e :: es) [] pos) (tVeI X.K ta) := by
  refine ⟨fun pins s σ H Q I h => ?_⟩
  refine PySem.W.methodCall_KW (ld_glob I hg hm ?_ hdb) hc
  refine PySem.W.method_cls I.kIn T.sp (PySem.W.cls_value I.kIn T.rd T.at_ (by decide +kernel) ?_)
  show wpAny _ _ (callWith pos (Value.builtin "ValueError.__init__") [] (backTo pos (starEach (e :: es) X.env)) []) _ _ _
  refine PyProof.Rows.callWith_method1 (thn (ha.run pos pins _ σ H _ (I.tok _) h) fun us s1 ⟨vs, H1, I1, r1, a, C, ws, ev, hl, TC, ea, q⟩ => ?_) he hpl
  subst ev
  cases r1 with
  | @cons _ u0 _ ur r0 rr =>
    obtain rfl : u0 = Value.ref a := r0
    refine oinit_ok TC I1 ea ?_ fun s2 J => ⟨.non, H1, J, rfl, q⟩
    rw [← Paired.length rr, sizeLine_eq]
    omega
end
end VL

/-! VL22: raise; calls of defs that raise; try. -/
namespace VL
open PySem PySem.Spec L2 PyProof.Rows
/-! ### an exception's own __init__ -/
def spExI (C : Addr) (fs : List Str) : Sp := fun vs H Q _ => ∃ (a : Addr) (ys : List V), vs = .ref a :: ys ∧ ys.length = fs.length ∧ H a = some (exo a C none) ∧ ∀ dx, H dx = none → dx ≠ a → Q .non (upd (upd H dx (exd dx (fs.zip ys).reverse)) a (exo a C (some dx)))
theorem upd3 {H : Hp} {a d : Addr} {o u v : HO} (h : d ≠ a) : upd (upd (upd H d o) a u) d v = upd (upd H d v) a u := by
  funext b
  by_cases h1 : b = d
  · subst h1; rw [upd_same, upd_ne h, upd_same]
  · by_cases h2 : b = a
    · subst h2; rw [upd_ne h1, upd_same, upd_same]
    · rw [upd_ne h1, upd_ne h2, upd_ne h1, upd_ne h2, upd_ne h1]
section
variable {K : PySem.W.Frag} {C a : Addr} {H : Hp} {Q : VK} {f g : Str} {y z : V} {x : Str} {D : Ends}
theorem init1 (T : OexC K C) (no : PySem.W.findIn K (.ref C) f = some none) (h : H a = some (exo a C none)) (hq : ∀ dx, H dx = none → dx ≠ a → Q .non (upd (upd H dx (exd dx [(f, y)])) a (exo a C (some dx)))) :
    tSeq (tDrop (tVeI K (tCons (tVar 0) (tCons (tC (.str x)) tNil)))) (tOst K f (tVar 0) (tVar 1)) { nx := fun _ H' => Q .non H', rt := Q } [some (.ref a), some y] H :=
  ⟨_, rfl, a, C, [.str x], rfl, Nat.le_add_left 1 999, T, h, _, rfl, _, rfl, a, C, rfl, T, no, .inl ⟨h, hq⟩⟩
theorem init2 (T : OexC K C) (no : PySem.W.findIn K (.ref C) f = some none) (no2 : PySem.W.findIn K (.ref C) g = some none) (h : H a = some (exo a C none)) (hq : ∀ dx, H dx = none → dx ≠ a → Q .non (upd (upd H dx (exd dx [(g, z), (f, y)])) a (exo a C (some dx)))) :
    tSeq (tDrop (tVeI K (tCons (tVar 0) (tCons (tC (.str x)) tNil)))) (tSeq (tOst K f (tVar 0) (tVar 1)) (tOst K g (tVar 0) (tVar 2))) { nx := fun _ H' => Q .non H', rt := Q } [some (.ref a), some y, some z] H :=
  ⟨_, rfl, a, C, [.str x], rfl, Nat.le_add_left 1 999, T, h, _, rfl, _, rfl, a, C, rfl, T, no, .inl ⟨h, fun dx hn ne => ⟨_, rfl, _, rfl, a, C, rfl, T, no2, .inr ⟨dx, [(f, y)], upd_same, by rw [upd_ne ne, upd_same], Nat.le_add_left 1 899, by
    show Q .non _
    rw [upd3 ne]
    exact hq dx hn ne⟩⟩⟩⟩
end
/-! ### raise C(e, ..) -/
section
variable {X : Cx} {K : PySem.W.Frag} {W : WX} {ms : List Nat}
def dRaise (c : Str) (fs : List Str) (da : PSt → Res (List RV)) : PSt → SRes := fun τ => (da τ).bindS fun rs τ1 => match leakAll rs τ1 with
  | some (ps, τ2) => if ps.length = fs.length ∧ ps.length ≤ 1000 then .er ⟨c, (fs.zip ps).reverse⟩ τ2 else .no
  | none => .no
theorem zip_keys {α β γ : Type} : ∀ {l : List α} {a : List β} {b : List γ}, a.length = b.length → (l.zip a).map (·.1) = (l.zip b).map (·.1)
  | [], _, _, _ => by simp
  | x :: l, [], [], _ => rfl
  | x :: l, y :: a, z :: b, h => by simpa using zip_keys (by simpa using h)
  | x :: l, [], z :: b, h => by simp at h
  | x :: l, y :: a, [], h => by simp at h
theorem rp_zip2 {F : Hp} : ∀ {l : List Str} {vs : List V} {ps : List PV}, RpAll K F vs ps → RpAll K F ((l.zip vs).map (·.2)) ((l.zip ps).map (·.2))
  | [], _, _, _ => by simp; exact .nil
  | _ :: _, _, _, .nil => by simp; exact .nil
  | _ :: l, _, _, .cons h r => .cons h (rp_zip2 r)
theorem raise_heap {H : Hp} {a d : Addr} {o u v w : HO} (ha : H a = none) (hd : d ≠ a) : upd (del (upd (upd (upd H a o) d u) a w) a) d v = upd H d v := by
  funext b
  by_cases h1 : b = d
  · subst h1; rw [upd_same, upd_same]
  · rw [upd_ne h1, upd_ne h1]
    by_cases h2 : b = a
    · subst h2; rw [del_same, ha]
    · rw [del_ne h2, upd_ne h2, upd_ne h1, upd_ne h2]
theorem ms_raise {c : Str} {fI : Addr} {fd : FuncData} {k : Nat} {ps fs : List Str} {p pos pos' : Pos} {e : Expr} {es : List Expr} (tk : Takes X W) (hc : X.calm = true) (T : ExC X.K (He.ga X.K c) fI fs)
    (F1 : FnOk X.prog X.w X.K X.mg X.base CX0 k fI fd ps (spExI (He.ga X.K c) fs)) (hr : Room (k + 1) X.A) (hb : Binds X.K fd ps []) (hg : Gl X c) (hm : X.mg c = some (.ref (He.ga X.K c))) (ha : MA X K W ms (e :: es) t da)
    (hdb : (c == ("__debug__" : Str)) = false := by decide) (he : starEach (e :: es) X.env = (false, eval e X.env) :: starEach es X.env := by rfl) (hpl : (backTo pos (starEach es X.env)).any (·.1) = false := by rfl) :
    MS X K W ms (.Raise (some (.Call (.Name c p) (e :: es) [] pos)) none pos') (fun _ σ H => tMkO (He.ga K c) (spExI (He.ga K c) fs) [] t σ H fun cls d H' => W cls d σ H') (dRaise c fs da) := by
  obtain ⟨rfl, pa, s⟩ := ha
  refine ⟨rfl, ps_raise hc tk (pmk_oex T.oex T.iC T.tI F1 hr hb .nil pass0 hg hm pa hdb he hpl), ?_⟩
  intro C F τ σ H D hms R k
  unfold dRaise at k
  refine s C F τ σ H _ hms R ((SH.bind (σ := σ) k).imp (fun rs τ1 k => ?_) fun _ _ x => x)
  intro vs H1 F1 s1 R1 rvs
  split at k
  · rename_i ps τ2 e2
    split at k
    · rename_i hl
      obtain ⟨F2, s2, R2, ra⟩ := leakAll_ok R1 rvs e2
      have lv := ra.len
      refine ⟨by omega, fun a hn => ⟨a, vs, by rw [List.append_nil], by omega, upd_same, fun dx hdx ne => ?_⟩⟩
      rw [upd_ne ne] at hdx
      refine ⟨rfl, dx, (fs.zip vs).reverse, upd_same, by rw [upd_ne ne, upd_same], hdx, ?_⟩
      rw [raise_heap hn ne]
      obtain ⟨s3, R3⟩ := R2.new (o := .xd (fs.zip vs).reverse) hdx
      refine k _ _ σ _ _ ((s1.trans s2).trans s3) R3 ⟨rfl, .inr ⟨dx, _, rfl, upd_same, ?_, ?_⟩⟩
      · dsimp only
        rw [List.map_reverse, List.map_reverse, zip_keys lv]
      · dsimp only
        rw [List.map_reverse, List.map_reverse]
        exact (rp_zip2 (ra.mono s3)).reverse
    · exact k.elim
  · exact k.elim
end
/-! ### a call of a def that may raise -/
structure FnX (P : Program) (w : World) (K : PySem.W.Frag) (mg : Str → Option Value) (base : Heap) (x : Str) (k : Nat) (ps : List Str) (sp : Sp) : Prop where
  ex : ∃ f fd, mg x = some (.ref f) ∧ PySem.W.keepIn K (.ref f) = true ∧ Binds K fd ps [] ∧ FnOk P w K mg base (L2.CX P w) k f fd ps sp
section
variable {X : Cx} {K : PySem.W.Frag} {W : WX} {ms : List Nat}
theorem sim_callS {sem : List SV → Res SV} {t : TA} {d : PSt → Res (List RV)} {n : Nat} (hn : ∀ rs τ τ', d τ = .ok rs τ' → rs.length = n) (h1 : SimA K W ms t d) : SimE K W ms (tCallS (spOf K n [] sem) (WE W) t) (dCall sem d) := by
  intro C F τ σ H Q hm R h
  unfold dCall at h
  rw [Res.holds_bind] at h
  cases e : d τ with
  | no => rw [e] at h; exact h.elim
  | er x τ1 =>
    refine h1 C F τ σ H _ hm R ?_
    rw [e] at h ⊢; exact h
  | ok rs τ1 =>
    refine h1 C F τ σ H _ hm R ?_
    rw [e] at h ⊢
    intro vs H1 F1 s1 R1 rvs
    have h : Res.holds (match leakAll rs τ1 with
      | some (ps, τ2) => callOut (sem (ps.map .fz)) τ2
      | none => .no) _ _ := h
    split at h
    · rename_i ps τ2 e2
      obtain ⟨F2, s2, R2, ra⟩ := leakAll_ok R1 rvs e2
      exact call0_ok (by rw [rvs.len]; exact hn _ _ _ e) R2 (s1.trans s2) ra h (.inl fun _ _ _ z => z)
    · exact h.elim
theorem me_callX {sem : List SV → Res SV} {k n : Nat} {ps : List Str} {x : Str} {p pos : Pos} {e : Expr} {es : List Expr} (tk : Takes X W) (G : FnX X.prog X.w X.K X.mg X.base x k ps (spOf K n [] sem)) (hr : Room k X.A) (hg : Gl X x)
    (ha : MA X K W ms (e :: es) t d) (hn : ∀ rs τ τ', d τ = .ok rs τ' → rs.length = n) (hdb : (x == ("__debug__" : Str)) = false := by decide) (he : starEach (e :: es) X.env = (false, eval e X.env) :: starEach es X.env := by rfl) (hpl : (backTo pos (starEach es X.env)).any (·.1) = false := by rfl) :
    ME X K W ms (.Call (.Name x p) (e :: es) [] pos) (tCallS (spOf K n [] sem) (WE W) t) (dCall sem d) := by
  obtain ⟨f, fd, hm, hk, hb, G⟩ := G.ex
  exact ⟨ha.hK, pe_callS G hr hg hm hk hb (passAt tk) ha.pe hdb he hpl, sim_callS hn ha.sim⟩
theorem sim_callMS {sem : List SV → Res SV} {t : TA} {d : PSt → Res (List RV)} {n m : Nat} (hn : ∀ rs τ τ', d τ = .ok rs τ' → rs.length = n) (h1 : SimA K W ms t d) : SimE K W ms (tCallS (spOf K n [m] sem) (WE W) t) (dCallM m sem d) := by
  intro C F τ σ H Q hm R h
  unfold dCallM at h
  rw [Res.holds_bind] at h
  cases e : d τ with
  | no => rw [e] at h; exact h.elim
  | er x τ1 =>
    refine h1 C F τ σ H _ hm R ?_
    rw [e] at h ⊢; exact h
  | ok rs τ1 =>
    refine h1 C F τ σ H _ hm R ?_
    rw [e] at h ⊢
    intro vs H1 F1 s1 R1 rvs
    have h : Res.holds (match rs[m]? with
      | some (.at i) => (match leakBut m rs τ1 with
        | some (ss, τ2) => (match τ2[i]? with
          | some (.ow p) => callOut1 m i (sem (ss.set m (.ow p))) τ2
          | _ => .no)
        | none => .no)
      | _ => .no) _ _ := h
    split at h
    · rename_i i e1
      split at h
      · rename_i ss τ2 e2
        split at h
        · rename_i p e3
          obtain ⟨F2, s2, R2, hs⟩ := leakBut_ok R1 rvs e2
          exact call1_ok (by rw [rvs.len]; exact hn _ _ _ e) R2 (s1.trans s2) hs e3 (rvs.get e1) h (.inl fun _ _ _ z => z)
        · exact h.elim
      · exact h.elim
    · exact h.elim
theorem me_callMX (m : Nat) {sem : List SV → Res SV} {k n : Nat} {ps : List Str} {x : Str} {p pos : Pos} {e : Expr} {es : List Expr} (tk : Takes X W) (G : FnX X.prog X.w X.K X.mg X.base x k ps (spOf K n [m] sem)) (hr : Room k X.A) (hg : Gl X x)
    (ha : MA X K W ms (e :: es) t d) (hn : ∀ rs τ τ', d τ = .ok rs τ' → rs.length = n) (hdb : (x == ("__debug__" : Str)) = false := by decide) (he : starEach (e :: es) X.env = (false, eval e X.env) :: starEach es X.env := by rfl) (hpl : (backTo pos (starEach es X.env)).any (·.1) = false := by rfl) :
    ME X K W ms (.Call (.Name x p) (e :: es) [] pos) (tCallS (spOf K n [m] sem) (WE W) t) (dCallM m sem d) := by
  obtain ⟨f, fd, hm, hk, hb, G⟩ := G.ex
  exact ⟨ha.hK, pe_callS G hr hg hm hk hb (passAt tk) ha.pe hdb he hpl, sim_callMS hn ha.sim⟩
/-! ### try: .. except C: .. -/
def noErS (r : SRes) : SRes := match r with
  | .er _ _ => .no
  | r => r
theorem SH.noErS {C : Ctx} {F F1 : Hp} {D : Ends} {r : SRes} (s : Sub F F1) (h : SH K C F W D (VL.noErS r)) : SH K C F1 (fun _ _ _ _ => False) D r := by
  cases r with
  | er _ _ => exact h.elim
  | nx τ => exact SH.up s (r := .nx τ) h
  | rt r τ => exact SH.up s (r := .rt r τ) h
  | bk τ => exact SH.up s (r := .bk τ) h
  | ct τ => exact SH.up s (r := .ct τ) h
  | no => exact h
/-- m tells whether the clause takes an exception of a class -/
def dTry (m : Str → Option Bool) (db ds : PSt → SRes) : PSt → SRes := fun τ => match db τ with
  | .er e τ' => (match m e.c with
    | some true => noErS (ds τ')
    | some false => .er e τ'
    | none => .no)
  | r => r
abbrev WN : WX := fun _ _ _ _ => False
theorem ms_try1 {c : Value} {x : Str} {body suite : List Stmt} {b₀ : Stmt} {np pos pos' : Pos} {m : Str → Option Bool} {tb : WX → TS} {ts : Addr → Value → Option Addr → TS} (hs : X.stack = X.env :: X.outer) (hf : X.env.frame = some X.env.locals) (hc : Names X x c) (tk : Takes X W)
    (hx : ∀ y b, m y = some b → PySem.W.exmOne X.K (.ref (He.ga X.K y)) c = some b)
    (hb : ∀ (W' : WX) (pn : List (Addr × Obj)) (xe : Value → Shared → Prop), Takes (X.tr pn xe) W' → MSs (X.tr pn xe) K W' ms body (tb W') db)
    (hsu : ∀ (a : Addr) (oe : Obj) (cls : Value) (d : Option Addr) (pn : List (Addr × Obj)), Zc cls d oe → (∃ vs, oe.data = .fields vs) → MSs (X.suite a ((a, oe) :: pn)) K WN ms (b₀ :: suite) (ts a cls d) ds) (hK : X.K = K := by rfl) :
    MS X K W ms (.Try body [.ExceptHandler (some (.Name x np)) none (b₀ :: suite) pos'] [] [] pos) (fun D σ H => tb (wOnly K c ts W D) D σ H) (dTry m db ds) := by
  subst hK
  refine ⟨rfl, ps_try_only hs hf hc tk (fun W' pn xe tk' _ => (hb W' pn xe tk').pe) (fun a oe cls d pn hz hv => (hsu a oe cls d pn hz hv).pe), ?_⟩
  intro C F τ σ H D hm R h
  have hbs : SimS X.K (wOnly X.K c ts W D) ms (tb (wOnly X.K c ts W D)) db := (hb (wOnly X.K c ts W D) [] (fun _ _ => True) (fun _ _ _ => trivial)).sim
  refine hbs C F τ σ H D hm R ?_
  unfold dTry at h
  cases e : db τ with
  | er x' τ' =>
    rw [e] at h
    dsimp only at h
    intro cc d σ' H' F' sF R' ex
    obtain ⟨rfl, ex2⟩ := ex
    cases em : m x'.c with
    | none => rw [em] at h; exact h.elim
    | some b =>
      rw [em] at h
      refine ⟨b, hx _ _ em, fun hb1 a ha => ?_, fun hb1 => ?_⟩
      · subst hb1
        have hsu' := (hsu a { cls := .ref (He.ga X.K x'.c), dict := d, data := .fields #[] } (.ref (He.ga X.K x'.c)) d [] ⟨rfl, rfl⟩ ⟨_, rfl⟩).sim
        exact hsu' C F' τ' σ' H' D hm R' (SH.noErS sF h)
      · subst hb1
        exact h _ _ _ _ _ sF R' ⟨rfl, ex2⟩
  | nx τ' => rw [e] at h; exact h
  | rt r τ' => rw [e] at h; exact h
  | bk τ' => rw [e] at h; exact h
  | ct τ' => rw [e] at h; exact h
  | no => rw [e] at h; exact h
end
end VL

/-! VL23: try .. except C as e; e.f; isinstance(e, C). -/
namespace VL
open PySem PySem.Spec L2 PyProof.Rows
section
variable {X : Cx} {K : PySem.W.Frag} {W : WX} {ms : List Nat}
/-! ### own classes and defs as values -/
theorem me_gref {x : Str} {pos : Pos} (hg : Gl X x) (hm : X.mg x = some (.ref (He.ga X.K x))) (hd : (x == ("__debug__" : Str)) = false := by decide) (hK : X.K = K := by rfl) : ME X K W ms (.Name x pos) (tC (.ref (He.ga K x))) (dC (.fn x)) := by
  subst hK
  exact ⟨rfl, pe_glob hg hm rfl hd, sim_c fun _ => .fn⟩
/-! ### the field of a caught error -/
open Classical in
noncomputable def dXf (G : Prop) (a dd : Addr) (c c0 f : Str) (de : PSt → Res RV) : PSt → Res RV := fun τ => (de τ).bind fun r τ1 => match content r τ1 with
  | some (.exn a' d' c' fs) => if G ∧ a' = a ∧ d' = dd ∧ c = c0 ∧ c' = c0 then (match fs.lookup f with
    | some p => .ok (.fz p) τ1
    | none => .no) else .no
  | _ => .no
theorem lookup_rp {F : Hp} {f : Str} {p : PV} : ∀ {fvs : List (Str × V)} {fps : List (Str × PV)}, fps.map (·.1) = fvs.map (·.1) → RpAll K F (fvs.map (·.2)) (fps.map (·.2)) → fps.lookup f = some p → ∃ v, fvs.lookup f = some v ∧ Rp K F v p
  | [], [], _, _, h => by cases h
  | [], _ :: _, e, _, _ => by simp at e
  | _ :: _, [], e, _, _ => by simp at e
  | (g, v) :: fvs, (g', q) :: fps, e, r, h => by
    simp only [List.map_cons, List.cons.injEq] at e
    obtain ⟨rfl, e2⟩ := e
    cases r with
    | cons h1 r =>
      rw [L2.lookup_put]
      have h2 : (if f = g' then some q else fps.lookup f) = some p := by
        by_cases hf : f = g'
        · subst hf
          rw [if_pos rfl]
          simpa [List.lookup] using h
        · rw [if_neg hf]
          have hb : (f == g') = false := by simpa using hf
          simpa [List.lookup, hb] using h
      by_cases hf : f = g'
      · rw [if_pos hf] at h2 ⊢
        cases h2
        exact ⟨v, rfl, h1⟩
      · rw [if_neg hf] at h2 ⊢
        exact lookup_rp e2 r h2
theorem me_xf {a dd : Addr} {oe : Obj} {cls : Value} {d : Option Addr} {c c0 f : Str} {pn : List (Addr × Obj)} {e : Expr} {t : TE} {de : PSt → Res RV} {pos : Pos} (T : XfC K (He.ga K c0)) (hno : PySem.W.findIn K (.ref (He.ga K c0)) f = some none)
    (hz : Zc cls d oe) (hf : ∃ vs, oe.data = .fields vs) (he : ME (X.suite a ((a, oe) :: pn)) K W ms e t de) (hb : attributeBase e f X.env (eval e X.env) = eval e X.env := by rfl) :
    ME (X.suite a ((a, oe) :: pn)) K W ms (.Attribute e f pos) (tXf a cls d (He.ga K c0) f t) (dXf (cls = .ref (He.ga K c) ∧ d = some dd) a dd c c0 f de) := by
  obtain ⟨rfl, p, s⟩ := he
  refine ⟨rfl, pe_xf T hno hz hf p hb, ?_⟩
  intro C F τ σ H Q hm R h
  unfold dXf at h
  rw [Res.holds_bind] at h
  refine s C F τ σ H _ hm R (h.imp (fun r1 τ1 k => ?_) fun _ _ x => x)
  intro v1 H1 F1 s1 ok1
  obtain ⟨F1', s1', R1, rv1⟩ := ok1.froze
  split at k
  · rename_i a' d' c' fs e1
    split at k
    · rename_i hh
      obtain ⟨⟨g1, g2⟩, rfl, rfl, rfl, rfl⟩ := hh
      have rp := content_ok R1 rv1 (by rw [content_nf]; exact e1)
      rcases rp with rp | ⟨b, _, q⟩
      · cases rp with
        | exn hF ek ra =>
          split at k
          · rename_i q eq_
            obtain ⟨v, hv, rv⟩ := lookup_rp ek ra eq_
            exact ⟨rfl, g1, _, _, v, g2, R1.sub _ _ hF, hv, k _ _ _ (s1.trans s1') ⟨R1, rv⟩⟩
          · exact k.elim
      · exact q.elim
    · exact k.elim
  · exact k.elim
/-! ### isinstance(e, C), which holds -/
theorem yes_ans {Kf : PySem.W.Frag} {x t : Value} {S : Heap → Prop} {c : Value} (ty : ∀ (M : Model) (hp : Heap), Kf.In hp → S hp → PySem.W.Looks M hp (typeOf x) t) (e : PySem.W.kitOne Kf t c = some true) : Answers (fun s => Kf.In s.heap ∧ S s.heap) x c true := by
  intro dep tk prog w A R s hs
  obtain ⟨hp, gg, dr, tt, oz⟩ := s
  obtain ⟨⟨Xi, pp⟩, hq⟩ := hs
  have LT := ty (model prog w) hp Xi pp
  unfold PySem.W.kitOne at e
  unfold Builtin.«isinstance.nested»
  refine wpAny_bind (LT.at ?r1)
  by_cases q : (t == c) = true
  · rw [if_pos q]
    first
      | ((repeat lk); exact hq tt)
      | exact wpAny_bind (wpAny_rule (hq tt))
      | exact wpAny_bind (wpAny_rule (wpAny_pure (hq tt)))
  · rw [if_neg q] at e
    rw [if_neg q]
    obtain ⟨k1, k2, k3⟩ := PySem.W.kit_cls (M := model prog w) Xi e
    have LI : PySem.W.Looks (model prog w) hp (isInstance x c) true := LT.andThen k3
    refine wpAny_bind (k1.at ?r2)
    rw [if_pos (by decide)]
    k_delta "plainIsInstance"
    refine wpAny_bind (wpAny_bind (k2.at ?r3))
    simp only [Bool.not_true, Bool.false_eq_true, if_false]
    refine wpAny_bind (LI.at ?r4)
    first
      | exact wpAny_pure (wpAny_pure (hq tt))
      | (simp only [if_true]; first | exact wpAny_pure (wpAny_pure (hq tt)) | exact wpAny_pure (hq tt) | exact wpAny_bind (wpAny_pure (wpAny_pure (hq tt))))
def rIsY (K : PySem.W.Frag) (cls : Value) (a : Addr) : List V → Hp → VK → Prop := fun xs H Q => ∃ (c : V) (u : Value), xs = [.ref a, c] ∧ ClsV c u ∧ PySem.W.kitOne K cls u = some true ∧ Q (.bl true) H
theorem call_isY {a : Addr} {cls : Value} {d : Option Addr} {oe : Obj} {pn : List (Addr × Obj)} (hz : Zc cls d oe) : CallR (X.suite a ((a, oe) :: pn)) (.builtin "isinstance") (rIsY X.K cls a) := by
  intro pins s σ H xs us Q I r h
  obtain ⟨c, u, rfl, hcv, e, q⟩ := h
  cases r with
  | cons rx rr =>
    cases rr with
    | cons rt rr =>
      cases rr
      cases rx
      have ec := hcv.eq rt
      subst ec
      obtain ⟨hget, _⟩ := I.pin (a, oe) (List.mem_append.mpr (.inl List.mem_cons_self))
      have ty : ∀ (M : Model) (hp : Heap), X.K.In hp → hp.get? a = some oe → PySem.W.Looks M hp (typeOf (.ref a)) cls := fun M hp _ ho A Q E s k q => wpAny_typeOf_ref (k _ _ ho) (by rw [hz.1]; exact q)
      exact call_isinstance (S := fun _ R s => (X.K.In s.heap ∧ s.heap.get? a = some oe) ∧ ∀ tk, R (.ok (.ret (.bool true))) { s with toks := tk })
        (fun prog w A R s hs => isinstance_outer (yes_ans ty e 0 _ prog w A R s hs) (fun z => nomatch z)) ⟨⟨I.kIn, hget⟩, fun tk => ⟨.bl true, H, I.kept (t' := tk) fun _ _ z => z, rfl, q⟩⟩
def clsK : PV → Option (Sum Str String)
  | .fn D => some (.inl D)
  | .ty n => some (.inr n)
  | _ => none
def clsU (K : PySem.W.Frag) : Sum Str String → Value
  | .inl D => .ref (He.ga K D)
  | .inr n => .type n
open Classical in
noncomputable def gIsY (G : Prop) (a : Addr) (c : Str) (mI : List (Str × Sum Str String)) : List PV → Option GV
  | [.exn a' d' c' fs, p] => (clsK p).bind fun y => if G ∧ a' = a ∧ (c, y) ∈ mI then some (.old (.bl true)) else none
  | _ => none
theorem ok_isY {G : Prop} {a : Addr} {c : Str} {mI : List (Str × Sum Str String)} {cls : Value} (hG : G → cls = .ref (He.ga K c)) (hI : ∀ c y, (c, y) ∈ mI → PySem.W.kitOne K (.ref (He.ga K c)) (clsU K y) = some true) : OpNOk K (rIsY K cls a) (gIsY G a c mI) := by
  intro F H vs ps z Q s hx e k
  unfold gIsY at e
  split at e
  · rename_i a' d' c' fs p
    obtain ⟨y, e1, e2⟩ := Option.bind_eq_some_iff.mp e
    split at e2
    · rename_i hh
      obtain ⟨h1, rfl, h3⟩ := hh
      cases e2
      obtain ⟨v, w, rfl, h4, h5⟩ := hx.two
      have hk := hI _ _ h3
      rw [← hG h1] at hk
      rcases h4 with h4 | ⟨b, _, q⟩
      · cases h4 with
        | exn _ _ _ =>
          have hc : ∃ u, ClsV w u ∧ u = clsU K y := by
            cases p <;> try cases e1
            · rcases h5 with h5 | ⟨b, _, q⟩
              · cases h5; exact ⟨_, .own _, rfl⟩
              · exact q.elim
            · rcases h5 with h5 | ⟨b, _, q⟩
              · cases h5; exact ⟨_, .ty _, rfl⟩
              · exact q.elim
          obtain ⟨u, hc, rfl⟩ := hc
          exact ⟨w, _, rfl, hc, hk, k _ (.bl _)⟩
      · exact q.elim
    · cases e2
  · cases e
/-! ### try: .. except C as e: .. -/
def unS (i : Nat) (r : SRes) : SRes := match r with
  | .nx τ => .nx (τ.set i .un)
  | .bk τ => .bk (τ.set i .un)
  | .ct τ => .ct (τ.set i .un)
  | .rt r τ => .rt r (τ.set i .un)
  | .er _ _ => .no
  | .no => .no
open Classical in
noncomputable def pickR (f : Addr → Addr → SRes) : SRes := if ∀ a d, f a d = f 0 0 then f 0 0 else .no
@[simp] theorem pickR_c (r : SRes) : pickR (fun _ _ => r) = r := if_pos fun _ _ => rfl
noncomputable def dTryAs (i : Nat) (m : Str → Option Bool) (db : PSt → SRes) (ds : Prop → Addr → Addr → Str → PSt → SRes) : PSt → SRes := fun τ => match db τ with
  | .er e τ' => (match m e.c with
    | some true => if e.fs = [] then .no else pickR fun a dd => unS i (ds True a dd e.c (τ'.set i (.fz (.exn a dd e.c e.fs))))
    | some false => .er e τ'
    | none => .no)
  | r => r
theorem fgt1 (i : Nat) (τ : PSt) : fgt [i] τ = τ.set i .un := rfl
theorem off_set {σ : L2.St} {i : Nat} {o : Option V} : OffIs [i] σ (σ.set i o) := ⟨List.length_set, fun j hj => List.getElem?_set_ne (by simpa [eq_comm] using hj)⟩
theorem SH.unS {C : Ctx} {F F1 : Hp} {D : Ends} {i : Nat} {r : SRes} (hi : i ∉ C.ms) (s : Sub F F1) (h : SH K C F W D (VL.unS i r)) :
    SH K C F1 WN { nx := fun σ' H' => D.nx (σ'.set i none) H', rt := D.rt, bk := fun σ' H' => D.bk (σ'.set i none) H', ct := fun σ' H' => D.ct (σ'.set i none) H' } r := by
  have key : ∀ {F' : Hp} {τ : PSt} {σ' : L2.St} {H' : Hp}, Rel K C F' τ σ' H' → Rel K C F' (τ.set i .un) (σ'.set i none) H' := fun {F' τ σ' H'} R => by
    rw [← fgt1]
    exact (R.fgt (is := [i])).shift off_set fun j hj => by rw [List.mem_singleton.mp hj]; exact hi
  cases r with
  | er _ _ => exact h.elim
  | nx τ => exact fun σ' H' F' q R => h _ H' F' (s.trans q) (key R)
  | bk τ => exact fun σ' H' F' q R => h _ H' F' (s.trans q) (key R)
  | ct τ => exact fun σ' H' F' q R => h _ H' F' (s.trans q) (key R)
  | rt x τ =>
    intro v σ' H' F' q R
    refine h v σ' H' F' (s.trans q) ?_
    cases x with
    | un => exact R.elim
    | fz p => exact ⟨R.1.forget, R.2⟩
    | ow p =>
      obtain ⟨a, rfl, own, R, g1, g2, g3, g4⟩ := R
      exact ⟨a, rfl, own, by rw [← fgt1]; exact R.fgt', g1, g2, g3, g4⟩
    | tr _ => exact R.elim
    | ob _ _ => exact R.elim
  | no => exact h
theorem ms_tryAs {c : Value} {x n : Str} {i : Nat} {body suite : List Stmt} {b₀ : Stmt} {np pos pos' : Pos} {m : Str → Option Bool} {tb : WX → TS} {ts : Addr → Value → Option Addr → TS} {ds : Prop → Addr → Addr → Str → PSt → SRes} (hs : X.stack = X.env :: X.outer) (hf : X.env.frame = some X.env.locals)
    (hN : X.N.Nodup) (hi : X.N[i]? = some n) (hln : X.env.kindOf n = some .local) (hms : i ∉ ms) (hc : Names X x c) (tk : Takes X W)
    (hx : ∀ y b, m y = some b → PySem.W.exmOne X.K (.ref (He.ga X.K y)) c = some b)
    (hb : ∀ (W' : WX) (pn : List (Addr × Obj)) (xe : Value → Shared → Prop), Takes (X.tr pn xe) W' → MSs (X.tr pn xe) K W' ms body (tb W') db)
    (hsu : ∀ (a : Addr) (oe : Obj) (cls : Value) (d : Option Addr) (pn : List (Addr × Obj)) (y : Str) (dd : Addr), Zc cls d oe → (∃ vs, oe.data = .fields vs) → MSs (X.suite a ((a, oe) :: pn)) K WN ms (b₀ :: suite) (ts a cls d) (ds (cls = .ref (He.ga K y) ∧ d = some dd) a dd y)) (hK : X.K = K := by rfl) :
    MS X K W ms (.Try body [.ExceptHandler (some (.Name x np)) (some n) (b₀ :: suite) pos'] [] [] pos) (fun D σ H => tb (wAs K c i ts W D) D σ H) (dTryAs i m db ds) := by
  subst hK
  refine ⟨rfl, ps_try_as hs hf hN hi hln hc tk (fun W' pn xe tk' _ => (hb W' pn xe tk').pe) (fun a oe cls d pn hz hv => (hsu a oe cls d pn "" 0 hz hv).pe), ?_⟩
  intro C F τ σ H D hm R h
  have hbs : SimS X.K (wAs X.K c i ts W D) ms (tb (wAs X.K c i ts W D)) db := (hb (wAs X.K c i ts W D) [] (fun _ _ => True) (fun _ _ _ => trivial)).sim
  refine hbs C F τ σ H D hm R ?_
  unfold dTryAs at h
  cases e : db τ with
  | er x' τ' =>
    rw [e] at h
    dsimp only at h
    intro cc d σ' H' F' sF R' ex
    obtain ⟨rfl, ex2⟩ := ex
    cases em : m x'.c with
    | none => rw [em] at h; exact h.elim
    | some b =>
      rw [em] at h
      refine ⟨b, hx _ _ em, fun hb1 a ha => ?_, fun hb1 => ?_⟩
      · subst hb1
        dsimp only at h
        split at h
        · exact h.elim
        · rename_i hne
          rcases ex2 with ex2 | ⟨dd, fvs, rfl, hF, ek, ra⟩
          · exact absurd ex2 hne
          have hsu' := (hsu a { cls := .ref (He.ga X.K x'.c), dict := some dd, data := .fields #[] } (.ref (He.ga X.K x'.c)) (some dd) [] x'.c dd ⟨rfl, rfl⟩ ⟨_, rfl⟩).sim
          rw [show ((Value.ref (He.ga X.K x'.c) = Value.ref (He.ga X.K x'.c) ∧ some dd = some dd)) = True by simp] at hsu'
          have himp : i ∉ C.ms := by rw [hm]; exact hms
          have R2 := R'.set himp (v := .ref a) (p := .exn a dd x'.c x'.fs) (.exn hF ek ra)
          refine hsu' C F' _ _ H' _ hm R2 (SH.unS (W := W) himp sF ?_)
          unfold pickR at h
          split at h
          · rename_i hall
            rw [← hall a dd] at h; exact h
          · exact h.elim
      · subst hb1
        exact h _ _ _ _ _ sF R' ⟨rfl, ex2⟩
  | nx τ' => rw [e] at h; exact h
  | rt r τ' => rw [e] at h; exact h
  | bk τ' => rw [e] at h; exact h
  | ct τ' => rw [e] at h; exact h
  | no => rw [e] at h; exact h
end
end VL

/-! VL24: repr of data with dicts; exceptions' makers; list.insert. -/
namespace VL
open PySem PySem.Spec L2 PyProof.Rows
/-! ### data with dicts -/
def kDat : Sum Int (List Nat) → PyData
  | .inl i => .int i
  | .inr l => .str (sl l)
def PK.dat : PK → PyData
  | .int i => .int i
  | .str l => .str (sl l)
  | .tup ks => .tuple (ks.map kDat)
mutual
def toQ : PV → Option PyData
  | .non => some .none
  | .bl b => some (.bool b)
  | .int i => some (.int i)
  | .str l => some (.str (sl l))
  | .lst ps => (toQs ps).map .list
  | .tup ps => (toQs ps).map .tuple
  | .dic _ kps => (toQk kps).map .dict
  | _ => none
def toQs : List PV → Option (List PyData)
  | [] => some []
  | p :: ps => (toQ p).bind fun d => (toQs ps).map (d :: ·)
def toQk : List (PK × PV) → Option (List (PyData × PyData))
  | [] => some []
  | (k, p) :: r => (toQ p).bind fun d => (toQk r).map ((k.dat, d) :: ·)
end
/-- sys.modules is no list -/
def SysD (K : PySem.W.Frag) : Prop := ∃ o, K.lookup sysModules = some o ∧ o.cls = .type "dict"
def sysB (K : PySem.W.Frag) : Bool := match K.lookup sysModules with
  | some o => decide (o.cls = .type "dict")
  | none => false
theorem sysB_ok {K : PySem.W.Frag} (h : sysB K = true) : SysD K := by
  unfold sysB at h
  split at h
  · rename_i o e; exact ⟨o, e, of_decide_eq_true h⟩
  · cases h
theorem toQk_keys : ∀ {kps : List (PK × PV)} {ds : List (PyData × PyData)}, toQk kps = some ds → ds.map (·.1) = kps.map fun q => q.1.dat
  | [], ds, e => by simp [toQk] at e; subst e; rfl
  | (k, p) :: r, ds, e => by
    simp only [toQk, Option.bind_eq_some_iff, Option.map_eq_some_iff] at e
    obtain ⟨d, _, ds', e2, rfl⟩ := e
    simp [toQk_keys e2]
section
variable {X : Cx} {pins : List (Addr × Obj)} {σ : L2.St} {F H : Hp} {s : Shared}
/-- reads, and sys.modules is not among it -/
def RdQ (h : Heap) (u : Value) (d : PyData) : Prop := ∃ as, PySem.Reads h u d as ∧ sysModules ∉ as
def RdQs (h : Heap) (us : List Value) (ds : List PyData) : Prop := ∃ as, ReadsAll h us ds as ∧ sysModules ∉ as
theorem RdQs.cons {h : Heap} {u : Value} {us : List Value} {d : PyData} {ds : List PyData} (a : RdQ h u d) (b : RdQs h us ds) : RdQs h (u :: us) (d :: ds) := by
  obtain ⟨as, a1, a2⟩ := a
  obtain ⟨bs, b1, b2⟩ := b
  exact ⟨as ++ bs, .cons a1 b1, fun z => (List.mem_append.mp z).elim a2 b2⟩
theorem rdq_list (I : L2.Inv X pins σ H s) (hS : SysD X.K) {a : Addr} {vs : List V} {ds : List PyData} (h : H a = some (.lst vs)) (r : ∀ us, Vals vs us → RdQs s.heap us ds) : RdQ s.heap (.ref a) (.list ds) := by
  obtain ⟨its, rv, ⟨o, n, ho, hc, _, hd⟩, _⟩ := I.list (SqL.of h)
  obtain ⟨as, h1, h2⟩ := r its rv
  refine ⟨a :: as, .list ho hc hd h1, fun z => ?_⟩
  rcases List.mem_cons.mp z with e | z
  · obtain ⟨o', e1, e2⟩ := hS
    have e3 := I.kIn _ _ e1
    rw [e, ho] at e3
    cases e3
    rw [hc] at e2
    exact absurd (Value.type.inj e2) (by decide)
  · exact h2 z
theorem rdq_tup (I : L2.Inv X pins σ H s) {a : Addr} {vs : List V} {ds : List PyData} (h : H a = some (.tup vs)) (r : ∀ us, Vals vs us → RdQs s.heap us ds) : RdQ s.heap (.ref a) (.tuple ds) := by
  obtain ⟨its, rv, ⟨o, ho, hc, n, hd⟩, _⟩ := I.tuple (SqT.of h)
  obtain ⟨as, h1, h2⟩ := r its rv
  exact ⟨as, .tuple ho hc hd h1, h2⟩
theorem rdq_key {h : Heap} {k : Key} {v : Value} (e : keyIs k v = true) : RdQ h v (kDat (pkK k)) := by
  rcases keyIs_shape e with ⟨i, t, rfl, rfl⟩ | ⟨x, t, rfl, rfl⟩
  · exact ⟨[], .int i t, by simp⟩
  · refine ⟨[], ?_, by simp⟩
    show PySem.Reads h _ (.str (sl x.cps.toList)) []
    rw [sl_cps]
    exact .str x t
theorem rdq_keysK {h : Heap} {P : Program} {w : World} : ∀ {es : List DictEntry} {vs : List (Key × Value)}, PySem.Pairs (mixKind P w) es vs → RdQs h (es.map (·.key)) (vs.map fun q => kDat (pkK q.1))
  | _, _, .nil => ⟨[], .nil, by simp⟩
  | _, _, .cons h1 _ r => .cons (rdq_key h1) (rdq_keysK r)
theorem vals_pairs {P : Program} {w : World} : ∀ {es : List DictEntry} {vs : List (Key × Value)} {kvs : List (Key × V)}, PySem.Pairs (mixKind P w) es vs → KV kvs vs → Vals (kvs.map (·.2)) (es.map (·.val))
  | _, _, _, .nil, .nil => .nil
  | _, _, _, .cons _ h2 r, .cons g t => .cons (by show RelV _ _; dsimp only; rw [h2]; exact g.2) (vals_pairs r t)
theorem rdq_dk (I : L2.Inv X pins σ H s) {a : Addr} {kvs : List (Key × V)} {kps : List (PK × PV)} {ds : List (PyData × PyData)} (h : Rd H a (.dK kvs)) (ek : kps.map (·.1) = kvs.map (fun x => pkA x.1)) (e1 : ds.map (·.1) = kps.map fun q => q.1.dat) (r : ∀ us, Vals (kvs.map (·.2)) us → RdQs s.heap us (ds.map (·.2))) : RdQ s.heap (.ref a) (.dict ds) := by
  obtain ⟨_, lo, vs, kv, ⟨o, es, ep, ho, hx, hd, _, hp, _⟩⟩ := dk_rd I.hok h
  obtain ⟨as, a1, a2⟩ := rdq_keysK (h := s.heap) hp
  obtain ⟨bs, b1, b2⟩ := r _ (vals_pairs hp kv)
  have ek2 : (vs.map fun q => kDat (pkK q.1)) = ds.map (·.1) := by
    have k1 := KV.keys kv
    have k2 := congrArg (List.map PK.dat) ek
    rw [List.map_map, List.map_map] at k2
    rw [e1]
    have k3 := congrArg (List.map fun k => kDat (pkK k)) k1
    rw [List.map_map, List.map_map] at k3
    refine Eq.trans ?_ k2.symm
    refine Eq.trans k3.symm ?_
    refine List.map_congr_left fun x _ => ?_
    show kDat (pkK x.1) = (pkA x.1).dat
    cases x.1 <;> rfl
  rw [ek2] at a1
  refine ⟨a :: as ++ bs, .dict ho hx.1 hd a1 b1, fun z => ?_⟩
  rcases List.mem_append.mp z with z | z
  · rcases List.mem_cons.mp z with e | z
    · rw [e] at lo; simp at lo
    · exact a2 z
  · exact b2 z
theorem rdq_keysT (I : L2.Inv X pins σ H s) : ∀ {kvs : List (List Key × V)} {xs : List (List Key × Addr × Value)}, KT H kvs xs → RdQs s.heap (xs.map fun x => Value.ref x.2.1) (kvs.map fun q => PK.dat (pkT q.1))
  | _, _, .nil => ⟨[], .nil, by simp⟩
  | _, _, .cons h r => by
    refine .cons (rdq_tup I h.2.1 fun us rv => ?_) (rdq_keysT I r)
    have key : ∀ (ks : List Key) (us : List Value), Vals (ks.map kV) us → RdQs s.heap us ((ks.map pkK).map kDat) := by
      intro ks
      induction ks with
      | nil => intro us rv; cases rv; exact ⟨[], .nil, by simp⟩
      | cons k ks ih =>
        intro us rv
        cases rv with
        | cons h1 h2 =>
          refine .cons ?_ (ih _ h2)
          cases k with
          | inl i => obtain ⟨t, rfl⟩ := h1; exact ⟨[], .int i t, by simp⟩
          | inr x => obtain ⟨t, rfl⟩ := h1; exact ⟨[], by show PySem.Reads _ _ (.str (sl x.cps.toList)) []; rw [sl_cps]; exact .str x t, by simp⟩
    exact key _ _ rv
theorem vals_KT : ∀ {kvs : List (List Key × V)} {xs : List (List Key × Addr × Value)}, KT H kvs xs → Vals (kvs.map (·.2)) (xs.map fun x => x.2.2)
  | _, _, .nil => .nil
  | _, _, .cons h r => .cons h.2.2 (vals_KT r)
theorem rdq_dt (I : L2.Inv X pins σ H s) {a : Addr} {kvs : List (List Key × V)} {kps : List (PK × PV)} {ds : List (PyData × PyData)} (h : Rd H a (.dT kvs)) (ek : kps.map (·.1) = kvs.map (fun x => pkT x.1)) (e1 : ds.map (·.1) = kps.map fun q => q.1.dat) (r : ∀ us, Vals (kvs.map (·.2)) us → RdQs s.heap us (ds.map (·.2))) : RdQ s.heap (.ref a) (.dict ds) := by
  obtain ⟨hz, lo, xs, pr, o, es, ep, ho, hx, hdt, hent, hn⟩ := (show ObjOk X.prog X.w H s.heap a (.dT kvs) from h.ok I.hok)
  obtain ⟨as, a1, a2⟩ := rdq_keysT I pr
  obtain ⟨bs, b1, b2⟩ := r _ (vals_KT pr)
  have ek2 : (kvs.map fun q => PK.dat (pkT q.1)) = ds.map (·.1) := by
    have k2 := congrArg (List.map PK.dat) ek
    rw [List.map_map, List.map_map] at k2
    rw [e1]
    exact k2.symm
  rw [ek2] at a1
  have q1 : es.toList.map (·.key) = xs.map fun x => Value.ref x.2.1 := by rw [hent, List.map_map]; rfl
  have q2 : es.toList.map (·.val) = xs.map fun x => x.2.2 := by rw [hent, List.map_map]; rfl
  refine ⟨a :: as ++ bs, .dict ho hx.1 hdt (by rw [q1]; exact a1) (by rw [q2]; exact b1), fun z => ?_⟩
  rcases List.mem_append.mp z with z | z
  · rcases List.mem_cons.mp z with e | z
    · rw [e] at lo; simp at lo
    · exact a2 z
  · exact b2 z
mutual
theorem toQ_ok (I : L2.Inv X pins σ H s) (sF : Sub F H) (hS : SysD X.K) : ∀ (p : PV) (v : V) (u : Value) (d : PyData), Rp X.K F v p → toQ p = some d → RelV v u → RdQ s.heap u d
  | .non, _, _, _, h, e, r => by cases h; cases e; cases r; exact ⟨_, .none, by simp⟩
  | .bl b, _, _, _, h, e, r => by cases h; cases e; cases r; exact ⟨_, .bool b, by simp⟩
  | .int i, _, _, _, h, e, r => by cases h; cases e; obtain ⟨t, rfl⟩ := r; exact ⟨_, .int i t, by simp⟩
  | .str l, _, _, _, h, e, r => by cases h; cases e; obtain ⟨t, rfl⟩ := r; exact ⟨_, .str _ t, by simp⟩
  | .lst ps, _, _, _, h, e, r => by
    obtain ⟨ds, e1, rfl⟩ := Option.map_eq_some_iff.mp (by simpa [toQ] using e)
    cases h with
    | lst h ra => cases r; exact rdq_list I hS (sF _ _ h) fun us rv => toQs_ok I sF hS ps _ us ds ra e1 rv
  | .tup ps, _, _, _, h, e, r => by
    obtain ⟨ds, e1, rfl⟩ := Option.map_eq_some_iff.mp (by simpa [toQ] using e)
    cases h with
    | tup h ra => cases r; exact rdq_tup I (sF _ _ h) fun us rv => toQs_ok I sF hS ps _ us ds ra e1 rv
  | .dic t kps, _, _, _, h, e, r => by
    obtain ⟨ds, e1, rfl⟩ := Option.map_eq_some_iff.mp (by simpa [toQ] using e)
    cases h with
    | dk h ek ra => cases r; exact rdq_dk I (sF.rd h) ek (toQk_keys e1) fun us rv => toQk_ok I sF hS kps _ us ds ra e1 rv
    | dt h ek ra => cases r; exact rdq_dt I (sF.rd h) ek (toQk_keys e1) fun us rv => toQk_ok I sF hS kps _ us ds ra e1 rv
  | .obj _ _, _, _, _, _, e, _ => by cases e
  | .fn _, _, _, _, _, e, _ => by cases e
  | .scr _, _, _, _, _, e, _ => by cases e
  | .ty _, _, _, _, _, e, _ => by cases e
  | .exn _ _ _ _, _, _, _, _, e, _ => by cases e
theorem toQs_ok (I : L2.Inv X pins σ H s) (sF : Sub F H) (hS : SysD X.K) : ∀ (ps : List PV) (vs : List V) (us : List Value) (ds : List PyData), RpAll X.K F vs ps → toQs ps = some ds → Vals vs us → RdQs s.heap us ds
  | [], _, _, ds, h, e, r => by
    simp [toQs] at e; subst e
    cases h; cases r; exact ⟨[], .nil, by simp⟩
  | p :: ps, _, _, ds, h, e, r => by
    simp only [toQs, Option.bind_eq_some_iff, Option.map_eq_some_iff] at e
    obtain ⟨d, e1, ds', e2, rfl⟩ := e
    cases h with
    | cons h1 h2 =>
      cases r with
      | cons r1 r2 => exact .cons (toQ_ok I sF hS p _ _ d h1 e1 r1) (toQs_ok I sF hS ps _ _ ds' h2 e2 r2)
theorem toQk_ok (I : L2.Inv X pins σ H s) (sF : Sub F H) (hS : SysD X.K) : ∀ (kps : List (PK × PV)) (vs : List V) (us : List Value) (ds : List (PyData × PyData)), RpAll X.K F vs (kps.map (·.2)) → toQk kps = some ds → Vals vs us → RdQs s.heap us (ds.map (·.2))
  | [], _, _, ds, h, e, r => by
    simp [toQk] at e; subst e
    cases h; cases r; exact ⟨[], .nil, by simp⟩
  | (k, p) :: kps, _, _, ds, h, e, r => by
    simp only [toQk, Option.bind_eq_some_iff, Option.map_eq_some_iff] at e
    obtain ⟨d, e1, ds', e2, rfl⟩ := e
    cases h with
    | cons h1 h2 =>
      cases r with
      | cons r1 r2 => exact .cons (toQ_ok I sF hS p _ _ d h1 e1 r1) (toQk_ok I sF hS kps _ _ ds' h2 e2 r2)
end
theorem toQ_okW (I : L2.Inv X pins σ H s) (sF : Sub F H) (hS : SysD X.K) {p : PV} {v : V} {u : Value} {d : PyData} (h : RpW X.K F H v p) (e : toQ p = some d) (r : RelV v u) : RdQ s.heap u d := by
  rcases h with h | ⟨a, rfl, h⟩
  · exact toQ_ok I sF hS p v u d h e r
  · cases r
    cases p <;> try exact h.elim
    · obtain ⟨vs, h, ra⟩ := h
      obtain ⟨ds, e1, rfl⟩ := Option.map_eq_some_iff.mp (by simpa [toQ] using e)
      exact rdq_list I hS h fun us rv => toQs_ok I sF hS _ _ us ds ra e1 rv
    · rename_i t kps
      obtain ⟨ds, e1, rfl⟩ := Option.map_eq_some_iff.mp (by simpa [toQ] using e)
      cases t with
      | false => obtain ⟨kvs, h, ek, ra⟩ := h; exact rdq_dk I (.inl h) ek (toQk_keys e1) fun us rv => toQk_ok I sF hS _ _ us ds ra e1 rv
      | true => obtain ⟨kvs, h, ek, ra⟩ := h; exact rdq_dt I (.inl h) ek (toQk_keys e1) fun us rv => toQk_ok I sF hS _ _ us ds ra e1 rv
    · cases e
end
/-! ### repr -/
section
variable {X : Cx} {K : PySem.W.Frag}
def isDis : PyData → Bool
  | .list _ => true
  | .tuple _ => true
  | .dict _ => true
  | _ => false
def rReprQ (K : PySem.W.Frag) : List V → Hp → VK → Prop := fun xs H Q => ∃ v F p d, xs = [v] ∧ Sub F H ∧ RpW K F H v p ∧ toQ p = some d ∧ isDis d = true ∧ d.showable = true ∧ d.depth ≤ 100 ∧ d.shown.length ≤ sizeLine ∧ Q (.str d.shown) H
theorem k_reprQ (hK : X.K = K) (hS : SysD K) (hg : X.A.guards = some []) (hu : X.A.units + 200 < cLine) : CallR X (.builtin "repr") (rReprQ K) := by
  subst hK
  rintro pins s σ H _ us Q I r ⟨v, F, p, d, rfl, sF, hp, e, hq, h1, h3, h4, q⟩
  obtain ⟨u, rfl, ru⟩ := vals1 r
  obtain ⟨as, rd, ns⟩ := toQ_okW I sF hS hp e ru
  obtain ⟨a, rfl⟩ : ∃ a, u = .ref a := by
    cases rd <;> first | exact ⟨_, rfl⟩ | cases hq
  exact repr_of_reads' rd h1 (fun _ => ns) hg (by omega) (fun _ _ e => e) (fun h' w tk kp => ⟨V.str d.shown, H, I.kept kp, ⟨w, rfl⟩, q⟩) h4
def gReprQ : List PV → Option GV
  | [p] => (toQ p).bind fun d => if isDis d = true ∧ d.showable = true ∧ d.depth ≤ 100 ∧ d.shown.length ≤ sizeLine then some (.old (.str d.shown.cps.toList)) else none
  | _ => none
theorem ok_reprQ : OpNOk K (rReprQ K) gReprQ := by
  intro F H vs ps z Q s hx e k
  unfold gReprQ at e
  split at e
  · obtain ⟨d, e1, e2⟩ := Option.bind_eq_some_iff.mp e
    split at e2
    · rename_i hh
      cases e2
      obtain ⟨v, rfl, h⟩ := hx.one
      exact ⟨v, F, _, d, rfl, s, h, e1, hh.1, hh.2.1, hh.2.2.1, hh.2.2.2, k _ (rp_cps _)⟩
    · cases e2
  · cases e
end
/-! ### plain data with dicts -/
def PK.plain : PK → Bool
  | .int i => decide (i.natAbs < 1000000000000)
  | .str l => l.all fun c => decide (c < 1114112)
  | .tup ks => ks.all fun k => match k with
    | .inl i => decide (i.natAbs < 1000000000000)
    | .inr l => l.all fun c => decide (c < 1114112)
def PK.bulk : PK → Nat
  | .int _ => 0
  | .str l => l.length
  | .tup ks => (ks.map fun k => match k with
    | .inl _ => 1
    | .inr l => l.length + 1).sum
mutual
def plainQ : PV → Bool
  | .non => true
  | .bl _ => true
  | .int i => decide (i.natAbs < 1000000000000)
  | .str l => l.all fun c => decide (c < 1114112)
  | .lst ps => plainQs ps
  | .tup ps => plainQs ps
  | .dic _ kps => plainQk kps
  | _ => false
def plainQs : List PV → Bool
  | [] => true
  | p :: ps => plainQ p && plainQs ps
def plainQk : List (PK × PV) → Bool
  | [] => true
  | (k, p) :: r => k.plain && plainQ p && plainQk r
end
mutual
def bulkQ : PV → Nat
  | .str l => l.length
  | .lst ps => bulkQs ps
  | .tup ps => bulkQs ps
  | .dic _ kps => bulkQk kps
  | _ => 0
def bulkQs : List PV → Nat
  | [] => 0
  | p :: ps => bulkQ p + 1 + bulkQs ps
def bulkQk : List (PK × PV) → Nat
  | [] => 0
  | (k, p) :: r => k.bulk + bulkQ p + 2 + bulkQk r
end
mutual
def deepQ : PV → Nat
  | .lst ps => deepQs ps + 1
  | .tup ps => deepQs ps + 1
  | .dic _ kps => deepQk kps + 1
  | _ => 0
def deepQs : List PV → Nat
  | [] => 0
  | p :: ps => max (deepQ p) (deepQs ps)
def deepQk : List (PK × PV) → Nat
  | [] => 0
  | (_, p) :: r => max (max 1 (deepQ p)) (deepQk r)
end
structure DqOk (d : PyData) (b n : Nat) : Prop where
  show_ : d.showable = true
  short : d.leavesShort 13 = true
  bulk : d.bulk = b
  deep : d.depth ≤ n
theorem dq_int {i : Int} (h' : i.natAbs < 1000000000000) : DqOk (.int i) 0 0 := by
  refine ⟨?_, ?_, rfl, Nat.le_refl _⟩
  · simp only [PyData.showable, decide_eq_true_eq]
    by_cases z : i.natAbs = 0
    · rw [z]; decide
    · have : i.natAbs.log2 < 64 := (Nat.log2_lt z).mpr (by omega)
      omega
  · have := int_text_length_le10 (a := i) (k := 12) (by decide) (by omega)
    have e : (Str.ofString (toString i)).length = (toString i).length := PySem.ofString_length _
    have e2 : (PyData.shown (.int i)).length ≤ 13 := by
      show (Str.ofString (toString i)).length ≤ 13
      rw [e]; omega
    simpa [PyData.leavesShort] using e2
theorem dq_str {l : List Nat} (h' : ∀ c ∈ l, c < 1114112) : DqOk (.str (sl l)) l.length 0 := by
  refine ⟨rfl, ?_, ?_, Nat.le_refl _⟩
  · simp only [PyData.leavesShort, cps_sl, List.all_eq_true, decide_eq_true_eq]
    intro c hc; have := h' c hc; omega
  · simp [PyData.bulk, sl]
structure DqsOk (ds : List PyData) (b n : Nat) : Prop where
  show_ : PyData.showableAll ds = true
  short : PyData.leavesShortAll 13 ds = true
  bulk : PyData.bulkAll ds = b
  deep : PyData.depthAll ds ≤ n
structure DqkOk (ds : List (PyData × PyData)) (b n : Nat) : Prop where
  show_ : PyData.showableKv ds = true
  short : PyData.leavesShortKv 13 ds = true
  bulk : PyData.bulkKv ds = b
  deep : PyData.depthKv ds ≤ n
theorem dq_key : ∀ k : PK, k.plain = true → DqOk k.dat k.bulk 1
  | .int i, h => by
    have := dq_int (i := i) (by simpa [PK.plain] using h)
    exact ⟨this.show_, this.short, this.bulk, by have := this.deep; show PyData.depth _ ≤ 1; exact Nat.le_trans this (by decide)⟩
  | .str l, h => by
    have := dq_str (l := l) (by simpa [PK.plain] using h)
    exact ⟨this.show_, this.short, this.bulk, Nat.le_trans this.deep (by decide)⟩
  | .tup ks, h => by
    have key : ∀ ks : List (Sum Int (List Nat)), PK.plain (.tup ks) = true → DqsOk (ks.map kDat) (PK.bulk (.tup ks)) 0 := by
      intro ks
      induction ks with
      | nil => intro _; exact ⟨rfl, rfl, rfl, Nat.le_refl _⟩
      | cons k ks ih =>
        intro h
        simp only [PK.plain, List.all_cons, Bool.and_eq_true] at h
        have ih' := ih (by simpa [PK.plain] using h.2)
        cases k with
        | inl i =>
          have k1 := dq_int (i := i) (by simpa using h.1)
          refine ⟨?_, ?_, ?_, ?_⟩
          · simp [PyData.showableAll, kDat, k1.show_, ih'.show_]
          · simp [PyData.leavesShortAll, kDat, k1.short, ih'.short]
          · have := ih'.bulk; simp [PyData.bulkAll, kDat, PyData.bulk, PK.bulk] at this ⊢; omega
          · have := ih'.deep; simp [PyData.depthAll, kDat, PyData.depth] at this ⊢; omega
        | inr l =>
          have k1 := dq_str (l := l) (by simpa using h.1)
          refine ⟨?_, ?_, ?_, ?_⟩
          · simp [PyData.showableAll, kDat, k1.show_, ih'.show_]
          · simp [PyData.leavesShortAll, kDat, k1.short, ih'.short]
          · have := ih'.bulk; have := k1.bulk; simp [PyData.bulkAll, kDat, PK.bulk] at *; omega
          · have := ih'.deep; have := k1.deep; simp [PyData.depthAll, kDat] at *; omega
    have kk := key ks h
    exact ⟨kk.show_, kk.short, kk.bulk, by have := kk.deep; simp only [PK.dat, PyData.depth]; omega⟩
mutual
theorem plainQ_dat : ∀ p : PV, plainQ p = true → ∃ d, toQ p = some d ∧ DqOk d (bulkQ p) (deepQ p)
  | .non, _ => ⟨.none, rfl, rfl, rfl, rfl, Nat.le_refl _⟩
  | .bl b, _ => ⟨.bool b, rfl, rfl, rfl, rfl, Nat.le_refl _⟩
  | .int i, h => ⟨.int i, rfl, dq_int (by simpa [plainQ] using h)⟩
  | .str l, h => ⟨.str (sl l), rfl, dq_str (by simpa [plainQ] using h)⟩
  | .lst ps, h => by
    obtain ⟨ds, e, k⟩ := plainQs_dat ps (by simpa [plainQ] using h)
    refine ⟨.list ds, by simp [toQ, e], k.show_, k.short, ?_, ?_⟩
    · simp only [PyData.bulk, bulkQ]; exact k.bulk
    · simp only [PyData.depth, deepQ]; have := k.deep; omega
  | .tup ps, h => by
    obtain ⟨ds, e, k⟩ := plainQs_dat ps (by simpa [plainQ] using h)
    refine ⟨.tuple ds, by simp [toQ, e], k.show_, k.short, ?_, ?_⟩
    · simp only [PyData.bulk, bulkQ]; exact k.bulk
    · simp only [PyData.depth, deepQ]; have := k.deep; omega
  | .dic _ kps, h => by
    obtain ⟨ds, e, k⟩ := plainQk_dat kps (by simpa [plainQ] using h)
    refine ⟨.dict ds, by simp [toQ, e], k.show_, k.short, ?_, ?_⟩
    · simp only [PyData.bulk, bulkQ]; exact k.bulk
    · simp only [PyData.depth, deepQ]; have := k.deep; omega
  | .obj _ _, h => by simp [plainQ] at h
  | .fn _, h => by simp [plainQ] at h
  | .scr _, h => by simp [plainQ] at h
  | .ty _, h => by simp [plainQ] at h
  | .exn _ _ _ _, h => by simp [plainQ] at h
theorem plainQs_dat : ∀ ps : List PV, plainQs ps = true → ∃ ds, toQs ps = some ds ∧ DqsOk ds (bulkQs ps) (deepQs ps)
  | [], _ => ⟨[], by simp [toQs], rfl, rfl, rfl, Nat.le_refl _⟩
  | p :: ps, h => by
    have h' : plainQ p = true ∧ plainQs ps = true := by simpa [plainQs] using h
    obtain ⟨d, e1, k1⟩ := plainQ_dat p h'.1
    obtain ⟨ds, e2, k2⟩ := plainQs_dat ps h'.2
    have q1 := k1.deep
    have q2 := k2.deep
    refine ⟨d :: ds, by simp [toQs, e1, e2], ?_, ?_, ?_, ?_⟩
    · simp [PyData.showableAll, k1.show_, k2.show_]
    · simp [PyData.leavesShortAll, k1.short, k2.short]
    · simp [PyData.bulkAll, bulkQs, k1.bulk, k2.bulk]
    · simp only [PyData.depthAll, deepQs]; omega
theorem plainQk_dat : ∀ kps : List (PK × PV), plainQk kps = true → ∃ ds, toQk kps = some ds ∧ DqkOk ds (bulkQk kps) (deepQk kps)
  | [], _ => ⟨[], by simp [toQk], rfl, rfl, rfl, Nat.le_refl _⟩
  | (k, p) :: kps, h => by
    have h' : (k.plain = true ∧ plainQ p = true) ∧ plainQk kps = true := by simpa [plainQk] using h
    obtain ⟨d, e1, k1⟩ := plainQ_dat p h'.1.2
    obtain ⟨ds, e2, k2⟩ := plainQk_dat kps h'.2
    have k0 := dq_key k h'.1.1
    have q0 := k0.deep
    have q1 := k1.deep
    have q2 := k2.deep
    refine ⟨(k.dat, d) :: ds, by simp [toQk, e1, e2], ?_, ?_, ?_, ?_⟩
    · simp [PyData.showableKv, k0.show_, k1.show_, k2.show_]
    · simp [PyData.leavesShortKv, k0.short, k1.short, k2.short]
    · simp [PyData.bulkKv, bulkQk, k0.bulk, k1.bulk, k2.bulk]
    · simp only [PyData.depthKv, deepQk]; omega
end
def isDisP : PV → Bool
  | .lst _ => true
  | .tup _ => true
  | .dic _ _ => true
  | _ => false
def shownQ (p : PV) : List Nat := ((toQ p).getD .none).shown.cps.toList
theorem repr_q {p : PV} (h : plainQ p = true) (hq : isDisP p = true) (hb : bulkQ p ≤ 1048576) (hd : deepQ p ≤ 64) : gReprQ [p] = some (.old (.str (shownQ p))) := by
  obtain ⟨d, e, k⟩ := plainQ_dat p h
  have hs : isDis d = true := by
    cases p <;> simp [isDisP] at hq
    · obtain ⟨ds, _, rfl⟩ := Option.map_eq_some_iff.mp (by simpa [toQ] using e); rfl
    · obtain ⟨ds, _, rfl⟩ := Option.map_eq_some_iff.mp (by simpa [toQ] using e); rfl
    · obtain ⟨ds, _, rfl⟩ := Option.map_eq_some_iff.mp (by simpa [toQ] using e); rfl
  have hz : d.shown.length ≤ sizeLine := PyData.shown_fits_bulk (B := 13) (by decide) (by decide) k.short (by rw [k.bulk]; omega)
  have hd' := k.deep
  unfold gReprQ shownQ
  rw [e, Option.getD_some]
  show (Option.bind (toQ p) _) = _
  rw [e, Option.bind_some]
  rw [if_pos ⟨hs, k.show_, by omega, hz⟩]
/-! ### the makers of exceptions -/
structure Exn (P : Program) (w : World) (K : PySem.W.Frag) (mg : Str → Option Value) (base : Heap) (c : Str) (fs : List Str) : Prop where
  fn : ∃ fd ps, FnOk P w K mg base CX0 1 (He.ma K (He.ga K c) "__init__") fd ps (spExI (He.ga K c) fs) ∧ Binds K fd ps []
  ec : ExC K (He.ga K c) (He.ma K (He.ga K c) "__init__") fs
  gl : mg c = some (.ref (He.ga K c))
section
variable {X : Cx} {K : PySem.W.Frag} {W : WX} {ms : List Nat}
theorem ms_raiseE {c : Str} {fs : List Str} {p pos pos' : Pos} {e : Expr} {es : List Expr} (tk : Takes X W) (hc : X.calm = true) (E : Exn X.prog X.w X.K X.mg X.base c fs) (hr : Room 2 X.A) (hg : Gl X c) (ha : MA X K W ms (e :: es) t da)
    (hdb : (c == ("__debug__" : Str)) = false := by decide) (he : starEach (e :: es) X.env = (false, eval e X.env) :: starEach es X.env := by rfl) (hpl : (backTo pos (starEach es X.env)).any (·.1) = false := by rfl) :
    MS X K W ms (.Raise (some (.Call (.Name c p) (e :: es) [] pos)) none pos') (fun _ σ H => tMkO (He.ga K c) (spExI (He.ga K c) fs) [] t σ H fun cls d H' => W cls d σ H') (dRaise c fs da) := by
  obtain ⟨fd, ps, F1, hb⟩ := E.fn
  exact ms_raise tk hc E.ec F1 hr hb hg E.gl ha hdb he hpl
/-! ### xs.insert(i, e) -/
@[simp] def gIns : List PV → List PV → Option (List PV × PV)
  | xs, [.int i, p] => if xs.length < sizeLine ∧ 0 ≤ i ∧ i ≤ 4000000000 then some (xs.take i.toNat ++ [p] ++ xs.drop i.toNat, .non) else none
  | _, _ => none
def rIns : V → List V → Hp → VK → Prop := fun x vs H Q => ∃ (l : Addr) (xs : List V) (i : Int) (y : V), x = .ref l ∧ vs = [.int i, y] ∧ H l = some (.lst xs) ∧ xs.length < sizeLine ∧ 0 ≤ i ∧ i < 2 ^ 63 ∧
    Q .non (upd H l (.lst (xs.take i.toNat ++ [y] ++ xs.drop i.toNat)))
theorem k_ins : MtR X "list.insert" rIns := mt_insert
theorem ok_ins : MutOk K rIns gIns := by
  intro F H a ws xs vs ps xs' z Q s h rx rv e k
  unfold gIns at e
  split at e
  · split at e
    · rename_i hh
      cases e
      cases rv with
      | cons h1 r =>
        cases r with
        | cons h2 r =>
          cases r
          cases h1
          exact ⟨a, ws, _, _, rfl, rfl, h, by rw [rx.len]; exact hh.1, hh.2.1, by omega, k _ _ (((rx.take _).append (.one h2)).append (rx.drop _)) .non⟩
    · cases e
  · cases e
end
end VL

/-! VL25: small things for the printed texts. -/
namespace VL
open PySem PySem.Spec L2 PyProof.Rows
def allB (l : List (PySem.W.Frag → Bool)) (K : PySem.W.Frag) : Bool := l.all fun f => f K
theorem allB_at {l : List (PySem.W.Frag → Bool)} {K : PySem.W.Frag} (h : allB l K = true) (i : Nat) {f : PySem.W.Frag → Bool} (e : l[i]? = some f) : f K = true := List.all_eq_true.mp h f (List.mem_of_getElem? e)
theorem lookup_mem {y : Str} {b : Bool} : ∀ {l : List (Str × Bool)}, l.lookup y = some b → (y, b) ∈ l
  | [], h => by cases h
  | (g, c) :: l, h => by
    by_cases hf : y = g
    · subst hf
      have : some c = some b := by simpa [List.lookup] using h
      cases this
      exact List.mem_cons_self ..
    · have hb : (y == g) = false := by simpa using hf
      exact List.mem_cons_of_mem _ (lookup_mem (by simpa [List.lookup, hb] using h))
/-- what an except clause for c takes -/
def exmB (c : PySem.W.Frag → Value) (l : List (Str × Bool)) (K : PySem.W.Frag) : Bool := l.all fun q => decide (PySem.W.exmOne K (.ref (He.ga K q.1)) (c K) = some q.2)
theorem exmB_ok {c : PySem.W.Frag → Value} {l : List (Str × Bool)} {K : PySem.W.Frag} (h : exmB c l K = true) : ∀ y b, l.lookup y = some b → PySem.W.exmOne K (.ref (He.ga K y)) (c K) = some b := fun y b e => of_decide_eq_true (List.all_eq_true.mp h (y, b) (lookup_mem e))
def isiB (l : List (Str × Sum Str String)) (K : PySem.W.Frag) : Bool := l.all fun q => decide (PySem.W.kitOne K (.ref (He.ga K q.1)) (clsU K q.2) = some true)
theorem isiB_ok {l : List (Str × Sum Str String)} {K : PySem.W.Frag} (h : isiB l K = true) : ∀ c y, (c, y) ∈ l → PySem.W.kitOne K (.ref (He.ga K c)) (clsU K y) = some true := fun c y e => of_decide_eq_true (List.all_eq_true.mp h (c, y) e)
/-- a class's body -/
def clsBody (s : Stmt) : List Stmt := match s with
  | .ClassDef _ _ _ b _ _ _ _ _ _ _ => b
  | _ => []
section
variable {d db : PSt → Res RV} {r : RV} {rs : List RV} {τ : PSt} {x : PExc}
def dRaise_k (c : Str) (fs : List Str) : List RV → PSt → SRes := fun rs τ1 => match leakAll rs τ1 with
  | some (ps, τ2) => if ps.length = fs.length ∧ ps.length ≤ 1000 then .er ⟨c, (fs.zip ps).reverse⟩ τ2 else .no
  | none => .no
@[simp] theorem e_dRaise (c : Str) (fs : List Str) (da : PSt → Res (List RV)) (τ : PSt) : dRaise c fs da τ = (da τ).bindS (dRaise_k c fs) := rfl
@[simp] theorem e_dRaise_k (c : Str) (fs : List Str) (rs : List RV) (τ : PSt) : dRaise_k c fs rs τ = (match leakAll rs τ with
  | some (ps, τ2) => if ps.length = fs.length ∧ ps.length ≤ 1000 then .er ⟨c, (fs.zip ps).reverse⟩ τ2 else .no
  | none => .no) := rfl
def tryS (m : Str → Option Bool) (ds : PSt → SRes) (r : SRes) : SRes := match r with
  | .er e τ' => (match m e.c with
    | some true => noErS (ds τ')
    | some false => .er e τ'
    | none => .no)
  | r => r
@[simp] theorem e_dTry (m : Str → Option Bool) (db ds : PSt → SRes) (τ : PSt) : dTry m db ds τ = tryS m ds (db τ) := rfl
@[simp] theorem tryS_nx (m : Str → Option Bool) (ds : PSt → SRes) (τ : PSt) : tryS m ds (.nx τ) = .nx τ := rfl
@[simp] theorem tryS_rt (m : Str → Option Bool) (ds : PSt → SRes) (v : SV) (τ : PSt) : tryS m ds (.rt v τ) = .rt v τ := rfl
@[simp] theorem tryS_er (m : Str → Option Bool) (ds : PSt → SRes) (e : PExc) (τ : PSt) : tryS m ds (.er e τ) = (match m e.c with
    | some true => noErS (ds τ)
    | some false => .er e τ
    | none => .no) := rfl
@[simp] theorem noErS_nx (τ : PSt) : noErS (.nx τ) = .nx τ := rfl
@[simp] theorem noErS_rt (v : SV) (τ : PSt) : noErS (.rt v τ) = .rt v τ := rfl
@[simp] theorem noErS_ite (c : Prop) [Decidable c] (a b : SRes) : noErS (if c then a else b) = if c then noErS a else noErS b := by split <;> rfl
@[simp] theorem tryS_ite (m : Str → Option Bool) (ds : PSt → SRes) (c : Prop) [Decidable c] (a b : SRes) : tryS m ds (if c then a else b) = if c then tryS m ds a else tryS m ds b := by split <;> rfl
noncomputable def tryA (i : Nat) (m : Str → Option Bool) (ds : Prop → Addr → Addr → Str → PSt → SRes) (r : SRes) : SRes := match r with
  | .er e τ' => (match m e.c with
    | some true => if e.fs = [] then .no else pickR fun a dd => unS i (ds True a dd e.c (τ'.set i (.fz (.exn a dd e.c e.fs))))
    | some false => .er e τ'
    | none => .no)
  | r => r
@[simp] theorem e_dTryAs (i : Nat) (m : Str → Option Bool) (db : PSt → SRes) (ds : Prop → Addr → Addr → Str → PSt → SRes) (τ : PSt) : dTryAs i m db ds τ = tryA i m ds (db τ) := rfl
@[simp] theorem tryA_nx (i : Nat) (m : Str → Option Bool) (ds : Prop → Addr → Addr → Str → PSt → SRes) (τ : PSt) : tryA i m ds (.nx τ) = .nx τ := rfl
@[simp] theorem tryA_rt (i : Nat) (m : Str → Option Bool) (ds : Prop → Addr → Addr → Str → PSt → SRes) (v : SV) (τ : PSt) : tryA i m ds (.rt v τ) = .rt v τ := rfl
@[simp] theorem tryA_er (i : Nat) (m : Str → Option Bool) (ds : Prop → Addr → Addr → Str → PSt → SRes) (e : PExc) (τ : PSt) : tryA i m ds (.er e τ) = (match m e.c with
    | some true => if e.fs = [] then .no else pickR fun a dd => unS i (ds True a dd e.c (τ.set i (.fz (.exn a dd e.c e.fs))))
    | some false => .er e τ
    | none => .no) := rfl
@[simp] theorem tryA_ite (i : Nat) (m : Str → Option Bool) (ds : Prop → Addr → Addr → Str → PSt → SRes) (c : Prop) [Decidable c] (a b : SRes) : tryA i m ds (if c then a else b) = if c then tryA i m ds a else tryA i m ds b := by split <;> rfl
@[simp] theorem unS_nx (i : Nat) (τ : PSt) : unS i (.nx τ) = .nx (τ.set i .un) := rfl
@[simp] theorem unS_rt (i : Nat) (v : SV) (τ : PSt) : unS i (.rt v τ) = .rt v (τ.set i .un) := rfl
@[simp] theorem unS_ite (i : Nat) (c : Prop) [Decidable c] (a b : SRes) : unS i (if c then a else b) = if c then unS i a else unS i b := by split <;> rfl
noncomputable def dXf_k (G : Prop) (a dd : Addr) (c c0 f : Str) : RV → PSt → Res RV := open Classical in fun r τ1 => match content r τ1 with
  | some (.exn a' d' c' fs) => if G ∧ a' = a ∧ d' = dd ∧ c = c0 ∧ c' = c0 then (match fs.lookup f with
    | some p => .ok (.fz p) τ1
    | none => .no) else .no
  | _ => .no
@[simp] theorem e_dXf (G : Prop) (a dd : Addr) (c c0 f : Str) (de : PSt → Res RV) (τ : PSt) : dXf G a dd c c0 f de τ = (de τ).bind (dXf_k G a dd c c0 f) := rfl
@[simp] theorem e_dXf_k (a dd : Addr) (c f : Str) (fs : List (Str × PV)) (τ : PSt) : dXf_k True a dd c c f (.fz (.exn a dd c fs)) τ = (match fs.lookup f with
    | some p => .ok (.fz p) τ
    | none => .no) := by
  unfold dXf_k; simp
@[simp] theorem e_gIsY (a dd : Addr) (c c' : Str) (fs : List (Str × PV)) (p : PV) (mI : List (Str × Sum Str String)) : gIsY True a c mI [.exn a dd c' fs, p] = (clsK p).bind fun y => @ite _ ((c, y) ∈ mI) (Classical.propDecidable _) (some (.old (.bl true))) none := by
  unfold gIsY
  dsimp only
  congr 1
  funext y
  by_cases h : (c, y) ∈ mI
  · rw [if_pos ⟨trivial, rfl, h⟩, if_pos h]
  · rw [if_neg (fun z => h z.2.2), if_neg h]
@[simp] theorem clsK_fn (x : Str) : clsK (.fn x) = some (.inl x) := rfl
@[simp] theorem clsK_ty (n : String) : clsK (.ty n) = some (.inr n) := rfl
end
end VL

/-! VL26: loops with a rest behind; comprehensions that change the state; slices of typed lists. -/
namespace VL
open PySem PySem.Spec L2
theorem loopR {step : PV → PSt → SRes} (I : Nat → PSt → Prop) (rest : List PV) : ∀ (items : List PV) (k : Nat) (τ : PSt), (∀ i p τ, items[i]? = some p → I (k + i) τ → Nx (step p τ) (I (k + i + 1))) → I k τ → ∃ τ', loopF step (items ++ rest) τ = loopF step rest τ' ∧ I (k + items.length) τ'
  | [], k, τ, _, h0 => ⟨τ, rfl, h0⟩
  | p :: ps, k, τ, h, h0 => by
    have h1 := h 0 p τ rfl h0
    have go : ∀ τ1, I (k + 1) τ1 → ∃ τ', loopF step (ps ++ rest) τ1 = loopF step rest τ' ∧ I (k + (p :: ps).length) τ' := fun τ1 q => by
      obtain ⟨τ', e, q'⟩ := loopR I rest ps (k + 1) τ1 (fun i q τ hq hI => by
        have := h (i + 1) q τ (by simpa using hq) (by rw [show k + (i + 1) = k + 1 + i by omega]; exact hI)
        rw [show k + (i + 1) + 1 = k + 1 + i + 1 by omega] at this
        exact this) q
      exact ⟨τ', e, by rw [List.length_cons, show k + (ps.length + 1) = k + 1 + ps.length by omega]; exact q'⟩
    rw [List.cons_append]
    conv => arg 1; ext τ'; rw [loopF]
    cases e : step p τ with
    | nx τ1 => rw [e] at h1; exact go τ1 h1
    | ct τ1 => rw [e] at h1; exact go τ1 h1
    | bk τ1 => rw [e] at h1; exact h1.elim
    | rt r τ1 => rw [e] at h1; exact h1.elim
    | er x τ1 => rw [e] at h1; exact h1.elim
    | no => rw [e] at h1; exact h1.elim
/-- items up to one at which the loop ends otherwise -/
theorem loop_to {step : PV → PSt → SRes} (I : Nat → PSt → Prop) {items rest : List PV} {τ : PSt} (h0 : I 0 τ) (h : ∀ (J : Nat → PSt → Prop), (∀ k τ, I k τ → J k τ) → ∀ i p τ, items[i]? = some p → I i τ → Nx (step p τ) (J (i + 1))) : ∃ τ', loopF step (items ++ rest) τ = loopF step rest τ' ∧ I items.length τ' := by
  have := loopR I rest items 0 τ (fun i p τ hp hI => by simpa using h I (fun _ _ z => z) i p τ hp (by simpa using hI)) h0
  simpa using this
theorem enumP_app : ∀ (k : Nat) (xs ys : List PV), enumP k (xs ++ ys) = enumP k xs ++ enumP (k + xs.length) ys
  | k, [], ys => by simp [enumP]
  | k, x :: xs, ys => by
    rw [List.cons_append, enumP, enumP, enumP_app (k + 1) xs ys, List.cons_append, List.length_cons, show k + 1 + xs.length = k + (xs.length + 1) by omega]
/-! ### comprehensions that change the state -/
theorem lcF_step {vs : List Nat} {g : PV → PSt → Option PSt} {dt : PSt → Res Bool} {de : PSt → Res RV} {p : PV} {ps acc : List PV} {τ τ' : PSt} {o : Option PV} (h : lcStep vs g dt de p τ = .ok o τ') (hl : acc.length < 16777216) :
    lcF vs g dt de (p :: ps) acc τ = lcF vs g dt de ps (acc ++ o.toList) τ' := by
  rw [lcF]
  unfold lcStep at h
  cases e1 : g p τ with
  | none => rw [e1] at h; cases h
  | some t1 =>
    rw [e1] at h
    simp only at h ⊢
    cases e2 : dt t1 with
    | er x t => rw [e2] at h; cases h
    | no => rw [e2] at h; cases h
    | ok b t2 =>
      rw [e2] at h
      cases b with
      | false =>
        have h2 : Res.ok none (fgt vs t2) = Res.ok o τ' := h
        injection h2 with h3 h4
        subst h3 h4
        simp
      | true =>
        have h2 : (de t2).bind (fun r τ3 => match leak r τ3 with
          | some (q, τ4) => .ok (some q) (fgt vs τ4)
          | none => .no) = Res.ok o τ' := h
        simp only
        cases e3 : de t2 with
        | er x t => rw [e3] at h2; cases h2
        | no => rw [e3] at h2; cases h2
        | ok r t3 =>
          rw [e3] at h2
          simp only [Res.ok_bind] at h2
          simp only
          cases e4 : leak r t3 with
          | none => rw [e4] at h2; cases h2
          | some qt =>
            obtain ⟨q, t4⟩ := qt
            rw [e4] at h2
            simp only at h2 ⊢
            injection h2 with h3 h4
            subst h3 h4
            rw [if_pos (by show acc.length < 16777216; exact hl)]
            rfl
theorem lc_inv {vs : List Nat} {g : PV → PSt → Option PSt} {dt : PSt → Res Bool} {de : PSt → Res RV} (I : Nat → List PV → PSt → Prop) {items : List PV} (hn : items.length ≤ 16777216) {τ : PSt} (h0 : I 0 [] τ)
    (h : ∀ i p acc τ, items[i]? = some p → I i acc τ → ∃ o τ', lcStep vs g dt de p τ = .ok o τ' ∧ I (i + 1) (acc ++ o.toList) τ') : ∃ ps τ', lcF vs g dt de items [] τ = .ok ps τ' ∧ I items.length ps τ' := by
  have key : ∀ (l : List PV) (k : Nat) (acc : List PV) (τ : PSt), (∀ i p, l[i]? = some p → items[k + i]? = some p) → acc.length ≤ k → k + l.length = items.length → I k acc τ → ∃ ps τ', lcF vs g dt de l acc τ = .ok ps τ' ∧ I items.length ps τ' := by
    intro l
    induction l with
    | nil => intro k acc τ _ _ hk hI; exact ⟨acc, τ, by rw [lcF], by rw [← hk]; exact hI⟩
    | cons p l ih =>
      intro k acc τ hl ha hk hI
      obtain ⟨o, τ', e, hI'⟩ := h k p acc τ (by simpa using hl 0 p rfl) hI
      rw [List.length_cons] at hk
      rw [lcF_step e (by omega)]
      refine ih (k + 1) _ _ (fun i q hq => ?_) ?_ (by omega) hI'
      · have := hl (i + 1) q (by simpa using hq)
        rwa [show k + (i + 1) = k + 1 + i by omega] at this
      · cases o <;> simp <;> omega
  exact key items 0 [] τ (fun i p hp => by simpa using hp) (Nat.le_refl _) (by omega) h0
/-! ### slices -/
theorem cut_map {α β : Type} (f : α → β) (xs : List α) (lo hi : Option Int) : cutP (xs.map f) lo hi = (cutP xs lo hi).map f := by
  unfold cutP
  rw [List.length_map, List.map_take, List.map_drop]
theorem sIx_nat (n d k : Nat) : HT.sIx n d (some (k : Int)) = min k n := by
  unfold HT.sIx
  dsimp only
  split <;> omega
theorem cut_to {α : Type} (xs : List α) (k : Nat) : cutP xs none (some (k : Int)) = xs.take k := by
  unfold cutP
  rw [sIx_nat]
  show (xs.drop 0).take (min k xs.length - 0) = _
  rw [List.drop_zero, Nat.sub_zero]
  by_cases h : k ≤ xs.length
  · rw [Nat.min_eq_left h]
  · rw [Nat.min_eq_right (by omega), List.take_length, List.take_of_length_le (by omega)]
theorem cut_from {α : Type} (xs : List α) (k : Nat) : cutP xs (some (k : Int)) none = xs.drop k := by
  unfold cutP
  rw [sIx_nat]
  show (xs.drop (min k xs.length)).take (xs.length - min k xs.length) = _
  rw [List.take_of_length_le (by rw [List.length_drop]; omega)]
  by_cases h : k ≤ xs.length
  · rw [Nat.min_eq_left h]
  · rw [Nat.min_eq_right (by omega), List.drop_length, List.drop_eq_nil_of_le (by omega)]
theorem cut_m1 {α : Type} (xs : List α) : cutP xs none (some (-1)) = xs.dropLast := by
  unfold cutP HT.sIx
  dsimp only
  rw [if_pos (by decide), List.dropLast_eq_take]
  show (xs.drop 0).take _ = _
  rw [List.drop_zero]
  congr 1
  omega
theorem cut_ab {α : Type} (xs : List α) (a b : Nat) : cutP xs (some (a : Int)) (some (b : Int)) = (xs.take b).drop a := cut_nat xs a b
theorem ixN_last (n : Nat) : ixN (n + 1) (-1) = some n := by
  unfold ixN
  rw [if_neg (by decide), if_pos (by omega)]
  congr 1
  omega
theorem set_last {α : Type} (xs : List α) (a b : α) : (xs ++ [a]).set xs.length b = xs ++ [b] := by
  induction xs with
  | nil => rfl
  | cons x xs ih => simp only [List.cons_append, List.length_cons, List.set_cons_succ, ih]
end VL

/-! VL27: enumerate over a text. -/
namespace VL
open PySem PySem.Spec L2 PyProof.Rows
def ItEs (x : Str) : It where
  go i _ := i < x.cps.size
  yld i G v G' := ∃ (P : Addr) (c : Nat), x.cps[i]? = some c ∧ v = .ref P ∧ G P = none ∧ G' = upd G P (.tup [.int (i : Nat), .str ⟨#[c]⟩])
  stop i _ := x.cps.size ≤ i
theorem turn_es {P : Program} {w : World} {K : PySem.W.Frag} {els : List Expr} {n : Nat} {q : Pos} (en si : Addr) (x : Str) (t : Tok) :
    Turn P w K (.Tuple els n q) (ItEs x) [en, si] en (fun j g => en ≠ si ∧ g.IsStrIter si (strIterType x) x t j ∧ ∃ old, IsEnum g en si ((j : Nat) : Int) old) := by
  have two : ∀ {b : Addr}, b ∈ [en, si] → b = en ∨ b = si := fun {b} h => by simpa using h
  refine ⟨by simp, ?_, ?_, ?_, ?_, ?_⟩
  · rintro j g ⟨ne, ⟨ob, eb, _, db⟩, old, eo⟩ b hb
    rcases two hb with rfl | rfl
    · exact ⟨_, eo, fun _ c => nomatch c⟩
    · exact ⟨ob, eb, fun _ c => by rw [db] at c; cases c⟩
  · rintro j g g' ⟨ne, ⟨ob, eb, rr⟩, old, eo⟩ kk
    exact ⟨ne, ⟨ob, kk si (by simp) _ eb, rr⟩, old, kk en (by simp) _ eo⟩
  · intro X e1 e2 e3 cm j pins s σ H E I fk st hj
    subst e1 e2 e3
    obtain ⟨ne, si0, old, eo⟩ := st
    have D := Draws.text (prog := X.prog) (w := X.w) (A := X.A.in1) (I.ok.hd cm) si x t
    have l1 : en < s.heap.objs.size := Heap.lt_size eo
    have l2 : si < s.heap.objs.size := by obtain ⟨_, y, _⟩ := si0; exact Heap.lt_size y
    refine wpAny_pyNext_enum_itemD D eo si0 hj ne (fun c => ne (List.mem_singleton.mp c)) fun y g tk hy out si1 hT hz kp => ?_
    obtain ⟨c, u, hc, rfl⟩ := hy
    refine ⟨_, rfl, wpAny_letOwnedTupleGo_enum (s := { s with heap := g, toks := tk + 1 }) out fun g2 e2 sb => ?_⟩
    have hT' : g2.get? s.heap.objs.size = some { cls := .type "tuple", data := .seq #[.int j tk, .str ⟨#[c]⟩ u] } := by rw [← hT]; exact sb.2 _ (Nat.ne_of_gt l1)
    have ok : ObjOk X.prog X.w (upd H s.heap.objs.size (.tup [.int (j : Nat), .str ⟨#[c]⟩])) g2 s.heap.objs.size (.tup [.int (j : Nat), .str ⟨#[c]⟩]) :=
      ⟨show 2 ≤ sizeLine by decide, [.int j tk, .str ⟨#[c]⟩ u], .cons ⟨tk, rfl⟩ (.cons ⟨u, rfl⟩ .nil), ⟨_, hT', rfl, _, rfl⟩⟩
    have I' := I.turnedNew (t' := tk + 1) (h' := g2) (ch := [en, si]) (fun b o nb q => by
      have n1 : b ≠ en := fun z => nb (by simp [z])
      have n2 : b ≠ si := fun z => nb (by simp [z])
      rw [sb.2 b n1]; exact kp b o n1 n2 q) fk (Nat.le_refl _) ok
    refine ⟨.ref s.heap.objs.size, _, I', rfl, ⟨_, c, hc, rfl, I.hok.fresh (Nat.le_refl _), rfl⟩, ⟨ne, ?_, _, by have z : ((j + 1 : Nat) : Int) = (j : Int) + 1 := by omega
                                                                                                                 rw [z]; exact e2⟩, fun b hb => ?_⟩
    · obtain ⟨o, eo, rr⟩ := si1
      exact ⟨o, by rw [← eo]; exact sb.2 si fun z => ne z.symm, rr⟩
    · have lt : b < s.heap.objs.size := by rcases two hb with rfl | rfl <;> assumption
      rw [upd_ne (Nat.ne_of_lt lt)]; exact (fk b hb).1
  · intro X e1 e2 e3 cm j pins s σ H E I fk st hj
    subst e1 e2 e3
    obtain ⟨ne, si0, old, eo⟩ := st
    have D := Draws.text (prog := X.prog) (w := X.w) (A := X.A.in1) (I.ok.hd cm) si x t
    obtain ⟨o1, e1, c1, d1⟩ := id si0
    have hj' : x.cps.size ≤ j := hj
    have hx : x.cps[j]? = none := Array.getElem?_eq_none hj'
    obtain ⟨f0, f1, f2, f3, f4, f5⟩ := fk si (by simp)
    have T : s.TypeIs (.ref en) "enumerate" := ⟨_, eo, rfl⟩
    unfold pyNext
    refine wpAny_bind (wpAny_attempt (wpAny_callSpecial?_slot (name := Str.ofString "__next__") T F.slot_enumerate_next (wpAny_call_entry F.slot_enumerate_next T F.entry_enumerate_next ?_ (F.args_enumerate_next_1 _))))
    show wpAny _ _ (field (.ref en) 2 >>= _) _ _ _
    refine wpAny_bind (wpAny_field eo rfl (x := .ref si) rfl (wpAny_bind ?_))
    have stop : ∀ {Q : Value → Shared → Prop} {E : Value → Shared → Prop}, (∀ g ea, Heap.ExtBut si s.heap g → (∃ o, g.get? ea = some o ∧ o.cls = .type "StopIteration") → E (.ref ea) { s with heap := g }) → wpAny (model X.prog X.w) X.A.in1 (Builtin.SmallTypes.nextOf (.ref si)) Q E s := fun {Q E} h => by
      cases ha : x.cps.all (· < 128)
      · rw [strIterType, ha] at si0
        exact wpAny_nextOf_wide_end (I.ok.hd cm) si0 hx h
      · rw [strIterType, ha] at si0
        exact wpAny_nextOf_ascii_end (I.ok.hd cm) si0 hx h
    refine stop fun g ea ex hc => ?_
    obtain ⟨o, ho, hc⟩ := hc
    exact wpAny_bind (wpAny_isInstance (T := "StopIteration") (b := true) ⟨o, ho, hc⟩ isSubtype_stop (wpAny_pure ⟨rfl, I.turned (t' := s.toks) (fun b o n q => ex b o n q) f0 f1 f3 f4 f5⟩))
  · rintro A j s Q E ⟨_, _, _, eo⟩ q
    exact wpAny_pyIter_enum eo q
def iEnB (K : PySem.W.Frag) (ta : TA) : TI := fun σ H R => ta σ H fun vs G => (∃ a xs, vs = [.ref a] ∧ SqL K G a xs ∧ R (Ite K a) G) ∨ ∃ x, vs = [.str x] ∧ R (ItEs x) G
theorem pi_enB {X : Cx} {e : Expr} {ta : TA} {p pos q : Pos} {els : List Expr} {n : Nat} (hg : Gl X "enumerate") (hm : X.mg "enumerate" = none) (ha : PA X [e] ta) (hs : starEach [e] X.env = [(false, eval e X.env)]) :
    PI X (.Tuple els n q) (.Call (.Name "enumerate" p) [e] [] pos) (iEnB X.K ta) := by
  constructor
  intro pins s σ H R I h
  refine Call_ (ld_blt I hg hm boot_enumerate (PyProof.Rows.callWith_type1 (thn (ha.run pos pins s σ H _ I h) ?_) hs rfl))
  rintro us s1 ⟨vs, G, I1, rl, alt⟩
  have fp : ∀ b ∈ [s1.heap.objs.size + 1, s1.heap.objs.size], FpOk X pins G b := fun b hb => by
    have le : s1.heap.objs.size ≤ b := by
      have := show b = s1.heap.objs.size + 1 ∨ b = s1.heap.objs.size by simpa using hb
      rcases this with rfl | rfl
      · exact Nat.le_succ _
      · exact Nat.le_refl _
    exact I1.fpOk le (I1.hok.fresh le)
  rcases alt with ⟨a, xs, rfl, sq, k⟩ | ⟨x, rfl, k⟩
  · cases rl with
    | cons r1 r2 =>
      cases r2; cases r1
      obtain ⟨its, rv, ls, hz⟩ := I1.list sq
      refine call_enumerate_list ls.isList fun g hen hit _ kp => wpAny_pyIter_enum hen ?_
      exact ⟨_, _, _, _, G, rfl, I1.kept (t' := s1.toks) kp, turn_enum a _ _, ⟨⟨_, hen⟩, hit, Nat.succ_ne_self _⟩, fp, k⟩
  · cases rl with
    | cons r1 r2 =>
      cases r2
      obtain ⟨t, rfl⟩ := r1
      refine call_enumerate_str fun g hen hit _ kp => wpAny_pyIter_enum hen ?_
      exact ⟨_, _, _, _, G, rfl, I1.kept (t' := s1.toks) kp, turn_es _ _ x t, ⟨Nat.succ_ne_self _, hit, _, hen⟩, fp, k⟩
def dEnB (da : PSt → Res (List RV)) : PSt → Res (List PV) := fun τ => (da τ).bind fun rs τ1 => match leakAll rs τ1 with
  | some ([.lst ps], τ2) => .ok (enumP 0 ps) τ2
  | some ([.str l], τ2) => .ok (enumP 0 (l.map fun c => .str [c])) τ2
  | _ => .no
theorem iters_es {K : PySem.W.Frag} {l : List Nat} {F : Hp} : Iters K (ItEs (sl l)) (enumP 0 (l.map fun c => .str [c])) F := by
  intro C i F' τ σ H s R
  have hz : (sl l).cps.size = l.length := by simp [sl]
  rw [enumP_len, List.length_map]
  refine ⟨fun hi => ⟨by show i < (sl l).cps.size; omega, ?_⟩, fun hi => by show (sl l).cps.size ≤ i; omega⟩
  rintro x H2 ⟨T, c, hc, rfl, hT, rfl⟩
  obtain ⟨s3, R3⟩ := R.new (o := .tup [.int (i : Nat), .str ⟨#[c]⟩]) hT
  refine ⟨_, s3, R3, fun p hp => ?_⟩
  obtain ⟨p', e1, rfl⟩ := enumP_get hp
  rw [List.getElem?_map, Option.map_eq_some_iff] at e1
  obtain ⟨c', e2, rfl⟩ := e1
  have : l[i]? = some c := by simpa [sl] using hc
  rw [e2] at this
  cases this
  rw [Nat.zero_add]
  exact .tup upd_same (.cons (.int _) (.cons (.str _) .nil))
theorem mi_enB {X : Cx} {K : PySem.W.Frag} {W : WX} {ms : List Nat} {t : TA} {d : PSt → Res (List RV)} {e : Expr} {p pos q : Pos} {els : List Expr} {n : Nat} (hg : Gl X "enumerate") (hm : X.mg "enumerate" = none) (ha : MA X K W ms [e] t d) (hs : starEach [e] X.env = [(false, eval e X.env)] := by rfl) :
    MI X K W ms (.Tuple els n q) (.Call (.Name "enumerate" p) [e] [] pos) (iEnB K t) (dEnB d) := by
  obtain ⟨rfl, p0, s0⟩ := ha
  refine ⟨rfl, pi_enB hg hm p0 hs, ?_⟩
  intro C F τ σ H R hm' Rl k
  unfold dEnB at k
  rw [Res.holds_bind] at k
  refine s0 C F τ σ H _ hm' Rl (k.imp (fun rs τ1 k => ?_) fun _ _ x => x)
  intro vs H1 F1 s1 R1 rvs
  split at k
  · rename_i ps τ2 e
    obtain ⟨F2, s2, R2, ra⟩ := leakAll_ok R1 rvs e
    cases ra with
    | cons h1 h2 => cases h2 with
      | nil => cases h1 with
        | @lst a ws _ h1 h2 =>
          refine .inl ⟨a, ws, rfl, SqL.of (R2.sub _ _ h1), k _ _ F2 (s1.trans s2) R2 ?_⟩
          intro C' i F' τ' σ' H' s R'
          have q : SqL X.K H' a ws := SqL.of (R'.sub _ _ (s _ _ h1))
          rw [enumP_len]
          refine ⟨fun hi => ?_, fun hi => ⟨ws, q, by rw [h2.len]; exact hi⟩⟩
          have hl : i < ws.length := by rw [h2.len]; exact hi
          refine ⟨⟨ws, ws[i], q, by simp [hl]⟩, fun x H2 y => ?_⟩
          obtain ⟨T, z, rfl, hT, rfl, hz⟩ := y
          obtain ⟨s3, R3⟩ := R'.new (o := .tup [.int (i : Nat), z]) hT
          refine ⟨_, s3, R3, fun p hp => ?_⟩
          obtain ⟨p', e1, rfl⟩ := enumP_get hp
          obtain ⟨v, e2, rp⟩ := h2.get e1
          rw [hz ws q] at e2
          cases e2
          rw [Nat.zero_add]
          exact .tup upd_same (.cons (.int _) (.cons (rp.mono (s.trans s3)) .nil))
  · rename_i l τ2 e
    obtain ⟨F2, s2, R2, ra⟩ := leakAll_ok R1 rvs e
    cases ra with
    | cons h1 h2 => cases h2 with
      | nil => cases h1 with
        | str => exact .inr ⟨_, rfl, k _ _ F2 (s1.trans s2) R2 iters_es⟩
  · exact k.elim
noncomputable def dEnB_k1 : List RV → PSt → Res (List PV) := fun rs τ1 => match leakAll rs τ1 with
  | some ([.lst ps], τ2) => .ok (enumP 0 ps) τ2
  | some ([.str l], τ2) => .ok (enumP 0 (l.map fun c => .str [c])) τ2
  | _ => .no
@[simp] theorem e_dEnB_k1 (rs : List RV) (τ1 : PSt) : dEnB_k1 rs τ1 = (match leakAll rs τ1 with
  | some ([.lst ps], τ2) => .ok (enumP 0 ps) τ2
  | some ([.str l], τ2) => .ok (enumP 0 (l.map fun c => .str [c])) τ2
  | _ => .no) := rfl
@[simp] theorem e_dEnB (da : PSt → Res (List RV)) (τ : PSt) : dEnB da τ = ((da τ).bind dEnB_k1) := rfl
theorem range_snoc {α : Type} (f : Nat → α) (n : Nat) : (List.range (n + 1)).map f = (List.range n).map f ++ [f n] := by rw [List.range_succ, List.map_append]; rfl
theorem getLast_range {α : Type} (f : Nat → α) (n : Nat) : ((List.range (n + 1)).map f).getLast? = some (f n) := by rw [range_snoc]; simp
theorem enum_get {α : Type} (f : α → PV) {xs : List α} {i : Nat} {p : PV} (h : (enumP 0 (xs.map f))[i]? = some p) : ∃ x, xs[i]? = some x ∧ p = .tup [.int (i : Nat), f x] := by
  obtain ⟨q, h1, rfl⟩ := enumP_get h
  rw [List.getElem?_map, Option.map_eq_some_iff] at h1
  obtain ⟨x, h2, rfl⟩ := h1
  exact ⟨x, h2, by simp⟩
end VL

/-! VL28: one text in another; loops that end with the first that is so. -/
namespace VL
open PySem PySem.Spec L2 PyProof.Rows
def hasL (a : List Nat) : List Nat → Bool
  | [] => a.isEmpty
  | c :: r => a.isPrefixOf (c :: r) || hasL a r
theorem hasL_iff (a : List Nat) : ∀ l, hasL a l = true ↔ ∃ i, i ≤ l.length ∧ a <+: l.drop i
  | [] => by
    unfold hasL
    rw [List.isEmpty_iff]
    refine ⟨fun h => ⟨0, Nat.le_refl _, by rw [h]; exact List.nil_prefix⟩, fun ⟨i, _, h⟩ => ?_⟩
    rw [List.drop_nil] at h
    exact List.prefix_nil.mp h
  | c :: r => by
    rw [hasL, Bool.or_eq_true, hasL_iff a r, List.isPrefixOf_iff_prefix]
    constructor
    · rintro (h | ⟨i, h1, h2⟩)
      · exact ⟨0, Nat.zero_le _, h⟩
      · exact ⟨i + 1, by simp; omega, h2⟩
    · rintro ⟨i, h1, h2⟩
      cases i with
      | zero => exact .inl h2
      | succ i => exact .inr ⟨i, by simpa using h1, h2⟩
def rInS (neg : Bool) : R2 := fun x y H Q => ∃ i j, x = .str i ∧ y = .str j ∧ Q (.bl (if neg then !(!(Builtin.Str.occurrences j i 0 j.length 1).isEmpty) else (!(Builtin.Str.occurrences j i 0 j.length 1).isEmpty))) H
theorem op_inS {X : Cx} : OpR X (compareOp .In) (rInS false) := op_in_str
theorem op_notInS {X : Cx} : OpR X (compareOp .NotIn) (rInS true) := L2.op_notin_str
def gInS (p q : PV) : Option GV := match p, q with
  | .str a, .str l => some (.old (.bl (hasL a l)))
  | _, _ => none
def gNotInS (p q : PV) : Option GV := match p, q with
  | .str a, .str l => some (.old (.bl (!hasL a l)))
  | _, _ => none
@[simp] theorem gInS_str (a l : List Nat) : gInS (.str a) (.str l) = some (.old (.bl (hasL a l))) := rfl
@[simp] theorem gNotInS_str (a l : List Nat) : gNotInS (.str a) (.str l) = some (.old (.bl (!hasL a l))) := rfl
theorem found_hasL (a l : List Nat) : (!(Builtin.Str.occurrences (sl l) (sl a) 0 (sl l).length 1).isEmpty) = hasL a l := by
  rw [Bool.eq_iff_iff, StrLaws.found_iff, hasL_iff]
  have e1 : (sl a).length = a.length := sl_length _
  have e2 : (sl l).length = l.length := sl_length _
  have key : ∀ i, i + a.length ≤ l.length → (Builtin.Str.subAt (sl l) (sl a) i = true ↔ a <+: l.drop i) := fun i _ => by
    rw [StrLaws.subAt_eq, e1, cps_sl, cps_sl, beq_iff_eq, List.prefix_iff_eq_take]
    exact eq_comm
  constructor
  · rintro ⟨i, h1, h2⟩
    rw [e1, e2] at h1
    exact ⟨i, by omega, (key i h1).mp h2⟩
  · rintro ⟨i, h1, h2⟩
    have h3 : i + a.length ≤ l.length := by have := h2.length_le; rw [List.length_drop] at this; omega
    exact ⟨i, by rw [e1, e2]; exact h3, (key i h3).mpr h2⟩
theorem ok_inS {K : PySem.W.Frag} : Op2Ok K (rInS false) gInS := by
  intro F H x y p q z Q s hx hy e k
  unfold gInS at e
  split at e
  · cases e
    obtain rfl := hx.str
    obtain rfl := hy.str
    exact ⟨_, _, rfl, rfl, by rw [if_neg (by decide), found_hasL]; exact k _ (.bl _)⟩
  · cases e
theorem ok_notInS {K : PySem.W.Frag} : Op2Ok K (rInS true) gNotInS := by
  intro F H x y p q z Q s hx hy e k
  unfold gNotInS at e
  split at e
  · cases e
    obtain rfl := hx.str
    obtain rfl := hy.str
    exact ⟨_, _, rfl, rfl, by rw [if_pos rfl, found_hasL]; exact k _ (.bl _)⟩
  · cases e
/-- a loop whose turns change nothing till the first item that is so -/
theorem loop_rt {step : PV → PSt → SRes} {τ : PSt} {v : SV} (P : PV → Prop) [DecidablePred P] : ∀ {items : List PV}, (∀ p ∈ items, (¬ P p → step p τ = .nx τ) ∧ (P p → ∃ τ', step p τ = .rt v τ')) →
    ((∀ p ∈ items, ¬ P p) → loopF step items τ = .nx τ) ∧ ((∃ p ∈ items, P p) → ∃ τ', loopF step items τ = .rt v τ')
  | [], _ => ⟨fun _ => rfl, fun ⟨_, h, _⟩ => nomatch h⟩
  | p :: ps, h => by
    have ih := loop_rt P (items := ps) fun q hq => h q (List.mem_cons_of_mem _ hq)
    have hp := h p (List.mem_cons_self ..)
    by_cases z : P p
    · obtain ⟨τ', e⟩ := hp.2 z
      exact ⟨fun hh => absurd z (hh p (List.mem_cons_self ..)), fun _ => ⟨τ', by rw [loopF, e]⟩⟩
    · have e := hp.1 z
      refine ⟨fun hh => by rw [loopF, e]; exact ih.1 fun q hq => hh q (List.mem_cons_of_mem _ hq), fun ⟨q, hq, hz⟩ => ?_⟩
      rcases List.mem_cons.mp hq with rfl | hq
      · exact absurd hz z
      · obtain ⟨τ', e'⟩ := ih.2 ⟨q, hq, hz⟩
        exact ⟨τ', by rw [loopF, e]; exact e'⟩
theorem cut_l1 {α : Type} (xs : List α) : cutP xs (some (-1)) none = xs.drop (xs.length - 1) := by
  unfold cutP HT.sIx
  dsimp only
  rw [if_pos (by decide), List.take_of_length_le (by rw [List.length_drop]; simp)]
  congr 1
  omega
theorem cut_l1_last {α : Type} (xs : List α) (x : α) : cutP xs (some (-1)) none = [x] ↔ xs.getLast? = some x := by
  rw [cut_l1]
  rcases List.eq_nil_or_concat xs with rfl | ⟨l, c, rfl⟩
  · simp
  · simp
theorem blkOk_in {sc scope : Scope} {own : List (Str × Nat)} {N : List Str} (h : blkC N scope scope own = true) (hf : (scope.names.all fun y => decide (y.2 ≠ .free)) = true) : BlkOk N sc scope own := by
  have b := blkOk_by h
  exact ⟨b.kind, b.uniq, b.ix, fun y hy e => absurd e (of_decide_eq_true (List.all_eq_true.mp hf y hy)), b.own⟩
end VL

/-! VL29: objects: fields of an object that one variable holds; frozen objects. -/
namespace VL
open PySem PySem.Spec L2
def putG {α : Type} (f : Str) (v : α) : List (Str × α) → List (Str × α)
  | [] => [(f, v)]
  | (g, x) :: r => if g = f then (g, v) :: r else (g, x) :: putG f v r
section
variable {K : PySem.W.Frag} {C : Ctx} {F F' H H' : Hp} {own own' : Addr → Option Nat} {i : Nat} {τ τ' : PSt} {σ : St} {a b : Addr} {p p' : PV} {f : Str} {v : V}
theorem look_eq {α : Type} {f g : Str} {x : α} {r : List (Str × α)} : List.lookup f ((g, x) :: r) = if g = f then some x else List.lookup f r := by
  rw [List.lookup_cons]
  by_cases h : g = f
  · subst h; simp
  · have : (f == g) = false := beq_eq_false_iff_ne.mpr fun z => h z.symm
    rw [this, if_neg h]
theorem Flds.look_fz : ∀ {vs : List (Str × V)} {fs : List (Str × FV)} {S : List Addr}, Flds K F H own i vs fs S → fs.lookup f = some (.fz p) → ∃ v, vs.lookup f = some v ∧ Rp K F v p
  | _, _, _, .nil, h => by simp at h
  | _, _, _, .fz (f := g) r t, h => by
    rw [look_eq] at h ⊢
    by_cases e : g = f
    · rw [if_pos e] at h ⊢; cases h; exact ⟨_, rfl, r⟩
    · rw [if_neg e] at h ⊢; exact t.look_fz h
  | _, _, _, .ow (f := g) o w n t, h => by
    rw [look_eq] at h ⊢
    by_cases e : g = f
    · rw [if_pos e] at h; cases h
    · rw [if_neg e] at h ⊢; exact t.look_fz h
theorem Flds.look_ow : ∀ {vs : List (Str × V)} {fs : List (Str × FV)} {S : List Addr}, Flds K F H own i vs fs S → fs.lookup f = some (.ow p) → ∃ b, b ∈ S ∧ vs.lookup f = some (.ref b) ∧ own b = some i ∧ OwAt K F H b p
  | _, _, _, .nil, h => by simp at h
  | _, _, _, .fz (f := g) r t, h => by
    rw [look_eq] at h ⊢
    by_cases e : g = f
    · rw [if_pos e] at h; cases h
    · rw [if_neg e] at h ⊢; exact t.look_ow h
  | _, _, _, .ow (f := g) (b := b) o w n t, h => by
    rw [look_eq] at h ⊢
    by_cases e : g = f
    · rw [if_pos e] at h ⊢; cases h; exact ⟨b, List.mem_cons_self .., rfl, o, w⟩
    · rw [if_neg e] at h ⊢
      obtain ⟨b', h1, h2⟩ := t.look_ow h
      exact ⟨b', List.mem_cons_of_mem _ h1, h2⟩
theorem Flds.len : ∀ {vs : List (Str × V)} {fs : List (Str × FV)} {S : List Addr}, Flds K F H own i vs fs S → vs.length = fs.length
  | _, _, _, .nil => rfl
  | _, _, _, .fz _ t => congrArg (· + 1) t.len
  | _, _, _, .ow _ _ _ t => congrArg (· + 1) t.len
theorem Flds.put_fz (r : Rp K F v p) : ∀ {vs : List (Str × V)} {fs : List (Str × FV)} {S : List Addr}, Flds K F H own i vs fs S → ∃ S', (∀ x ∈ S', x ∈ S) ∧ Flds K F H own i (putF f v vs) (putG f (.fz p) fs) S'
  | _, _, _, .nil => ⟨[], (fun _ h => nomatch h), .fz r .nil⟩
  | _, _, _, .fz (f := g) (S := S) r' t => by
    unfold putF putG
    by_cases e : g = f
    · rw [if_pos e, if_pos e]; exact ⟨S, fun _ h => h, .fz r t⟩
    · rw [if_neg e, if_neg e]
      obtain ⟨S', h1, h2⟩ := t.put_fz r
      exact ⟨S', h1, .fz r' h2⟩
  | _, _, _, .ow (f := g) (b := b) (S := S) o w n t => by
    unfold putF putG
    by_cases e : g = f
    · rw [if_pos e, if_pos e]; exact ⟨S, fun _ h => List.mem_cons_of_mem _ h, .fz r t⟩
    · rw [if_neg e, if_neg e]
      obtain ⟨S', h1, h2⟩ := t.put_fz r
      exact ⟨b :: S', fun x hx => (List.mem_cons.mp hx).elim (fun z => z ▸ List.mem_cons_self ..) fun z => List.mem_cons_of_mem _ (h1 x z), .ow o w (fun z => n (h1 b z)) h2⟩
theorem Flds.put_ow (o : own b = some i) (w : OwAt K F H b p) : ∀ {vs : List (Str × V)} {fs : List (Str × FV)} {S : List Addr}, Flds K F H own i vs fs S → b ∉ S → ∃ S', (∀ x ∈ S', x = b ∨ x ∈ S) ∧ Flds K F H own i (putF f (.ref b) vs) (putG f (.ow p) fs) S'
  | _, _, _, .nil, _ => ⟨[b], (fun x h => .inl (List.mem_singleton.mp h)), .ow o w (fun h => nomatch h) .nil⟩
  | _, _, _, .fz (f := g) (S := S) r' t, nb => by
    unfold putF putG
    by_cases e : g = f
    · rw [if_pos e, if_pos e]; exact ⟨b :: S, fun x h => List.mem_cons.mp h, .ow o w nb t⟩
    · rw [if_neg e, if_neg e]
      obtain ⟨S', h1, h2⟩ := t.put_ow o w nb
      exact ⟨S', h1, .fz r' h2⟩
  | _, _, _, .ow (f := g) (b := c) (S := S) o' w' n t, nb => by
    unfold putF putG
    have nb' : b ∉ S := fun z => nb (List.mem_cons_of_mem _ z)
    by_cases e : g = f
    · rw [if_pos e, if_pos e]; exact ⟨b :: S, fun x h => (List.mem_cons.mp h).imp id (List.mem_cons_of_mem _), .ow o w nb' t⟩
    · rw [if_neg e, if_neg e]
      obtain ⟨S', h1, h2⟩ := t.put_ow o w nb'
      refine ⟨c :: S', fun x hx => ?_, .ow o' w' (fun z => ?_) h2⟩
      · rcases List.mem_cons.mp hx with rfl | z
        · exact .inr (List.mem_cons_self ..)
        · exact (h1 x z).imp id (List.mem_cons_of_mem _)
      · rcases h1 c z with rfl | z
        · exact nb (List.mem_cons_self ..)
        · exact n z
theorem Flds.mut {o' : HO} (w : OwAt K F (upd H b o') b p') : ∀ {vs : List (Str × V)} {fs : List (Str × FV)} {S : List Addr}, Flds K F H own i vs fs S → fs.lookup f = some (.ow p) → vs.lookup f = some (.ref b) → b ∈ S ∧ Flds K F (upd H b o') own i vs (putG f (.ow p') fs) S
  | _, _, _, .nil, h, _ => by simp at h
  | _, _, _, .fz (f := g) r t, h, hv => by
    rw [look_eq] at h hv
    unfold putG
    by_cases e : g = f
    · rw [if_pos e] at h; cases h
    · rw [if_neg e] at h hv ⊢
      obtain ⟨h1, h2⟩ := t.mut w h hv
      exact ⟨h1, .fz r h2⟩
  | _, _, _, .ow (f := g) (b := c) (S := S) o1 w1 n t, h, hv => by
    rw [look_eq] at h hv
    unfold putG
    by_cases e : g = f
    · rw [if_pos e] at hv ⊢
      cases hv
      refine ⟨List.mem_cons_self .., .ow o1 w n (t.frame (Sub.refl _) (fun x hx => upd_ne fun z => n (z ▸ hx)) fun _ _ q => q)⟩
    · rw [if_neg e] at h hv ⊢
      obtain ⟨h1, h2⟩ := t.mut w h hv
      exact ⟨List.mem_cons_of_mem _ h1, .ow o1 (w1.frame (upd_ne fun z => n (z ▸ h1))) n h2⟩
end
/-! ### expressions that only make new things -/
def KeepE (t : TE) : Prop := ∀ σ H Q Q', t σ H Q → (∀ v H', Sub H H' → Q v H' → Q' v H') → t σ H Q'
def KeepA (t : TA) : Prop := ∀ σ H Q Q', t σ H Q → (∀ v H', Sub H H' → Q v H' → Q' v H') → t σ H Q'
theorem ke_var {i : Nat} : KeepE (tVar i) := fun σ H Q Q' ⟨v, e, q⟩ k => ⟨v, e, k _ _ (Sub.refl _) q⟩
theorem ke_c {v : V} : KeepE (tC v) := fun σ H Q Q' q k => k _ _ (Sub.refl _) q
theorem ka_nil : KeepA tNil := fun σ H Q Q' q k => k _ _ (Sub.refl _) q
theorem ka_cons {ta : TE} {tr : TA} (h : KeepE ta) (g : KeepA tr) : KeepA (tCons ta tr) := fun σ H Q Q' q k =>
  h σ H _ _ q fun x H1 s1 q1 => g σ H1 _ _ q1 fun xs H2 s2 q2 => k _ _ (s1.trans s2) q2
theorem ke_tup {t : TA} (h : KeepA t) : KeepE (tTup t) := fun σ H Q Q' q k => h σ H _ _ q fun xs H1 s1 ⟨z, q1⟩ => ⟨z, fun p hp => k _ _ (s1.trans (upd_sub hp)) (q1 p hp)⟩
theorem ke_lst {t : TA} (h : KeepA t) : KeepE (tLst t) := fun σ H Q Q' q k => h σ H _ _ q fun xs H1 s1 ⟨z, q1⟩ => ⟨z, fun p hp => k _ _ (s1.trans (upd_sub hp)) (q1 p hp)⟩
/-! ### the frame behind a change of a field -/
section
variable {K : PySem.W.Frag} {C : Ctx} {F F' H H' : Hp} {own own' : Addr → Option Nat} {i : Nat} {τ τ' : PSt} {σ : St} {a b : Addr} {p p' : PV} {f : Str} {v : V} {c : Str} {fs : List (Str × FV)}
theorem FrO.poke {o' : HO} {s : SV} (R : FrO K C own F τ σ H) (ho : own b = some i) (nt : ∀ vs, o' ≠ .tup vs) (hs : SlotOk K F (upd H b o') own σ i s) : FrO K C own F (τ.set i s) σ (upd H b o') := by
  have hF : F b = none := R.ownF b i ho
  refine ⟨by rw [List.length_set]; exact R.len, ?_, R.sub0, ?_, ?_, R.frz, ?_, R.ownF, ?_, R.ownB, R.bor, R.bH, fun x vs q => by
    by_cases hx : x = b
    · subst hx; rw [upd_same] at q; cases q; exact absurd rfl (nt vs)
    · rw [upd_ne hx] at q; exact R.tups x vs q⟩
  · intro x u q
    rw [upd_ne (by rintro rfl; rw [hF] at q; cases q)]
    exact R.sub x u q
  · intro x u q nb
    have hx : x ≠ b := by
      rintro rfl
      rcases R.ownB x i ho with z | z
      · rw [z] at q; cases q
      · exact nb ⟨i, z⟩
    rw [upd_ne hx]; exact R.keep x u q nb
  · intro x u q
    by_cases hx : x = b
    · rw [hx]; exact ⟨_, upd_same⟩
    · rw [upd_ne hx]; exact R.there x u q
  · intro j t hj
    by_cases hij : i = j
    · subst hij
      have hl : i < τ.length := by
        have := (List.getElem?_eq_some_iff.mp hj).1
        rwa [List.length_set] at this
      rw [List.getElem?_set_self hl] at hj
      cases hj
      exact hs
    · rw [List.getElem?_set_ne hij] at hj
      exact SlotOk.frame (Sub.refl _) (fun x ox => upd_ne (by rintro rfl; rw [ho] at ox; cases ox; exact hij rfl)) (fun _ q => q) rfl (R.slot j t hj)
  · intro x j q
    by_cases hx : x = b
    · rw [hx]; exact ⟨_, upd_same⟩
    · rw [upd_ne hx]; exact R.ownH x j q
theorem OwAt.noTup {o' : HO} (w : OwAt K F (upd H b o') b p) : ∀ vs, o' ≠ .tup vs := fun vs e => w.notTup vs (by rw [upd_same, e])
/-- a list or dict that a field holds is changed -/
theorem FrO.fmut {o' : HO} {dx : Addr} {fvs : List (Str × V)} {S : List Addr} (R : FrO K C own F τ σ H) (h1 : σ[i]? = some (some (V.ref a))) (h2 : own a = some i) (h3 : H a = some (.ins (He.ga K c) dx fvs)) (h5 : Flds K F H own i fvs fs S) (h6 : a ∉ S)
    (e : fs.lookup f = some (.ow p)) (ev : fvs.lookup f = some (.ref b)) (w : OwAt K F (upd H b o') b p') : FrO K C own F (τ.set i (.ob c (putG f (.ow p') fs))) σ (upd H b o') := by
  obtain ⟨hb, t⟩ := h5.mut w e ev
  have nab : a ≠ b := fun z => h6 (z ▸ hb)
  exact R.poke (h5.owned b hb) w.noTup ⟨a, dx, fvs, S, h1, h2, by rw [upd_ne nab]; exact h3, t, h6⟩
/-- a field gets a value that never changes -/
theorem FrO.fput {dx : Addr} {fvs : List (Str × V)} {S : List Addr} (R : FrO K C own F τ σ H) (h1 : σ[i]? = some (some (V.ref a))) (h2 : own a = some i) (h5 : Flds K F H own i fvs fs S) (h6 : a ∉ S) (r : Rp K F v p) :
    FrO K C own F (τ.set i (.ob c (putG f (.fz p) fs))) σ (upd H a (.ins (He.ga K c) dx (putF f v fvs))) := by
  obtain ⟨S', hs, t⟩ := h5.put_fz (f := f) r
  refine R.poke h2 (fun vs z => by cases z) ⟨a, dx, _, S', h1, h2, upd_same, t.frame (Sub.refl _) (fun x hx => upd_ne fun z => h6 (z ▸ hs x hx)) (fun _ _ q => q), fun z => h6 (hs a z)⟩
/-- a field gets a new list or dict -/
theorem FrO.fnew {dx : Addr} {fvs : List (Str × V)} {S : List Addr} (R : FrO K C own F τ σ H) (w : OwAt K F H b p) (ho : own b = none) (hF : F b = none) (h0 : C.H0 b = none) (h1 : σ[i]? = some (some (V.ref a))) (h2 : own a = some i) (h5 : Flds K F H own i fvs fs S) (h6 : a ∉ S) :
    Rel K C F (τ.set i (.ob c (putG f (.ow p) fs))) σ (upd H a (.ins (He.ga K c) dx (putF f (.ref b) fvs))) := by
  have nab : a ≠ b := fun z => by rw [← z, h2] at ho; cases ho
  have R' : FrO K C (fun x => if x = b then some i else own x) F τ σ H := by
    have kp : ∀ x j, own x = some j → (if x = b then some i else own x) = some j := fun x j q => by
      have : x ≠ b := fun z => by rw [z, ho] at q; cases q
      rw [if_neg this]; exact q
    refine ⟨R.len, R.sub, R.sub0, R.keep, R.there, R.frz, fun j t hj => SlotOk.frame (Sub.refl _) (fun _ _ => rfl) (fun x q => kp x j q) rfl (R.slot j t hj), ?_, ?_, ?_, R.bor, R.bH, R.tups⟩
    · intro x j q
      by_cases hx : x = b
      · rw [hx]; exact hF
      · rw [if_neg hx] at q; exact R.ownF x j q
    · intro x j q
      by_cases hx : x = b
      · rw [hx]; exact w.some_
      · rw [if_neg hx] at q; exact R.ownH x j q
    · intro x j q
      by_cases hx : x = b
      · rw [hx]; exact .inl h0
      · rw [if_neg hx] at q; exact R.ownB x j q
  have h2' : (if a = b then some i else own a) = some i := by rw [if_neg nab]; exact h2
  have nbS : b ∉ S := fun z => by rw [h5.owned b z] at ho; cases ho
  have h5' : Flds K F H (fun x => if x = b then some i else own x) i fvs fs S := h5.frame (Sub.refl _) (fun _ _ => rfl) fun x hx q => by
    have : x ≠ b := fun z => nbS (z ▸ hx)
    rw [if_neg this]; exact q
  obtain ⟨S', hs, t⟩ := h5'.put_ow (f := f) (b := b) (p := p) (by simp) w nbS
  have haS : a ∉ S' := fun z => (hs a z).elim nab h6
  exact ⟨_, R'.poke h2' (fun vs z => by cases z) ⟨a, dx, _, S', h1, h2', upd_same, t.frame (Sub.refl _) (fun x hx => upd_ne fun z => haS (z ▸ hx)) (fun _ _ q => q), haS⟩⟩
end
/-! ### e.f -/
@[simp] def objF (c f : Str) : PV → Option PV
  | .obj c' fps => if c' = c then fps.lookup f else none
  | _ => none
@[simp] def obF (c f : Str) : SV → Option PV
  | .ob c' fs => if c' = c then (match fs.lookup f with
    | some (.fz p) => some p
    | _ => none) else none
  | .fz p => objF c f p
  | _ => none
@[simp] def rdF (c f : Str) (r : RV) (τ : PSt) : Option PV := match r with
  | .at i => (match τ[i]? with
    | some s => obF c f s
    | none => none)
  | .fz p => objF c f p
  | .nw p => objF c f p
def dFld (c f : Str) (d : PSt → Res RV) : PSt → Res RV := fun τ => (d τ).bind fun r τ1 => match rdF c f r τ1 with
  | some p => .ok (.fz p) τ1
  | none => .no
section
variable {K : PySem.W.Frag} {C : Ctx} {F F' H H' : Hp} {own own' : Addr → Option Nat} {i : Nat} {τ τ' : PSt} {σ : St} {a b : Addr} {p p' : PV} {f c : Str} {v : V} {r : RV}
theorem look_rp : ∀ {fvs : List (Str × V)} {fps : List (Str × PV)}, fps.map (·.1) = fvs.map (·.1) → RpAll K F (fvs.map (·.2)) (fps.map (·.2)) → fps.lookup f = some p → ∃ w, fvs.lookup f = some w ∧ Rp K F w p
  | [], [], _, _, h => by simp at h
  | [], _ :: _, e, _, _ => by simp at e
  | _ :: _, [], e, _, _ => by simp at e
  | (g, w) :: fvs, (g', q) :: fps, e, r, h => by
    simp only [List.map_cons, List.cons.injEq] at e
    obtain ⟨e1, e2⟩ := e
    have e1 : g' = g := e1
    subst e1
    simp only [List.map_cons] at r
    cases r with
    | cons r1 r2 =>
      rw [look_eq] at h ⊢
      by_cases z : g' = f
      · rw [if_pos z] at h ⊢; cases h; exact ⟨w, rfl, r1⟩
      · rw [if_neg z] at h ⊢; exact look_rp e2 r2 h
theorem objF_ok (s : Sub F H) (h : Rp K F v p') (e : objF c f p' = some p) : ∃ a dx fvs w, v = .ref a ∧ H a = some (.ins (He.ga K c) dx fvs) ∧ fvs.lookup f = some w ∧ Rp K F w p := by
  cases h with
  | obj h1 h2 h3 =>
    simp only [objF] at e
    split at e
    · rename_i hc
      subst hc
      obtain ⟨w, h4, h5⟩ := look_rp h2 h3 e
      exact ⟨_, _, _, w, rfl, s _ _ h1, h4, h5⟩
    · cases e
  | _ => simp at e
theorem rdF_ok (R : Rel K C F τ σ H) (h : RvOk K F σ v r) (e : rdF c f r τ = some p) : ∃ a dx fvs w, v = .ref a ∧ H a = some (.ins (He.ga K c) dx fvs) ∧ fvs.lookup f = some w ∧ Rp K F w p := by
  obtain ⟨own, R⟩ := R
  cases r with
  | nw q => exact h.elim
  | fz q => exact objF_ok R.sub h e
  | «at» i =>
    have h : σ[i]? = some (some v) := h
    simp only [rdF] at e
    split at e
    · rename_i s hs
      have sl := R.slot i s hs
      cases s with
      | un => simp at e
      | ow q => simp at e
      | tr q => simp at e
      | fz q =>
        obtain ⟨w, h1, h2⟩ := sl
        rw [h] at h1; cases h1
        exact objF_ok R.sub h2 e
      | ob c' fs =>
        obtain ⟨a, dx, fvs, S, h1, h2, h3, h5, h6⟩ := sl
        rw [h] at h1; cases h1
        simp only [obF] at e
        split at e
        · rename_i hc
          subst hc
          split at e
          · rename_i q hq
            cases e
            obtain ⟨w, h7, h8⟩ := h5.look_fz hq
            exact ⟨a, dx, fvs, w, rfl, h3, h7, h8⟩
          · cases e
        · cases e
    · cases e
theorem rdF_nf (r : RV) (τ : PSt) : rdF c f r.nf τ = rdF c f r τ := by cases r <;> rfl
end
section
variable {X : Cx} {K : PySem.W.Frag} {W : WX} {ms : List Nat}
theorem me_fld {e : Expr} {c f : Str} {pos : Pos} {t : TE} {d : PSt → Res RV} (h : ME X K W ms e t d) (hc : Cls K (He.ga K c)) (hn : NoAttr K (He.ga K c) f) (hb : attributeBase e f X.env (eval e X.env) = eval e X.env := by rfl) :
    ME X K W ms (.Attribute e f pos) (tFld K t f) (dFld c f d) := by
  obtain ⟨rfl, p0, s0⟩ := h
  refine ⟨rfl, pe_fld p0 hb, ?_⟩
  intro C F τ σ H Q hm R k
  unfold dFld at k
  rw [Res.holds_bind] at k
  refine s0 C F τ σ H _ hm R (k.imp (fun r τ1 k => ?_) fun _ _ x => x)
  intro v H1 F1 s1 ok
  obtain ⟨F2, s2, R2, rv⟩ := ok.froze
  split at k
  · rename_i p e
    obtain ⟨a, dx, fvs, w, rfl, h1, h2, h3⟩ := rdF_ok R2 rv (by rw [rdF_nf]; exact e)
    exact ⟨a, _, dx, fvs, w, rfl, h1, hc, hn, h2, k w H1 F2 (s1.trans s2) ⟨R2, h3⟩⟩
  · exact k.elim
/-! ### self.f = e -/
/-- a new list or dict stays the field's own -/
def dStF (i : Nat) (c f : Str) (dv : PSt → Res RV) : PSt → SRes := fun τ => (dv τ).bindS fun r τ1 => match r, τ1[i]? with
  | .nw p, some (.ob c' fs) => if c' = c ∧ fs.length < 1000 then .nx (τ1.set i (.ob c (putG f (.ow p) fs))) else .no
  | _, _ => .no
/-- the value is frozen -/
def dStFz (i : Nat) (c f : Str) (dv : PSt → Res RV) : PSt → SRes := fun τ => (dv τ).bindS fun r τ1 => match leak r τ1 with
  | some (p, τ2) => (match τ2[i]? with
    | some (.ob c' fs) => if c' = c ∧ fs.length < 1000 then .nx (τ2.set i (.ob c (putG f (.fz p) fs))) else .no
    | _ => .no)
  | none => .no
theorem ms_stF {o value : Expr} {i : Nat} {c f : Str} {pos pos' : Pos} {tv : TE} {dv : PSt → Res RV} (ho : PE X o (tVar i)) (hv : ME X K W ms value tv dv) (hc : Cls K (He.ga K c)) (hn : NoAttr K (He.ga K c) f)
    (hs : swapsWith value (some (.Attribute o f pos')) pos.line X.env = pure false := by rfl) : MS X K W ms (.Assign [.Attribute o f pos'] value pos) (sFld K (tVar i) tv f) (dStF i c f dv) := by
  obtain ⟨rfl, p0, s0⟩ := hv
  refine ⟨rfl, ps_fld ho p0 hs, ?_⟩
  intro C F τ σ H D hm R k
  unfold dStF at k
  refine s0 C F τ σ H _ hm R ((SH.bind (σ := σ) k).imp (fun r τ1 k => ?_) fun _ _ x => x)
  intro v H1 F1 s1 ok
  split at k
  · rename_i p c' fs e1
    split at k
    · rename_i hh
      obtain ⟨rfl, hl⟩ := hh
      obtain ⟨b, rfl, own, R1, w, g1, g2, g3⟩ := ok
      obtain ⟨a, dx, fvs, S, h1, h2, h3, h5, h6⟩ := R1.slot _ _ e1
      refine ⟨_, h1, a, _, dx, fvs, rfl, h3, hc, hn, by rw [h5.len]; exact hl, ?_⟩
      exact k σ _ F1 s1 (R1.fnew w g1 g2 g3 h1 h2 h5 h6)
    · exact k.elim
  · exact k.elim
theorem ms_stFz {o value : Expr} {i : Nat} {c f : Str} {pos pos' : Pos} {tv : TE} {dv : PSt → Res RV} (ho : PE X o (tVar i)) (hv : ME X K W ms value tv dv) (hc : Cls K (He.ga K c)) (hn : NoAttr K (He.ga K c) f)
    (hs : swapsWith value (some (.Attribute o f pos')) pos.line X.env = pure false := by rfl) : MS X K W ms (.Assign [.Attribute o f pos'] value pos) (sFld K (tVar i) tv f) (dStFz i c f dv) := by
  obtain ⟨rfl, p0, s0⟩ := hv
  refine ⟨rfl, ps_fld ho p0 hs, ?_⟩
  intro C F τ σ H D hm R k
  unfold dStFz at k
  refine s0 C F τ σ H _ hm R ((SH.bind (σ := σ) k).imp (fun r τ1 k => ?_) fun _ _ x => x)
  intro v H1 F1 s1 ok
  obtain ⟨F2, s2, R2, rv⟩ := ok.froze
  split at k
  · rename_i p τ2 e
    obtain ⟨F3, s3, ⟨own, R3⟩, rp⟩ := leak_ok R2 rv (by rw [leak_nf]; exact e)
    split at k
    · rename_i c' fs e1
      split at k
      · rename_i hh
        obtain ⟨rfl, hl⟩ := hh
        obtain ⟨a, dx, fvs, S, h1, h2, h3, h5, h6⟩ := R3.slot _ _ e1
        refine ⟨_, h1, a, _, dx, fvs, rfl, h3, hc, hn, by rw [h5.len]; exact hl, ?_⟩
        exact k σ _ F3 ((s1.trans s2).trans s3) ⟨own, R3.fput h1 h2 h5 h6 rp⟩
      · exact k.elim
    · exact k.elim
  · exact k.elim
/-! ### self.f.append(e) .. -/
def dFMut (i : Nat) (c f : Str) (g : List PV → List PV → Option (List PV × PV)) (da : PSt → Res (List RV)) : PSt → Res RV := fun τ => match τ[i]? with
  | some (.ob c' fs0) => if c' = c then (match fs0.lookup f with
    | some (.ow (.lst _)) => (da τ).bind fun rs τ1 => (match leakAll rs τ1 with
      | some (ps, τ2) => (match τ2[i]? with
        | some (.ob c2 fs) => if c2 = c then (match fs.lookup f with
          | some (.ow (.lst xs)) => (match g xs ps with
            | some (xs', z) => .ok (.fz z) (τ2.set i (.ob c (putG f (.ow (.lst xs')) fs)))
            | none => .no)
          | _ => .no) else .no
        | _ => .no)
      | none => .no)
    | _ => .no) else .no
  | _ => .no
theorem sim_fmut {i : Nat} {c f : Str} {r : V → List V → Hp → VK → Prop} {g : List PV → List PV → Option (List PV × PV)} {t : TA} {d : PSt → Res (List RV)} (hg : MutOk K r g) (hk : KeepA t) (hc : Cls K (He.ga K c)) (hn : NoAttr K (He.ga K c) f) (h : SimA K W ms t d) :
    SimE K W ms (tBM K "list" r (tFld K (tVar i) f) t) (dFMut i c f g d) := by
  intro C F τ σ H Q hm R k
  unfold dFMut at k
  split at k
  · rename_i c' fs0 e0
    split at k
    · rename_i hcc
      subst hcc
      split at k
      · rename_i xs0 l0
        obtain ⟨own, R'⟩ := id R
        obtain ⟨a, dx, fvs, S, h1, h2, h3, h5, h6⟩ := R'.slot _ _ e0
        obtain ⟨b, hb, lb, ob, wb⟩ := h5.look_ow l0
        obtain ⟨ws0, eb, rb⟩ := id wb
        refine ⟨_, h1, a, _, dx, fvs, _, rfl, h3, hc, hn, lb, .inl ⟨rfl, ws0, SqL.of eb⟩, ?_⟩
        rw [Res.holds_bind] at k
        refine hk σ H (fun vs H2 => Sub H H2 → r (.ref b) vs H2 Q) _ (h C F τ σ H _ hm R (k.imp (fun rs τ1 k => ?_) fun _ _ x => x)) fun vs H2 s q => q s
        intro vs H1 F1 s1 R1 rvs sH
        split at k
        · rename_i ps τ2 e2
          obtain ⟨F2, s2, ⟨own2, R2⟩, rp⟩ := leakAll_ok R1 rvs e2
          split at k
          · rename_i c2 fs e3
            split at k
            · rename_i hc2
              subst hc2
              split at k
              · rename_i xs l1
                split at k
                · rename_i xs' z e4
                  obtain ⟨a', dx', fvs', S', g1, g2, g3, g5, g6⟩ := R2.slot _ _ e3
                  rw [h1] at g1; cases g1
                  rw [sH _ _ h3] at g3
                  obtain ⟨b', hb', lb', ob', wb'⟩ := g5.look_ow l1
                  cases g3
                  rw [lb] at lb'; cases lb'
                  obtain ⟨ws2, e5, ra2⟩ := id wb'
                  refine hg F2 H1 b ws2 xs vs ps xs' z _ R2.sub e5 ra2 rp e4 fun ws' v hw hv => ?_
                  exact k v _ F2 (s1.trans s2) ⟨⟨own2, R2.fmut h1 g2 (sH _ _ h3) g5 g6 l1 lb ⟨ws', upd_same, hw⟩⟩, hv⟩
                · exact k.elim
              · exact k.elim
            · exact k.elim
          · exact k.elim
        · exact k.elim
      · exact k.elim
    · exact k.elim
  · exact k.elim
theorem me_fmut {o e : Expr} {es : List Expr} {name c f : Str} {apos cpos fpos : Pos} {id : String} {i : Nat} {r : V → List V → Hp → VK → Prop} {g : List PV → List PV → Option (List PV × PV)} {t : TA} {da : PSt → Res (List RV)} (slot : Slot "list" name id) (hty : typeOf (.builtin id) = pure (.type "method_descriptor")) (hm : MtR X id r) (hg : MutOk K r g)
    (ho : PE X o (tVar i)) (ha : MA X K W ms (e :: es) t da) (hk : KeepA t) (hc : Cls K (He.ga K c)) (hn : NoAttr K (He.ga K c) f) (hb : attributeBase o f X.env (eval o X.env) = eval o X.env := by rfl) (hbase : attributeBase (.Attribute o f fpos) name X.env (eval (.Attribute o f fpos) X.env) = eval (.Attribute o f fpos) X.env := by rfl)
    (hfew : ((backTo cpos (starEach (e :: es) X.env)).all (fun x => !x.1) && (backToKw cpos (keywordEach [] X.env)).all (fun x => x.1.isSome)
      && decide ((e :: es).length + ([] : List Keyword).length + (if ([] : List Keyword).isEmpty then 0 else 1) < 30)) = true := by rfl)
    (hline : (apos.endLine == cpos.line) = true := by rfl) (hs : starEach (e :: es) X.env = (false, eval e X.env) :: starEach es X.env := by rfl) (hplain : (backTo cpos (starEach es X.env)).any (·.1) = false := by rfl) :
    ME X K W ms (.Call (.Attribute (.Attribute o f fpos) name apos) (e :: es) [] cpos) (tBM K "list" r (tFld K (tVar i) f) t) (dFMut i c f g da) := by
  obtain ⟨rfl, p0, s0⟩ := ha
  exact ⟨rfl, pe_bm PySem.F.plainAttrs_list slot hty hm (pe_fld ho hb) p0 hbase hfew hline hs hplain, sim_fmut hg hk hc hn s0⟩
end
/-! ### self.f[k] = e -/
def dFPut (i : Nat) (c f : Str) (dk dv : PSt → Res RV) : PSt → SRes := fun τ => (dv τ).bindS fun r τ1 => match leak r τ1 with
  | some (p, τ2) => (match τ2[i]? with
    | some (.ob c' fs0) => if c' = c then (match fs0.lookup f with
      | some (.ow (.dic _ _)) => (dk τ2).bindS fun kr τ3 => (match leak kr τ3 with
        | some (q, τ4) => (match τ4[i]? with
          | some (.ob c2 fs) => if c2 = c then (match fs.lookup f with
            | some (.ow (.dic t kvs)) => (match pk? t q with
              | some k => if kvs.length < sizeLine then .nx (τ4.set i (.ob c (putG f (.ow (.dic t (putP kvs k p))) fs))) else .no
              | none => .no)
            | _ => .no) else .no
          | _ => .no)
        | none => .no)
      | _ => .no) else .no
    | _ => .no)
  | none => .no
section
variable {X : Cx} {K : PySem.W.Frag} {W : WX} {ms : List Nat}
theorem ms_fput {i : Nat} {c f : Str} {o x e : Expr} {pos pos' fpos : Pos} {tk tv : TE} {dk dv : PSt → Res RV} (hu : X.A.units + 1 < cLine) (ho : PE X o (tVar i)) (hk : ME X K W ms x tk dk) (hv : ME X K W ms e tv dv) (kk : KeepE tk) (hc : Cls K (He.ga K c)) (hn : NoAttr K (He.ga K c) f)
    (hb : attributeBase o f X.env (eval o X.env) = eval o X.env := by rfl) (hs : swapsWith e (some (.Subscript (.Attribute o f fpos) x pos')) pos.line X.env = pure false := by rfl) :
    MS X K W ms (.Assign [.Subscript (.Attribute o f fpos) x pos'] e pos) (sDPut (tFld K (tVar i) f) tk tv) (dFPut i c f dk dv) := by
  obtain ⟨rfl, pk, sk⟩ := hk
  refine ⟨rfl, ps_dput hu (pe_fld ho hb) pk hv.pe hs, ?_⟩
  intro C F τ σ H D hm R k
  unfold dFPut at k
  refine hv.sim C F τ σ H _ hm R ((SH.bind (σ := σ) k).imp (fun r τ1 k => ?_) fun _ _ x => x)
  intro v H1 F1 s1 ok
  obtain ⟨F1', s1', R1, rv⟩ := ok.froze
  split at k
  · rename_i p τ2 e
    obtain ⟨F2, s2, R2, rp⟩ := leak_ok R1 rv (by rw [leak_nf]; exact e)
    split at k
    · rename_i c' fs0 e0
      split at k
      · rename_i hcc
        subst hcc
        split at k
        · rename_i t0 kvs0 l0
          obtain ⟨own, R2'⟩ := id R2
          obtain ⟨a, dx, fvs, S, h1, h2, h3, h5, h6⟩ := R2'.slot _ _ e0
          obtain ⟨b, hb', lb, ob, wb⟩ := h5.look_ow l0
          refine ⟨_, h1, a, _, dx, fvs, _, rfl, h3, hc, hn, lb, ?_⟩
          refine kk σ H1 (fun y H3 => Sub H1 H3 → ∃ a H4, V.ref b = .ref a ∧ DPut H3 a y v H4 ∧ D.nx σ H4) _ (sk C F2 τ2 σ H1 _ hm R2 ((SH.bind (σ := σ) k).imp (fun r3 τ3 k => ?_) (ErE.up ((s1.trans s1').trans s2)))) fun y H3 s q => q s
          intro v3 H3 F3 s3 ok3 sH
          obtain ⟨F3', s3', R3, rv3⟩ := ok3.froze
          split at k
          · rename_i q τ4 e4
            obtain ⟨F4, s4, R4, rq⟩ := leak_ok R3 rv3 (by rw [leak_nf]; exact e4)
            split at k
            · rename_i c2 fs e5
              split at k
              · rename_i hc2
                subst hc2
                split at k
                · rename_i t kvs l1
                  split at k
                  · rename_i key e6
                    split at k
                    · rename_i hz
                      have sA := (s3.trans s3').trans s4
                      obtain ⟨own4, R4⟩ := R4
                      obtain ⟨a', dx', fvs', S', g1, g2, g3, g5, g6⟩ := R4.slot _ _ e5
                      rw [h1] at g1; cases g1
                      rw [sH _ _ h3] at g3
                      obtain ⟨b', hb2, lb', ob', wb'⟩ := g5.look_ow l1
                      cases g3
                      rw [lb] at lb'; cases lb'
                      have fin : ∀ {o' : HO}, OwAt X.K F4 (upd H3 b o') b (.dic t (putP kvs key p)) → D.nx σ (upd H3 b o') := fun {o'} w =>
                        k σ _ F4 (((s1.trans s1').trans s2).trans sA) ⟨own4, R4.fmut h1 g2 (sH _ _ h3) g5 g6 l1 lb w⟩
                      cases t with
                      | false =>
                        obtain ⟨kvs', d1, d2, d3⟩ := wb'
                        obtain ⟨key', rfl, rfl⟩ := pk_ok (K := X.K) (F := F4) (H := H3) (.inl rq) e6
                        obtain ⟨y1, y2⟩ := put_ok pkA (fun _ _ => pkA_inj) key' (rp.mono sA) d2 d3
                        have hl : kvs'.length < sizeLine := by have := congrArg List.length d2; rw [List.length_map, List.length_map] at this; omega
                        exact ⟨b, _, rfl, .inl ⟨kvs', key', d1, rfl, hl, rfl⟩, fin ⟨_, upd_same, y1, y2⟩⟩
                      | true =>
                        obtain ⟨kvs', d1, d2, d3⟩ := wb'
                        obtain ⟨keys, b2, rfl, _, hb3, rfl⟩ := pkT_ok (K := X.K) R4.sub (.inl rq) e6
                        obtain ⟨y1, y2⟩ := put_ok pkT (fun _ _ => pkT_inj) keys (rp.mono sA) d2 d3
                        have hl : kvs'.length < sizeLine := by have := congrArg List.length d2; rw [List.length_map, List.length_map] at this; omega
                        exact ⟨b, _, rfl, .inr ⟨kvs', keys, b2, d1, rfl, hb3, hl, rfl⟩, fin ⟨_, upd_same, y1, y2⟩⟩
                    · exact k.elim
                  · exact k.elim
                · exact k.elim
              · exact k.elim
            · exact k.elim
          · exact k.elim
        · exact k.elim
      · exact k.elim
    · exact k.elim
  · exact k.elim
end
/-! ### an object is done: frozen -/
def frzF : FV → PV
  | .fz p => p
  | .ow p => p
def frzFs (fs : List (Str × FV)) : List (Str × PV) := fs.map fun x => (x.1, frzF x.2)
section
variable {K : PySem.W.Frag} {C : Ctx} {F F' F1 H H' : Hp} {own own' : Addr → Option Nat} {i : Nat} {τ τ' τc : PSt} {σ : St} {a b x dx : Addr} {p p' : PV} {f c : Str} {v : V} {r : RV} {fs : List (Str × FV)} {vs : List V}
theorem Flds.freeze (s : Sub F F') : ∀ {vs : List (Str × V)} {fs : List (Str × FV)} {S : List Addr}, (∀ b ∈ S, F' b = H b) → Flds K F H own i vs fs S → (frzFs fs).map (·.1) = vs.map (·.1) ∧ RpAll K F' (vs.map (·.2)) ((frzFs fs).map (·.2))
  | _, _, _, _, .nil => ⟨rfl, .nil⟩
  | _, _, _, h, .fz r t => by
    obtain ⟨h1, h2⟩ := t.freeze s h
    exact ⟨by simp only [frzFs, List.map_cons] at h1 ⊢; rw [h1], .cons (r.mono s) h2⟩
  | _, _, _, h, .ow o w n t => by
    obtain ⟨h1, h2⟩ := t.freeze s fun b hb => h b (List.mem_cons_of_mem _ hb)
    exact ⟨by simp only [frzFs, List.map_cons] at h1 ⊢; rw [h1], .cons (w.freeze s (h _ (List.mem_cons_self ..))) h2⟩
open Classical in
theorem FrO.frzOb (R : FrO K C own F τ σ H) (e : τ[i]? = some (.ob c fs)) (ha : σ[i]? = some (some (V.ref a))) : ∃ F', Sub F F' ∧ Rel K C F' (τ.set i (.fz (.obj c (frzFs fs)))) σ H ∧ Rp K F' (.ref a) (.obj c (frzFs fs)) := by
  obtain ⟨a', dx, fvs, S, h1, h2, h3, h5, h6⟩ := R.slot _ _ e
  rw [ha] at h1; cases h1
  have hO : ∀ x, x = a ∨ x ∈ S → own x = some i := fun x hx => hx.elim (fun z => z ▸ h2) (h5.owned x)
  have s : Sub F (fun x => if x = a ∨ x ∈ S then H x else F x) := fun x o q => by
    have : ¬ (x = a ∨ x ∈ S) := fun z => by rw [R.ownF x i (hO x z)] at q; cases q
    show (if x = a ∨ x ∈ S then H x else F x) = some o
    rw [if_neg this]; exact q
  obtain ⟨k1, k2⟩ := h5.freeze s fun b hb => if_pos (.inr hb)
  have rp : Rp K (fun x => if x = a ∨ x ∈ S then H x else F x) (.ref a) (.obj c (frzFs fs)) := .obj ((if_pos (.inl rfl)).trans h3) k1 k2
  refine ⟨_, s, ⟨fun x => if x = a ∨ x ∈ S then none else own x, by rw [List.length_set]; exact R.len, ?_, R.sub0.trans s, R.keep, R.there, ?_, ?_, ?_, ?_, ?_, R.bor, R.bH, fun b vs q => s _ _ (R.tups b vs q)⟩, rp⟩
  · intro x o q
    have q : (if x = a ∨ x ∈ S then H x else F x) = some o := q
    split at q
    · exact q
    · exact R.sub x o q
  · intro x o q
    have q : (if x = a ∨ x ∈ S then H x else F x) = some o := q
    split at q
    · rename_i hx
      exact .inr ((R.ownB x i (hO x hx)).imp id fun z => ⟨i, z⟩)
    · exact R.frz x o q
  · intro j t hj
    by_cases hij : i = j
    · subst hij
      have hl : i < τ.length := (List.getElem?_eq_some_iff.mp e).1
      rw [List.getElem?_set_self hl] at hj
      cases hj
      exact ⟨_, ha, rp⟩
    · rw [List.getElem?_set_ne hij] at hj
      refine SlotOk.frame s (fun _ _ => rfl) (fun x ox => ?_) rfl (R.slot j t hj)
      have : ¬ (x = a ∨ x ∈ S) := fun z => by rw [hO x z] at ox; cases ox; exact hij rfl
      rw [if_neg this]; exact ox
  · intro x j q
    have q : (if x = a ∨ x ∈ S then none else own x) = some j := q
    show (if x = a ∨ x ∈ S then H x else F x) = none
    split at q
    · cases q
    · rename_i hx; rw [if_neg hx]; exact R.ownF x j q
  · intro x j q
    have q : (if x = a ∨ x ∈ S then none else own x) = some j := q
    split at q
    · cases q
    · exact R.ownH x j q
  · intro x j q
    have q : (if x = a ∨ x ∈ S then none else own x) = some j := q
    split at q
    · cases q
    · exact R.ownB x j q
/-- a new instance, as C(..) makes it -/
abbrev mkH (K : PySem.W.Frag) (c : Str) (x dx : Addr) (H : Hp) : Hp := upd (upd H dx (.own x)) x (.ins (He.ga K c) dx [])
theorem mkH_ne (hx : H x = none) (hd : H dx = none) {o : HO} (e : H b = some o) : mkH K c x dx H b = some o := by
  have n1 : b ≠ x := fun z => by rw [z, hx] at e; cases e
  have n2 : b ≠ dx := fun z => by rw [z, hd] at e; cases e
  unfold mkH; rw [upd_ne n1, upd_ne n2]; exact e
theorem calleeI (R : Rel K C F τ σ H) (hx : H x = none) (hd : H dx = none) {ps : List PV} (ra : RpAll K F vs ps) : Rel K ⟨mkH K c x dx H, F, (V.ref x :: vs).map some, [0]⟩ F (.ob c [] :: ps.map .fz) ((V.ref x :: vs).map some) (mkH K c x dx H) := by
  have hF : F x = none := R.noF hx
  obtain ⟨own0, R0⟩ := R
  refine ⟨fun b => if b = x then some 0 else none, by simp [ra.len], fun b o e => mkH_ne hx hd (R0.sub b o e), Sub.refl F, fun b o e _ => e, fun b o e => ⟨o, e⟩, fun b o e => .inl e, ?_, ?_, ?_, ?_, fun j hj => rfl, ?_, ?_⟩
  · intro j s hj
    cases j with
    | zero =>
      cases hj
      exact ⟨x, dx, [], [], rfl, if_pos rfl, upd_same, .nil, (fun h => nomatch h)⟩
    | succ j =>
      simp only [List.getElem?_cons_succ] at hj
      rw [List.getElem?_map, Option.map_eq_some_iff] at hj
      obtain ⟨p, e, rfl⟩ := hj
      obtain ⟨v, e', r⟩ := ra.get e
      exact ⟨v, by rw [List.map_cons, List.getElem?_cons_succ, List.getElem?_map, e']; rfl, r⟩
  · intro b j e
    have e : (if b = x then some 0 else none) = some j := e
    split at e
    · rename_i z; rw [z]; exact hF
    · cases e
  · intro b j e
    have e : (if b = x then some 0 else none) = some j := e
    split at e
    · rename_i z; rw [z]; exact ⟨_, upd_same⟩
    · cases e
  · intro b j e
    have e : (if b = x then some 0 else none) = some j := e
    split at e
    · rename_i z; cases e; rw [z]; exact .inr ⟨List.mem_singleton.mpr rfl, rfl⟩
    · cases e
  · rintro b ⟨j, hj, e⟩
    have hj : j = 0 := List.mem_singleton.mp hj
    subst hj
    have e : some (some (V.ref x)) = some (some (V.ref b)) := e
    cases e
    exact ⟨_, upd_same⟩
  · intro b ws q
    have q : upd (upd H dx (.own x)) x (.ins (He.ga K c) dx []) b = some (.tup ws) := q
    by_cases n1 : b = x
    · subst n1; rw [upd_same] at q; cases q
    · rw [upd_ne n1] at q
      by_cases n2 : b = dx
      · subst n2; rw [upd_same] at q; cases q
      · rw [upd_ne n2] at q; exact R0.tups b ws q
theorem backI (R : FrO K C own F τ σ H) (hx : H x = none) (hd : H dx = none) (s : Sub F F1) (Rc : FrO K ⟨mkH K c x dx H, F, (V.ref x :: vs).map some, [0]⟩ own' F1 τc ((V.ref x :: vs).map some) H') : FrO K C own F1 τ σ H' := by
  have hB : ∀ b, (Ctx.mk (mkH K c x dx H) F ((V.ref x :: vs).map some) [0]).B b → b = x := fun b ⟨j, hj, e⟩ => by
    have hj : j = 0 := List.mem_singleton.mp hj
    subst hj
    have e : some (some (V.ref x)) = some (some (V.ref b)) := e
    cases e; rfl
  have kp : ∀ b o, H b = some o → H' b = some o := fun b o e => Rc.keep b o (mkH_ne hx hd e) fun z => by rw [hB b z, hx] at e; cases e
  have nf : ∀ b o, F1 b = some o → F b = some o ∨ H b = none := fun b o q => by
    rcases Rc.frz b o q with z | z | z
    · exact .inl z
    · refine .inr ?_
      cases h : H b with
      | none => rfl
      | some u => have := mkH_ne (K := K) (c := c) hx hd h; have z : mkH K c x dx H b = none := z; rw [z] at this; cases this
    · rw [hB b z]; exact .inr hx
  refine ⟨R.len, Rc.sub, R.sub0.trans s, fun b o e nb => kp b o (R.keep b o e nb), fun b o e => ?_, fun b o e => ?_, fun j t hj => ?_, fun b j e => ?_, fun b j e => ?_, R.ownB, R.bor, R.bH, Rc.tups⟩
  · obtain ⟨o', e'⟩ := R.there b o e
    exact ⟨o', kp b o' e'⟩
  · rcases nf b o e with z | z
    · exact R.frz b o z
    · exact .inr (.inl (R.h0 z))
  · exact SlotOk.frame s (fun b ob => by obtain ⟨o, e⟩ := R.ownH b _ ob; rw [e]; exact kp b o e) (fun _ ob => ob) rfl (R.slot j t hj)
  · cases q : F1 b with
    | none => rfl
    | some o =>
      rcases nf b o q with z | z
      · rw [R.ownF b _ e] at z; cases z
      · obtain ⟨o', e'⟩ := R.ownH b _ e
        rw [z] at e'; cases e'
  · obtain ⟨o', e'⟩ := R.ownH b _ e
    exact ⟨o', kp b o' e'⟩
end
theorem Rp.obj_inv {K : PySem.W.Frag} {F : Hp} {v : V} {c : Str} {fps : List (Str × PV)} (h : Rp K F v (.obj c fps)) : ∃ a dx fvs, v = .ref a ∧ F a = some (.ins (He.ga K c) dx fvs) ∧ fps.map (·.1) = fvs.map (·.1) ∧ RpAll K F (fvs.map (·.2)) (fps.map (·.2)) := by
  cases h with
  | obj h1 h2 h3 => exact ⟨_, _, _, rfl, h1, h2, h3⟩
/-! ### C(..): the object that __init__ makes, frozen -/
def mkOut (r : Res SV) (τ : PSt) : Res RV := match r with
  | .ok (.fz .non) (.ob c fs :: _) => .ok (.fz (.obj c (frzFs fs))) τ
  | .ok _ _ => .no
  | .er x _ => .er x τ
  | .no => .no
def dMake (c : Str) (sem : List SV → Res SV) (da : PSt → Res (List RV)) : PSt → Res RV := fun τ => (da τ).bind fun rs τ1 => match leakAll rs τ1 with
  | some (ps, τ2) => mkOut (sem (.ob c [] :: ps.map .fz)) τ2
  | none => .no
section
variable {X : Cx} {K : PySem.W.Frag} {W : WX} {ms : List Nat}
theorem sim_make {c : Str} {sem : List SV → Res SV} {t : TA} {d : PSt → Res (List RV)} {n : Nat} {E : XK} (hE : (∀ c d σ H, W c d σ H → E c d H) ∨ ∀ a x t, sem a ≠ .er x t) (hn : ∀ rs τ τ', d τ = .ok rs τ' → rs.length = n) (h1 : SimA K W ms t d) :
    SimE K W ms (tMake (He.ga K c) (spOf K (n + 1) [0] sem) [] E t) (dMake c sem d) := by
  intro C F τ σ H Q hm R h
  unfold dMake at h
  rw [Res.holds_bind] at h
  have hn' : ∀ rs τ', d τ = .ok rs τ' → rs.length = n := fun rs τ' => hn rs τ τ'
  cases e : d τ with
  | no => rw [e] at h; exact h.elim
  | er x τ1 =>
    refine h1 C F τ σ H _ hm R ?_
    rw [e] at h ⊢; exact h
  | ok rs τ1 =>
    refine h1 C F τ σ H _ hm R ?_
    rw [e] at h ⊢
    intro vs H1 F1 s1 R1 rvs x dx hx hd _
    have h : Res.holds (match leakAll rs τ1 with
      | some (ps, τ2) => mkOut (sem (.ob c [] :: ps.map .fz)) τ2
      | none => .no) _ _ := h
    split at h
    · rename_i ps τ2 e2
      obtain ⟨F2, s2, R2, ra⟩ := leakAll_ok R1 rvs e2
      rw [List.append_nil]
      refine ⟨by rw [List.length_cons, rvs.len, hn' _ _ e], F2, .ob c [] :: ps.map .fz, calleeI R2 hx hd ra, ?_⟩
      cases es : sem (.ob c [] :: ps.map .fz) with
      | no => rw [es] at h; exact h.elim
      | er y τc =>
        rw [es] at h
        obtain ⟨own, R2⟩ := R2
        rcases hE with hE | hE
        · exact fun c' d' H' F' s ⟨own', Rc⟩ ex => hE _ _ σ _ (h c' d' H' F' ((s1.trans s2).trans s) ⟨own, backI R2 hx hd s Rc⟩ ex)
        · exact absurd es (hE _ _ _)
      | ok r τc =>
        rw [es] at h
        intro v H' F' s ok
        unfold mkOut at h
        split at h
        · rename_i c' fs rest q
          cases q
          obtain ⟨⟨own', Rc⟩, rp⟩ := ok
          cases rp
          obtain ⟨F3, s3, Rf, rf⟩ := Rc.frzOb (i := 0) rfl rfl
          obtain ⟨own2, Rf⟩ := Rf
          obtain ⟨own, R2⟩ := R2
          exact ⟨rfl, h _ H' F3 ((s1.trans s2).trans (s.trans s3)) ⟨⟨own, backI R2 hx hd (s.trans s3) Rf⟩, rf⟩⟩
        · exact h.elim
        · rename_i q; cases q
        · rename_i q; cases q
    · exact h.elim
theorem me_make {c x : Str} {p pos : Pos} {e : Expr} {es : List Expr} {f : Addr} {fd : FuncData} {ps : List Str} {k n : Nat} {CX : CXT} {E : XK} {sem : List SV → Res SV} {t : TA} {d : PSt → Res (List RV)} (M : Mk X.K (He.ga X.K c) f) (G : FnOk X.prog X.w X.K X.mg X.base CX k f fd ps (spOf K (n + 1) [0] sem)) (hr : Room (k + 1) X.A) (hg : Gl X x) (hm : X.mg x = some (.ref (He.ga X.K c))) (hb : Binds X.K fd ps []) (hx : Passes CX X E)
    (ha : MA X K W ms (e :: es) t d) (hn : ∀ rs τ τ', d τ = .ok rs τ' → rs.length = n) (hE : (∀ c d σ H, W c d σ H → E c d H) ∨ ∀ a x t, sem a ≠ .er x t) (hdb : (x == ("__debug__" : Str)) = false := by decide) (he : starEach (e :: es) X.env = (false, eval e X.env) :: starEach es X.env := by rfl) (hpl : (backTo pos (starEach es X.env)).any (·.1) = false := by rfl) :
    ME X K W ms (.Call (.Name x p) (e :: es) [] pos) (tMake (He.ga K c) (spOf K (n + 1) [0] sem) [] E t) (dMake c sem d) := by
  obtain ⟨rfl, p0, s0⟩ := ha
  exact ⟨rfl, pe_make M G hr hg hm hb .nil hx p0 hdb he hpl, sim_make hE hn s0⟩
/-! ### a method of a frozen object -/
def dMeth (c m : Str) (sem : List SV → Res SV) (d : PSt → Res RV) (da : PSt → Res (List RV)) : PSt → Res RV := fun τ => (d τ).bind fun r τ1 => match leak r τ1 with
  | some (.obj c' fps, τ1') => if c' = c ∧ fps.lookup m = none then (da τ1').bind fun rs τ2 => (match leakAll rs τ2 with
    | some (ps, τ3) => callOut (sem ((PV.obj c' fps :: ps).map .fz)) τ3
    | none => .no) else .no
  | _ => .no
theorem look_none {f : Str} : ∀ {fvs : List (Str × V)} {fps : List (Str × PV)}, fps.map (·.1) = fvs.map (·.1) → fps.lookup f = none → fvs.lookup f = none
  | [], _, _, _ => rfl
  | _ :: _, [], e, _ => by simp at e
  | (g, w) :: fvs, (g', q) :: fps, e, h => by
    simp only [List.map_cons, List.cons.injEq] at e
    obtain ⟨e1, e2⟩ := e
    have e1 : g' = g := e1
    subst e1
    rw [look_eq] at h ⊢
    by_cases z : g' = f
    · rw [if_pos z] at h; cases h
    · rw [if_neg z] at h ⊢; exact look_none e2 h
theorem sim_meth {c m : Str} {sem : List SV → Res SV} {te : TE} {t : TA} {de : PSt → Res RV} {d : PSt → Res (List RV)} {n : Nat} {E : XK} (hE : (∀ c d σ H, W c d σ H → E c d H) ∨ ∀ a x t, sem a ≠ .er x t) (hn : ∀ rs τ τ', d τ = .ok rs τ' → rs.length = n) (h0 : SimE K W ms te de) (h1 : SimA K W ms t d) :
    SimE K W ms (tMeth (He.ga K c) m (spOf K (n + 1) [] sem) [] E te t) (dMeth c m sem de d) := by
  intro C F τ σ H Q hm R k
  unfold dMeth at k
  rw [Res.holds_bind] at k
  refine h0 C F τ σ H _ hm R (k.imp (fun r τ1 k2 => ?_) fun _ _ x => x)
  intro v H1 F1 s1 ok
  obtain ⟨F2, s2, R2, rv⟩ := ok.froze
  split at k2
  · rename_i c' fps τ1' e1
    obtain ⟨F3, s3, R3, rp⟩ := leak_ok R2 rv (by rw [leak_nf]; exact e1)
    split at k2
    · rename_i hh
      obtain ⟨rfl, hl⟩ := hh
      have S3 := (s1.trans s2).trans s3
      obtain ⟨a, dx, fvs, rfl, g1, g2, g3⟩ := rp.obj_inv
      · refine ⟨a, dx, fvs, rfl, R3.sub _ _ g1, look_none g2 hl, ?_⟩
        rw [Res.holds_bind] at k2
        cases e : d τ1' with
        | no => rw [e] at k2; exact k2.elim
        | er x τ2 =>
          refine h1 C F3 τ1' σ H1 _ hm R3 ?_
          rw [e] at k2 ⊢
          exact ErE.up S3 _ _ k2
        | ok rs τ2 =>
          refine h1 C F3 τ1' σ H1 _ hm R3 ?_
          rw [e] at k2 ⊢
          intro vs H4 F4 s4 R4 rvs
          have k2 : Res.holds (match leakAll rs τ2 with
            | some (ps, τ3) => callOut (sem ((PV.obj c' fps :: ps).map .fz)) τ3
            | none => .no) _ _ := k2
          split at k2
          · rename_i ps τ3 e3
            obtain ⟨F5, s5, R5, ra⟩ := leakAll_ok R4 rvs e3
            rw [List.append_nil]
            exact call0_ok (by rw [List.length_cons, rvs.len, hn _ _ _ e]) R5 (S3.trans (s4.trans s5)) (.cons (Rp.mono (s4.trans s5) (.obj g1 g2 g3)) ra) k2 (hE.imp (fun z c d H => z c d σ H) id)
          · exact k2.elim
    · exact k2.elim
  · exact k2.elim
end
end VL

/-! VL30: classes of the program: what the head finds, calls of methods and of classes. -/
namespace VL
open PySem PySem.Spec L2
def clsB (c : Str) (fs : List Str) (K : PySem.W.Frag) : Bool := PySem.W.plainGet K (He.ga K c) Str.empty && (PySem.W.hasDictIn K (He.ga K c) && (PySem.W.plainOver K (He.ga K c) && (He.eqO (PySem.W.findIn K (.ref (He.ga K c)) "__setattr__") (some (some (.builtin "object.__setattr__"))) &&
  fs.all fun f => He.eqO (PySem.W.findIn K (.ref (He.ga K c)) f) (some none))))
structure ClsI (K : PySem.W.Frag) (c : Str) (fs : List Str) : Prop where
  cls : Cls K (He.ga K c)
  no : ∀ f, f ∈ fs → NoAttr K (He.ga K c) f
theorem clsB_ok {K : PySem.W.Frag} {c : Str} {fs : List Str} (h : clsB c fs K = true) : ClsI K c fs := by
  obtain ⟨h1, h⟩ := He.ba h
  obtain ⟨h2, h⟩ := He.ba h
  obtain ⟨h3, h⟩ := He.ba h
  obtain ⟨h4, h5⟩ := He.ba h
  exact ⟨⟨h1, h2, h3, He.eqO_ok h4⟩, fun f hf => He.eqO_ok (List.all_eq_true.mp h5 f hf)⟩
def methB (c m : Str) (K : PySem.W.Frag) : Bool := He.eqO (PySem.W.findIn K (.ref (He.ga K c)) m) (some (some (.ref (He.ma K (He.ga K c) m)))) && (PySem.W.isFn K (.ref (He.ma K (He.ga K c) m)) && PySem.W.keepIn K (.ref (He.ma K (He.ga K c) m)))
theorem methB_ok {K : PySem.W.Frag} {c m : Str} (h : methB c m K = true) : Meth K (He.ga K c) m (He.ma K (He.ga K c) m) := by
  obtain ⟨h1, h⟩ := He.ba h
  obtain ⟨h2, h3⟩ := He.ba h
  exact ⟨He.eqO_ok h1, h2, h3⟩
def mkB (c : Str) (K : PySem.W.Frag) : Bool := PySem.W.makesIn K (He.ga K c) && (He.eqO (PySem.W.findIn K (.ref (He.ga K c)) "__init__") (some (some (.ref (He.ma K (He.ga K c) "__init__")))) && (PySem.W.isFn K (.ref (He.ma K (He.ga K c) "__init__")) && PySem.W.keepIn K (.ref (He.ga K c))))
theorem mkB_ok {K : PySem.W.Frag} {c : Str} (h : mkB c K = true) : Mk K (He.ga K c) (He.ma K (He.ga K c) "__init__") := by
  obtain ⟨h1, h⟩ := He.ba h
  obtain ⟨h2, h⟩ := He.ba h
  obtain ⟨h3, h4⟩ := He.ba h
  exact ⟨h1, He.eqO_ok h2, h3, h4⟩
/-- a method that raises nothing -/
structure FnM (P : Program) (w : World) (K : PySem.W.Frag) (mg : Str → Option Value) (base : Heap) (c m : Str) (k : Nat) (ps : List Str) (sp : Sp) : Prop where
  ex : ∃ fd, Binds K fd ps [] ∧ FnOk P w K mg base CX0 k (He.ma K (He.ga K c) m) fd ps sp
  cls : Cls K (He.ga K c)
  me : Meth K (He.ga K c) m (He.ma K (He.ga K c) m)
/-- a class whose __init__ raises nothing -/
structure FnI (P : Program) (w : World) (K : PySem.W.Frag) (mg : Str → Option Value) (base : Heap) (c : Str) (k : Nat) (ps : List Str) (sp : Sp) : Prop where
  ex : ∃ fd, Binds K fd ps [] ∧ FnOk P w K mg base CX0 k (He.ma K (He.ga K c) "__init__") fd ps sp
  mke : Mk K (He.ga K c) (He.ma K (He.ga K c) "__init__")
  gl : mg c = some (.ref (He.ga K c))
section
variable {X : Cx} {K : PySem.W.Frag} {W : WX} {ms : List Nat} {t : TA} {d : PSt → Res (List RV)}
theorem me_makeN {sem : List SV → Res SV} {k n : Nat} {ps : List Str} {c : Str} {p pos : Pos} {e : Expr} {es : List Expr} (G : FnI X.prog X.w X.K X.mg X.base c k ps (spOf K (n + 1) [0] sem)) (hr : Room (k + 1) X.A) (hg : Gl X c)
    (ha : MA X K W ms (e :: es) t d) (hn : ∀ rs τ τ', d τ = .ok rs τ' → rs.length = n) (hdb : (c == ("__debug__" : Str)) = false := by decide) (he : starEach (e :: es) X.env = (false, eval e X.env) :: starEach es X.env := by rfl) (hpl : (backTo pos (starEach es X.env)).any (·.1) = false := by rfl) :
    ME X K W ms (.Call (.Name c p) (e :: es) [] pos) (tMake (He.ga K c) (spOf K (n + 1) [0] fun a => (sem a).noEr) [] E0 t) (dMake c (fun a => (sem a).noEr) d) := by
  obtain ⟨fd, hb, F⟩ := G.ex
  exact me_make G.mke (F.imp fun vs H Q E => spOf_noEr vs H Q E) hr hg G.gl hb pass0 ha hn (.inr noEr_ne) hdb he hpl
theorem me_methN {sem : List SV → Res SV} {k n : Nat} {ps : List Str} {c m : Str} {apos pos : Pos} {o e : Expr} {es : List Expr} {te : TE} {de : PSt → Res RV} {pl : Sem Bool} (G : FnM X.prog X.w X.K X.mg X.base c m k ps (spOf K (n + 1) [] sem)) (hr : Room k X.A)
    (ho : ME X K W ms o te de) (ha : MA X K W ms (e :: es) t d) (hn : ∀ rs τ τ', d τ = .ok rs τ' → rs.length = n) (hst : starEach (e :: es) X.env = (false, eval e X.env) :: starEach es X.env := by rfl) (hpl : (backTo pos (starEach es X.env)).any (·.1) = false := by rfl)
    (ht : eval (.Call (.Attribute o m apos) (e :: es) [] pos) X.env = (do
      let ov ← eval o X.env
      standAt apos.atName
      let (f, first) ← holding [ov] (getMethod ov m pl)
      callWith pos f first (backTo pos (starEach (e :: es) X.env)) (backToKw pos (keywordEach [] X.env))) := by rfl) :
    ME X K W ms (.Call (.Attribute o m apos) (e :: es) [] pos) (tMeth (He.ga K c) m (spOf K (n + 1) [] fun a => (sem a).noEr) [] E0 te t) (dMeth c m (fun a => (sem a).noEr) de d) := by
  obtain ⟨rfl, p0, s0⟩ := ho
  obtain ⟨fd, hb, F⟩ := G.ex
  exact ⟨rfl, pe_meth p0 G.cls G.me (F.imp fun vs H Q E => spOf_noEr vs H Q E) hr hb .nil pass0 ha.pe hst hpl ht, sim_meth (.inr noEr_ne) hn s0 ha.sim⟩
theorem me_methN0 {sem : List SV → Res SV} {k : Nat} {ps : List Str} {c m : Str} {apos pos : Pos} {o : Expr} {te : TE} {de : PSt → Res RV} {pl : Sem Bool} (G : FnM X.prog X.w X.K X.mg X.base c m k ps (spOf K 1 [] sem)) (hr : Room k X.A)
    (ho : ME X K W ms o te de)
    (ht : eval (.Call (.Attribute o m apos) [] [] pos) X.env = (do
      let ov ← eval o X.env
      standAt apos.atName
      let (f, first) ← holding [ov] (getMethod ov m pl)
      callWith pos f first (backTo pos (starEach [] X.env)) (backToKw pos (keywordEach [] X.env))) := by rfl) :
    ME X K W ms (.Call (.Attribute o m apos) [] [] pos) (tMeth (He.ga K c) m (spOf K 1 [] fun a => (sem a).noEr) [] E0 te tNil) (dMeth c m (fun a => (sem a).noEr) de dNil) := by
  obtain ⟨rfl, p0, s0⟩ := ho
  obtain ⟨fd, hb, F⟩ := G.ex
  exact ⟨rfl, pe_meth0 p0 G.cls G.me (F.imp fun vs H Q E => spOf_noEr vs H Q E) hr hb .nil pass0 ht, sim_meth (n := 0) (.inr noEr_ne) dNil_len s0 sim_nil⟩
end
/-! ### what the readings come to -/
noncomputable def dFld_k (c f : Str) : RV → PSt → Res RV := fun r τ1 => match rdF c f r τ1 with
  | some p => .ok (.fz p) τ1
  | none => .no
@[simp] theorem e_dFld_k (c f : Str) (r : RV) (τ1 : PSt) : dFld_k c f r τ1 = (match rdF c f r τ1 with
  | some p => .ok (.fz p) τ1
  | none => .no) := rfl
@[simp] theorem e_dFld (c f : Str) (d : PSt → Res RV) (τ : PSt) : dFld c f d τ = (d τ).bind (dFld_k c f) := rfl
noncomputable def dStF_k (i : Nat) (c f : Str) : RV → PSt → SRes := fun r τ1 => match r, τ1[i]? with
  | .nw p, some (.ob c' fs) => if c' = c ∧ fs.length < 1000 then .nx (τ1.set i (.ob c (putG f (.ow p) fs))) else .no
  | _, _ => .no
@[simp] theorem e_dStF_k (i : Nat) (c f : Str) (p : PV) (τ1 : PSt) : dStF_k i c f (.nw p) τ1 = (match τ1[i]? with
  | some (.ob c' fs) => if c' = c ∧ fs.length < 1000 then .nx (τ1.set i (.ob c (putG f (.ow p) fs))) else .no
  | _ => .no) := by
  unfold dStF_k
  cases τ1[i]? with
  | none => rfl
  | some s => cases s <;> rfl
@[simp] theorem e_dStF (i : Nat) (c f : Str) (d : PSt → Res RV) (τ : PSt) : dStF i c f d τ = (d τ).bindS (dStF_k i c f) := rfl
noncomputable def dStFz_k (i : Nat) (c f : Str) : RV → PSt → SRes := fun r τ1 => match leak r τ1 with
  | some (p, τ2) => (match τ2[i]? with
    | some (.ob c' fs) => if c' = c ∧ fs.length < 1000 then .nx (τ2.set i (.ob c (putG f (.fz p) fs))) else .no
    | _ => .no)
  | none => .no
@[simp] theorem e_dStFz_k (i : Nat) (c f : Str) (r : RV) (τ1 : PSt) : dStFz_k i c f r τ1 = (match leak r τ1 with
  | some (p, τ2) => (match τ2[i]? with
    | some (.ob c' fs) => if c' = c ∧ fs.length < 1000 then .nx (τ2.set i (.ob c (putG f (.fz p) fs))) else .no
    | _ => .no)
  | none => .no) := rfl
@[simp] theorem e_dStFz (i : Nat) (c f : Str) (d : PSt → Res RV) (τ : PSt) : dStFz i c f d τ = (d τ).bindS (dStFz_k i c f) := rfl
@[simp] theorem mkOut_ok (c : Str) (fs : List (Str × FV)) (r : PSt) (τ : PSt) : mkOut (.ok (.fz .non) (.ob c fs :: r)) τ = .ok (.fz (.obj c (frzFs fs))) τ := rfl
@[simp] theorem mkOut_er (x : PExc) (r : PSt) (τ : PSt) : mkOut (.er x r) τ = .er x τ := rfl
noncomputable def dMake_k (c : Str) (sem : List SV → Res SV) : List RV → PSt → Res RV := fun rs τ1 => match leakAll rs τ1 with
  | some (ps, τ2) => mkOut (sem (.ob c [] :: ps.map .fz)) τ2
  | none => .no
@[simp] theorem e_dMake_k (c : Str) (sem : List SV → Res SV) (rs : List RV) (τ1 : PSt) : dMake_k c sem rs τ1 = (match leakAll rs τ1 with
  | some (ps, τ2) => mkOut (sem (.ob c [] :: ps.map .fz)) τ2
  | none => .no) := rfl
@[simp] theorem e_dMake (c : Str) (sem : List SV → Res SV) (da : PSt → Res (List RV)) (τ : PSt) : dMake c sem da τ = (da τ).bind (dMake_k c sem) := rfl
noncomputable def dMeth_a (c' : Str) (fps : List (Str × PV)) (sem : List SV → Res SV) : List RV → PSt → Res RV := fun rs τ2 => match leakAll rs τ2 with
  | some (ps, τ3) => callOut (sem ((PV.obj c' fps :: ps).map .fz)) τ3
  | none => .no
@[simp] theorem e_dMeth_a (c' : Str) (fps : List (Str × PV)) (sem : List SV → Res SV) (rs : List RV) (τ2 : PSt) : dMeth_a c' fps sem rs τ2 = (match leakAll rs τ2 with
  | some (ps, τ3) => callOut (sem ((PV.obj c' fps :: ps).map .fz)) τ3
  | none => .no) := rfl
noncomputable def dMeth_k (c m : Str) (sem : List SV → Res SV) (da : PSt → Res (List RV)) : RV → PSt → Res RV := fun r τ1 => match leak r τ1 with
  | some (.obj c' fps, τ1') => if c' = c ∧ fps.lookup m = none then (da τ1').bind (dMeth_a c' fps sem) else .no
  | _ => .no
@[simp] theorem e_dMeth_k (c m : Str) (sem : List SV → Res SV) (da : PSt → Res (List RV)) (r : RV) (τ1 : PSt) : dMeth_k c m sem da r τ1 = (match leak r τ1 with
  | some (.obj c' fps, τ1') => if c' = c ∧ fps.lookup m = none then (da τ1').bind (dMeth_a c' fps sem) else .no
  | _ => .no) := rfl
@[simp] theorem e_dMeth (c m : Str) (sem : List SV → Res SV) (d : PSt → Res RV) (da : PSt → Res (List RV)) (τ : PSt) : dMeth c m sem d da τ = (d τ).bind (dMeth_k c m sem da) := rfl
noncomputable def dFMut_k (i : Nat) (c f : Str) (g : List PV → List PV → Option (List PV × PV)) : List RV → PSt → Res RV := fun rs τ1 => match leakAll rs τ1 with
  | some (ps, τ2) => (match τ2[i]? with
    | some (.ob c2 fs) => if c2 = c then (match fs.lookup f with
      | some (.ow (.lst xs)) => (match g xs ps with
        | some (xs', z) => .ok (.fz z) (τ2.set i (.ob c (putG f (.ow (.lst xs')) fs)))
        | none => .no)
      | _ => .no) else .no
    | _ => .no)
  | none => .no
@[simp] theorem e_dFMut_k (i : Nat) (c f : Str) (g : List PV → List PV → Option (List PV × PV)) (rs : List RV) (τ1 : PSt) : dFMut_k i c f g rs τ1 = (match leakAll rs τ1 with
  | some (ps, τ2) => (match τ2[i]? with
    | some (.ob c2 fs) => if c2 = c then (match fs.lookup f with
      | some (.ow (.lst xs)) => (match g xs ps with
        | some (xs', z) => .ok (.fz z) (τ2.set i (.ob c (putG f (.ow (.lst xs')) fs)))
        | none => .no)
      | _ => .no) else .no
    | _ => .no)
  | none => .no) := rfl
@[simp] theorem e_dFMut (i : Nat) (c f : Str) (g : List PV → List PV → Option (List PV × PV)) (da : PSt → Res (List RV)) (τ : PSt) : dFMut i c f g da τ = (match τ[i]? with
  | some (.ob c' fs0) => if c' = c then (match fs0.lookup f with
    | some (.ow (.lst _)) => (da τ).bind (dFMut_k i c f g)
    | _ => .no) else .no
  | _ => .no) := rfl
noncomputable def dFPut_b (i : Nat) (c f : Str) (p : PV) : RV → PSt → SRes := fun kr τ3 => match leak kr τ3 with
  | some (q, τ4) => (match τ4[i]? with
    | some (.ob c2 fs) => if c2 = c then (match fs.lookup f with
      | some (.ow (.dic t kvs)) => (match pk? t q with
        | some k => if kvs.length < sizeLine then .nx (τ4.set i (.ob c (putG f (.ow (.dic t (putP kvs k p))) fs))) else .no
        | none => .no)
      | _ => .no) else .no
    | _ => .no)
  | none => .no
@[simp] theorem e_dFPut_b (i : Nat) (c f : Str) (p : PV) (kr : RV) (τ3 : PSt) : dFPut_b i c f p kr τ3 = (match leak kr τ3 with
  | some (q, τ4) => (match τ4[i]? with
    | some (.ob c2 fs) => if c2 = c then (match fs.lookup f with
      | some (.ow (.dic t kvs)) => (match pk? t q with
        | some k => if kvs.length < sizeLine then .nx (τ4.set i (.ob c (putG f (.ow (.dic t (putP kvs k p))) fs))) else .no
        | none => .no)
      | _ => .no) else .no
    | _ => .no)
  | none => .no) := rfl
noncomputable def dFPut_k (i : Nat) (c f : Str) (dk : PSt → Res RV) : RV → PSt → SRes := fun r τ1 => match leak r τ1 with
  | some (p, τ2) => (match τ2[i]? with
    | some (.ob c' fs0) => if c' = c then (match fs0.lookup f with
      | some (.ow (.dic _ _)) => (dk τ2).bindS (dFPut_b i c f p)
      | _ => .no) else .no
    | _ => .no)
  | none => .no
@[simp] theorem e_dFPut_k (i : Nat) (c f : Str) (dk : PSt → Res RV) (r : RV) (τ1 : PSt) : dFPut_k i c f dk r τ1 = (match leak r τ1 with
  | some (p, τ2) => (match τ2[i]? with
    | some (.ob c' fs0) => if c' = c then (match fs0.lookup f with
      | some (.ow (.dic _ _)) => (dk τ2).bindS (dFPut_b i c f p)
      | _ => .no) else .no
    | _ => .no)
  | none => .no) := rfl
@[simp] theorem e_dFPut (i : Nat) (c f : Str) (dk dv : PSt → Res RV) (τ : PSt) : dFPut i c f dk dv τ = (dv τ).bindS (dFPut_k i c f dk) := rfl
@[simp] theorem putG_nil {α : Type} (f : Str) (v : α) : putG f v [] = [(f, v)] := rfl
@[simp] theorem putG_cons {α : Type} (f g : Str) (v x : α) (r : List (Str × α)) : putG f v ((g, x) :: r) = if g = f then (g, v) :: r else (g, x) :: putG f v r := rfl
end VL

/-! VL31: d.get(k). -/
namespace VL
open PySem PySem.Spec L2
def gGet1 : PV → List PV → Option GV
  | .dic t kvs, [q] => (pk? t q).map fun k => .old ((lookP kvs k).getD .non)
  | _, _ => none
@[simp] theorem e_gGet1 (t : Bool) (kvs : List (PK × PV)) (q : PV) : gGet1 (.dic t kvs) [q] = (pk? t q).map fun k => .old ((lookP kvs k).getD .non) := rfl
noncomputable def dGet1_b (r : RV) : List RV → PSt → Res RV := fun rs τ2 => gout ((content r τ2).bind fun p => (contents rs τ2).bind fun ps => gGet1 p ps) τ2
@[simp] theorem e_dGet1_b (r : RV) (rs : List RV) (τ2 : PSt) : dGet1_b r rs τ2 = gout ((content r τ2).bind fun p => (contents rs τ2).bind fun ps => gGet1 p ps) τ2 := rfl
noncomputable def dGet1_k (dy : PSt → Res RV) : RV → PSt → Res RV := fun r τ1 => if ((content r τ1).map isDicP) = some true then (dCons dy dNil τ1).bind (dGet1_b r) else .no
@[simp] theorem e_dGet1_k (dy : PSt → Res RV) (r : RV) (τ1 : PSt) : dGet1_k dy r τ1 = if ((content r τ1).map isDicP) = some true then (dCons dy dNil τ1).bind (dGet1_b r) else .no := rfl
noncomputable def dGet1 (d dy : PSt → Res RV) : PSt → Res RV := fun τ => (d τ).bind (dGet1_k dy)
@[simp] theorem e_dGet1 (d dy : PSt → Res RV) (τ : PSt) : dGet1 d dy τ = (d τ).bind (dGet1_k dy) := rfl
section
variable {X : Cx} {K : PySem.W.Frag} {td ty : TE} {d dy : PSt → Res RV}
theorem sim_get1 {W : WX} {ms : List Nat} (h1 : SimE K W ms td d) (h2 : SimE K W ms ty dy) : SimE K W ms (tDGet1 td ty) (dGet1 d dy) := by
  intro C F τ σ H Q hm R h
  unfold dGet1 at h
  rw [Res.holds_bind] at h
  refine h1 C F τ σ H _ hm R (h.imp (fun r1 τ1 k => ?_) fun _ _ x => x)
  intro v1 H1 F1 s1 ok1
  obtain ⟨F1', s1', R1, rv1⟩ := ok1.froze
  unfold dGet1_k at k
  split at k
  · rename_i e
    obtain ⟨p0, e0, e0'⟩ := Option.map_eq_some_iff.mp e
    obtain ⟨a, rfl, hd⟩ := isD_of R1.sub (content_ok R1 rv1 (by rw [content_nf]; exact e0)) e0'
    refine ⟨a, rfl, hd, ?_⟩
    rw [Res.holds_bind] at k
    refine (sim_cons h2 sim_nil) C F1' τ1 σ H1 (fun vs H3 => ∃ o, DGet H3 a (vs.getD 0 .non) o ∧ Q (o.getD .non) H3) hm R1 (k.imp (fun r2 τ2 k2 => ?_) (ErE.up (s1.trans s1')))
    intro vs H2 F2 s2 R2 rvs
    obtain ⟨z, ez, gk⟩ := gk_of R2 ((s1.trans s1').trans s2) k2
    simp only [Option.bind_eq_some_iff] at ez
    obtain ⟨p, e1, ps, e2, e3⟩ := ez
    have rp := content_ok R2 (rv1.mono s2) (by rw [content_nf]; exact e1)
    have ra := contents_ok R2 rvs e2
    unfold gGet1 at e3
    split at e3
    · rename_i t kvs q
      obtain ⟨key, e4, rfl⟩ := Option.map_eq_some_iff.mp e3
      obtain ⟨y, rfl, ry⟩ := ra.one
      obtain ⟨a', o, ea, g, hh⟩ := dget_ok R2.sub rp ry e4
      cases ea
      refine ⟨o, g, ?_⟩
      rcases hh with ⟨n1, rfl⟩ | ⟨pp, v, n1, rfl, rpp⟩
      · rw [n1] at gk; exact gk _ .non
      · rw [n1] at gk; exact gk _ rpp
    · cases e3
  · exact k.elim
theorem me_dget1 {W : WX} {ms : List Nat} {o e : Expr} {apos cpos : Pos} (hu : X.A.units + 1 < cLine) (ho : ME X K W ms o td d) (he : ME X K W ms e ty dy) (m : M1 X o "get" apos e cpos) : ME X K W ms (.Call (.Attribute o "get" apos) [e] [] cpos) (tDGet1 td ty) (dGet1 d dy) :=
  ⟨ho.hK, pe_dget1 hu ho.pe he.pe m, sim_get1 ho.sim he.sim⟩
end
end VL

/-! VL32: xs[::-1]; e.replace of written texts behind an index that makes a token. -/
namespace VL
open PySem PySem.Spec L2 PyProof.Rows
section
variable {X : Cx} {K : PySem.W.Frag} {W : WX} {ms : List Nat}
def rRevL (K : PySem.W.Frag) : V → Hp → VK → Prop := fun x H1 Q => ∃ a xs, x = .ref a ∧ SqL K H1 a xs ∧ ∀ p, H1 p = none → Q (.ref p) (upd H1 p (.lst xs.reverse))
@[simp] def gRevL : PV → Option GV
  | .lst ps => some (.nw (.lst ps.reverse))
  | _ => none
theorem ok_revL : Op1Ok K (rRevL K) gRevL := by
  intro F H x p z Q s hx e k
  unfold gRevL at e
  split at e
  · cases e
    obtain ⟨a, vs, rfl, h1, r1⟩ := hx.lst s
    exact ⟨a, vs, rfl, SqL.of h1, fun q hq => k.2 q (.lst _) hq r1.reverse⟩
  · cases e
theorem me_revL {e : Expr} {te : TE} {d : PSt → Res RV} {k : Nat} {p1 p2 p3 pos : Pos} (h : ME X K W ms e te d) : ME X K W ms (.Subscript e (.Slice none none (some (.UnaryOp .USub (.Constant (.int 1) k p1) p2)) p3) pos) (fun σ H Q => te σ H fun x H1 => rRevL K x H1 Q) (dOp1 gRevL d) := by
  obtain ⟨rfl, p, s⟩ := h
  exact ⟨rfl, pe_revL p, sim_op1 ok_revL s⟩

/-- evaluated so that a token is out behind it -/
def PEP (X : Cx) (e : Expr) (t : TE) : Prop :=
  ∀ (pins : List (Addr × Obj)) (s : Shared) (σ : L2.St) (H : Hp) (Q : VK), L2.Inv X pins σ H s → t σ H Q → wpAny (model X.prog X.w) X.A (eval e X.env) (fun v s' => 1 ≤ s'.toks ∧ EP X pins σ Q v s') X.xe s
theorem pep_binC {op : Operator} {r : R2} {a : Expr} {ta : TE} {i : Int} {j : Nat} {p pos : Pos} (ho : OpR X (binaryOp op) r) (ha : PE X a ta) : PEP X (.BinOp a op (.Constant (.int i) j p) pos) (tOp r ta (tC (.int i))) := by
  intro pins s σ H Q I h
  refine wpAny_BinOp (thn (ha.run pins s σ H _ I h) fun v s1 ⟨x, H1, I1, r1, q1⟩ => ?_)
  refine wpAny_Constant_int ?_
  exact wpAny_mono (wpAny_toks_of (n := 1) (Nat.le_add_left 1 _) (ho pins _ σ H1 x (.int i) v (.int i s1.toks) Q (I1.tok _) r1 ⟨_, rfl⟩ q1)) (fun _ _ z => z) (fun _ _ z => z.2)
theorem pep_ix {r : R2} {a b : Expr} {ta tb : TE} {pos : Pos} (hr : IxR X r) (ha : PE X a ta) (hb : PEP X b tb) (hs : PlainIx b) : PEP X (.Subscript a b pos) (tOp r ta tb) := by
  intro pins s σ H Q I h
  refine Subscript_ (thn (ha.run pins s σ H _ I h) fun v s1 ⟨x, H1, I1, r1, q1⟩ => ?_)
  refine wpAny_mono (hb pins s1 σ H1 _ I1 q1) (fun u s2 ⟨ht, y, H2, I2, r2, q2⟩ => ?_) (fun _ _ z => z)
  exact wpAny_mono (wpAny_toks_of ht (hr a b pins s2 σ H2 x y v u Q I2 r1 r2 q2 (hs _ _))) (fun _ _ z => z) (fun _ _ z => z.2)
theorem pepM_binC {op : Operator} {r : R2} {a : Expr} {ta : TE} {i : Int} {j : Nat} {p pos : Pos} (ho : OpR X (binaryOp op) r) (ha : ME X K W ms a ta da) : PEP X (.BinOp a op (.Constant (.int i) j p) pos) (tOp r ta (tC (.int i))) := pep_binC ho ha.pe
def rRpl (y z : Str) : V → Hp → VK → Prop := fun v H1 Q => ∃ x, v = .str x ∧ x.length + (x.length + 1) * z.length ≤ 16777216 ∧ Q (.str (Txt.replace x y z)) H1
def tRpl (to : TE) (y z : Str) : TE := fun σ H Q => to σ H fun v H1 => rRpl y z v H1 Q
theorem pe_rpl {o : Expr} {to : TE} {y z : Str} {j k : Nat} {c0 c1 apos pos : Pos} (ho : PEP X o to) (hyz : (y == z) = false := by decide)
    (hst : starEach [.Constant (.str y) j c0, .Constant (.str z) k c1] X.env = [(false, eval (.Constant (.str y) j c0) X.env), (false, eval (.Constant (.str z) k c1) X.env)] := by rfl)
    (hbase : attributeBase o "replace" X.env (eval o X.env) = eval o X.env := by rfl) (hline : (apos.endLine == pos.line) = true := by rfl) :
    PE X (.Call (.Attribute o "replace" apos) [.Constant (.str y) j c0, .Constant (.str z) k c1] [] pos) (tRpl to y z) := by
  refine ⟨fun pins s σ H Q I h => ?_⟩
  refine PySem.Call_method2 hbase hst hline (wpAny_mono (ho pins s σ H _ I h) (fun v s1 q => ?_) fun _ _ z => z)
  obtain ⟨hk, v', H1, I1, r1, x, e1, hb, q⟩ := q
  subst e1
  obtain ⟨tx, e2⟩ := r1
  subst e2
  refine ⟨"str", _, PySem.F.plainAttrs_str, PySem.F.slot_str_replace, PySem.F.type_str_replace, typeIs_str _ _ _, (fun _ e => nomatch e), Calls.callWith_builtin rfl (Calls.evalArgs_plain (Calls.spliced_cons ?_))⟩
  refine Calls.Constant_str (Calls.spliced_cons (Calls.Constant_str (Calls.spliced_nil ?_)))
  exact PySem.SC.replace (by show s1.toks ≠ 0; omega) (by show s1.toks + 1 ≠ 0; omega) (by show s1.toks ≠ s1.toks + 1; omega) hyz hb fun t' k => ⟨.str (Txt.replace x y z), H1, I1.tok k, ⟨t', rfl⟩, q⟩
@[simp] def gRpl (y z : List Nat) : PV → Option GV
  | .str l => if l.length + (l.length + 1) * z.length ≤ 16777216 then some (.old (.str (StrLaws.replL y z l))) else none
  | _ => none
theorem rpl_sl {y z : List Nat} (hy : 1 ≤ y.length) (l : List Nat) : Txt.replace (sl l) (sl y) (sl z) = sl (StrLaws.replL y z l) := by
  have e := StrLaws.replace_list (x := sl l) (y := sl y) (z := sl z) (by rw [sl_length]; exact hy)
  rw [cps_sl, cps_sl, cps_sl] at e
  rw [← e, sl_cps]
theorem ok_rpl {y z : List Nat} (hy : 1 ≤ y.length) : Op1Ok K (rRpl (sl y) (sl z)) (gRpl y z) := by
  intro F H x p w Q s hx e k
  unfold gRpl at e
  split at e
  · split at e
    · rename_i hz
      cases e
      obtain rfl := hx.str
      refine ⟨_, rfl, by rw [sl_length, sl_length]; exact hz, ?_⟩
      rw [rpl_sl hy]
      exact k _ (.str _)
    · cases e
  · cases e
theorem me_rpl {o : Expr} {to : TE} {ys zs : Str} (y z : List Nat) {j k : Nat} {c0 c1 apos pos : Pos} {d : PSt → Res RV} (h : ME X K W ms o to d) (hp : PEP X o to) (ey : ys = sl y := by rfl) (ez : zs = sl z := by rfl) (hy : 1 ≤ y.length := by decide) (hyz : (sl y == sl z) = false := by decide)
    (hst : starEach [.Constant (.str ys) j c0, .Constant (.str zs) k c1] X.env = [(false, eval (.Constant (.str ys) j c0) X.env), (false, eval (.Constant (.str zs) k c1) X.env)] := by rfl)
    (hbase : attributeBase o "replace" X.env (eval o X.env) = eval o X.env := by rfl) (hline : (apos.endLine == pos.line) = true := by rfl) :
    ME X K W ms (.Call (.Attribute o "replace" apos) [.Constant (.str ys) j c0, .Constant (.str zs) k c1] [] pos) (tRpl to (sl y) (sl z)) (dOp1 (gRpl y z) d) := by
  subst ey
  subst ez
  exact ⟨h.hK, pe_rpl hp hyz hst hbase hline, sim_op1 (r := rRpl (sl y) (sl z)) (ok_rpl hy) h.sim⟩
theorem pep_ixX {a b : Expr} {ta tb : TE} {pos : Pos} (hu : X.A.units + 1 < cLine) (ha : ME X K W ms a ta da) (hb : PEP X b tb) (hs : PlainIx b) : PEP X (.Subscript a b pos) (tOp (rIxX K) ta tb) := by
  obtain ⟨rfl, p, s⟩ := ha
  exact pep_ix (ix_seq.or (ix_dict hu)) p hb hs
end
end VL

/-! VL33: a call of a local name that holds a def; raise C('..') of a class without an own __init__. -/
namespace VL
open PySem PySem.Spec L2 PyProof.Rows
section
variable {X : Cx} {K : PySem.W.Frag} {W : WX} {ms : List Nat}
def FnAt (P : Program) (w : World) (K : PySem.W.Frag) (mg : Str → Option Value) (base : Heap) (k : Nat) (x : Str) (sp : Sp) : Prop := ∃ fd ps, PySem.W.keepIn K (.ref (He.ga K x)) = true ∧ Binds K fd ps [] ∧ FnOk P w K mg base (L2.CX P w) k (He.ga K x) fd ps sp
theorem FnX.at_ {P : Program} {w : World} {mg : Str → Option Value} {base : Heap} {x : Str} {j k : Nat} {ps : List Str} {sp : Sp} (G : FnX P w K mg base x j ps sp) (hm : mg x = some (.ref (He.ga K x))) (h : j ≤ k) : FnAt P w K mg base k x sp := by
  obtain ⟨f, fd, h1, h2, h3, h4⟩ := G.ex
  rw [hm] at h1
  cases h1
  exact ⟨fd, ps, h2, h3, h4.mono h⟩
theorem Fn.at_ {P : Program} {w : World} {mg : Str → Option Value} {base : Heap} {x : Str} {j k : Nat} {ps : List Str} {sp : Sp} (G : FnX P w K mg base x j ps sp) (hm : mg x = some (.ref (He.ga K x))) (h : j ≤ k) : FnAt P w K mg base k x sp := G.at_ hm h
/-- the defs that a local name may hold -/
def tCallV (i : Nat) (S : List (Addr × Sp)) (E : L2.St → XK) (t : TA) : TE := fun σ H Q => ∃ f sp, σ[i]? = some (some (.ref f)) ∧ (f, sp) ∈ S ∧ t σ H fun vs H1 => sp vs H1 Q (E σ)
theorem pe_callV {S : List (Addr × Sp)} {E : L2.St → XK} {k i : Nat} {x : Str} {p pos : Pos} {e : Expr} {es : List Expr} {t : TA} (A : ∀ f sp, (f, sp) ∈ S → ∃ fd ps, PySem.W.keepIn X.K (.ref f) = true ∧ Binds X.K fd ps [] ∧ FnOk X.prog X.w X.K X.mg X.base (L2.CX X.prog X.w) k f fd ps sp) (hr : Room k X.A) (hN : X.N[i]? = some x) (hv : Vis X.env.scope x) (hx : ∀ σ, PassesAt (L2.CX X.prog X.w) X σ (E σ)) (ha : PA X (e :: es) t)
    (hdb : (x == ("__debug__" : Str)) = false := by decide) (hcd : (x == ("__classdict__" : Str)) = false := by decide)
    (he : starEach (e :: es) X.env = (false, eval e X.env) :: starEach es X.env := by rfl) (hpl : (backTo pos (starEach es X.env)).any (·.1) = false := by rfl) : PE X (.Call (.Name x p) (e :: es) [] pos) (tCallV i S E t) := by
  refine ⟨fun pins s σ H Q I h => ?_⟩
  obtain ⟨f, sp, hs, hS, ht⟩ := h
  obtain ⟨fd, ps, hk, hb, F⟩ := A f sp hS
  refine wpAny_Call_Name_kw (thn ((pe_var (pos := p) hN hv hdb hcd).run pins s σ H (fun v H1 => v = .ref f ∧ H1 = H) I ⟨.ref f, hs, rfl, rfl⟩) fun u s1 ⟨v, H1, I1, r1, q1⟩ => ?_)
  obtain ⟨rfl, rfl⟩ := q1
  cases r1
  refine PySem.W.callWith_K (h₀ := X.base) I.ok.mod.kin hk (thn (ha.run pos pins s1 σ _ _ I1 ht) fun us s2 ⟨vs, H2, I2, r, q⟩ => ⟨I2.kIn, ?_⟩) he hpl
  exact run_fnS F hr hb (hx σ) I2 r q
abbrev Tab := List (Str × (List SV → Res SV))
def dCallV (i : Nat) (T : Tab) (da : PSt → Res (List RV)) : PSt → Res RV := fun τ => match τ[i]? with
  | some (.fz (.fn x)) => (match List.lookup x T with
    | some sem => dCall sem da τ
    | none => .no)
  | _ => .no
theorem lookup_in {α : Type} {x : Str} {v : α} : ∀ {l : List (Str × α)}, List.lookup x l = some v → (x, v) ∈ l
  | [], h => by cases h
  | (y, z) :: l, h => by
    rw [List.lookup_cons] at h
    split at h
    · rename_i e
      injection h with h
      have : x = y := by simpa using e
      subst this h
      exact List.mem_cons_self ..
    · exact List.mem_cons_of_mem _ (lookup_in h)
theorem sim_callV {i n : Nat} {T : Tab} {t : TA} {d : PSt → Res (List RV)} (hn : ∀ rs τ τ', d τ = .ok rs τ' → rs.length = n) (h1 : SimA K W ms t d) : SimE K W ms (tCallV i (T.map fun q => (He.ga K q.1, spOf K n [] q.2)) (WE W) t) (dCallV i T d) := by
  intro C F τ σ H Q hm R h
  obtain ⟨own, R'⟩ := id R
  unfold dCallV at h
  split at h
  · rename_i x e
    obtain ⟨v, hv, rv⟩ := R'.slot _ _ e
    cases rv
    split at h
    · rename_i sem el
      exact ⟨_, _, hv, List.mem_map.mpr ⟨_, lookup_in el, rfl⟩, sim_callS hn h1 C F τ σ H Q hm R h⟩
    · exact h.elim
  · exact h.elim
theorem me_callV (i : Nat) (T : Tab) {k n : Nat} {x : Str} {p pos : Pos} {e : Expr} {es : List Expr} (tk : Takes X W) (G : ∀ q ∈ T, FnAt X.prog X.w X.K X.mg X.base k q.1 (spOf K n [] q.2)) (hr : Room k X.A) (hN : X.N[i]? = some x) (hv : Vis X.env.scope x) (ha : MA X K W ms (e :: es) t d) (hn : ∀ rs τ τ', d τ = .ok rs τ' → rs.length = n)
    (hdb : (x == ("__debug__" : Str)) = false := by decide) (hcd : (x == ("__classdict__" : Str)) = false := by decide) (he : starEach (e :: es) X.env = (false, eval e X.env) :: starEach es X.env := by rfl) (hpl : (backTo pos (starEach es X.env)).any (·.1) = false := by rfl) :
    ME X K W ms (.Call (.Name x p) (e :: es) [] pos) (tCallV i (T.map fun q => (He.ga K q.1, spOf K n [] q.2)) (WE W) t) (dCallV i T d) := by
  obtain ⟨rfl, pa, s⟩ := ha
  refine ⟨rfl, pe_callV (fun f sp hf => ?_) hr hN hv (passAt tk) pa hdb hcd he hpl, sim_callV hn s⟩
  obtain ⟨q, hq, e⟩ := List.mem_map.mp hf
  cases e
  exact G q hq
@[simp] theorem e_dCallV (i : Nat) (T : Tab) (da : PSt → Res (List RV)) (τ : PSt) : dCallV i T da τ = (match τ[i]? with
  | some (.fz (.fn x)) => (match List.lookup x T with
    | some sem => dCall sem da τ
    | none => .no)
  | _ => .no) := rfl
/-! ### raise C('..') -/
structure Ex0 (K : PySem.W.Frag) (C : Addr) : Prop where
  ex : PySem.W.excIn K C [.type "ValueError", .type "Exception", .type "BaseException", .type "object"] "ValueError.__new__" = true
  kp : PySem.W.keepIn K (.ref C) = true
  sb : PySem.W.subIn K (.ref C) (.type "BaseException") = some true
  ty : PySem.W.typeIn K (.ref C) = some (.type "type")
def ex0B (c : Str) (K : PySem.W.Frag) : Bool := PySem.W.excIn K (He.ga K c) [.type "ValueError", .type "Exception", .type "BaseException", .type "object"] "ValueError.__new__" && (PySem.W.keepIn K (.ref (He.ga K c)) && (decide (PySem.W.subIn K (.ref (He.ga K c)) (.type "BaseException") = some true) && decide (PySem.W.typeIn K (.ref (He.ga K c)) = some (.type "type"))))
theorem ex0B_ok {c : Str} {K : PySem.W.Frag} (h : ex0B c K = true) : Ex0 K (He.ga K c) := by
  obtain ⟨h1, h⟩ := He.ba h
  obtain ⟨h2, h⟩ := He.ba h
  obtain ⟨h3, h4⟩ := He.ba h
  exact ⟨h1, h2, of_decide_eq_true h3, of_decide_eq_true h4⟩
def dRaise0 (c : Str) : PSt → SRes := fun τ => .er ⟨c, []⟩ τ
@[simp] theorem e_dRaise0 (c : Str) (τ : PSt) : dRaise0 c τ = .er ⟨c, []⟩ τ := rfl
theorem ms_raise0 {c m : Str} {j : Nat} {p p2 pos pos' : Pos} (tk : Takes X W) (hc : X.calm = true) (E : Ex0 K (He.ga K c)) (hm : X.mg c = some (.ref (He.ga K c))) (hg : Gl X c) (hK : X.K = K := by rfl) (hdb : (c == ("__debug__" : Str)) = false := by decide) :
    MS X K W ms (.Raise (some (.Call (.Name c p) [.Constant (.str m) j p2] [] pos)) none pos') (fun _ σ H => W (.ref (He.ga K c)) none σ H) (dRaise0 c) := by
  subst hK
  refine ⟨rfl, ps_raise hc tk (pmk_own PySem.F.excBase_ValueError E.ex hm E.kp (raises_own E.sb E.ty) hg hdb), ?_⟩
  intro C F τ σ H D hms R k
  exact k _ none σ H F (Sub.refl F) R ⟨rfl, .inl rfl⟩
end
end VL

/-! VL34: == of plain data without truths is being alike. -/
namespace VL
open PySem PySem.Spec L2
mutual
/-- no truths within -/
def nbl : PV → Bool
  | .non => true
  | .int _ => true
  | .str _ => true
  | .lst ps => nbls ps
  | .tup ps => nbls ps
  | _ => false
def nbls : List PV → Bool
  | [] => true
  | p :: ps => nbl p && nbls ps
end
theorem nbls_iff : ∀ ps : List PV, nbls ps = true ↔ ∀ p ∈ ps, nbl p = true
  | [] => by simp [nbls]
  | p :: ps => by simp [nbls, nbls_iff ps]
theorem plainPs_iff : ∀ ps : List PV, plainPs ps = true ↔ ∀ p ∈ ps, plainP p = true
  | [] => by simp [plainPs]
  | p :: ps => by simp [plainPs, plainPs_iff ps]
theorem deeps_le : ∀ {ps : List PV} {n : Nat}, deeps ps ≤ n ↔ ∀ p ∈ ps, deep p ≤ n
  | [], n => by simp [deeps]
  | p :: ps, n => by
    rw [deeps, Nat.max_le, deeps_le (ps := ps)]
    simp
mutual
theorem eqv_nbl : ∀ (p q : PV) (d e : PyData), nbl p = true → nbl q = true → toD p = some d → toD q = some e → (PyData.eqv d e = true ↔ p = q)
  | .non, q, d, e, hp, hq, hd, he => by
    cases hd
    cases q <;> simp [nbl] at hq <;> simp [toD] at he
    · subst he; simp [PyData.eqv]
    · subst he; simp [PyData.eqv]
    · subst he; simp [PyData.eqv]
    · obtain ⟨ds, _, rfl⟩ := he; simp [PyData.eqv]
    · obtain ⟨ds, _, rfl⟩ := he; simp [PyData.eqv]
  | .int i, q, d, e, hp, hq, hd, he => by
    cases hd
    cases q <;> simp [nbl] at hq <;> simp [toD] at he
    · subst he; simp [PyData.eqv]
    · subst he; simp [PyData.eqv]
    · subst he; simp [PyData.eqv]
    · obtain ⟨ds, _, rfl⟩ := he; simp [PyData.eqv]
    · obtain ⟨ds, _, rfl⟩ := he; simp [PyData.eqv]
  | .str l, q, d, e, hp, hq, hd, he => by
    cases hd
    cases q <;> simp [nbl] at hq <;> simp [toD] at he
    · subst he; simp [PyData.eqv]
    · subst he; simp [PyData.eqv]
    · subst he
      rename_i m
      simp only [PyData.eqv]
      constructor
      · intro h
        have h : sl l = sl m := by simpa using h
        rw [sl_inj h]
      · intro h
        injection h with h
        subst h
        simp
    · obtain ⟨ds, _, rfl⟩ := he; simp [PyData.eqv]
    · obtain ⟨ds, _, rfl⟩ := he; simp [PyData.eqv]
  | .lst ps, q, d, e, hp, hq, hd, he => by
    simp [toD] at hd
    obtain ⟨ds, h1, rfl⟩ := hd
    cases q <;> simp [nbl] at hq <;> simp [toD] at he
    · subst he; simp [PyData.eqv]
    · subst he; simp [PyData.eqv]
    · subst he; simp [PyData.eqv]
    · rename_i qs
      obtain ⟨es, h2, rfl⟩ := he
      simp only [PyData.eqv]
      rw [eqv_nbls ps qs ds es (by simpa [nbl] using hp) hq h1 h2]
      simp
    · obtain ⟨ds, _, rfl⟩ := he; simp [PyData.eqv]
  | .tup ps, q, d, e, hp, hq, hd, he => by
    simp [toD] at hd
    obtain ⟨ds, h1, rfl⟩ := hd
    cases q <;> simp [nbl] at hq <;> simp [toD] at he
    · subst he; simp [PyData.eqv]
    · subst he; simp [PyData.eqv]
    · subst he; simp [PyData.eqv]
    · obtain ⟨ds, _, rfl⟩ := he; simp [PyData.eqv]
    · rename_i qs
      obtain ⟨es, h2, rfl⟩ := he
      simp only [PyData.eqv]
      rw [eqv_nbls ps qs ds es (by simpa [nbl] using hp) hq h1 h2]
      simp
  | .bl _, _, _, _, hp, _, _, _ => by simp [nbl] at hp
  | .dic _ _, _, _, _, hp, _, _, _ => by simp [nbl] at hp
  | .obj _ _, _, _, _, hp, _, _, _ => by simp [nbl] at hp
  | .fn _, _, _, _, hp, _, _, _ => by simp [nbl] at hp
  | .scr _, _, _, _, hp, _, _, _ => by simp [nbl] at hp
  | .ty _, _, _, _, hp, _, _, _ => by simp [nbl] at hp
  | .exn _ _ _ _, _, _, _, hp, _, _, _ => by simp [nbl] at hp
theorem eqv_nbls : ∀ (ps qs : List PV) (ds es : List PyData), nbls ps = true → nbls qs = true → toDs ps = some ds → toDs qs = some es → (PyData.eqvAll ds es = true ↔ ps = qs)
  | [], qs, ds, es, hp, hq, hd, he => by
    simp only [toDs, Option.some.injEq] at hd
    subst hd
    cases qs with
    | nil => simp only [toDs, Option.some.injEq] at he; subst he; simp [PyData.eqvAll]
    | cons q qs =>
      unfold toDs at he
      obtain ⟨e, _, he⟩ := Option.bind_eq_some_iff.mp he
      obtain ⟨es', _, rfl⟩ := Option.map_eq_some_iff.mp he
      simp [PyData.eqvAll]
  | p :: ps, qs, ds, es, hp, hq, hd, he => by
    unfold toDs at hd
    obtain ⟨d, h1, hd⟩ := Option.bind_eq_some_iff.mp hd
    obtain ⟨ds', h2, rfl⟩ := Option.map_eq_some_iff.mp hd
    simp [nbls] at hp
    cases qs with
    | nil => simp only [toDs, Option.some.injEq] at he; subst he; simp [PyData.eqvAll]
    | cons q qs =>
      unfold toDs at he
      obtain ⟨e, h3, he⟩ := Option.bind_eq_some_iff.mp he
      obtain ⟨es', h4, rfl⟩ := Option.map_eq_some_iff.mp he
      simp [nbls] at hq
      simp only [PyData.eqvAll, Bool.and_eq_true]
      rw [eqv_nbl p q d e hp.1 hq.1 h1 h3, eqv_nbls ps qs ds' es' hp.2 hq.2 h2 h4]
      simp
end
/-- plain, no truths, at most n deep -/
structure Pl (n : Nat) (p : PV) : Prop where
  pl : plainP p = true
  nb : nbl p = true
  dp : deep p ≤ n
open Classical in
theorem eq_pl {n : Nat} {p q : PV} (hn : n ≤ 64) (hp : Pl n p) (hq : Pl n q) : eqDeep p q = some (decide (p = q)) := by
  obtain ⟨d, h1, o1⟩ := plain_dat p hp.pl
  obtain ⟨e, h2, o2⟩ := plain_dat q hq.pl
  unfold eqDeep
  have s1 : SeqAt.shaped d = true := by unfold SeqAt.shaped; rw [o1.can, o1.deep]; have := hp.dp; simp; omega
  have s2 : SeqAt.shaped e = true := by unfold SeqAt.shaped; rw [o2.can, o2.deep]; have := hq.dp; simp; omega
  rw [h1, h2]
  simp only [Option.bind_some, s1, s2, and_self, if_true]
  congr 1
  rw [Bool.eq_iff_iff, eqv_nbl p q d e hp.nb hq.nb h1 h2, decide_eq_true_iff]
theorem Pl.lst {n : Nat} {ps : List PV} (h : ∀ p ∈ ps, Pl n p) : Pl (n + 1) (.lst ps) := ⟨by rw [plainP, plainPs_iff]; exact fun p hp => (h p hp).pl, by rw [nbl, nbls_iff]; exact fun p hp => (h p hp).nb, by rw [deep]; exact Nat.succ_le_succ (deeps_le.mpr fun p hp => (h p hp).dp)⟩
theorem Pl.tup {n : Nat} {ps : List PV} (h : ∀ p ∈ ps, Pl n p) : Pl (n + 1) (.tup ps) := ⟨by rw [plainP, plainPs_iff]; exact fun p hp => (h p hp).pl, by rw [nbl, nbls_iff]; exact fun p hp => (h p hp).nb, by rw [deep]; exact Nat.succ_le_succ (deeps_le.mpr fun p hp => (h p hp).dp)⟩
theorem Pl.int {n : Nat} {i : Int} (h : i.natAbs < 1000000000000) : Pl n (.int i) := ⟨by simp [plainP, h], rfl, by simp [deep]⟩
theorem Pl.mono {n m : Nat} {p : PV} (h : Pl n p) (hm : n ≤ m) : Pl m p := ⟨h.pl, h.nb, Nat.le_trans h.dp hm⟩
end VL

/-! VL35: trees of lists: places, what is built for them, append. -/
namespace VL
open PySem PySem.Spec L2
def OV.kids : OV → List OV
  | .lst xs => xs
  | .tup xs => xs
  | .dic _ kvs => kvs.map (·.2)
  | .obj _ fs => fs.map (·.2)
  | .fz _ => []
def setV {α β : Type} : List (α × β) → Nat → β → List (α × β)
  | [], _, _ => []
  | (k, _) :: r, 0, y => (k, y) :: r
  | x :: r, i + 1, y => x :: setV r i y
theorem setV_keys {α β : Type} : ∀ (l : List (α × β)) (i : Nat) (y : β), (setV l i y).map (·.1) = l.map (·.1)
  | [], _, _ => rfl
  | (k, _) :: r, 0, y => rfl
  | x :: r, i + 1, y => by rw [setV, List.map_cons, List.map_cons, setV_keys r i y]
theorem setV_vals {α β : Type} : ∀ (l : List (α × β)) (i : Nat) (y : β), (setV l i y).map (·.2) = (l.map (·.2)).set i y
  | [], _, _ => rfl
  | (k, _) :: r, 0, y => rfl
  | x :: r, i + 1, y => by rw [setV, List.map_cons, List.map_cons, setV_vals r i y]; rfl
def OV.setKid : OV → Nat → OV → OV
  | .lst xs, i, y => .lst (xs.set i y)
  | .tup xs, i, y => .tup (xs.set i y)
  | .dic t kvs, i, y => .dic t (setV kvs i y)
  | .obj c fs, i, y => .obj c (setV fs i y)
  | .fz p, _, _ => .fz p
@[simp] def OV.get : OV → List Nat → Option OV
  | t, [] => some t
  | t, i :: ρ => (t.kids[i]?).bind fun x => x.get ρ
@[simp] def OV.put : OV → List Nat → OV → OV
  | _, [], u => u
  | t, i :: ρ, u => match t.kids[i]? with
    | some x => t.setKid i (x.put ρ u)
    | none => t
def kidsV : HO → Option (List V)
  | .lst vs => some vs
  | .tup vs => some vs
  | .dK kvs => some (kvs.map (·.2))
  | .dT kvs => some (kvs.map (·.2))
  | .ins _ _ fvs => some (fvs.map (·.2))
  | _ => none
def stepH (H : Hp) (i : Nat) : V → Option V
  | .ref a => ((H a).bind kidsV).bind fun vs => vs[i]?
  | _ => none
theorem stepH_ref (H : Hp) (i : Nat) (a : Addr) : stepH H i (.ref a) = ((H a).bind kidsV).bind fun vs => vs[i]? := rfl
def walkH (H : Hp) : V → List Nat → Option V
  | v, [] => some v
  | v, i :: ρ => (stepH H i v).bind fun w => walkH H w ρ
theorem walk_snoc (H : Hp) : ∀ (ρ : List Nat) (v : V) (i : Nat), walkH H v (ρ ++ [i]) = (walkH H v ρ).bind (stepH H i)
  | [], v, i => by simp only [List.nil_append, walkH, Option.bind_some]; cases stepH H i v <;> rfl
  | j :: ρ, v, i => by
    simp only [List.cons_append, walkH]
    cases stepH H j v with
    | none => rfl
    | some w => simp only [Option.bind_some]; exact walk_snoc H ρ w i
theorem stepH_mono {H H' : Hp} (s : Sub H H') {i : Nat} {v w : V} (h : stepH H i v = some w) : stepH H' i v = some w := by
  cases v with
  | ref a =>
    rw [stepH_ref] at h ⊢
    obtain ⟨vs, h1, h2⟩ := Option.bind_eq_some_iff.mp h
    obtain ⟨o, h3, h4⟩ := Option.bind_eq_some_iff.mp h1
    rw [s _ _ h3]
    simp only [Option.bind_some, h4]
    exact h2
  | _ => cases h
theorem walk_mono {H H' : Hp} (s : Sub H H') : ∀ {ρ : List Nat} {v w : V}, walkH H v ρ = some w → walkH H' v ρ = some w
  | [], v, w, h => h
  | i :: ρ, v, w, h => by
    unfold walkH at h ⊢
    obtain ⟨x, h1, h2⟩ := Option.bind_eq_some_iff.mp h
    rw [stepH_mono s h1]
    exact walk_mono s h2
section
variable {K : PySem.W.Frag} {F F' H H' : Hp} {lab lab' : Lab}
theorem OwTs.get : ∀ {π : List Nat} {k : Nat} {vs : List V} {xs : List OV} {i : Nat} {x : OV}, OwTs K F H lab π k vs xs → xs[i]? = some x → ∃ v, vs[i]? = some v ∧ OwT K F H lab ((k + i) :: π) v x
  | _, _, _, _, _, _, .nil, h => by simp at h
  | _, k, _, _, 0, _, .cons h t, e => by simp at e; subst e; exact ⟨_, rfl, h⟩
  | _, k, _, _, i + 1, _, .cons h t, e => by
    obtain ⟨v, h1, h2⟩ := OwTs.get t (i := i) (by simpa using e)
    exact ⟨v, by simpa using h1, by rw [show k + (i + 1) = k + 1 + i by omega]; exact h2⟩
theorem OwTs.len : ∀ {π : List Nat} {k : Nat} {vs : List V} {xs : List OV}, OwTs K F H lab π k vs xs → vs.length = xs.length
  | _, _, _, _, .nil => rfl
  | _, _, _, _, .cons _ t => congrArg (· + 1) t.len
/-- what stands at a node -/
theorem OwT.node (s : Sub F H) {π : List Nat} {v : V} {t : OV} {i : Nat} {x : OV} (h : OwT K F H lab π v t) (e : t.kids[i]? = some x) : ∃ w, stepH H i v = some w ∧ OwT K F H lab (i :: π) w x := by
  have key : ∀ {a : Addr} {o : HO} {vs : List V} {xs : List OV}, H a = some o → kidsV o = some vs → OwTs K F H lab π 0 vs xs → xs[i]? = some x → ∃ w, stepH H i (.ref a) = some w ∧ OwT K F H lab (i :: π) w x := fun {a o vs xs} h1 h2 h3 h4 => by
    obtain ⟨w, h5, h6⟩ := h3.get h4
    rw [Nat.zero_add] at h6
    exact ⟨w, by rw [stepH_ref, h1]; simp only [Option.bind_some, h2]; exact h5, h6⟩
  cases h with
  | fz r => simp [OV.kids] at e
  | lst h1 h2 h3 => exact key h1 rfl h3 e
  | tup h1 h3 => exact key (s _ _ h1) rfl h3 e
  | dk h1 h2 h4 h3 => exact key h1 rfl h3 e
  | dt h1 h2 h4 h3 => exact key h1 rfl h3 e
  | obj h1 h2 h4 h3 => exact key h1 rfl h3 e
theorem OwT.walk (s : Sub F H) : ∀ {ρ π : List Nat} {v : V} {t u : OV}, OwT K F H lab π v t → t.get ρ = some u → ∃ w, walkH H v ρ = some w ∧ OwT K F H lab (ρ.reverse ++ π) w u
  | [], π, v, t, u, h, e => by cases e; exact ⟨v, rfl, h⟩
  | i :: ρ, π, v, t, u, h, e => by
    simp only [OV.get, Option.bind_eq_some_iff] at e
    obtain ⟨x, e1, e2⟩ := e
    obtain ⟨w, h1, h2⟩ := h.node s e1
    obtain ⟨z, h3, h4⟩ := OwT.walk s h2 e2
    refine ⟨z, ?_, ?_⟩
    · unfold walkH; rw [h1]; exact h3
    · rw [List.reverse_cons, List.append_assoc]; exact h4
/-- what lies not at and not below a place stays -/
def Off (lab lab' : Lab) (H H' : Hp) (π : List Nat) : Prop := ∀ a θ, lab a = some θ → (∀ ζ, θ ≠ ζ ++ π) → H' a = H a ∧ lab' a = lab a
theorem OwTs.put (s : Sub F F') {π : List Nat} {i : Nat} {y : OV} : ∀ {k : Nat} {vs : List V} {xs : List OV}, (∀ j, k ≤ j → j ≠ k + i → Below lab lab' H H' (j :: π)) → (∀ v, vs[i]? = some v → OwT K F' H' lab' ((k + i) :: π) v y) → OwTs K F H lab π k vs xs → OwTs K F' H' lab' π k vs (xs.set i y)
  | k, _, _, _, _, .nil => .nil
  | k, v :: vs, x :: xs, b, h, .cons h1 t => by
    cases i with
    | zero => exact .cons (h v rfl) (t.frame s fun j hj => b j (by omega) (by omega))
    | succ i =>
      refine .cons (h1.frame s (b k (Nat.le_refl _) (by omega))) (OwTs.put s (fun j hj hn => b j (by omega) (by omega)) (fun w hw => ?_) t)
      rw [show k + 1 + i = k + (i + 1) by omega]
      exact h w (by simpa using hw)
theorem ne_below {ζ π : List Nat} {i : Nat} {ρ : List Nat} : π ≠ ζ ++ ((i :: ρ).reverse ++ π) := fun e => by
  have := congrArg List.length e
  simp at this
  omega
theorem off_below {ρ π : List Nat} {i j : Nat} (o : Off lab lab' H H' ((i :: ρ).reverse ++ π)) (h : j ≠ i) : Below lab lab' H H' (j :: π) := fun a ζ e => by
  refine o a _ e fun ζ' z => h ?_
  rw [List.reverse_cons, List.append_assoc] at z
  have z2 : (ζ ++ [j]) ++ π = (ζ' ++ ρ.reverse ++ [i]) ++ π := by simpa [List.append_assoc] using z
  have z3 := List.append_cancel_right z2
  have z4 := congrArg List.getLast? z3
  simpa using z4
theorem OwT.put (s : Sub F F') (sH : Sub F H) {u u' : OV} : ∀ {ρ π : List Nat} {v : V} {t : OV}, Off lab lab' H H' (ρ.reverse ++ π) → (∀ w, walkH H v ρ = some w → OwT K F H lab (ρ.reverse ++ π) w u → OwT K F' H' lab' (ρ.reverse ++ π) w u') → OwT K F H lab π v t → t.get ρ = some u → OwT K F' H' lab' π v (t.put ρ u')
  | [], π, v, t, o, hw, h, e => by cases e; exact hw v rfl h
  | i :: ρ, π, v, t, o, hw, h, e => by
    simp only [OV.get, Option.bind_eq_some_iff] at e
    obtain ⟨x, e1, e2⟩ := e
    obtain ⟨z, h1, h2⟩ := h.node sH e1
    have o' : Off lab lab' H H' (ρ.reverse ++ (i :: π)) := by
      have := o
      rw [List.reverse_cons, List.append_assoc] at this
      exact this
    have ih : OwT K F' H' lab' (i :: π) z (x.put ρ u') := OwT.put s sH o' (fun w hw1 hw2 => by
      have := hw w (by unfold walkH; rw [h1]; exact hw1) (by rw [List.reverse_cons, List.append_assoc]; exact hw2)
      rw [List.reverse_cons, List.append_assoc] at this
      exact this) h2 e2
    have kid : ∀ {vs : List V} {xs : List OV}, (∀ w, vs[i]? = some w → w = z) → OwTs K F H lab π 0 vs xs → OwTs K F' H' lab' π 0 vs (xs.set i (x.put ρ u')) := fun {vs xs} hv t => by
      refine OwTs.put s (fun j _ hj => off_below o (by omega)) (fun w hw' => ?_) t
      rw [Nat.zero_add, hv w hw']; exact ih
    have st : ∀ {a : Addr} {o : HO} {vs : List V}, v = .ref a → H a = some o → kidsV o = some vs → ∀ w, vs[i]? = some w → w = z := fun {a o vs} e1 e2 e3 w e4 => by
      subst e1
      rw [stepH_ref, e2] at h1
      simp only [Option.bind_some, e3] at h1
      rw [h1] at e4; cases e4; rfl
    have at_ : ∀ {a : Addr}, lab a = some π → H' a = H a ∧ lab' a = lab a := fun {a} l => o a π l fun ζ => ne_below
    simp only [OV.put, e1]
    cases h with
    | fz r => simp [OV.kids] at e1
    | lst g1 g2 g3 => exact .lst ((at_ g2).1.trans g1) ((at_ g2).2.trans g2) (kid (st rfl g1 rfl) g3)
    | tup g1 g3 => exact .tup (s _ _ g1) (kid (st rfl (sH _ _ g1) rfl) g3)
    | dk g1 g2 g4 g3 => exact .dk ((at_ g2).1.trans g1) ((at_ g2).2.trans g2) ((setV_keys _ _ _).trans g4) (by rw [setV_vals]; exact kid (st rfl g1 rfl) g3)
    | dt g1 g2 g4 g3 => exact .dt ((at_ g2).1.trans g1) ((at_ g2).2.trans g2) ((setV_keys _ _ _).trans g4) (by rw [setV_vals]; exact kid (st rfl g1 rfl) g3)
    | obj g1 g2 g4 g3 => exact .obj ((at_ g2).1.trans g1) ((at_ g2).2.trans g2) ((setV_keys _ _ _).trans g4) (by rw [setV_vals]; exact kid (st rfl g1 rfl) g3)
mutual
/-- the places told anew -/
theorem OwT.relab (s : Sub F F') {θ : List Nat} (b : ∀ a π, lab a = some π → H' a = H a ∧ lab' a = some (π ++ θ)) : ∀ {π : List Nat} {v : V} {x : OV}, OwT K F H lab π v x → OwT K F' H' lab' (π ++ θ) v x
  | _, _, _, .fz r => .fz (r.mono s)
  | _, _, _, .lst h l t => .lst ((b _ _ l).1.trans h) (b _ _ l).2 (OwTs.relab s b t)
  | _, _, _, .tup h t => .tup (s _ _ h) (OwTs.relab s b t)
  | _, _, _, .dk h l e t => .dk ((b _ _ l).1.trans h) (b _ _ l).2 e (OwTs.relab s b t)
  | _, _, _, .dt h l e t => .dt ((b _ _ l).1.trans h) (b _ _ l).2 e (OwTs.relab s b t)
  | _, _, _, .obj h l e t => .obj ((b _ _ l).1.trans h) (b _ _ l).2 e (OwTs.relab s b t)
theorem OwTs.relab (s : Sub F F') {θ : List Nat} (b : ∀ a π, lab a = some π → H' a = H a ∧ lab' a = some (π ++ θ)) : ∀ {π : List Nat} {k : Nat} {vs : List V} {xs : List OV}, OwTs K F H lab π k vs xs → OwTs K F' H' lab' (π ++ θ) k vs xs
  | _, _, _, _, .nil => .nil
  | _, _, _, _, .cons h t => .cons (OwT.relab s b h) (OwTs.relab s b t)
end
theorem OwTs.snoc : ∀ {π : List Nat} {k : Nat} {vs : List V} {xs : List OV} {v : V} {x : OV}, OwTs K F H lab π k vs xs → OwT K F H lab ((k + xs.length) :: π) v x → OwTs K F H lab π k (vs ++ [v]) (xs ++ [x])
  | _, k, _, _, v, x, .nil, h => .cons (by simpa using h) .nil
  | _, k, _, _, v, x, .cons (xs := xs) h1 t, h => .cons h1 (OwTs.snoc t (by rw [show k + 1 + xs.length = k + (xs.length + 1) by omega]; simpa using h))
end
end VL

/-! VL36: trees of lists: what is built for them, places, append. -/
namespace VL
open PySem PySem.Spec L2
section
variable {K : PySem.W.Frag} {C : Ctx} {F F1 F2 H H1 H2 : Hp} {own own' : Addr → Option Nat} {τ τ' : PSt} {σ : St} {v : V} {t : OV} {lab lab' : Lab} {p : PV} {a : Addr} {i : Nat}
/-- new things that nobody holds -/
structure Free (C : Ctx) (F H : Hp) (own : Addr → Option Nat) (lab : Lab) : Prop where
  un : ∀ a π, lab a = some π → own a = none
  fF : ∀ a π, lab a = some π → F a = none
  h0 : ∀ a π, lab a = some π → C.H0 a = none
  hH : ∀ a π, lab a = some π → ∃ o, H a = some o
def NewT (K : PySem.W.Frag) (C : Ctx) (F : Hp) (τ : PSt) (σ : St) (H : Hp) (v : V) (t : OV) : Prop := ∃ own lab, FrO K C own F τ σ H ∧ OwT K F H lab [] v t ∧ Free C F H own lab
def NewTs (K : PySem.W.Frag) (C : Ctx) (F : Hp) (τ : PSt) (σ : St) (H : Hp) (k : Nat) (vs : List V) (ts : List OV) : Prop := ∃ own lab, FrO K C own F τ σ H ∧ OwTs K F H lab [] k vs ts ∧ Free C F H own lab
/-- while other things are made, these stay -/
def guard (C : Ctx) (H : Hp) (lab : Lab) : Ctx := ⟨fun a => if (lab a).isSome then H a else C.H0 a, C.F0, C.σ0, C.ms⟩
theorem guard_in {π : List Nat} (e : lab a = some π) : (guard C H lab).H0 a = H a := by
  show (if (lab a).isSome then H a else C.H0 a) = _
  rw [e]; rfl
theorem guard_out (e : lab a = none) : (guard C H lab).H0 a = C.H0 a := by
  show (if (lab a).isSome then H a else C.H0 a) = _
  rw [e]; rfl
theorem FrO.guard (R : FrO K C own F τ σ H) (f : Free C F H own lab) : FrO K (VL.guard C H lab) own F τ σ H := by
  refine ⟨R.len, R.sub, R.sub0, fun b o e nb => ?_, fun b o e => ?_, fun b o e => ?_, R.slot, R.ownF, R.ownH, fun b i e => ?_, R.bor, fun b hb => ?_, R.tups⟩
  · cases l : lab b with
    | none => rw [guard_out l] at e; exact R.keep b o e nb
    | some π => rw [guard_in l] at e; exact e
  · cases l : lab b with
    | none => rw [guard_out l] at e; exact R.there b o e
    | some π => rw [guard_in l] at e; exact ⟨o, e⟩
  · cases l : lab b with
    | none => rw [guard_out l]; exact R.frz b o e
    | some π => rw [f.fF b π l] at e; cases e
  · cases l : lab b with
    | none => rw [guard_out l]; exact R.ownB b i e
    | some π => rw [f.un b π l] at e; cases e
  · obtain ⟨o, e⟩ := R.bH b hb
    cases l : lab b with
    | none => exact ⟨o, by rw [guard_out l]; exact e⟩
    | some π => rw [f.h0 b π l] at e; cases e
/-- behind it -/
theorem FrO.unguard (R0 : FrO K C own F τ σ H) (f : Free C F H own lab) (R : FrO K (VL.guard C H lab) own' F2 τ' σ H2) : FrO K C own' F2 τ' σ H2 ∧ Free C F2 H2 own' lab ∧ ∀ a π, lab a = some π → H2 a = H a := by
  have out : ∀ b o, C.H0 b = some o → lab b = none := fun b o e => by
    cases l : lab b with
    | none => rfl
    | some π => rw [f.h0 b π l] at e; cases e
  have nb : ∀ b π, lab b = some π → ¬ C.B b := fun b π l z => by
    obtain ⟨o, e⟩ := R0.bH b z
    rw [f.h0 b π l] at e; cases e
  have kp : ∀ b π, lab b = some π → H2 b = H b := fun b π l => by
    obtain ⟨o, e⟩ := f.hH b π l
    rw [e]
    exact R.keep b o (by rw [guard_in l]; exact e) (nb b π l)
  refine ⟨⟨R.len, R.sub, R.sub0, fun b o e n => R.keep b o (by rw [guard_out (out b o e)]; exact e) n, fun b o e => R.there b o (by rw [guard_out (out b o e)]; exact e), fun b o e => ?_, R.slot, R.ownF, R.ownH, fun b i e => ?_, R.bor, R0.bH, R.tups⟩, ⟨fun b π l => ?_, fun b π l => ?_, f.h0, fun b π l => ?_⟩, kp⟩
  · rcases R.frz b o e with z | z | z
    · exact .inl z
    · cases l : lab b with
      | none => rw [guard_out l] at z; exact .inr (.inl z)
      | some π =>
        obtain ⟨o', e'⟩ := f.hH b π l
        rw [guard_in l, e'] at z; cases z
    · exact .inr (.inr z)
  · rcases R.ownB b i e with z | z
    · cases l : lab b with
      | none => rw [guard_out l] at z; exact .inl z
      | some π =>
        obtain ⟨o', e'⟩ := f.hH b π l
        rw [guard_in l, e'] at z; cases z
    · exact .inr z
  · cases e : own' b with
    | none => rfl
    | some i =>
      rcases R.ownB b i e with z | z
      · obtain ⟨o', e'⟩ := f.hH b π l
        rw [guard_in l, e'] at z; cases z
      · exact absurd ⟨i, z⟩ (nb b π l)
  · cases e : F2 b with
    | none => rfl
    | some o =>
      rcases R.frz b o e with z | z | z
      · have z : C.F0 b = some o := z
        have := R0.sub0 b o z
        rw [f.fF b π l] at this; cases this
      · obtain ⟨o', e'⟩ := f.hH b π l
        rw [guard_in l, e'] at z; cases z
      · exact absurd z (nb b π l)
  · obtain ⟨o, e⟩ := f.hH b π l
    exact ⟨o, by rw [kp b π l]; exact e⟩
theorem NewT.leaf (R : Rel K C F τ σ H) (r : Rp K F v p) : NewT K C F τ σ H v (.fz p) := by
  obtain ⟨own, R⟩ := R
  exact ⟨own, fun _ => none, R, .fz r, ⟨fun _ _ e => (nomatch e), fun _ _ e => (nomatch e), fun _ _ e => (nomatch e), fun _ _ e => (nomatch e)⟩⟩
def lift : PV → OV
  | .lst ps => .lst (ps.map .fz)
  | .dic t kps => .dic t (kps.map fun x => (x.1, .fz x.2))
  | p => .fz p
theorem OwTs.leaves {π : List Nat} : ∀ {k : Nat} {vs : List V} {ps : List PV}, RpAll K F vs ps → OwTs K F H lab π k vs (ps.map .fz)
  | _, _, _, .nil => .nil
  | _, _, _, .cons h r => .cons (.fz h) (OwTs.leaves r)
theorem lift_keys (kps : List (PK × PV)) : (kps.map fun x => (x.1, OV.fz x.2)).map (·.1) = kps.map (·.1) := by rw [List.map_map]; rfl
theorem lift_vals (kps : List (PK × PV)) : (kps.map fun x => (x.1, OV.fz x.2)).map (·.2) = (kps.map (·.2)).map .fz := by rw [List.map_map, List.map_map]; rfl
theorem OwAt.tree (hp : ∀ c fs, p ≠ .obj c fs) (hl : lab a = some []) (h : OwAt K F H a p) : OwT K F H lab [] (.ref a) (lift p) := by
  cases p with
  | lst ps => obtain ⟨vs, e, r⟩ := h; exact .lst e hl (OwTs.leaves r)
  | dic t kps => cases t with
    | false => obtain ⟨kvs, e, k, r⟩ := h; exact .dk e hl ((lift_keys _).trans k) (by rw [lift_vals]; exact OwTs.leaves r)
    | true => obtain ⟨kvs, e, k, r⟩ := h; exact .dt e hl ((lift_keys _).trans k) (by rw [lift_vals]; exact OwTs.leaves r)
  | obj C fps => exact absurd rfl (hp C fps)
  | _ => exact h.elim
theorem NewAt.tree (hp : ∀ c fs, p ≠ .obj c fs) (h : NewAt K C F τ σ H a p) : NewT K C F τ σ H (.ref a) (lift p) := by
  obtain ⟨own, R, hw, ho, hF, h0⟩ := h
  obtain ⟨o, e⟩ := hw.some_
  refine ⟨own, fun b => if b = a then some [] else none, R, hw.tree hp (by simp), ⟨fun b π l => ?_, fun b π l => ?_, fun b π l => ?_, fun b π l => ?_⟩⟩ <;>
  · by_cases z : b = a
    · subst z; first | exact ho | exact hF | exact h0 | exact ⟨o, e⟩
    · simp [z] at l
theorem FrO.new (R : FrO K C own F τ σ H) {o : HO} (ha : H a = none) : Sub F (upd F a o) ∧ FrO K C own (upd F a o) τ σ (upd H a o) := by
  have hF : F a = none := by
    cases q : F a with
    | none => rfl
    | some u => rw [R.sub _ _ q] at ha; cases ha
  have s : Sub F (upd F a o) := upd_sub hF
  have nown : ∀ b i, own b = some i → b ≠ a := fun b i q z => by
    obtain ⟨u, hu⟩ := R.ownH b i q
    rw [z, ha] at hu; cases hu
  refine ⟨s, R.len, fun b u q => ?_, R.sub0.trans s, fun b u q nb => ?_, fun b u q => ?_, fun b u q => ?_, fun j t hj => SlotOk.frame s (fun b ob => upd_ne (nown b j ob)) (fun _ ob => ob) rfl (R.slot j t hj), fun b i q => ?_, fun b i q => ?_, R.ownB, R.bor, R.bH, fun b vs q => ?_⟩
  · by_cases hb : b = a
    · subst hb; rw [upd_same] at q ⊢; exact q
    · rw [upd_ne hb] at q ⊢; exact R.sub b u q
  · have := R.keep b u q nb
    rw [upd_ne (ne_of_none this ha)]; exact this
  · obtain ⟨u', q'⟩ := R.there b u q
    exact ⟨u', by rw [upd_ne (ne_of_none q' ha)]; exact q'⟩
  · by_cases hb : b = a
    · subst hb; exact .inr (.inl (R.h0 ha))
    · rw [upd_ne hb] at q; exact R.frz b u q
  · rw [upd_ne (nown b i q)]; exact R.ownF b i q
  · rw [upd_ne (nown b i q)]; exact R.ownH b i q
  · by_cases hb : b = a
    · subst hb; rw [upd_same] at q ⊢; exact q
    · rw [upd_ne hb] at q; exact s _ _ (R.tups b vs q)
/-- a new tuple of such things -/
theorem NewTs.tup {vs : List V} {ts : List OV} (h : NewTs K C F τ σ H 0 vs ts) (ha : H a = none) : Sub F (upd F a (.tup vs)) ∧ NewT K C (upd F a (.tup vs)) τ σ (upd H a (.tup vs)) (.ref a) (.tup ts) := by
  obtain ⟨own, lab, R, ow, f⟩ := h
  obtain ⟨s, R'⟩ := R.new (o := .tup vs) ha
  have ne : ∀ b π, lab b = some π → b ≠ a := fun b π l z => by
    obtain ⟨o, e⟩ := f.hH b π l
    rw [z, ha] at e; cases e
  refine ⟨s, own, lab, R', .tup upd_same (ow.frame s fun j _ b ρ l => ⟨upd_ne (ne b _ l), rfl⟩), ⟨f.un, fun b π l => ?_, f.h0, fun b π l => ?_⟩⟩
  · rw [upd_ne (ne b π l)]; exact f.fF b π l
  · rw [upd_ne (ne b π l)]; exact f.hH b π l
/-- a new list of such things -/
theorem NewTs.lst {vs : List V} {ts : List OV} (h : NewTs K C F τ σ H 0 vs ts) (ha : H a = none) : NewT K C F τ σ (upd H a (.lst vs)) (.ref a) (.lst ts) := by
  obtain ⟨own, lab, R, ow, f⟩ := h
  obtain ⟨own2, R2, hw, ho, hF, h0⟩ := Rel.newOw ⟨own, R⟩ ha (o := .lst []) (p := .lst []) .nil rfl
  have nown : ∀ b i, own b = some i → b ≠ a := fun b i q z => by
    obtain ⟨u, hu⟩ := R.ownH b i q
    rw [z, ha] at hu; cases hu
  have ne : ∀ b π, lab b = some π → b ≠ a := fun b π l z => by
    obtain ⟨o, e⟩ := f.hH b π l
    rw [z, ha] at e; cases e
  have la : lab a = none := by
    cases l : lab a with
    | none => rfl
    | some π => exact absurd rfl (ne a π l)
  have R' : FrO K C own F τ σ (upd H a (.lst vs)) := by
    refine ⟨R.len, fun b u q => ?_, R.sub0, fun b u q nb => ?_, fun b u q => ?_, R.frz, fun j t hj => SlotOk.frame (Sub.refl _) (fun b ob => upd_ne (nown b j ob)) (fun _ ob => ob) rfl (R.slot j t hj), R.ownF, fun b i q => ?_, R.ownB, R.bor, R.bH, fun b ws q => ?_⟩
    · have := R.sub b u q
      rw [upd_ne (ne_of_none this ha)]; exact this
    · have := R.keep b u q nb
      rw [upd_ne (ne_of_none this ha)]; exact this
    · obtain ⟨u', q'⟩ := R.there b u q
      exact ⟨u', by rw [upd_ne (ne_of_none q' ha)]; exact q'⟩
    · rw [upd_ne (nown b i q)]; exact R.ownH b i q
    · by_cases hb : b = a
      · subst hb; rw [upd_same] at q; cases q
      · rw [upd_ne hb] at q; exact R.tups b ws q
  refine ⟨own, fun b => if b = a then some [] else lab b, R', .lst upd_same (by simp) (ow.frame (Sub.refl _) fun j _ b ρ l => ⟨upd_ne (ne b _ l), by simp [ne b _ l]⟩), ⟨fun b π l => ?_, fun b π l => ?_, fun b π l => ?_, fun b π l => ?_⟩⟩
  · by_cases z : b = a
    · subst z; exact R.noOwn ha
    · simp [z] at l; exact f.un b π l
  · by_cases z : b = a
    · subst z; exact Rel.noF ⟨own, R⟩ ha
    · simp [z] at l; exact f.fF b π l
  · by_cases z : b = a
    · subst z; exact R.h0 ha
    · simp [z] at l; exact f.h0 b π l
  · by_cases z : b = a
    · subst z; exact ⟨_, upd_same⟩
    · simp [z] at l; rw [upd_ne z]; exact f.hH b π l
theorem NewTs.nil {k : Nat} (R : Rel K C F τ σ H) : NewTs K C F τ σ H k [] [] := by
  obtain ⟨own, R⟩ := R
  exact ⟨own, fun _ => none, R, .nil, ⟨fun _ _ e => (nomatch e), fun _ _ e => (nomatch e), fun _ _ e => (nomatch e), fun _ _ e => (nomatch e)⟩⟩
/-- one more behind; the first one was guarded -/
theorem NewT.cons {k : Nat} {vs : List V} {ts : List OV} (R1 : FrO K C own F1 τ σ H1) (w : OwT K F1 H1 lab [] v t) (f1 : Free C F1 H1 own lab) (s : Sub F1 F2) (h : NewTs K (VL.guard C H1 lab) F2 τ' σ H2 (k + 1) vs ts) : NewTs K C F2 τ' σ H2 k (v :: vs) (t :: ts) := by
  obtain ⟨own2, lab2, R2, ow, f2⟩ := h
  obtain ⟨R2', f1', kp⟩ := FrO.unguard R1 f1 R2
  have dis : ∀ b θ, lab2 b = some θ → lab b = none := fun b θ l2 => by
    cases l : lab b with
    | none => rfl
    | some π =>
      have := f2.h0 b θ l2
      rw [guard_in l] at this
      obtain ⟨o, e⟩ := f1.hH b π l
      rw [e] at this; cases this
  refine ⟨own2, fun b => match lab b with
    | some π => some (π ++ [k])
    | none => lab2 b, R2', .cons ?_ ?_, ?_⟩
  · exact w.relab (π := []) (θ := [k]) s fun b π l => ⟨kp b π l, by simp only [l]⟩
  · exact ow.frame (Sub.refl _) fun j _ b ρ l => ⟨rfl, by simp only [dis b _ l]⟩
  · have cs : ∀ b π, (match lab b with
      | some π => some (π ++ [k])
      | none => lab2 b) = some π → (∃ θ, lab b = some θ) ∨ lab2 b = some π := fun b π e => by
      cases l : lab b with
      | some θ => exact .inl ⟨θ, rfl⟩
      | none => rw [l] at e; exact .inr e
    refine ⟨fun b π l => ?_, fun b π l => ?_, fun b π l => ?_, fun b π l => ?_⟩ <;> rcases cs b π l with ⟨θ, z⟩ | z
    · exact f1'.un b θ z
    · exact f2.un b π z
    · exact f1'.fF b θ z
    · exact f2.fF b π z
    · exact f1'.h0 b θ z
    · have := f2.h0 b π z
      rw [guard_out (dis b π z)] at this; exact this
    · exact f1'.hH b θ z
    · exact f2.hH b π z
end

/-! ### what is built -/
/-- evaluated and built -/
def SimB (K : PySem.W.Frag) (W : WX) (ms : List Nat) (t : TE) (d : PSt → Res OV) : Prop := ∀ C F τ σ H (Q : VK), C.ms = ms → Rel K C F τ σ H → (d τ).holds (fun x τ' => ∀ v H' F', Sub F F' → NewT K C F' τ' σ H' v x → Q v H') (ErE K C F σ W) → t σ H Q
def SimBs (K : PySem.W.Frag) (W : WX) (ms : List Nat) (t : TA) (d : PSt → Res (List OV)) : Prop := ∀ C F τ σ H (Q : List V → Hp → Prop) (k : Nat), C.ms = ms → Rel K C F τ σ H → (d τ).holds (fun xs τ' => ∀ vs H' F', Sub F F' → NewTs K C F' τ' σ H' k vs xs → Q vs H') (ErE K C F σ W) → t σ H Q
structure MB (X : Cx) (K : PySem.W.Frag) (W : WX) (ms : List Nat) (e : Expr) (t : TE) (d : PSt → Res OV) : Prop where
  hK : X.K = K
  pe : PE X e t
  keep : KeepE t
  sim : SimB K W ms t d
structure MBs (X : Cx) (K : PySem.W.Frag) (W : WX) (ms : List Nat) (es : List Expr) (t : TA) (d : PSt → Res (List OV)) : Prop where
  hK : X.K = K
  pe : PA X es t
  keep : KeepA t
  sim : SimBs K W ms t d
section
variable {X : Cx} {K : PySem.W.Frag} {W : WX} {ms : List Nat}
/-- a value that never changes -/
@[simp] def leafOut : Option (PV × PSt) → Res OV
  | some (p, τ2) => .ok (.fz p) τ2
  | none => .no
def dbLeaf_k : RV → PSt → Res OV := fun r τ1 => leafOut (leak r τ1)
@[simp] theorem e_dbLeaf_k (r : RV) (τ1 : PSt) : dbLeaf_k r τ1 = leafOut (leak r τ1) := rfl
def dbLeaf (d : PSt → Res RV) : PSt → Res OV := fun τ => (d τ).bind dbLeaf_k
@[simp] theorem e_dbLeaf (d : PSt → Res RV) (τ : PSt) : dbLeaf d τ = (d τ).bind dbLeaf_k := rfl
theorem mb_leaf {e : Expr} {t : TE} {d : PSt → Res RV} (h : ME X K W ms e t d) (k : KeepE t) : MB X K W ms e t (dbLeaf d) := by
  refine ⟨h.hK, h.pe, k, ?_⟩
  intro C F τ σ H Q hm R z
  unfold dbLeaf at z
  rw [Res.holds_bind] at z
  refine h.sim C F τ σ H _ hm R (z.imp (fun r τ1 z => ?_) fun _ _ x => x)
  intro v H1 F1 s1 ok
  obtain ⟨F1', s1', R1, rv⟩ := ok.froze
  unfold dbLeaf_k leafOut at z
  split at z
  · rename_i p τ2 e
    obtain ⟨F2, s2, R2, rp⟩ := leak_ok R1 rv (by rw [leak_nf]; exact e)
    exact z _ _ F2 ((s1.trans s1').trans s2) (NewT.leaf R2 rp)
  · exact z.elim
/-- a new list or dict that may change later -/
def dbNew (d : PSt → Res RV) : PSt → Res OV := fun τ => (d τ).bind fun r τ1 => match r with
  | .nw (.lst ps) => .ok (lift (.lst ps)) τ1
  | .nw (.dic t kps) => .ok (lift (.dic t kps)) τ1
  | _ => .no
theorem mb_new {e : Expr} {t : TE} {d : PSt → Res RV} (h : ME X K W ms e t d) (k : KeepE t) : MB X K W ms e t (dbNew d) := by
  refine ⟨h.hK, h.pe, k, ?_⟩
  intro C F τ σ H Q hm R z
  unfold dbNew at z
  rw [Res.holds_bind] at z
  refine h.sim C F τ σ H _ hm R (z.imp (fun r τ1 z => ?_) fun _ _ x => x)
  intro v H1 F1 s1 ok
  split at z
  · obtain ⟨a, rfl, n⟩ := ok
    exact z _ _ F1 s1 (n.tree fun _ _ => by simp)
  · obtain ⟨a, rfl, n⟩ := ok
    exact z _ _ F1 s1 (n.tree fun _ _ => by simp)
  · exact z.elim
def dbNil : PSt → Res (List OV) := fun τ => .ok [] τ
def dbCons (d : PSt → Res OV) (ds : PSt → Res (List OV)) : PSt → Res (List OV) := fun τ => (d τ).bind fun x τ1 => (ds τ1).bind fun xs τ2 => .ok (x :: xs) τ2
theorem mbs_nil (hK : X.K = K := by rfl) : MBs X K W ms [] tNil dbNil := ⟨hK, pa_nil, ka_nil, fun C F τ σ H Q k hm R z => z [] H F (Sub.refl F) (NewTs.nil R)⟩
theorem mbs_cons {e : Expr} {es : List Expr} {t : TE} {u : TA} {d : PSt → Res OV} {ds : PSt → Res (List OV)} (h : MB X K W ms e t d) (hs : MBs X K W ms es u ds) (hst : starEach (e :: es) X.env = (false, eval e X.env) :: starEach es X.env := by rfl) : MBs X K W ms (e :: es) (tCons t u) (dbCons d ds) := by
  refine ⟨h.hK, pa_cons h.pe hs.pe hst, ka_cons h.keep hs.keep, ?_⟩
  intro C F τ σ H Q k hm R z
  unfold dbCons at z
  rw [Res.holds_bind] at z
  refine h.sim C F τ σ H _ hm R (z.imp (fun x τ1 z => ?_) fun _ _ x => x)
  intro v H1 F1 s1 n
  obtain ⟨own, lab, R1, w, f⟩ := n
  rw [Res.holds_bind] at z
  refine hs.sim (guard C H1 lab) F1 τ1 σ H1 _ (k + 1) hm ⟨own, R1.guard f⟩ (z.imp (fun xs τ2 z => ?_) ?_)
  · intro vs H2 F2 s2 ns
    exact z _ _ F2 (s1.trans s2) (NewT.cons R1 w f s2 ns)
  · intro x τ' hx c dd H' F' q R' ex
    obtain ⟨own', R'⟩ := R'
    exact hx c dd H' F' (s1.trans q) ⟨own', (FrO.unguard R1 f R').1⟩ ex
def dbTup (d : PSt → Res (List OV)) : PSt → Res OV := fun τ => (d τ).bind fun xs τ1 => if xs.length ≤ sizeLine then .ok (.tup xs) τ1 else .no
theorem mb_tup {es : List Expr} {x1 pos} {t : TA} {d : PSt → Res (List OV)} (h : MBs X K W ms es t d) : MB X K W ms (.Tuple es x1 pos) (tTup t) (dbTup d) := by
  refine ⟨h.hK, pe_tup h.pe, ke_tup h.keep, ?_⟩
  intro C F τ σ H Q hm R z
  unfold dbTup at z
  rw [Res.holds_bind] at z
  refine h.sim C F τ σ H _ 0 hm R (z.imp (fun xs τ1 z => ?_) fun _ _ x => x)
  intro vs H1 F1 s1 n
  split at z
  · rename_i hz
    refine ⟨by obtain ⟨_, _, _, ow, _⟩ := n; rw [ow.len]; exact hz, fun p hp => ?_⟩
    obtain ⟨s2, n2⟩ := n.tup hp
    exact z _ _ _ (s1.trans s2) n2
  · exact z.elim
def dbLst (d : PSt → Res (List OV)) : PSt → Res OV := fun τ => (d τ).bind fun xs τ1 => if xs.length ≤ sizeLine then .ok (.lst xs) τ1 else .no
theorem mb_lst {es : List Expr} {pos} {t : TA} {d : PSt → Res (List OV)} (h : MBs X K W ms es t d) : MB X K W ms (.List es pos) (tLst t) (dbLst d) := by
  refine ⟨h.hK, pe_lst h.pe, ke_lst h.keep, ?_⟩
  intro C F τ σ H Q hm R z
  unfold dbLst at z
  rw [Res.holds_bind] at z
  refine h.sim C F τ σ H _ 0 hm R (z.imp (fun xs τ1 z => ?_) fun _ _ x => x)
  intro vs H1 F1 s1 n
  split at z
  · rename_i hz
    refine ⟨by obtain ⟨_, _, _, ow, _⟩ := n; rw [ow.len]; exact hz, fun p hp => ?_⟩
    exact z _ _ F1 s1 (n.lst hp)
  · exact z.elim
end
end VL

/-! VL37: trees of lists: x = [..], x[i][j].append(e), x[i][j] as a value. -/
namespace VL
open PySem PySem.Spec L2
section
variable {K : PySem.W.Frag} {C : Ctx} {F F1 F2 H H1 H2 : Hp} {own own' : Addr → Option Nat} {τ τ' : PSt} {σ : St} {v : V} {t : OV} {lab lab' : Lab} {p : PV} {a : Addr} {i : Nat}
theorem NewT.set (h : NewT K C F τ σ H v t) (hi : i ∉ C.ms) : Rel K C F (τ.set i (.tr t)) (σ.set i (some v)) H := by
  obtain ⟨own, lab, R, w, f⟩ := h
  have cs : ∀ {b : Addr} {j : Nat}, (if (lab b).isSome then some i else if own b = some i then none else own b) = some j → (∃ π, lab b = some π) ∧ j = i ∨ own b = some j ∧ j ≠ i := fun {b j} e => by
    cases l : lab b with
    | some π => rw [l] at e; simp at e; exact .inl ⟨⟨π, rfl⟩, e.symm⟩
    | none =>
      rw [l] at e
      by_cases z : own b = some i
      · simp [z] at e
      · simp [z] at e; exact .inr ⟨e, fun y => z (y ▸ e)⟩
  refine ⟨fun b => if (lab b).isSome then some i else if own b = some i then none else own b, by rw [List.length_set, List.length_set]; exact R.len, R.sub, R.sub0, R.keep, R.there, R.frz, ?_, ?_, ?_, ?_, ?_, R.bH, R.tups⟩
  · intro j s hj
    by_cases hij : i = j
    · subst hij
      have hl : i < τ.length := by
        have := (List.getElem?_eq_some_iff.mp hj).1
        rwa [List.length_set] at this
      rw [List.getElem?_set_self hl] at hj
      cases hj
      exact ⟨v, lab, by rw [List.getElem?_set_self (by rw [← R.len]; exact hl)], w, fun b π l => by simp [l]⟩
    · rw [List.getElem?_set_ne hij] at hj
      refine SlotOk.frame (Sub.refl _) (fun _ _ => rfl) (fun b ob => ?_) (List.getElem?_set_ne hij) (R.slot j s hj)
      have l : lab b = none := by
        cases l : lab b with
        | none => rfl
        | some π => rw [f.un b π l] at ob; cases ob
      simp [l, ob, Ne.symm hij]
  · intro b j q
    rcases cs q with ⟨⟨π, l⟩, _⟩ | ⟨e, _⟩
    · exact f.fF b π l
    · exact R.ownF b j e
  · intro b j q
    rcases cs q with ⟨⟨π, l⟩, _⟩ | ⟨e, _⟩
    · exact f.hH b π l
    · exact R.ownH b j e
  · intro b j q
    rcases cs q with ⟨⟨π, l⟩, _⟩ | ⟨e, _⟩
    · exact .inl (f.h0 b π l)
    · exact R.ownB b j e
  · intro j hj
    rw [List.getElem?_set_ne (by rintro rfl; exact hi hj)]
    exact R.bor j hj
/-- what is free goes to the i-th variable -/
theorem FrO.adopt (R : FrO K C own F τ σ H) (f : Free C F H own lab) : FrO K C (fun b => if (lab b).isSome then some i else own b) F τ σ H := by
  have cs : ∀ {b : Addr} {j : Nat}, (if (lab b).isSome then some i else own b) = some j → (∃ π, lab b = some π) ∨ own b = some j := fun {b j} e => by
    cases l : lab b with
    | some π => exact .inl ⟨π, rfl⟩
    | none => rw [l] at e; exact .inr (by simpa using e)
  refine ⟨R.len, R.sub, R.sub0, R.keep, R.there, R.frz, fun j s hj => ?_, fun b j q => ?_, fun b j q => ?_, fun b j q => ?_, R.bor, R.bH, R.tups⟩
  · refine SlotOk.frame (Sub.refl _) (fun _ _ => rfl) (fun b ob => ?_) rfl (R.slot j s hj)
    have l : lab b = none := by
      cases l : lab b with
      | none => rfl
      | some π => rw [f.un b π l] at ob; cases ob
    simp [l, ob]
  · rcases cs q with ⟨π, l⟩ | e
    · exact f.fF b π l
    · exact R.ownF b j e
  · rcases cs q with ⟨π, l⟩ | e
    · exact f.hH b π l
    · exact R.ownH b j e
  · rcases cs q with ⟨π, l⟩ | e
    · exact .inl (f.h0 b π l)
    · exact R.ownB b j e
theorem FrO.poke1 {o' : HO} {s : SV} {b : Addr} (R : FrO K C own F τ σ H) (ho : own b = some i) (nt : ∀ vs, o' ≠ .tup vs) (hs : SlotOk K F (upd H b o') own σ i s) : FrO K C own F (τ.set i s) σ (upd H b o') := R.poke ho nt hs
/-- append at a place -/
theorem FrO.append {ρ : List Nat} {b : Addr} {vs : List V} {xs : List OV} {x : OV} {w : V} (R : FrO K C own F τ σ H) (e0 : τ[i]? = some (.tr t)) (hx : OwT K F H lab [] w x) (f : Free C F H own lab) (e1 : t.get ρ = some (.lst xs)) (hv : σ[i]? = some (some v)) (hw : walkH H v ρ = some (.ref b)) :
    ∃ vs, H b = some (.lst vs) ∧ vs.length = xs.length ∧ ∃ own', FrO K C own' F (τ.set i (.tr (t.put ρ (.lst (xs ++ [x]))))) σ (upd H b (.lst (vs ++ [w]))) := by
  obtain ⟨v', labt, hv', ot, hl⟩ := R.slot i _ e0
  rw [hv] at hv'; cases hv'
  obtain ⟨w1, g1, g2⟩ := ot.walk R.sub e1
  rw [hw] at g1; cases g1
  cases g2 with
  | lst h1 h2 h3 =>
    rename_i vs
    rw [List.append_nil] at h2
    refine ⟨vs, h1, h3.len, _, (R.adopt (i := i) f).poke (by simp [hl b _ h2]) (fun _ => by simp) ?_⟩
    have nl : ∀ c θ, labt c = some θ → lab c = none := fun c θ e => by
      cases l : lab c with
      | none => rfl
      | some π => have := hl c θ e; rw [f.un c π l] at this; cases this
    have nb : ∀ c π, lab c = some π → c ≠ b := fun c π l z => by
      subst z
      rw [nl c _ h2] at l; cases l
    refine ⟨v, fun c => match lab c with
      | some π => some (π ++ (xs.length :: ρ.reverse))
      | none => labt c, hv, ?_, fun c π l => ?_⟩
    · refine OwT.put (Sub.refl F) R.sub (u := .lst xs) (fun c θ l hn => ?_) (fun w' _ hu => ?_) ot e1
      · have hc : c ≠ b := fun z => by
          subst z
          rw [h2] at l
          injection l with l
          exact hn [] (by rw [← l]; simp)
        exact ⟨upd_ne hc, by simp only [nl c θ l]⟩
      · have : w' = V.ref b := by
          rename_i hw'
          rw [hw] at hw'; cases hw'; rfl
        subst this
        refine .lst upd_same (by simp only [nl b _ h2, List.append_nil]; exact h2) (OwTs.snoc (h3.frame (Sub.refl F) fun j _ c ζ l => ?_) ?_)
        · have hc : c ≠ b := fun z => by
            subst z
            rw [h2] at l
            injection l with l
            have := congrArg List.length l
            simp at this
            omega
          exact ⟨upd_ne hc, by simp only [nl c _ l]⟩
        · rw [Nat.zero_add, List.append_nil]
          exact hx.relab (Sub.refl F) (π := []) (θ := xs.length :: ρ.reverse) fun c π l => ⟨upd_ne (nb c π l), by simp only [l]⟩
    · have l : (match lab c with
        | some π => some (π ++ (xs.length :: ρ.reverse))
        | none => labt c) = some π := l
      show (if (lab c).isSome then some i else own c) = some i
      cases q : lab c with
      | some θ => rfl
      | none => rw [q] at l; exact hl c π l
end
/-! ### places -/
def OV.ixOf : OV → PV → Option Nat
  | .lst xs, .int n => ixN xs.length n
  | .tup xs, .int n => ixN xs.length n
  | _, _ => none
@[simp] def OV.res : OV → List PV → Option (List Nat × OV)
  | t, [] => some ([], t)
  | t, p :: ps => (t.ixOf p).bind fun i => (t.kids[i]?).bind fun x => (x.res ps).map fun y => (i :: y.1, y.2)
theorem OV.res_snoc : ∀ (ps : List PV) (t : OV) (p : PV), t.res (ps ++ [p]) = (t.res ps).bind fun y => (y.2.ixOf p).bind fun i => (y.2.kids[i]?).map fun x => (y.1 ++ [i], x)
  | [], t, p => by
    simp only [List.nil_append, OV.res, Option.bind_some]
    congr 1; funext i
    cases t.kids[i]? <;> simp
  | q :: ps, t, p => by
    simp only [List.cons_append, OV.res]
    cases t.ixOf q with
    | none => rfl
    | some i =>
      simp only [Option.bind_some]
      cases t.kids[i]? with
      | none => rfl
      | some x =>
        simp only [Option.bind_some]
        rw [OV.res_snoc ps x p]
        cases x.res ps with
        | none => rfl
        | some y =>
          simp only [Option.bind_some, Option.map_some]
          cases y.2.ixOf p with
          | none => rfl
          | some j =>
            simp only [Option.bind_some]
            cases y.2.kids[j]? <;> simp
theorem OV.res_get : ∀ (ps : List PV) (t : OV) {ρ : List Nat} {u : OV}, t.res ps = some (ρ, u) → t.get ρ = some u
  | [], t, ρ, u, h => by simp at h; obtain ⟨rfl, rfl⟩ := h; rfl
  | p :: ps, t, ρ, u, h => by
    simp only [OV.res, Option.bind_eq_some_iff, Option.map_eq_some_iff] at h
    obtain ⟨i, _, x, h2, y, h3, h4⟩ := h
    cases h4
    simp only [OV.get, h2, Option.bind_some]
    exact OV.res_get ps x h3
/-- a plain index: a written number or text, a variable -/
structure MSm (X : Cx) (K : PySem.W.Frag) (e : Expr) (t : TE) (s : PSt → Option PV) : Prop where
  pe : PE X e t
  sim : ∀ C F τ σ H (Q : VK) p, Rel K C F τ σ H → s τ = some p → (∀ y, Rp K F y p → Q y H) → t σ H Q
def sC (p : PV) : PSt → Option PV := fun _ => some p
def sVar (i : Nat) : PSt → Option PV := fun τ => match τ[i]? with
  | some (.fz p) => some p
  | _ => none
@[simp] theorem e_sC (p : PV) (τ : PSt) : sC p τ = some p := rfl
@[simp] theorem e_sVar (i : Nat) (τ : PSt) : sVar i τ = (match τ[i]? with
  | some (.fz p) => some p
  | _ => none) := rfl
section
variable {X : Cx} {K : PySem.W.Frag} {W : WX} {ms : List Nat}
theorem sm_int {i j pos} : MSm X K (.Constant (.int i) j pos) (tC (.int i)) (sC (.int i)) := ⟨pe_int, fun C F τ σ H Q p R e h => by cases e; exact h _ (.int i)⟩
theorem sm_str {x : Str} {j pos} (l : List Nat) (h : x = sl l := by rfl) : MSm X K (.Constant (.str x) j pos) (tC (.str (sl l))) (sC (.str l)) := by
  subst h
  exact ⟨pe_str, fun C F τ σ H Q p R e h => by cases e; exact h _ (.str l)⟩
theorem sm_neg {i : Int} {j p1 pos} : MSm X K (.UnaryOp .USub (.Constant (.int i) j p1) pos) (tUn (rU fun i => .int (-i)) (tC (.int i))) (sC (.int (-i))) := ⟨pe_un un_neg pe_int, fun C F τ σ H Q p R e h => by cases e; exact ⟨i, rfl, h _ (.int _)⟩⟩
theorem sm_var {e : Expr} (i : Nat) (h : PE X e (tVar i)) : MSm X K e (tVar i) (sVar i) := ⟨h, fun C F τ σ H Q p R e k => by
  obtain ⟨own, R⟩ := R
  unfold sVar at e
  split at e
  · rename_i q hq
    cases e
    obtain ⟨v, hv, rv⟩ := R.slot _ _ hq
    exact ⟨v, hv, k v rv⟩
  · cases e⟩
/-- x[e][f].. for a variable x: the indexes -/
structure MP (X : Cx) (K : PySem.W.Frag) (i : Nat) (e : Expr) (t : TE) (dp : PSt → Option (List PV)) : Prop where
  hK : X.K = K
  pe : PE X e t
  sim : ∀ C F τ σ H (Q : VK) x ps ρ u, Rel K C F τ σ H → τ[i]? = some (.tr x) → dp τ = some ps → x.res ps = some (ρ, u) → (∀ v w, σ[i]? = some (some v) → walkH H v ρ = some w → Q w H) → t σ H Q
def pNil : PSt → Option (List PV) := fun _ => some []
def pIx (dp : PSt → Option (List PV)) (s : PSt → Option PV) : PSt → Option (List PV) := fun τ => (dp τ).bind fun ps => (s τ).map fun p => ps ++ [p]
@[simp] theorem e_pNil (τ : PSt) : pNil τ = some [] := rfl
@[simp] theorem e_pIx (dp : PSt → Option (List PV)) (s : PSt → Option PV) (τ : PSt) : pIx dp s τ = (dp τ).bind fun ps => (s τ).map fun p => ps ++ [p] := rfl
theorem mp_var {e : Expr} (i : Nat) (h : PE X e (tVar i)) (hK : X.K = K := by rfl) : MP X K i e (tVar i) pNil := ⟨hK, h, fun C F τ σ H Q x ps ρ u R e0 e1 e2 k => by
  cases e1
  simp at e2
  obtain ⟨rfl, rfl⟩ := e2
  obtain ⟨own, R⟩ := R
  obtain ⟨v, lab, hv, _⟩ := R.slot _ _ e0
  exact ⟨v, hv, k v v hv rfl⟩⟩
theorem mp_ix {i : Nat} {o e : Expr} {pos : Pos} {to te : TE} {dp : PSt → Option (List PV)} {s : PSt → Option PV} (hu : X.A.units + 1 < cLine) (ho : MP X K i o to dp) (he : MSm X K e te s) (hs : PlainIx e) : MP X K i (.Subscript o e pos) (tOp (rIxX K) to te) (pIx dp s) := by
  obtain ⟨rfl, p, sm⟩ := ho
  refine ⟨rfl, pe_ix (ix_seq.or (ix_dict hu)) p he.pe hs, ?_⟩
  intro C F τ σ H Q x ps ρ u R e0 e1 e2 k
  unfold pIx at e1
  obtain ⟨qs, e3, e4⟩ := Option.bind_eq_some_iff.mp e1
  obtain ⟨q, e5, rfl⟩ := Option.map_eq_some_iff.mp e4
  rw [OV.res_snoc] at e2
  obtain ⟨⟨ρ1, u1⟩, e6, e7⟩ := Option.bind_eq_some_iff.mp e2
  obtain ⟨j, e8, e9⟩ := Option.bind_eq_some_iff.mp e7
  obtain ⟨z, e10, e11⟩ := Option.map_eq_some_iff.mp e9
  cases e11
  refine sm C F τ σ H _ x qs ρ1 u1 R e0 e3 e6 fun v w hv hw => ?_
  refine he.sim C F τ σ H _ q R e5 fun y ry => ?_
  obtain ⟨own, R⟩ := R
  obtain ⟨v', lab, hv', ot, _⟩ := R.slot _ _ e0
  rw [hv] at hv'; cases hv'
  obtain ⟨w', g1, g2⟩ := ot.walk R.sub (OV.res_get qs x e6)
  rw [hw] at g1; cases g1
  obtain ⟨w2, g3, g4⟩ := g2.node R.sub e10
  have fin : Q w2 H := k v w2 hv (by rw [walk_snoc, hw]; exact g3)
  cases g2 with
  | lst h1 h2 h3 =>
    rename_i a vs xs
    cases q <;> simp [OV.ixOf] at e8
    rename_i n
    cases ry
    rw [stepH_ref, h1] at g3
    simp only [Option.bind_some, kidsV] at g3
    refine .inl (.inl ⟨a, vs, n, w2, rfl, rfl, SqL.of h1, ?_, fin⟩)
    unfold atI
    rw [h3.len, e8]
    exact g3
  | tup h1 h3 =>
    rename_i a vs xs
    cases q <;> simp [OV.ixOf] at e8
    rename_i n
    cases ry
    rw [stepH_ref, R.sub _ _ h1] at g3
    simp only [Option.bind_some, kidsV] at g3
    refine .inl (.inr (.inl ⟨a, vs, n, w2, rfl, rfl, SqT.of (R.sub _ _ h1), ?_, fin⟩))
    unfold atI
    rw [h3.len, e8]
    exact g3
  | _ => simp [OV.ixOf] at e8
/-! ### x[..].append(e) -/
def appAt (i : Nat) (ρ : List Nat) (x : OV) (τ1 : PSt) (t1 : OV) : Option OV → Res RV
  | some (.lst xs) => if xs.length < sizeLine then .ok (.fz .non) (τ1.set i (.tr (t1.put ρ (.lst (xs ++ [x]))))) else .no
  | _ => .no
@[simp] theorem e_appAt (i : Nat) (ρ : List Nat) (x : OV) (τ1 : PSt) (t1 : OV) (xs : List OV) : appAt i ρ x τ1 t1 (some (.lst xs)) = if xs.length < sizeLine then .ok (.fz .non) (τ1.set i (.tr (t1.put ρ (.lst (xs ++ [x]))))) else .no := rfl
def dAppT_k (i : Nat) (ρ : List Nat) : OV → PSt → Res RV := fun x τ1 => match τ1[i]? with
  | some (.tr t1) => appAt i ρ x τ1 t1 (t1.get ρ)
  | _ => .no
@[simp] theorem e_dAppT_k (i : Nat) (ρ : List Nat) (x : OV) (τ1 : PSt) : dAppT_k i ρ x τ1 = (match τ1[i]? with
  | some (.tr t1) => appAt i ρ x τ1 t1 (t1.get ρ)
  | _ => .no) := rfl
def dAppT_a (i : Nat) (db : PSt → Res OV) (τ : PSt) : Option (List Nat × OV) → Res RV
  | some (ρ, .lst _) => (db τ).bind (dAppT_k i ρ)
  | _ => .no
@[simp] theorem e_dAppT_a (i : Nat) (db : PSt → Res OV) (τ : PSt) (ρ : List Nat) (xs : List OV) : dAppT_a i db τ (some (ρ, .lst xs)) = (db τ).bind (dAppT_k i ρ) := rfl
def dAppT (i : Nat) (dp : PSt → Option (List PV)) (db : PSt → Res OV) : PSt → Res RV := fun τ => match τ[i]? with
  | some (.tr t) => dAppT_a i db τ ((dp τ).bind t.res)
  | _ => .no
@[simp] theorem e_dAppT (i : Nat) (dp : PSt → Option (List PV)) (db : PSt → Res OV) (τ : PSt) : dAppT i dp db τ = (match τ[i]? with
  | some (.tr t) => dAppT_a i db τ ((dp τ).bind t.res)
  | _ => .no) := rfl
theorem me_appT {i : Nat} {o e : Expr} {apos cpos : Pos} {to te : TE} {dp : PSt → Option (List PV)} {db : PSt → Res OV} (ho : MP X K i o to dp) (hb : MB X K W ms e te db) (hbase : attributeBase o "append" X.env (eval o X.env) = eval o X.env := by rfl)
    (hfew : ((backTo cpos (starEach (e :: []) X.env)).all (fun x => !x.1) && (backToKw cpos (keywordEach [] X.env)).all (fun x => x.1.isSome)
      && decide ((e :: []).length + ([] : List Keyword).length + (if ([] : List Keyword).isEmpty then 0 else 1) < 30)) = true := by rfl)
    (hline : (apos.endLine == cpos.line) = true := by rfl) (hs : starEach (e :: []) X.env = (false, eval e X.env) :: starEach [] X.env := by rfl) (hplain : (backTo cpos (starEach [] X.env)).any (·.1) = false := by rfl) :
    ME X K W ms (.Call (.Attribute o "append" apos) [e] [] cpos) (tBM K "list" rAppend to (tCons te tNil)) (dAppT i dp db) := by
  obtain ⟨rfl, p, sm⟩ := ho
  refine ⟨rfl, pe_bm PySem.F.plainAttrs_list PySem.F.slot_list_append PySem.F.type_list_append mt_append p (pa_cons hb.pe pa_nil hs) hbase hfew hline hs hplain, ?_⟩
  intro C F τ σ H Q hm R k
  unfold dAppT at k
  split at k
  · rename_i t e0
    unfold dAppT_a at k
    split at k
    · rename_i ρ xs0 er
      obtain ⟨ps, e1, e2⟩ := Option.bind_eq_some_iff.mp er
      refine sm C F τ σ H _ t ps ρ _ R e0 e1 e2 fun v w hv hw => ?_
      obtain ⟨own, R'⟩ := id R
      obtain ⟨v', lab, hv', ot, _⟩ := R'.slot _ _ e0
      rw [hv] at hv'; cases hv'
      obtain ⟨w', g1, g2⟩ := ot.walk R'.sub (OV.res_get ps t e2)
      rw [hw] at g1; cases g1
      cases g2 with
      | lst h1 h2 h3 =>
        rename_i b vs
        refine ⟨.inl ⟨rfl, vs, SqL.of h1⟩, ?_⟩
        rw [Res.holds_bind] at k
        refine hb.keep σ H _ _ (hb.sim C F τ σ H (fun y H' => ∃ x τ1 F', Sub F F' ∧ NewT X.K C F' τ1 σ H' y x ∧ Res.holds (dAppT_k i ρ x τ1) (OkE X.K C F σ Q) (ErE X.K C F σ W)) hm R (k.imp (fun x τ1 k => ?_) fun _ _ x => x)) fun y H' sH q => ?_
        · exact fun y H' F' s n => ⟨x, τ1, F', s, n, k⟩
        · obtain ⟨x, τ1, F', s, ⟨own1, lab1, R1, ox, f⟩, k⟩ := q
          unfold dAppT_k at k
          split at k
          · rename_i t1 e3
            unfold appAt at k
            split at k
            · rename_i xs e4
              split at k
              · rename_i hz
                obtain ⟨vs1, a1, a2, own2, R2⟩ := R1.append (vs := vs) e3 ox f e4 hv (walk_mono sH hw)
                refine ⟨b, vs1, y, rfl, rfl, a1, by rw [a2]; exact hz, ?_⟩
                exact k _ _ F' s ⟨⟨own2, R2⟩, .non⟩
              · exact k.elim
            · exact k.elim
          · exact k.elim
    · exact k.elim
  · exact k.elim
/-! ### x = [..] -/
def dAsgT (i : Nat) (db : PSt → Res OV) : PSt → SRes := fun τ => (db τ).bindS fun x τ1 => .nx (τ1.set i (.tr x))
theorem ms_asgT {i : Nat} {x : Str} {e : Expr} {te : TE} {db : PSt → Res OV} {pos pos' : Pos} (hN : X.N.Nodup) (hi : X.N[i]? = some x) (hx : Loc X.env.scope x) (he : MB X K W ms e te db) (hms : i ∉ ms := by decide) (hs : swapsWith e (some (.Name x pos')) pos.line X.env = pure false := by rfl) (hf : X.fn x = true ∨ X.env.scope.names.lookup x = some .local := by first | exact .inl rfl | exact .inr rfl | assumption) :
    MS X K W ms (.Assign [.Name x pos'] e pos) (tAsg te (gName i)) (dAsgT i db) := by
  refine ⟨he.hK, ps_set hN hi hx he.pe hs hf, ?_⟩
  intro C F τ σ H D hm R k
  refine he.sim C F τ σ H _ hm R ((SH.bind (σ := σ) k).imp (fun r τ1 k => ?_) fun _ _ x => x)
  intro v H1 F1 s1 n
  exact k _ _ F1 s1 (n.set (by rw [hm]; exact hms))
/-! ### x[..] whose value never changes -/
def getAtT (τ : PSt) : Option (List Nat × OV) → Res RV
  | some (_, .fz p) => .ok (.fz p) τ
  | _ => .no
@[simp] theorem e_getAtT (τ : PSt) (ρ : List Nat) (p : PV) : getAtT τ (some (ρ, .fz p)) = .ok (.fz p) τ := rfl
def dGetT (i : Nat) (dp : PSt → Option (List PV)) : PSt → Res RV := fun τ => match τ[i]? with
  | some (.tr t) => getAtT τ ((dp τ).bind t.res)
  | _ => .no
@[simp] theorem e_dGetT (i : Nat) (dp : PSt → Option (List PV)) (τ : PSt) : dGetT i dp τ = (match τ[i]? with
  | some (.tr t) => getAtT τ ((dp τ).bind t.res)
  | _ => .no) := rfl
theorem me_getT {i : Nat} {o : Expr} {to : TE} {dp : PSt → Option (List PV)} (ho : MP X K i o to dp) : ME X K W ms o to (dGetT i dp) := by
  refine ⟨ho.hK, ho.pe, ?_⟩
  intro C F τ σ H Q hm R k
  unfold dGetT at k
  split at k
  · rename_i t e0
    unfold getAtT at k
    split at k
    · rename_i ρ p er
      obtain ⟨ps, e1, e2⟩ := Option.bind_eq_some_iff.mp er
      refine ho.sim C F τ σ H _ t ps ρ _ R e0 e1 e2 fun v w hv hw => ?_
      obtain ⟨own, R'⟩ := id R
      obtain ⟨v', lab, hv', ot, _⟩ := R'.slot _ _ e0
      rw [hv] at hv'; cases hv'
      obtain ⟨w', g1, g2⟩ := ot.walk R'.sub (OV.res_get ps t e2)
      rw [hw] at g1; cases g1
      cases g2 with
      | fz r => exact k _ _ F (Sub.refl F) ⟨R, r⟩
    · exact k.elim
  · exact k.elim
end
end VL

/-! VL38: expressions that only make new things; the readings of trees, evaluated. -/
namespace VL
open PySem PySem.Spec L2
def KeepR (r : R2) : Prop := ∀ x y H Q Q', r x y H Q → (∀ v H', Sub H H' → Q v H' → Q' v H') → r x y H Q'
theorem ke_op {r : R2} {ta tb : TE} (hr : KeepR r) (h : KeepE ta) (g : KeepE tb) : KeepE (tOp r ta tb) := fun σ H Q Q' q k => h σ H _ _ q fun x H1 s1 q1 => g σ H1 _ _ q1 fun y H2 s2 q2 => hr x y H2 _ _ q2 fun v H3 s3 q3 => k v H3 ((s1.trans s2).trans s3) q3
theorem kr_ix {K : PySem.W.Frag} : KeepR (rIxX K) := fun x y H Q Q' q k => by
  rcases q with (⟨a, b, c, d, h1, h2, h3, h4, q⟩ | ⟨a, b, c, d, h1, h2, h3, h4, q⟩ | ⟨a, b, c, h1, h2, h3, h4, q⟩) | ⟨a, b, h1, h2, q⟩
  · exact .inl (.inl ⟨a, b, c, d, h1, h2, h3, h4, k _ _ (Sub.refl _) q⟩)
  · exact .inl (.inr (.inl ⟨a, b, c, d, h1, h2, h3, h4, k _ _ (Sub.refl _) q⟩))
  · exact .inl (.inr (.inr ⟨a, b, c, h1, h2, h3, h4, k _ _ (Sub.refl _) q⟩))
  · exact .inr ⟨a, b, h1, h2, k _ _ (Sub.refl _) q⟩
theorem kr_I {C : Int → Int → Prop} {g : Int → Int → V} : KeepR (rI C g) := fun x y H Q Q' q k => by
  obtain ⟨i, j, h1, h2, h3, q⟩ := q
  exact ⟨i, j, h1, h2, h3, k _ _ (Sub.refl _) q⟩
/-! ### evaluated -/
def dbNew_k : RV → PSt → Res OV := fun r τ1 => match r with
  | .nw (.lst ps) => .ok (lift (.lst ps)) τ1
  | .nw (.dic t kps) => .ok (lift (.dic t kps)) τ1
  | _ => .no
@[simp] theorem e_dbNew_l (ps : List PV) (τ1 : PSt) : dbNew_k (.nw (.lst ps)) τ1 = .ok (.lst (ps.map .fz)) τ1 := rfl
@[simp] theorem e_dbNew_d (t : Bool) (kps : List (PK × PV)) (τ1 : PSt) : dbNew_k (.nw (.dic t kps)) τ1 = .ok (.dic t (kps.map fun x => (x.1, .fz x.2))) τ1 := rfl
@[simp] theorem e_dbNew (d : PSt → Res RV) (τ : PSt) : dbNew d τ = (d τ).bind dbNew_k := rfl
@[simp] theorem e_dbNil (τ : PSt) : dbNil τ = .ok [] τ := rfl
def dbCons_k2 (x : OV) : List OV → PSt → Res (List OV) := fun xs τ2 => .ok (x :: xs) τ2
@[simp] theorem e_dbCons_k2 (x : OV) (xs : List OV) (τ2 : PSt) : dbCons_k2 x xs τ2 = .ok (x :: xs) τ2 := rfl
def dbCons_k1 (ds : PSt → Res (List OV)) : OV → PSt → Res (List OV) := fun x τ1 => (ds τ1).bind (dbCons_k2 x)
@[simp] theorem e_dbCons_k1 (ds : PSt → Res (List OV)) (x : OV) (τ1 : PSt) : dbCons_k1 ds x τ1 = (ds τ1).bind (dbCons_k2 x) := rfl
@[simp] theorem e_dbCons (d : PSt → Res OV) (ds : PSt → Res (List OV)) (τ : PSt) : dbCons d ds τ = (d τ).bind (dbCons_k1 ds) := rfl
def dbTup_k : List OV → PSt → Res OV := fun xs τ1 => if xs.length ≤ sizeLine then .ok (.tup xs) τ1 else .no
@[simp] theorem e_dbTup_k (xs : List OV) (τ1 : PSt) : dbTup_k xs τ1 = if xs.length ≤ sizeLine then .ok (.tup xs) τ1 else .no := rfl
@[simp] theorem e_dbTup (d : PSt → Res (List OV)) (τ : PSt) : dbTup d τ = (d τ).bind dbTup_k := rfl
def dbLst_k : List OV → PSt → Res OV := fun xs τ1 => if xs.length ≤ sizeLine then .ok (.lst xs) τ1 else .no
@[simp] theorem e_dbLst_k (xs : List OV) (τ1 : PSt) : dbLst_k xs τ1 = if xs.length ≤ sizeLine then .ok (.lst xs) τ1 else .no := rfl
@[simp] theorem e_dbLst (d : PSt → Res (List OV)) (τ : PSt) : dbLst d τ = (d τ).bind dbLst_k := rfl
def dAsgT_k (i : Nat) : OV → PSt → SRes := fun x τ1 => .nx (τ1.set i (.tr x))
@[simp] theorem e_dAsgT_k (i : Nat) (x : OV) (τ1 : PSt) : dAsgT_k i x τ1 = .nx (τ1.set i (.tr x)) := rfl
@[simp] theorem e_dAsgT (i : Nat) (db : PSt → Res OV) (τ : PSt) : dAsgT i db τ = (db τ).bindS (dAsgT_k i) := rfl
@[simp] theorem ixOf_lst (xs : List OV) (n : Int) : OV.ixOf (.lst xs) (.int n) = ixN xs.length n := rfl
@[simp] theorem ixOf_tup (xs : List OV) (n : Int) : OV.ixOf (.tup xs) (.int n) = ixN xs.length n := rfl
@[simp] theorem kids_lst (xs : List OV) : (OV.lst xs).kids = xs := rfl
@[simp] theorem kids_tup (xs : List OV) : (OV.tup xs).kids = xs := rfl
@[simp] theorem setKid_lst (xs : List OV) (i : Nat) (y : OV) : (OV.lst xs).setKid i y = .lst (xs.set i y) := rfl
@[simp] theorem setKid_tup (xs : List OV) (i : Nat) (y : OV) : (OV.tup xs).setKid i y = .tup (xs.set i y) := rfl
@[simp] theorem flat_fz (p : PV) : (OV.fz p).flat = p := by rw [OV.flat]
@[simp] theorem flat_lst (xs : List OV) : (OV.lst xs).flat = .lst (flats xs) := by rw [OV.flat]
@[simp] theorem flat_tup (xs : List OV) : (OV.tup xs).flat = .tup (flats xs) := by rw [OV.flat]
theorem flats_map : ∀ xs : List OV, flats xs = xs.map OV.flat
  | [] => by rw [flats]; rfl
  | x :: xs => by rw [flats, flats_map xs]; rfl
@[simp] theorem flats_leaves (ps : List PV) : flats (ps.map .fz) = ps := by
  rw [flats_map, List.map_map]
  have : (OV.flat ∘ OV.fz) = id := by funext p; exact flat_fz p
  rw [this, List.map_id]
@[simp] theorem flats_nil : flats [] = [] := by rw [flats]
@[simp] theorem flats_cons (x : OV) (xs : List OV) : flats (x :: xs) = x.flat :: flats xs := by rw [flats]
end VL

/-! VL39: a, b, c = x, y, z. -/
namespace VL
open PySem PySem.Spec L2
def par3Out (i j l : Nat) : Option (List PV × PSt) → SRes
  | some ([p, q, r], τ2) => .nx (((τ2.set i (.fz p)).set j (.fz q)).set l (.fz r))
  | _ => .no
@[simp] theorem e_par3Out (i j l : Nat) (p q r : PV) (τ2 : PSt) : par3Out i j l (some ([p, q, r], τ2)) = .nx (((τ2.set i (.fz p)).set j (.fz q)).set l (.fz r)) := rfl
def dPar3_k (i j l : Nat) : List RV → PSt → SRes := fun rs τ1 => par3Out i j l (leakAll rs τ1)
@[simp] theorem e_dPar3_k (i j l : Nat) (rs : List RV) (τ1 : PSt) : dPar3_k i j l rs τ1 = par3Out i j l (leakAll rs τ1) := rfl
def dPar3 (i j l : Nat) (da : PSt → Res (List RV)) : PSt → SRes := fun τ => (da τ).bindS (dPar3_k i j l)
@[simp] theorem e_dPar3 (i j l : Nat) (da : PSt → Res (List RV)) (τ : PSt) : dPar3 i j l da τ = (da τ).bindS (dPar3_k i j l) := rfl
theorem ms_par3 {X : Cx} {K : PySem.W.Frag} {W : WX} {ms : List Nat} {t : TA} {d : PSt → Res (List RV)} {i j l : Nat} {x y z : Str} {a b c : Expr} {px py pz pt pos : Pos} {kt k2 pt2} (hc : X.calm = true) (hN : X.N.Nodup) (hi : X.N[i]? = some x) (hj : X.N[j]? = some y) (hl : X.N[l]? = some z) (hij : i ≠ j) (hil : i ≠ l) (hjl : j ≠ l)
    (hx : X.env.scope.names.lookup x = some .local) (hy : X.env.scope.names.lookup y = some .local) (hz : X.env.scope.names.lookup z = some .local) (ha : MA X K W ms [a, b, c] t d)
    (hw : swappedStores [.Tuple [.Name x px, .Name y py, .Name z pz] kt pt] (.Tuple [a, b, c] k2 pt2) X.env = pure (some [x, y, z]))
    (hmi : i ∉ ms := by decide) (hmj : j ∉ ms := by decide) (hml : l ∉ ms := by decide)
    (hs : swapsWithSole [.Tuple [.Name x px, .Name y py, .Name z pz] kt pt] (.Tuple [a, b, c] k2 pt2) pos.line X.env = pure false := by rfl) :
    MS X K W ms (.Assign [.Tuple [.Name x px, .Name y py, .Name z pz] kt pt] (.Tuple [a, b, c] k2 pt2) pos) (tPar3 i j l t) (dPar3 i j l d) := by
  refine ⟨ha.hK, ps_par3 hc hN hi hj hl hij hil hjl hx hy hz ha.pe hw hs, ?_⟩
  intro C F τ σ H D hm R k
  refine ha.sim C F τ σ H _ hm R ((SH.bind (σ := σ) k).imp (fun r τ1 k => ?_) fun _ _ x => x)
  intro vs H1 F1 s1 R1 rvs
  unfold dPar3_k par3Out at k
  split at k
  · rename_i p q r τ2 e
    obtain ⟨F2, s2, R2, ra⟩ := leakAll_ok R1 rvs e
    cases ra with
    | cons h1 r => cases r with
      | cons h2 r => cases r with
        | cons h3 r => cases r with
          | nil => exact ⟨_, _, _, rfl, k _ _ F2 (s1.trans s2) (((R2.set (by rw [hm]; exact hmi) h1).set (by rw [hm]; exact hmj) h2).set (by rw [hm]; exact hml) h3)⟩
  · exact k.elim
end VL

namespace Gx
open PySem PySem.Spec L2 VL
def top (i : Nat) : Stmt := PySem.Challenge.pw_galleypapers_k49_pages_written_and_read.main.body.getD i (.Pass ⟨0, 0, 0, 0⟩)
abbrev FnP (K : PySem.W.Frag) (x : Str) (st : Stmt) (f : Addr) (fd : FuncData) : Prop := FunD K x x (defArgs st) (defBody st) (defScope st) [] [] f fd
structure Fac (K : PySem.W.Frag) (mg : Str → Option Value) : Prop where
  m_GalleyError : mg "GalleyError" = some (.ref (He.ga K "GalleyError"))
  m_TextError : mg "TextError" = some (.ref (He.ga K "TextError"))
  c_FIGURES_fonts : ∃ t, mg "FIGURES_fonts" = some (.str (sl [48, 49, 50, 51, 52, 53, 54, 55, 56, 57]) t)
  c_FIGURES_pages : ∃ t, mg "FIGURES_pages" = some (.str (sl [48, 49, 50, 51, 52, 53, 54, 55, 56, 57]) t)
  c_LETTERS : ∃ t, mg "LETTERS" = some (.str (sl [97, 98, 99, 100, 101, 102, 103, 104, 105, 106, 107, 108, 109, 110, 111, 112, 113, 114, 115, 116, 117, 118, 119, 120, 121, 122]) t)
  c_LONGEST_fonts : ∃ t, mg "LONGEST_fonts" = some (.int (4) t)
  c_LONGEST_pages : ∃ t, mg "LONGEST_pages" = some (.int (12) t)
  c_MARKS : ∃ t, mg "MARKS" = some (.str (sl [91, 93, 92]) t)
  c_SIGNS : ∃ t, mg "SIGNS" = some (.str (sl [33, 34, 35, 36, 38, 39, 40, 41, 42, 43, 44, 45, 46, 47, 48, 49, 50, 51, 52, 53, 54, 55, 56, 57, 58, 59, 60, 61, 62, 63, 64, 65, 66, 67, 68, 69, 70, 71, 72, 73, 74, 75, 76, 77, 78, 79, 80, 81, 82, 83, 84, 85, 86, 87, 88, 89, 90, 91, 92, 93, 94, 95, 96, 97, 98, 99, 100, 101, 102, 103, 104, 105, 106, 107, 108, 109, 110, 111, 112, 113, 114, 115, 116, 117, 118, 119, 120, 121, 122, 123, 124, 125, 126]) t)
  c_SOFT : ∃ t, mg "SOFT" = some (.str (sl [45, 10]) t)
  f_abs : mg "abs" = none
  f_all : mg "all" = none
  f_bool : mg "bool" = none
  f_enumerate : mg "enumerate" = none
  f_int : mg "int" = none
  f_isinstance : mg "isinstance" = none
  f_len : mg "len" = none
  f_list : mg "list" = none
  f_range : mg "range" = none
  f_repr : mg "repr" = none
  f_str : mg "str" = none
  f_tuple : mg "tuple" = none
  s_sys : SysD K
section
variable {P : Program} {w : World} {K : PySem.W.Frag} {mg : Str → Option Value} {base : Heap}
abbrev s_is_name : Stmt := top 9
abbrev n_is_name : List Str := ["text", "char"]
theorem sc_is_name : FnScope n_is_name ["text"] (defScope s_is_name) := ⟨rfl, rfl, rfl, by decide +kernel, rfl, by decide +kernel, by decide +kernel⟩
noncomputable def d_is_name : PSt → SRes := (dSeq (dIfS (dOr (dNot (dTst (dChain gLe gLe (dC (.int 1)) (dCB gLen (dCons (dVar 0) dNil)) (dC (.int 16))))) (dTst (dOp2 gNotIn (dOp2 gIx (dVar 0) (dC (.int 0))) (dC (.str [97, 98, 99, 100, 101, 102, 103, 104, 105, 106, 107, 108, 109, 110, 111, 112, 113, 114, 115, 116, 117, 118, 119, 120, 121, 122]))))) (dRet [] (dC (.bl false))) dNext)
    (dRet [] (dCB gAll (dCons (dLc [1] (dItA (dVar 0)) (gN 1) dYes (dOrV (dOp2 gIn (dVar 1) (dC (.str [97, 98, 99, 100, 101, 102, 103, 104, 105, 106, 107, 108, 109, 110, 111, 112, 113, 114, 115, 116, 117, 118, 119, 120, 121, 122]))) (dOp2 gIn (dVar 1) (dC (.str [48, 49, 50, 51, 52, 53, 54, 55, 56, 57]))))) dNil))))
noncomputable def sem_is_name : List SV → Res SV := runDef [] 1 2 (d_is_name)
theorem fn_is_name (Z : Fac K mg) {f : Addr} {fd : FuncData} (F : FnP K "is_name" s_is_name f fd) (hm : mg "is_name" = some (.ref f))  : Fn P w K mg base "is_name" 1 ["text"] (spOf K 1 [] (sem_is_name)) := by
  refine ⟨f, fd, hm, F.kp, F.bindsN fun _ _ _ _ _ _ us hl => match us, hl with | [_], _ => rfl, ?_⟩
  refine F.ok sc_is_name (fun _ _ _ _ h => h.1) fun cdv A outer s H vs Q E (hr : Room 0 _) h => ?_
  have m : MSs (L2.cxOf CX0 P w K mg base n_is_name "is_name" (defScope s_is_name) f cdv A outer s H E).nox K (fun c d _ H => E c d H) [] (defBody s_is_name) _ (d_is_name) := (mss_cons (by exact (ms_if (mt_w (mw_or (mt_not (mt_chain op_le op_le ok_le ok_le me_int (me_cb (k_len rfl) ok_len rfl Z.f_len (by decide +kernel) (ma_cons (me_var 0 (pv 0)) ma_nil)) me_int)) (mw_or1 (mt_cmp (k_notIn rfl (hu_of hr)) ok_notIn (me_ixX (hu_of hr) (me_var 0 (pv 0)) me_int (fun _ _ => rfl)) (me_gstr [97, 98, 99, 100, 101, 102, 103, 104, 105, 106, 107, 108, 109, 110, 111, 112, 113, 114, 115, 116, 117, 118, 119, 120, 121, 122] rfl Z.c_LETTERS) (by rfl))))) (mss_one (by exact (ms_ret me_bl))) mss_nil))
    (mss_one (by exact (ms_ret (me_cb (k_all rfl rfl) ok_all rfl Z.f_all (by decide +kernel) (ma_cons (me_lc (own := [("char", 1)]) rfl sc_is_name.nd (mi_any (me_var 0 (pv 0))) (blkOk_by (own := [("char", 1)]) (N := n_is_name) (sc := defScope s_is_name) (by decide +kernel)) (fun _ _ _ _ _ => by exact (mg_name _ sc_is_name.nd rfl (by first | exact Or.inl rfl | exact Or.inr rfl))) (fun _ _ _ _ _ => by exact mts_nil) (fun _ _ _ _ _ => by exact (me_or (me_cmp (k_in rfl (hu_of hr)) ok_in (me_var 1 (pv 1)) (me_gstr [97, 98, 99, 100, 101, 102, 103, 104, 105, 106, 107, 108, 109, 110, 111, 112, 113, 114, 115, 116, 117, 118, 119, 120, 121, 122] rfl Z.c_LETTERS) (by rfl)) (me_one (me_cmp (k_in rfl (hu_of hr)) ok_in (me_var 1 (pv 1)) (me_gstr [48, 49, 50, 51, 52, 53, 54, 55, 56, 57] rfl Z.c_FIGURES_fonts) (by rfl)))))) ma_nil))))))
  exact ⟨_, m.pe.nox, start_ok m.sim rfl (by decide) (by decide) (fun _ _ _ _ z => z) h⟩
abbrev s_is_glyph_name : Stmt := top 10
abbrev n_is_glyph_name : List Str := ["glyph", "char"]
theorem sc_is_glyph_name : FnScope n_is_glyph_name ["glyph"] (defScope s_is_glyph_name) := ⟨rfl, rfl, rfl, by decide +kernel, rfl, by decide +kernel, by decide +kernel⟩
noncomputable def d_is_glyph_name : PSt → SRes := (dSeq (dIfS (dTst (dOp2 gEq (dVar 0) (dC (.str [45, 10])))) (dRet [] (dC (.bl true))) dNext)
    (dRet [] (dAndV (dChain gLe gLe (dC (.int 1)) (dCB gLen (dCons (dVar 0) dNil)) (dC (.int (4)))) (dCB gAll (dCons (dLc [1] (dItA (dVar 0)) (gN 1) dYes (dOp2 gIn (dVar 1) (dC (.str [33, 34, 35, 36, 38, 39, 40, 41, 42, 43, 44, 45, 46, 47, 48, 49, 50, 51, 52, 53, 54, 55, 56, 57, 58, 59, 60, 61, 62, 63, 64, 65, 66, 67, 68, 69, 70, 71, 72, 73, 74, 75, 76, 77, 78, 79, 80, 81, 82, 83, 84, 85, 86, 87, 88, 89, 90, 91, 92, 93, 94, 95, 96, 97, 98, 99, 100, 101, 102, 103, 104, 105, 106, 107, 108, 109, 110, 111, 112, 113, 114, 115, 116, 117, 118, 119, 120, 121, 122, 123, 124, 125, 126])))) dNil)))))
noncomputable def sem_is_glyph_name : List SV → Res SV := runDef [] 1 2 (d_is_glyph_name)
theorem fn_is_glyph_name (Z : Fac K mg) {f : Addr} {fd : FuncData} (F : FnP K "is_glyph_name" s_is_glyph_name f fd) (hm : mg "is_glyph_name" = some (.ref f))  : Fn P w K mg base "is_glyph_name" 1 ["glyph"] (spOf K 1 [] (sem_is_glyph_name)) := by
  refine ⟨f, fd, hm, F.kp, F.bindsN fun _ _ _ _ _ _ us hl => match us, hl with | [_], _ => rfl, ?_⟩
  refine F.ok sc_is_glyph_name (fun _ _ _ _ h => h.1) fun cdv A outer s H vs Q E (hr : Room 0 _) h => ?_
  have m : MSs (L2.cxOf CX0 P w K mg base n_is_glyph_name "is_glyph_name" (defScope s_is_glyph_name) f cdv A outer s H E).nox K (fun c d _ H => E c d H) [] (defBody s_is_glyph_name) _ (d_is_glyph_name) := (mss_cons (by exact (ms_if (mt_eq hr.units (me_var 0 (pv 0)) (me_gstr [45, 10] rfl Z.c_SOFT)) (mss_one (by exact (ms_ret me_bl))) mss_nil))
    (mss_one (by exact (ms_ret (me_and (me_chain op_le op_le ok_le ok_le me_int (me_cb (k_len rfl) ok_len rfl Z.f_len (by decide +kernel) (ma_cons (me_var 0 (pv 0)) ma_nil)) (me_gint rfl Z.c_LONGEST_fonts)) (me_one (me_cb (k_all rfl rfl) ok_all rfl Z.f_all (by decide +kernel) (ma_cons (me_lc (own := [("char", 1)]) rfl sc_is_glyph_name.nd (mi_any (me_var 0 (pv 0))) (blkOk_by (own := [("char", 1)]) (N := n_is_glyph_name) (sc := defScope s_is_glyph_name) (by decide +kernel)) (fun _ _ _ _ _ => by exact (mg_name _ sc_is_glyph_name.nd rfl (by first | exact Or.inl rfl | exact Or.inr rfl))) (fun _ _ _ _ _ => by exact mts_nil) (fun _ _ _ _ _ => by exact (me_cmp (k_in rfl (hu_of hr)) ok_in (me_var 1 (pv 1)) (me_gstr [33, 34, 35, 36, 38, 39, 40, 41, 42, 43, 44, 45, 46, 47, 48, 49, 50, 51, 52, 53, 54, 55, 56, 57, 58, 59, 60, 61, 62, 63, 64, 65, 66, 67, 68, 69, 70, 71, 72, 73, 74, 75, 76, 77, 78, 79, 80, 81, 82, 83, 84, 85, 86, 87, 88, 89, 90, 91, 92, 93, 94, 95, 96, 97, 98, 99, 100, 101, 102, 103, 104, 105, 106, 107, 108, 109, 110, 111, 112, 113, 114, 115, 116, 117, 118, 119, 120, 121, 122, 123, 124, 125, 126] rfl Z.c_SIGNS) (by rfl)))) ma_nil))))))))
  exact ⟨_, m.pe.nox, start_ok m.sim rfl (by decide) (by decide) (fun _ _ _ _ z => z) h⟩
abbrev s_number_text : Stmt := top 15
abbrev n_number_text : List Str := ["word", "digits", "number", "char"]
theorem sc_number_text : FnScope n_number_text ["word"] (defScope s_number_text) := ⟨rfl, rfl, rfl, by decide +kernel, rfl, by decide +kernel, by decide +kernel⟩
noncomputable def d_number_text : PSt → SRes := (dSeq (dAsgF 1 (dIf (dTru (dBM "str" gStarts (dVar 0) (dCons (dC (.str [45])) dNil))) (dSl gSl (dVar 0) (dPart (dC (.int 1))) dNoPart) (dVar 0)))
    (dSeq (dIfS (dOr (dNot (dTst (dChain gLe gLe (dC (.int 1)) (dCB gLen (dCons (dVar 1) dNil)) (dC (.int (12)))))) (dNot (dTru (dCB gAll (dCons (dLc [3] (dItA (dVar 1)) (gN 3) dYes (dOp2 gIn (dVar 3) (dC (.str [48, 49, 50, 51, 52, 53, 54, 55, 56, 57])))) dNil))))) (dRet [] (dC .non)) dNext)
    (dSeq (dAsgF 2 (dIf (dTst (dOp2 gEq (dVar 1) (dVar 0))) (dCB gInt (dCons (dVar 1) dNil)) (dOp1 gNeg (dCB gInt (dCons (dVar 1) dNil)))))
    (dRet [] (dIf (dTst (dOp2 gEq (dCB gStrI (dCons (dVar 2) dNil)) (dVar 0))) (dVar 2) (dC .non))))))
noncomputable def sem_number_text : List SV → Res SV := runDef [] 1 4 (d_number_text)
theorem fn_number_text (Z : Fac K mg) {f : Addr} {fd : FuncData} (F : FnP K "number_text" s_number_text f fd) (hm : mg "number_text" = some (.ref f))  : Fn P w K mg base "number_text" 1 ["word"] (spOf K 1 [] (sem_number_text)) := by
  refine ⟨f, fd, hm, F.kp, F.bindsN fun _ _ _ _ _ _ us hl => match us, hl with | [_], _ => rfl, ?_⟩
  refine F.ok sc_number_text (fun _ _ _ _ h => h.1) fun cdv A outer s H vs Q E (hr : Room 0 _) h => ?_
  have m : MSs (L2.cxOf CX0 P w K mg base n_number_text "number_text" (defScope s_number_text) f cdv A outer s H E).nox K (fun c d _ H => E c d H) [] (defBody s_number_text) _ (d_number_text) := (mss_cons (by exact (ms_setF (i := 1) sc_number_text.nd rfl (by first | exact Or.inl rfl | exact Or.inr rfl) (me_if (mt_tru (me_bm PySem.F.plainAttrs_str PySem.F.slot_str_startswith PySem.F.type_str_startswith k_starts ok_starts (me_var 0 (pv 0)) (ma_cons (me_str [45]) ma_nil))) (me_slice (me_var 0 (pv 0)) (mo_some me_int) mo_none) (me_var 0 (pv 0)))))
    (mss_cons (by exact (ms_if (mt_w (mw_or (mt_not (mt_chain op_le op_le ok_le ok_le me_int (me_cb (k_len rfl) ok_len rfl Z.f_len (by decide +kernel) (ma_cons (me_var 1 (pv 1)) ma_nil)) (me_gint rfl Z.c_LONGEST_pages))) (mw_or1 (mt_not (mt_tru (me_cb (k_all rfl rfl) ok_all rfl Z.f_all (by decide +kernel) (ma_cons (me_lc (own := [("char", 3)]) rfl sc_number_text.nd (mi_any (me_var 1 (pv 1))) (blkOk_by (own := [("char", 3)]) (N := n_number_text) (sc := defScope s_number_text) (by decide +kernel)) (fun _ _ _ _ _ => by exact (mg_name _ sc_number_text.nd rfl (by first | exact Or.inl rfl | exact Or.inr rfl))) (fun _ _ _ _ _ => by exact mts_nil) (fun _ _ _ _ _ => by exact (me_cmp (k_in rfl (hu_of hr)) ok_in (me_var 3 (pv 3)) (me_gstr [48, 49, 50, 51, 52, 53, 54, 55, 56, 57] rfl Z.c_FIGURES_pages) (by rfl)))) ma_nil))))))) (mss_one (by exact (ms_ret me_non))) mss_nil))
    (mss_cons (by exact (ms_setF (i := 2) sc_number_text.nd rfl (by first | exact Or.inl rfl | exact Or.inr rfl) (me_if (mt_eq hr.units (me_var 1 (pv 1)) (me_var 0 (pv 0))) (me_ct (call_or call_int1 call_int_str) ok_int rfl Z.f_int (by decide +kernel) (ma_cons (me_var 1 (pv 1)) ma_nil)) (me_neg (me_ct (call_or call_int1 call_int_str) ok_int rfl Z.f_int (by decide +kernel) (ma_cons (me_var 1 (pv 1)) ma_nil))))))
    (mss_one (by exact (ms_ret (me_if (mt_eq hr.units (me_ct call_str_int ok_stri rfl Z.f_str (by decide +kernel) (ma_cons (me_var 2 (pv 2)) ma_nil)) (me_var 0 (pv 0))) (me_var 2 (pv 2)) me_non)))))))
  exact ⟨_, m.pe.nox, start_ok m.sim rfl (by decide) (by decide) (fun _ _ _ _ z => z) h⟩
abbrev s_char_text : Stmt := top 16
abbrev n_char_text : List Str := ["char"]
theorem sc_char_text : FnScope n_char_text ["char"] (defScope s_char_text) := ⟨rfl, rfl, rfl, by decide +kernel, rfl, by decide +kernel, by decide +kernel⟩
noncomputable def d_char_text : PSt → SRes := (dSeq (dIfS (dTst (dOp2 gEq (dVar 0) (dC (.str [10])))) (dRet [] (dC (.str [92, 110]))) dNext)
    (dRet [] (dIf (dTst (dOp2 gIn (dVar 0) (dC (.str [91, 93, 92])))) (dOp2 gAdd (dC (.str [92])) (dVar 0)) (dVar 0))))
noncomputable def sem_char_text : List SV → Res SV := runDef [] 1 1 (d_char_text)
theorem fn_char_text (Z : Fac K mg) {f : Addr} {fd : FuncData} (F : FnP K "char_text" s_char_text f fd) (hm : mg "char_text" = some (.ref f))  : Fn P w K mg base "char_text" 1 ["char"] (spOf K 1 [] (sem_char_text)) := by
  refine ⟨f, fd, hm, F.kp, F.bindsN fun _ _ _ _ _ _ us hl => match us, hl with | [_], _ => rfl, ?_⟩
  refine F.ok sc_char_text (fun _ _ _ _ h => h.1) fun cdv A outer s H vs Q E (hr : Room 0 _) h => ?_
  have m : MSs (L2.cxOf CX0 P w K mg base n_char_text "char_text" (defScope s_char_text) f cdv A outer s H E).nox K (fun c d _ H => E c d H) [] (defBody s_char_text) _ (d_char_text) := (mss_cons (by exact (ms_if (mt_eq hr.units (me_var 0 (pv 0)) (me_str [10])) (mss_one (by exact (ms_ret (me_str [92, 110])))) mss_nil))
    (mss_one (by exact (ms_ret (me_if (mt_cmp (k_in rfl (hu_of hr)) ok_in (me_var 0 (pv 0)) (me_gstr [91, 93, 92] rfl Z.c_MARKS) (by rfl)) (me_add (me_str [92]) (me_var 0 (pv 0))) (me_var 0 (pv 0)))))))
  exact ⟨_, m.pe.nox, start_ok m.sim rfl (by decide) (by decide) (fun _ _ _ _ z => z) h⟩
abbrev s_glyphs_text : Stmt := top 17
abbrev n_glyphs_text : List Str := ["glyphs", "parts", "glyph", "inner", "char"]
theorem sc_glyphs_text : FnScope n_glyphs_text ["glyphs"] (defScope s_glyphs_text) := ⟨rfl, rfl, rfl, by decide +kernel, rfl, by decide +kernel, by decide +kernel⟩
noncomputable def lb1_glyphs_text : PSt → SRes := (dFgt [2, 3] (dSeq (dAsgF 3 (dBM "str" gJoin (dC (.str [])) (dCons (dLc [4] (dItA (dVar 2)) (gN 4) dYes (dCallN sem_char_text (dCons (dVar 4) dNil))) dNil)))
    (dExp (dMut 1 gApp (dCons (dIf (dTst (dOp2 gEq (dCB gLen (dCons (dVar 2) dNil)) (dC (.int 1)))) (dVar 3) (dOp2 gAdd (dOp2 gAdd (dC (.str [91])) (dVar 3)) (dC (.str [93])))) dNil)))))
theorem elb1_glyphs_text (τ : PSt) : lb1_glyphs_text τ = (dFgt [2, 3] (dSeq (dAsgF 3 (dBM "str" gJoin (dC (.str [])) (dCons (dLc [4] (dItA (dVar 2)) (gN 4) dYes (dCallN sem_char_text (dCons (dVar 4) dNil))) dNil)))
    (dExp (dMut 1 gApp (dCons (dIf (dTst (dOp2 gEq (dCB gLen (dCons (dVar 2) dNil)) (dC (.int 1)))) (dVar 3) (dOp2 gAdd (dOp2 gAdd (dC (.str [91])) (dVar 3)) (dC (.str [93])))) dNil))))) τ := rfl
noncomputable def d_glyphs_text : PSt → SRes := (dSeq (dAsg 1 (dLst dNil))
    (dSeq (dFor (dItA (dVar 0)) (gN 2) lb1_glyphs_text)
    (dRet [] (dBM "str" gJoin (dC (.str [])) (dCons (dVar 1) dNil)))))
noncomputable def sem_glyphs_text : List SV → Res SV := runDef [] 1 5 (d_glyphs_text)
theorem fn_glyphs_text (Z : Fac K mg) {f : Addr} {fd : FuncData} (F : FnP K "glyphs_text" s_glyphs_text f fd) (hm : mg "glyphs_text" = some (.ref f)) (g_char_text : Fn P w K mg base "char_text" 1 ["char"] (spOf K 1 [] sem_char_text)) : Fn P w K mg base "glyphs_text" 2 ["glyphs"] (spOf K 1 [] (sem_glyphs_text)) := by
  refine ⟨f, fd, hm, F.kp, F.bindsN fun _ _ _ _ _ _ us hl => match us, hl with | [_], _ => rfl, ?_⟩
  refine F.ok sc_glyphs_text (fun _ _ _ _ h => h.1) fun cdv A outer s H vs Q E (hr : Room 1 _) h => ?_
  have m : MSs (L2.cxOf CX0 P w K mg base n_glyphs_text "glyphs_text" (defScope s_glyphs_text) f cdv A outer s H E).nox K (fun c d _ H => E c d H) [] (defBody s_glyphs_text) _ (d_glyphs_text) := (mss_cons (by exact (ms_set (i := 1) sc_glyphs_text.nd rfl (by first | exact Or.inl rfl | exact Or.inr rfl) (me_lst ma_nil)))
    (mss_cons (by exact (ms_for PassesOwn.never rfl (mi_any (me_var 0 (pv 0))) (mg_name [2] sc_glyphs_text.nd rfl (by first | exact Or.inl rfl | exact Or.inr rfl)) (mss_fgt [2, 3] (mss_cons (by exact (ms_setF (i := 3) sc_glyphs_text.nd rfl (by first | exact Or.inl rfl | exact Or.inr rfl) (me_bm PySem.F.plainAttrs_str PySem.F.slot_str_join PySem.F.type_str_join (k_join rfl) ok_join (me_str []) (ma_cons (me_lc (own := [("char", 4)]) rfl sc_glyphs_text.nd (mi_any (me_var 2 (pv 2))) (blkOk_by (own := [("char", 4)]) (N := n_glyphs_text) (sc := defScope s_glyphs_text) (by decide +kernel)) (fun _ _ _ _ _ => by exact (mg_name _ sc_glyphs_text.nd rfl (by first | exact Or.inl rfl | exact Or.inr rfl))) (fun _ _ _ _ _ => by exact mts_nil) (fun _ _ _ _ _ => by exact (me_callN g_char_text (hr.mono (by decide)) rfl (ma_cons (me_var 4 (pv 4)) ma_nil) (dCons_len dNil_len)))) ma_nil))))
    (mss_one (by exact (ms_expr (me_mut (i := 1) PySem.F.slot_list_append PySem.F.type_list_append mt_append ok_app (pv 1) (ma_cons (me_if (mt_eq hr.units (me_cb (k_len rfl) ok_len rfl Z.f_len (by decide +kernel) (ma_cons (me_var 2 (pv 2)) ma_nil)) me_int) (me_var 3 (pv 3)) (me_add (me_add (me_str [91]) (me_var 3 (pv 3))) (me_str [93]))) ma_nil)))))))))
    (mss_one (by exact (ms_ret (me_bm PySem.F.plainAttrs_str PySem.F.slot_str_join PySem.F.type_str_join (k_join rfl) ok_join (me_str []) (ma_cons (me_var 1 (pv 1)) ma_nil)))))))
  exact ⟨_, m.pe.nox, start_ok m.sim rfl (by decide) (by decide) (fun _ _ _ _ z => z) h⟩
abbrev s_chars_of : Stmt := top 18
abbrev n_chars_of : List Str := ["word", "found", "at", "size"]
theorem sc_chars_of : FnScope n_chars_of ["word"] (defScope s_chars_of) := ⟨rfl, rfl, rfl, by decide +kernel, rfl, by decide +kernel, by decide +kernel⟩
noncomputable def lb1_chars_of : PSt → SRes := (dFgt [3] (dSeq (dAsgF 3 (dIf (dTst (dOp2 gEq (dOp2 gIx (dVar 0) (dVar 2)) (dC (.str [92])))) (dC (.int 2)) (dC (.int 1))))
    (dSeq (dIfS (dTst (dOp2 gGt (dOp2 gAdd (dVar 2) (dVar 3)) (dCB gLen (dCons (dVar 0) dNil)))) (dRet [] (dC .non)) dNext)
    (dSeq (dExp (dMut 1 gApp (dCons (dSl gSl (dVar 0) (dPart (dVar 2)) (dPart (dOp2 gAdd (dVar 2) (dVar 3)))) dNil)))
    (dAsgF 2 (dOp2 gAdd (dVar 2) (dVar 3)))))))
theorem elb1_chars_of (τ : PSt) : lb1_chars_of τ = (dFgt [3] (dSeq (dAsgF 3 (dIf (dTst (dOp2 gEq (dOp2 gIx (dVar 0) (dVar 2)) (dC (.str [92])))) (dC (.int 2)) (dC (.int 1))))
    (dSeq (dIfS (dTst (dOp2 gGt (dOp2 gAdd (dVar 2) (dVar 3)) (dCB gLen (dCons (dVar 0) dNil)))) (dRet [] (dC .non)) dNext)
    (dSeq (dExp (dMut 1 gApp (dCons (dSl gSl (dVar 0) (dPart (dVar 2)) (dPart (dOp2 gAdd (dVar 2) (dVar 3)))) dNil)))
    (dAsgF 2 (dOp2 gAdd (dVar 2) (dVar 3))))))) τ := rfl
noncomputable def d_chars_of : PSt → SRes := (dSeq (dAsg 1 (dLst dNil))
    (dSeq (dAsgF 2 (dC (.int 0)))
    (dSeq (whileF FUEL (dTst (dOp2 gLt (dVar 2) (dCB gLen (dCons (dVar 0) dNil)))) lb1_chars_of)
    (dRet [] (dVar 1)))))
noncomputable def sem_chars_of : List SV → Res SV := runDef [] 1 4 (d_chars_of)
theorem fn_chars_of (Z : Fac K mg) {f : Addr} {fd : FuncData} (F : FnP K "chars_of" s_chars_of f fd) (hm : mg "chars_of" = some (.ref f))  : Fn P w K mg base "chars_of" 1 ["word"] (spOf K 1 [] (sem_chars_of)) := by
  refine ⟨f, fd, hm, F.kp, F.bindsN fun _ _ _ _ _ _ us hl => match us, hl with | [_], _ => rfl, ?_⟩
  refine F.ok sc_chars_of (fun _ _ _ _ h => h.1) fun cdv A outer s H vs Q E (hr : Room 0 _) h => ?_
  have m : MSs (L2.cxOf CX0 P w K mg base n_chars_of "chars_of" (defScope s_chars_of) f cdv A outer s H E).nox K (fun c d _ H => E c d H) [] (defBody s_chars_of) _ (d_chars_of) := (mss_cons (by exact (ms_set (i := 1) sc_chars_of.nd rfl (by first | exact Or.inl rfl | exact Or.inr rfl) (me_lst ma_nil)))
    (mss_cons (by exact (ms_setF (i := 2) sc_chars_of.nd rfl (by first | exact Or.inl rfl | exact Or.inr rfl) me_int))
    (mss_cons (by exact (ms_while FUEL PassesOwn.never (mt_cmp op_lt ok_lt (me_var 2 (pv 2)) (me_cb (k_len rfl) ok_len rfl Z.f_len (by decide +kernel) (ma_cons (me_var 0 (pv 0)) ma_nil)) (nomark _)) (mss_fgt [3] (mss_cons (by exact (ms_setF (i := 3) sc_chars_of.nd rfl (by first | exact Or.inl rfl | exact Or.inr rfl) (me_if (mt_eq hr.units (me_ixX (hu_of hr) (me_var 0 (pv 0)) (me_var 2 (pv 2)) (fun _ _ => rfl)) (me_str [92])) me_int me_int)))
    (mss_cons (by exact (ms_if (mt_cmp op_gt ok_gt (me_add (me_var 2 (pv 2)) (me_var 3 (pv 3))) (me_cb (k_len rfl) ok_len rfl Z.f_len (by decide +kernel) (ma_cons (me_var 0 (pv 0)) ma_nil)) (nomark _)) (mss_one (by exact (ms_ret me_non))) mss_nil))
    (mss_cons (by exact (ms_expr (me_mut (i := 1) PySem.F.slot_list_append PySem.F.type_list_append mt_append ok_app (pv 1) (ma_cons (me_slice (me_var 0 (pv 0)) (mo_some (me_var 2 (pv 2))) (mo_some (me_add (me_var 2 (pv 2)) (me_var 3 (pv 3))))) ma_nil))))
    (mss_one (by exact (ms_setF (i := 2) sc_chars_of.nd rfl (by first | exact Or.inl rfl | exact Or.inr rfl) (me_add (me_var 2 (pv 2)) (me_var 3 (pv 3))))))))))))
    (mss_one (by exact (ms_ret (me_var 1 (pv 1))))))))
  exact ⟨_, m.pe.nox, start_ok m.sim rfl (by decide) (by decide) (fun _ _ _ _ z => z) h⟩
abbrev s_plain_char : Stmt := top 19
abbrev n_plain_char : List Str := ["written"]
theorem sc_plain_char : FnScope n_plain_char ["written"] (defScope s_plain_char) := ⟨rfl, rfl, rfl, by decide +kernel, rfl, by decide +kernel, by decide +kernel⟩
noncomputable def d_plain_char : PSt → SRes := (dRet [] (dIf (dTst (dOp2 gEq (dVar 0) (dC (.str [92, 110])))) (dC (.str [10])) (dOp2 gIx (dVar 0) (dOp1 gNeg (dC (.int 1))))))
noncomputable def sem_plain_char : List SV → Res SV := runDef [] 1 1 (d_plain_char)
theorem fn_plain_char (Z : Fac K mg) {f : Addr} {fd : FuncData} (F : FnP K "plain_char" s_plain_char f fd) (hm : mg "plain_char" = some (.ref f))  : Fn P w K mg base "plain_char" 1 ["written"] (spOf K 1 [] (sem_plain_char)) := by
  refine ⟨f, fd, hm, F.kp, F.bindsN fun _ _ _ _ _ _ us hl => match us, hl with | [_], _ => rfl, ?_⟩
  refine F.ok sc_plain_char (fun _ _ _ _ h => h.1) fun cdv A outer s H vs Q E (hr : Room 0 _) h => ?_
  have m : MSs (L2.cxOf CX0 P w K mg base n_plain_char "plain_char" (defScope s_plain_char) f cdv A outer s H E).nox K (fun c d _ H => E c d H) [] (defBody s_plain_char) _ (d_plain_char) := (mss_one (by exact (ms_ret (me_if (mt_eq hr.units (me_var 0 (pv 0)) (me_str [92, 110])) (me_str [10]) (me_ixX (hu_of hr) (me_var 0 (pv 0)) (me_neg me_int) (fun _ _ => rfl))))))
  exact ⟨_, m.pe.nox, start_ok m.sim rfl (by decide) (by decide) (fun _ _ _ _ z => z) h⟩
abbrev s_read_glyphs : Stmt := top 20
abbrev n_read_glyphs : List Str := ["word", "chars", "glyphs", "inner", "written", "glyph"]
theorem sc_read_glyphs : FnScope n_read_glyphs ["word"] (defScope s_read_glyphs) := ⟨rfl, rfl, rfl, by decide +kernel, rfl, by decide +kernel, by decide +kernel⟩
noncomputable def lb1_read_glyphs : PSt → SRes := (dFgt [4] (dIfS (dAnd (dTst (dOp2 gEq (dVar 4) (dC (.str [91])))) (dTst (dOp2 gIsN (dVar 3) (dC .non)))) (dAsgF 3 (dC (.str []))) (dIfS (dAnd (dTst (dOp2 gEq (dVar 4) (dC (.str [93])))) (dTst (dOp2 gNotN (dVar 3) (dC .non)))) (dSeq (dExp (dMut 2 gApp (dCons (dVar 3) dNil)))
    (dAsgF 3 (dC .non))) (dIfS (dTst (dOp2 gIsN (dVar 3) (dC .non))) (dExp (dMut 2 gApp (dCons (dCallN sem_plain_char (dCons (dVar 4) dNil)) dNil))) (dAsgF 3 (dOp2 gAdd (dVar 3) (dCallN sem_plain_char (dCons (dVar 4) dNil))))))))
theorem elb1_read_glyphs (τ : PSt) : lb1_read_glyphs τ = (dFgt [4] (dIfS (dAnd (dTst (dOp2 gEq (dVar 4) (dC (.str [91])))) (dTst (dOp2 gIsN (dVar 3) (dC .non)))) (dAsgF 3 (dC (.str []))) (dIfS (dAnd (dTst (dOp2 gEq (dVar 4) (dC (.str [93])))) (dTst (dOp2 gNotN (dVar 3) (dC .non)))) (dSeq (dExp (dMut 2 gApp (dCons (dVar 3) dNil)))
    (dAsgF 3 (dC .non))) (dIfS (dTst (dOp2 gIsN (dVar 3) (dC .non))) (dExp (dMut 2 gApp (dCons (dCallN sem_plain_char (dCons (dVar 4) dNil)) dNil))) (dAsgF 3 (dOp2 gAdd (dVar 3) (dCallN sem_plain_char (dCons (dVar 4) dNil)))))))) τ := rfl
noncomputable def st1_read_glyphs : PSt → SRes := (dAsgF 1 (dCallN sem_chars_of (dCons (dVar 0) dNil)))
theorem est1_read_glyphs (τ : PSt) : st1_read_glyphs τ = (dAsgF 1 (dCallN sem_chars_of (dCons (dVar 0) dNil))) τ := rfl
noncomputable def st2_read_glyphs : PSt → SRes := (dIfS (dNot (dTru (dVar 1))) (dRet [] (dC .non)) dNext)
theorem est2_read_glyphs (τ : PSt) : st2_read_glyphs τ = (dIfS (dNot (dTru (dVar 1))) (dRet [] (dC .non)) dNext) τ := rfl
noncomputable def st3_read_glyphs : PSt → SRes := (dAsg 2 (dLst dNil))
theorem est3_read_glyphs (τ : PSt) : st3_read_glyphs τ = (dAsg 2 (dLst dNil)) τ := rfl
noncomputable def st4_read_glyphs : PSt → SRes := (dAsgF 3 (dC .non))
theorem est4_read_glyphs (τ : PSt) : st4_read_glyphs τ = (dAsgF 3 (dC .non)) τ := rfl
noncomputable def st5_read_glyphs : PSt → SRes := (dFor (dItA (dVar 1)) (gN 4) lb1_read_glyphs)
theorem est5_read_glyphs (τ : PSt) : st5_read_glyphs τ = (dFor (dItA (dVar 1)) (gN 4) lb1_read_glyphs) τ := rfl
noncomputable def st6_read_glyphs : PSt → SRes := (dIfS (dOr (dTst (dOp2 gNotN (dVar 3) (dC .non))) (dNot (dTru (dCB gAll (dCons (dLc [5] (dItA (dVar 2)) (gN 5) dYes (dCallN sem_is_glyph_name (dCons (dVar 5) dNil))) dNil))))) (dRet [] (dC .non)) dNext)
theorem est6_read_glyphs (τ : PSt) : st6_read_glyphs τ = (dIfS (dOr (dTst (dOp2 gNotN (dVar 3) (dC .non))) (dNot (dTru (dCB gAll (dCons (dLc [5] (dItA (dVar 2)) (gN 5) dYes (dCallN sem_is_glyph_name (dCons (dVar 5) dNil))) dNil))))) (dRet [] (dC .non)) dNext) τ := rfl
noncomputable def st7_read_glyphs : PSt → SRes := (dRet [] (dIf (dTst (dOp2 gEq (dCallN sem_glyphs_text (dCons (dVar 2) dNil)) (dVar 0))) (dVar 2) (dC .non)))
theorem est7_read_glyphs (τ : PSt) : st7_read_glyphs τ = (dRet [] (dIf (dTst (dOp2 gEq (dCallN sem_glyphs_text (dCons (dVar 2) dNil)) (dVar 0))) (dVar 2) (dC .non))) τ := rfl
noncomputable def d_read_glyphs : PSt → SRes := (dSeq st1_read_glyphs
    (dSeq st2_read_glyphs
    (dSeq st3_read_glyphs
    (dSeq st4_read_glyphs
    (dSeq st5_read_glyphs
    (dSeq st6_read_glyphs
    st7_read_glyphs))))))
noncomputable def sem_read_glyphs : List SV → Res SV := runDef [] 1 6 (d_read_glyphs)
theorem fn_read_glyphs (Z : Fac K mg) {f : Addr} {fd : FuncData} (F : FnP K "read_glyphs" s_read_glyphs f fd) (hm : mg "read_glyphs" = some (.ref f)) (g_chars_of : Fn P w K mg base "chars_of" 1 ["word"] (spOf K 1 [] sem_chars_of)) (g_plain_char : Fn P w K mg base "plain_char" 1 ["written"] (spOf K 1 [] sem_plain_char)) (g_is_glyph_name : Fn P w K mg base "is_glyph_name" 1 ["glyph"] (spOf K 1 [] sem_is_glyph_name)) (g_glyphs_text : Fn P w K mg base "glyphs_text" 2 ["glyphs"] (spOf K 1 [] sem_glyphs_text)) : Fn P w K mg base "read_glyphs" 3 ["word"] (spOf K 1 [] (sem_read_glyphs)) := by
  refine ⟨f, fd, hm, F.kp, F.bindsN fun _ _ _ _ _ _ us hl => match us, hl with | [_], _ => rfl, ?_⟩
  refine F.ok sc_read_glyphs (fun _ _ _ _ h => h.1) fun cdv A outer s H vs Q E (hr : Room 2 _) h => ?_
  have m : MSs (L2.cxOf CX0 P w K mg base n_read_glyphs "read_glyphs" (defScope s_read_glyphs) f cdv A outer s H E).nox K (fun c d _ H => E c d H) [] (defBody s_read_glyphs) _ (d_read_glyphs) := (mss_cons (by exact (ms_setF (i := 1) sc_read_glyphs.nd rfl (by first | exact Or.inl rfl | exact Or.inr rfl) (me_callN g_chars_of (hr.mono (by decide)) rfl (ma_cons (me_var 0 (pv 0)) ma_nil) (dCons_len dNil_len))))
    (mss_cons (by exact (ms_if (mt_not (mt_tru (me_var 1 (pv 1)))) (mss_one (by exact (ms_ret me_non))) mss_nil))
    (mss_cons (by exact (ms_set (i := 2) sc_read_glyphs.nd rfl (by first | exact Or.inl rfl | exact Or.inr rfl) (me_lst ma_nil)))
    (mss_cons (by exact (ms_setF (i := 3) sc_read_glyphs.nd rfl (by first | exact Or.inl rfl | exact Or.inr rfl) me_non))
    (mss_cons (by exact (ms_for PassesOwn.never rfl (mi_any (me_var 1 (pv 1))) (mg_name [4] sc_read_glyphs.nd rfl (by first | exact Or.inl rfl | exact Or.inr rfl)) (mss_fgt [4] (mss_one (by exact (ms_if (mt_w (mw_and (mt_eq hr.units (me_var 4 (pv 4)) (me_str [91])) (mw_and1 (mt_cmp op_isN ok_isN (me_var 3 (pv 3)) me_non (nomark _))))) (mss_one (by exact (ms_setF (i := 3) sc_read_glyphs.nd rfl (by first | exact Or.inl rfl | exact Or.inr rfl) (me_str [])))) (mss_one (by exact (ms_if (mt_w (mw_and (mt_eq hr.units (me_var 4 (pv 4)) (me_str [93])) (mw_and1 (mt_cmp op_notN ok_notN (me_var 3 (pv 3)) me_non (nomark _))))) (mss_cons (by exact (ms_expr (me_mut (i := 2) PySem.F.slot_list_append PySem.F.type_list_append mt_append ok_app (pv 2) (ma_cons (me_var 3 (pv 3)) ma_nil))))
    (mss_one (by exact (ms_setF (i := 3) sc_read_glyphs.nd rfl (by first | exact Or.inl rfl | exact Or.inr rfl) me_non)))) (mss_one (by exact (ms_if (mt_cmp op_isN ok_isN (me_var 3 (pv 3)) me_non (nomark _)) (mss_one (by exact (ms_expr (me_mut (i := 2) PySem.F.slot_list_append PySem.F.type_list_append mt_append ok_app (pv 2) (ma_cons (me_callN g_plain_char (hr.mono (by decide)) rfl (ma_cons (me_var 4 (pv 4)) ma_nil) (dCons_len dNil_len)) ma_nil))))) (mss_one (by exact (ms_setF (i := 3) sc_read_glyphs.nd rfl (by first | exact Or.inl rfl | exact Or.inr rfl) (me_add (me_var 3 (pv 3)) (me_callN g_plain_char (hr.mono (by decide)) rfl (ma_cons (me_var 4 (pv 4)) ma_nil) (dCons_len dNil_len))))))))))))))))))
    (mss_cons (by exact (ms_if (mt_w (mw_or (mt_cmp op_notN ok_notN (me_var 3 (pv 3)) me_non (nomark _)) (mw_or1 (mt_not (mt_tru (me_cb (k_all rfl rfl) ok_all rfl Z.f_all (by decide +kernel) (ma_cons (me_lc (own := [("glyph", 5)]) rfl sc_read_glyphs.nd (mi_any (me_var 2 (pv 2))) (blkOk_by (own := [("glyph", 5)]) (N := n_read_glyphs) (sc := defScope s_read_glyphs) (by decide +kernel)) (fun _ _ _ _ _ => by exact (mg_name _ sc_read_glyphs.nd rfl (by first | exact Or.inl rfl | exact Or.inr rfl))) (fun _ _ _ _ _ => by exact mts_nil) (fun _ _ _ _ _ => by exact (me_callN g_is_glyph_name (hr.mono (by decide)) rfl (ma_cons (me_var 5 (pv 5)) ma_nil) (dCons_len dNil_len)))) ma_nil))))))) (mss_one (by exact (ms_ret me_non))) mss_nil))
    (mss_one (by exact (ms_ret (me_if (mt_eq hr.units (me_callN g_glyphs_text (hr.mono (by decide)) rfl (ma_cons (me_var 2 (pv 2)) ma_nil) (dCons_len dNil_len)) (me_var 0 (pv 0))) (me_var 2 (pv 2)) me_non))))))))))
  exact ⟨_, m.pe.nox, start_ok m.sim rfl (by decide) (by decide) (fun _ _ _ _ z => z) h⟩
abbrev s_row_line : Stmt := top 21
abbrev n_row_line : List Str := ["row"]
theorem sc_row_line : FnScope n_row_line ["row"] (defScope s_row_line) := ⟨rfl, rfl, rfl, by decide +kernel, rfl, by decide +kernel, by decide +kernel⟩
noncomputable def d_row_line : PSt → SRes := (dRet [] (dOp2 gAdd (dOp2 gAdd (dOp2 gAdd (dOp2 gAdd (dOp2 gAdd (dOp2 gAdd (dCB gStrI (dCons (dOp2 gIx (dVar 0) (dC (.int 0))) dNil)) (dC (.str [32]))) (dCB gStrI (dCons (dOp2 gIx (dVar 0) (dC (.int 1))) dNil))) (dC (.str [32]))) (dOp2 gIx (dVar 0) (dC (.int 2)))) (dC (.str [32]))) (dCallN sem_glyphs_text (dCons (dOp2 gIx (dVar 0) (dC (.int 3))) dNil))))
noncomputable def sem_row_line : List SV → Res SV := runDef [] 1 1 (d_row_line)
theorem fn_row_line (Z : Fac K mg) {f : Addr} {fd : FuncData} (F : FnP K "row_line" s_row_line f fd) (hm : mg "row_line" = some (.ref f)) (g_glyphs_text : Fn P w K mg base "glyphs_text" 2 ["glyphs"] (spOf K 1 [] sem_glyphs_text)) : Fn P w K mg base "row_line" 3 ["row"] (spOf K 1 [] (sem_row_line)) := by
  refine ⟨f, fd, hm, F.kp, F.bindsN fun _ _ _ _ _ _ us hl => match us, hl with | [_], _ => rfl, ?_⟩
  refine F.ok sc_row_line (fun _ _ _ _ h => h.1) fun cdv A outer s H vs Q E (hr : Room 2 _) h => ?_
  have m : MSs (L2.cxOf CX0 P w K mg base n_row_line "row_line" (defScope s_row_line) f cdv A outer s H E).nox K (fun c d _ H => E c d H) [] (defBody s_row_line) _ (d_row_line) := (mss_one (by exact (ms_ret (me_add (me_add (me_add (me_add (me_add (me_add (me_ct call_str_int ok_stri rfl Z.f_str (by decide +kernel) (ma_cons (me_ixX (hu_of hr) (me_var 0 (pv 0)) me_int (fun _ _ => rfl)) ma_nil)) (me_str [32])) (me_ct call_str_int ok_stri rfl Z.f_str (by decide +kernel) (ma_cons (me_ixX (hu_of hr) (me_var 0 (pv 0)) me_int (fun _ _ => rfl)) ma_nil))) (me_str [32])) (me_ixX (hu_of hr) (me_var 0 (pv 0)) me_int (fun _ _ => rfl))) (me_str [32])) (me_callN g_glyphs_text (hr.mono (by decide)) rfl (ma_cons (me_ixX (hu_of hr) (me_var 0 (pv 0)) me_int (fun _ _ => rfl)) ma_nil) (dCons_len dNil_len))))))
  exact ⟨_, m.pe.nox, start_ok m.sim rfl (by decide) (by decide) (fun _ _ _ _ z => z) h⟩
abbrev s_read_row : Stmt := top 22
abbrev n_read_row : List Str := ["line", "words", "x", "y", "glyphs"]
theorem sc_read_row : FnScope n_read_row ["line"] (defScope s_read_row) := ⟨rfl, rfl, rfl, by decide +kernel, rfl, by decide +kernel, by decide +kernel⟩
noncomputable def d_read_row : PSt → SRes := (dSeq (dAsgF 1 (dBM "str" gSplit (dVar 0) (dCons (dC (.str [32])) dNil)))
    (dSeq (dIfS (dOr (dTst (dOp2 gNe (dCB gLen (dCons (dVar 1) dNil)) (dC (.int 4)))) (dNot (dTru (dCallN sem_is_name (dCons (dOp2 gIx (dVar 1) (dC (.int 2))) dNil))))) (dRet [] (dC .non)) dNext)
    (dSeq (dPar3 2 3 4 (dCons (dCallN sem_number_text (dCons (dOp2 gIx (dVar 1) (dC (.int 0))) dNil)) (dCons (dCallN sem_number_text (dCons (dOp2 gIx (dVar 1) (dC (.int 1))) dNil)) (dCons (dCallN sem_read_glyphs (dCons (dOp2 gIx (dVar 1) (dC (.int 3))) dNil)) dNil))))
    (dSeq (dIfS (dOr (dTst (dOp2 gIsN (dVar 2) (dC .non))) (dOr (dTst (dOp2 gIsN (dVar 3) (dC .non))) (dTst (dOp2 gIsN (dVar 4) (dC .non))))) (dRet [] (dC .non)) dNext)
    (dRet [] (dTup (dCons (dVar 2) (dCons (dVar 3) (dCons (dOp2 gIx (dVar 1) (dC (.int 2))) (dCons (dVar 4) dNil))))))))))
noncomputable def sem_read_row : List SV → Res SV := runDef [] 1 5 (d_read_row)
theorem fn_read_row (Z : Fac K mg) {f : Addr} {fd : FuncData} (F : FnP K "read_row" s_read_row f fd) (hm : mg "read_row" = some (.ref f)) (g_is_name : Fn P w K mg base "is_name" 1 ["text"] (spOf K 1 [] sem_is_name)) (g_read_glyphs : Fn P w K mg base "read_glyphs" 3 ["word"] (spOf K 1 [] sem_read_glyphs)) (g_number_text : Fn P w K mg base "number_text" 1 ["word"] (spOf K 1 [] sem_number_text)) : Fn P w K mg base "read_row" 4 ["line"] (spOf K 1 [] (sem_read_row)) := by
  refine ⟨f, fd, hm, F.kp, F.bindsN fun _ _ _ _ _ _ us hl => match us, hl with | [_], _ => rfl, ?_⟩
  refine F.ok sc_read_row (fun _ _ _ _ h => h.1) fun cdv A outer s H vs Q E (hr : Room 3 _) h => ?_
  have m : MSs (L2.cxOf CX0 P w K mg base n_read_row "read_row" (defScope s_read_row) f cdv A outer s H E).nox K (fun c d _ H => E c d H) [] (defBody s_read_row) _ (d_read_row) := (mss_cons (by exact (ms_setF (i := 1) sc_read_row.nd rfl (by first | exact Or.inl rfl | exact Or.inr rfl) (me_bm PySem.F.plainAttrs_str PySem.F.slot_str_split PySem.F.type_str_split mt_split ok_split (me_var 0 (pv 0)) (ma_cons (me_str [32]) ma_nil))))
    (mss_cons (by exact (ms_if (mt_w (mw_or (mt_ne hr.units (me_cb (k_len rfl) ok_len rfl Z.f_len (by decide +kernel) (ma_cons (me_var 1 (pv 1)) ma_nil)) me_int) (mw_or1 (mt_not (mt_tru (me_callN g_is_name (hr.mono (by decide)) rfl (ma_cons (me_ixX (hu_of hr) (me_var 1 (pv 1)) me_int (fun _ _ => rfl)) ma_nil) (dCons_len dNil_len))))))) (mss_one (by exact (ms_ret me_non))) mss_nil))
    (mss_cons (by exact (ms_par3 (i := 2) (j := 3) (l := 4) rfl sc_read_row.nd rfl rfl rfl (by decide) (by decide) (by decide) rfl rfl rfl (ma_cons (me_callN g_number_text (hr.mono (by decide)) rfl (ma_cons (me_ixX (hu_of hr) (me_var 1 (pv 1)) me_int (fun _ _ => rfl)) ma_nil) (dCons_len dNil_len)) (ma_cons (me_callN g_number_text (hr.mono (by decide)) rfl (ma_cons (me_ixX (hu_of hr) (me_var 1 (pv 1)) me_int (fun _ _ => rfl)) ma_nil) (dCons_len dNil_len)) (ma_cons (me_callN g_read_glyphs (hr.mono (by decide)) rfl (ma_cons (me_ixX (hu_of hr) (me_var 1 (pv 1)) me_int (fun _ _ => rfl)) ma_nil) (dCons_len dNil_len)) ma_nil))) rfl))
    (mss_cons (by exact (ms_if (mt_w (mw_or (mt_cmp op_isN ok_isN (me_var 2 (pv 2)) me_non (nomark _)) (mw_or (mt_cmp op_isN ok_isN (me_var 3 (pv 3)) me_non (nomark _)) (mw_or1 (mt_cmp op_isN ok_isN (me_var 4 (pv 4)) me_non (nomark _)))))) (mss_one (by exact (ms_ret me_non))) mss_nil))
    (mss_one (by exact (ms_ret (me_tup (ma_cons (me_var 2 (pv 2)) (ma_cons (me_var 3 (pv 3)) (ma_cons (me_ixX (hu_of hr) (me_var 1 (pv 1)) me_int (fun _ _ => rfl)) (ma_cons (me_var 4 (pv 4)) ma_nil))))))))))))
  exact ⟨_, m.pe.nox, start_ok m.sim rfl (by decide) (by decide) (fun _ _ _ _ z => z) h⟩
abbrev s_read_head : Stmt := top 23
abbrev n_read_head : List Str := ["line", "words", "number", "many"]
theorem sc_read_head : FnScope n_read_head ["line"] (defScope s_read_head) := ⟨rfl, rfl, rfl, by decide +kernel, rfl, by decide +kernel, by decide +kernel⟩
noncomputable def d_read_head : PSt → SRes := (dSeq (dAsgF 1 (dBM "str" gSplit (dVar 0) (dCons (dC (.str [32])) dNil)))
    (dSeq (dIfS (dOr (dTst (dOp2 gNe (dCB gLen (dCons (dVar 1) dNil)) (dC (.int 3)))) (dTst (dOp2 gNe (dOp2 gIx (dVar 1) (dC (.int 0))) (dC (.str [112, 97, 103, 101]))))) (dRet [] (dC .non)) dNext)
    (dSeq (dPar 2 3 (dCons (dCallN sem_number_text (dCons (dOp2 gIx (dVar 1) (dC (.int 1))) dNil)) (dCons (dCallN sem_number_text (dCons (dOp2 gIx (dVar 1) (dC (.int 2))) dNil)) dNil)))
    (dSeq (dIfS (dOr (dTst (dOp2 gIsN (dVar 2) (dC .non))) (dOr (dTst (dOp2 gIsN (dVar 3) (dC .non))) (dOr (dTst (dOp2 gLt (dVar 2) (dC (.int 0)))) (dTst (dOp2 gLt (dVar 3) (dC (.int 0))))))) (dRet [] (dC .non)) dNext)
    (dRet [] (dTup (dCons (dVar 2) (dCons (dVar 3) dNil))))))))
noncomputable def sem_read_head : List SV → Res SV := runDef [] 1 4 (d_read_head)
theorem fn_read_head (Z : Fac K mg) {f : Addr} {fd : FuncData} (F : FnP K "read_head" s_read_head f fd) (hm : mg "read_head" = some (.ref f)) (g_number_text : Fn P w K mg base "number_text" 1 ["word"] (spOf K 1 [] sem_number_text)) : Fn P w K mg base "read_head" 2 ["line"] (spOf K 1 [] (sem_read_head)) := by
  refine ⟨f, fd, hm, F.kp, F.bindsN fun _ _ _ _ _ _ us hl => match us, hl with | [_], _ => rfl, ?_⟩
  refine F.ok sc_read_head (fun _ _ _ _ h => h.1) fun cdv A outer s H vs Q E (hr : Room 1 _) h => ?_
  have m : MSs (L2.cxOf CX0 P w K mg base n_read_head "read_head" (defScope s_read_head) f cdv A outer s H E).nox K (fun c d _ H => E c d H) [] (defBody s_read_head) _ (d_read_head) := (mss_cons (by exact (ms_setF (i := 1) sc_read_head.nd rfl (by first | exact Or.inl rfl | exact Or.inr rfl) (me_bm PySem.F.plainAttrs_str PySem.F.slot_str_split PySem.F.type_str_split mt_split ok_split (me_var 0 (pv 0)) (ma_cons (me_str [32]) ma_nil))))
    (mss_cons (by exact (ms_if (mt_w (mw_or (mt_ne hr.units (me_cb (k_len rfl) ok_len rfl Z.f_len (by decide +kernel) (ma_cons (me_var 1 (pv 1)) ma_nil)) me_int) (mw_or1 (mt_ne hr.units (me_ixX (hu_of hr) (me_var 1 (pv 1)) me_int (fun _ _ => rfl)) (me_str [112, 97, 103, 101]))))) (mss_one (by exact (ms_ret me_non))) mss_nil))
    (mss_cons (by exact (ms_par (i := 2) (j := 3) rfl sc_read_head.nd rfl rfl (by decide) rfl rfl (ma_cons (me_callN g_number_text (hr.mono (by decide)) rfl (ma_cons (me_ixX (hu_of hr) (me_var 1 (pv 1)) me_int (fun _ _ => rfl)) ma_nil) (dCons_len dNil_len)) (ma_cons (me_callN g_number_text (hr.mono (by decide)) rfl (ma_cons (me_ixX (hu_of hr) (me_var 1 (pv 1)) me_int (fun _ _ => rfl)) ma_nil) (dCons_len dNil_len)) ma_nil)) rfl))
    (mss_cons (by exact (ms_if (mt_w (mw_or (mt_cmp op_isN ok_isN (me_var 2 (pv 2)) me_non (nomark _)) (mw_or (mt_cmp op_isN ok_isN (me_var 3 (pv 3)) me_non (nomark _)) (mw_or (mt_cmp op_lt ok_lt (me_var 2 (pv 2)) me_int (nomark _)) (mw_or1 (mt_cmp op_lt ok_lt (me_var 3 (pv 3)) me_int (nomark _))))))) (mss_one (by exact (ms_ret me_non))) mss_nil))
    (mss_one (by exact (ms_ret (me_tup (ma_cons (me_var 2 (pv 2)) (ma_cons (me_var 3 (pv 3)) ma_nil))))))))))
  exact ⟨_, m.pe.nox, start_ok m.sim rfl (by decide) (by decide) (fun _ _ _ _ z => z) h⟩
abbrev s_write_pages : Stmt := top 24
abbrev n_write_pages : List Str := ["pages", "lines", "page", "line", "row"]
theorem sc_write_pages : FnScope n_write_pages ["pages"] (defScope s_write_pages) := ⟨rfl, rfl, rfl, by decide +kernel, rfl, by decide +kernel, by decide +kernel⟩
noncomputable def lb1_write_pages : PSt → SRes := (dFgt [2] (dSeq (dExp (dMut 1 gApp (dCons (dOp2 gAdd (dOp2 gAdd (dOp2 gAdd (dC (.str [112, 97, 103, 101, 32])) (dCB gStrI (dCons (dOp2 gIx (dVar 2) (dC (.int 1))) dNil))) (dC (.str [32]))) (dCB gStrI (dCons (dCB gLen (dCons (dOp2 gIx (dVar 2) (dC (.int 2))) dNil)) dNil))) dNil)))
    (dExp (dMut 1 gExtX (dCons (dLc [4] (dItA (dOp2 gIx (dVar 2) (dC (.int 2)))) (gN 4) dYes (dCallN sem_row_line (dCons (dVar 4) dNil))) dNil)))))
theorem elb1_write_pages (τ : PSt) : lb1_write_pages τ = (dFgt [2] (dSeq (dExp (dMut 1 gApp (dCons (dOp2 gAdd (dOp2 gAdd (dOp2 gAdd (dC (.str [112, 97, 103, 101, 32])) (dCB gStrI (dCons (dOp2 gIx (dVar 2) (dC (.int 1))) dNil))) (dC (.str [32]))) (dCB gStrI (dCons (dCB gLen (dCons (dOp2 gIx (dVar 2) (dC (.int 2))) dNil)) dNil))) dNil)))
    (dExp (dMut 1 gExtX (dCons (dLc [4] (dItA (dOp2 gIx (dVar 2) (dC (.int 2)))) (gN 4) dYes (dCallN sem_row_line (dCons (dVar 4) dNil))) dNil))))) τ := rfl
noncomputable def d_write_pages : PSt → SRes := (dSeq (dAsg 1 (dLst dNil))
    (dSeq (dFor (dItA (dVar 0)) (gN 2) lb1_write_pages)
    (dRet [] (dBM "str" gJoin (dC (.str [])) (dCons (dLc [3] (dItA (dVar 1)) (gN 3) dYes (dOp2 gAdd (dVar 3) (dC (.str [10])))) dNil)))))
noncomputable def sem_write_pages : List SV → Res SV := runDef [] 1 5 (d_write_pages)
theorem fn_write_pages (Z : Fac K mg) {f : Addr} {fd : FuncData} (F : FnP K "write_pages" s_write_pages f fd) (hm : mg "write_pages" = some (.ref f)) (g_row_line : Fn P w K mg base "row_line" 3 ["row"] (spOf K 1 [] sem_row_line)) : Fn P w K mg base "write_pages" 4 ["pages"] (spOf K 1 [] (sem_write_pages)) := by
  refine ⟨f, fd, hm, F.kp, F.bindsN fun _ _ _ _ _ _ us hl => match us, hl with | [_], _ => rfl, ?_⟩
  refine F.ok sc_write_pages (fun _ _ _ _ h => h.1) fun cdv A outer s H vs Q E (hr : Room 3 _) h => ?_
  have m : MSs (L2.cxOf CX0 P w K mg base n_write_pages "write_pages" (defScope s_write_pages) f cdv A outer s H E).nox K (fun c d _ H => E c d H) [] (defBody s_write_pages) _ (d_write_pages) := (mss_cons (by exact (ms_set (i := 1) sc_write_pages.nd rfl (by first | exact Or.inl rfl | exact Or.inr rfl) (me_lst ma_nil)))
    (mss_cons (by exact (ms_for PassesOwn.never rfl (mi_any (me_var 0 (pv 0))) (mg_name [2] sc_write_pages.nd rfl (by first | exact Or.inl rfl | exact Or.inr rfl)) (mss_fgt [2] (mss_cons (by exact (ms_expr (me_mut (i := 1) PySem.F.slot_list_append PySem.F.type_list_append mt_append ok_app (pv 1) (ma_cons (me_add (me_add (me_add (me_str [112, 97, 103, 101, 32]) (me_ct call_str_int ok_stri rfl Z.f_str (by decide +kernel) (ma_cons (me_ixX (hu_of hr) (me_var 2 (pv 2)) me_int (fun _ _ => rfl)) ma_nil))) (me_str [32])) (me_ct call_str_int ok_stri rfl Z.f_str (by decide +kernel) (ma_cons (me_cb (k_len rfl) ok_len rfl Z.f_len (by decide +kernel) (ma_cons (me_ixX (hu_of hr) (me_var 2 (pv 2)) me_int (fun _ _ => rfl)) ma_nil)) ma_nil))) ma_nil))))
    (mss_one (by exact (ms_expr (me_mut (i := 1) PySem.F.slot_list_extend PySem.F.type_list_extend (mt_extX rfl) ok_extX (pv 1) (ma_cons (me_lc (own := [("row", 4)]) rfl sc_write_pages.nd (mi_any (me_ixX (hu_of hr) (me_var 2 (pv 2)) me_int (fun _ _ => rfl))) (blkOk_by (own := [("row", 4)]) (N := n_write_pages) (sc := defScope s_write_pages) (by decide +kernel)) (fun _ _ _ _ _ => by exact (mg_name _ sc_write_pages.nd rfl (by first | exact Or.inl rfl | exact Or.inr rfl))) (fun _ _ _ _ _ => by exact mts_nil) (fun _ _ _ _ _ => by exact (me_callN g_row_line (hr.mono (by decide)) rfl (ma_cons (me_var 4 (pv 4)) ma_nil) (dCons_len dNil_len)))) ma_nil)))))))))
    (mss_one (by exact (ms_ret (me_bm PySem.F.plainAttrs_str PySem.F.slot_str_join PySem.F.type_str_join (k_join rfl) ok_join (me_str []) (ma_cons (me_lc (own := [("line", 3)]) rfl sc_write_pages.nd (mi_any (me_var 1 (pv 1))) (blkOk_by (own := [("line", 3)]) (N := n_write_pages) (sc := defScope s_write_pages) (by decide +kernel)) (fun _ _ _ _ _ => by exact (mg_name _ sc_write_pages.nd rfl (by first | exact Or.inl rfl | exact Or.inr rfl))) (fun _ _ _ _ _ => by exact mts_nil) (fun _ _ _ _ _ => by exact (me_add (me_var 3 (pv 3)) (me_str [10])))) ma_nil)))))))
  exact ⟨_, m.pe.nox, start_ok m.sim rfl (by decide) (by decide) (fun _ _ _ _ z => z) h⟩
abbrev s_read_pages : Stmt := top 25
abbrev n_read_pages : List Str := ["text", "lines", "pages", "left", "ended", "at", "line", "parsed"]
theorem sc_read_pages : FnScope n_read_pages ["text"] (defScope s_read_pages) := ⟨rfl, rfl, rfl, by decide +kernel, rfl, by decide +kernel, by decide +kernel⟩
noncomputable def lb1_read_pages : PSt → SRes := (dFgt [5, 6, 7] (dSeq (dAsgF 7 (dIf (dTst (dOp2 gGt (dVar 3) (dC (.int 0)))) (dCallN sem_read_row (dCons (dVar 6) dNil)) (dCallN sem_read_head (dCons (dVar 6) dNil))))
    (dSeq (dIfS (dOr (dTst (dOp2 gIsN (dVar 7) (dC .non))) (dTst (dOp2 gGe (dVar 5) (dVar 4)))) (dRaise "TextError" ["line"] (dCons (dOp2 gAdd (dVar 5) (dC (.int 1))) dNil)) dNext)
    (dIfS (dTst (dOp2 gGt (dVar 3) (dC (.int 0)))) (dSeq (dExp (dAppT 2 (pIx (pIx pNil (sC (.int (-1)))) (sC (.int 2))) (dbLeaf (dVar 7))))
    (dAsgF 3 (dOp2 gSubI (dVar 3) (dC (.int 1))))) (dSeq (dExp (dAppT 2 pNil (dbTup (dbCons (dbLeaf (dC (.str [112, 97, 103, 101]))) (dbCons (dbLeaf (dOp2 gIx (dVar 7) (dC (.int 0)))) (dbCons (dbNew (dLst dNil)) dbNil))))))
    (dAsgF 3 (dOp2 gIx (dVar 7) (dC (.int 1)))))))))
theorem elb1_read_pages (τ : PSt) : lb1_read_pages τ = (dFgt [5, 6, 7] (dSeq (dAsgF 7 (dIf (dTst (dOp2 gGt (dVar 3) (dC (.int 0)))) (dCallN sem_read_row (dCons (dVar 6) dNil)) (dCallN sem_read_head (dCons (dVar 6) dNil))))
    (dSeq (dIfS (dOr (dTst (dOp2 gIsN (dVar 7) (dC .non))) (dTst (dOp2 gGe (dVar 5) (dVar 4)))) (dRaise "TextError" ["line"] (dCons (dOp2 gAdd (dVar 5) (dC (.int 1))) dNil)) dNext)
    (dIfS (dTst (dOp2 gGt (dVar 3) (dC (.int 0)))) (dSeq (dExp (dAppT 2 (pIx (pIx pNil (sC (.int (-1)))) (sC (.int 2))) (dbLeaf (dVar 7))))
    (dAsgF 3 (dOp2 gSubI (dVar 3) (dC (.int 1))))) (dSeq (dExp (dAppT 2 pNil (dbTup (dbCons (dbLeaf (dC (.str [112, 97, 103, 101]))) (dbCons (dbLeaf (dOp2 gIx (dVar 7) (dC (.int 0)))) (dbCons (dbNew (dLst dNil)) dbNil))))))
    (dAsgF 3 (dOp2 gIx (dVar 7) (dC (.int 1))))))))) τ := rfl
noncomputable def st1_read_pages : PSt → SRes := (dAsg 1 (dBM "str" gSplit (dVar 0) (dCons (dC (.str [10])) dNil)))
theorem est1_read_pages (τ : PSt) : st1_read_pages τ = (dAsg 1 (dBM "str" gSplit (dVar 0) (dCons (dC (.str [10])) dNil))) τ := rfl
noncomputable def st2_read_pages : PSt → SRes := (dIfS (dTst (dOp2 gNe (dOp2 gIx (dVar 1) (dOp1 gNeg (dC (.int 1)))) (dC (.str [])))) (dExp (dMut 1 gApp (dCons (dC (.str [])) dNil))) dNext)
theorem est2_read_pages (τ : PSt) : st2_read_pages τ = (dIfS (dTst (dOp2 gNe (dOp2 gIx (dVar 1) (dOp1 gNeg (dC (.int 1)))) (dC (.str [])))) (dExp (dMut 1 gApp (dCons (dC (.str [])) dNil))) dNext) τ := rfl
noncomputable def st3_read_pages : PSt → SRes := (dAsgT 2 (dbNew (dLst dNil)))
theorem est3_read_pages (τ : PSt) : st3_read_pages τ = (dAsgT 2 (dbNew (dLst dNil))) τ := rfl
noncomputable def st4_read_pages : PSt → SRes := (dAsgF 3 (dC (.int 0)))
theorem est4_read_pages (τ : PSt) : st4_read_pages τ = (dAsgF 3 (dC (.int 0))) τ := rfl
noncomputable def st5_read_pages : PSt → SRes := (dAsgF 4 (dBM "str" gCount (dVar 0) (dCons (dC (.str [10])) dNil)))
theorem est5_read_pages (τ : PSt) : st5_read_pages τ = (dAsgF 4 (dBM "str" gCount (dVar 0) (dCons (dC (.str [10])) dNil))) τ := rfl
noncomputable def st6_read_pages : PSt → SRes := (dFor (dEnB (dCons (dSl gSl (dVar 1) dNoPart (dPart (dOp1 gNeg (dC (.int 1))))) dNil)) (gT (gLc (gN 5) (gLc (gN 6) gL0))) lb1_read_pages)
theorem est6_read_pages (τ : PSt) : st6_read_pages τ = (dFor (dEnB (dCons (dSl gSl (dVar 1) dNoPart (dPart (dOp1 gNeg (dC (.int 1))))) dNil)) (gT (gLc (gN 5) (gLc (gN 6) gL0))) lb1_read_pages) τ := rfl
noncomputable def st7_read_pages : PSt → SRes := (dIfS (dTst (dOp2 gGt (dVar 3) (dC (.int 0)))) (dRaise "TextError" ["line"] (dCons (dCB gLen (dCons (dVar 1) dNil)) dNil)) dNext)
theorem est7_read_pages (τ : PSt) : st7_read_pages τ = (dIfS (dTst (dOp2 gGt (dVar 3) (dC (.int 0)))) (dRaise "TextError" ["line"] (dCons (dCB gLen (dCons (dVar 1) dNil)) dNil)) dNext) τ := rfl
noncomputable def st8_read_pages : PSt → SRes := (dRet [] (dVar 2))
theorem est8_read_pages (τ : PSt) : st8_read_pages τ = (dRet [] (dVar 2)) τ := rfl
noncomputable def d_read_pages : PSt → SRes := (dSeq st1_read_pages
    (dSeq st2_read_pages
    (dSeq st3_read_pages
    (dSeq st4_read_pages
    (dSeq st5_read_pages
    (dSeq st6_read_pages
    (dSeq st7_read_pages
    st8_read_pages)))))))
noncomputable def sem_read_pages : List SV → Res SV := runDef [] 1 8 (d_read_pages)
theorem fn_read_pages (Z : Fac K mg) {f : Addr} {fd : FuncData} (F : FnP K "read_pages" s_read_pages f fd) (hm : mg "read_pages" = some (.ref f)) (g_read_row : Fn P w K mg base "read_row" 4 ["line"] (spOf K 1 [] sem_read_row)) (g_read_head : Fn P w K mg base "read_head" 2 ["line"] (spOf K 1 [] sem_read_head)) (x_TextError : Exn P w K mg base "TextError" ["line"]) : FnX P w K mg base "read_pages" 5 ["text"] (spOf K 1 [] (sem_read_pages)) := by
  refine ⟨f, fd, hm, F.kp, F.bindsN fun _ _ _ _ _ _ us hl => match us, hl with | [_], _ => rfl, ?_⟩
  refine F.ok sc_read_pages (fun _ _ _ _ h => h.1) fun cdv A outer s H vs Q E (hr : Room 4 _) h => ?_
  have tk : Takes (L2.cxOf (L2.CX P w) P w K mg base n_read_pages "read_pages" (defScope s_read_pages) f cdv A outer s H E) (fun c d _ H => E c d H) := takes_of rfl rfl rfl rfl
  have m : MSs (L2.cxOf (L2.CX P w) P w K mg base n_read_pages "read_pages" (defScope s_read_pages) f cdv A outer s H E) K (fun c d _ H => E c d H) [] (defBody s_read_pages) _ (d_read_pages) := (mss_cons (by exact (ms_set (i := 1) sc_read_pages.nd rfl (by first | exact Or.inl rfl | exact Or.inr rfl) (me_bm PySem.F.plainAttrs_str PySem.F.slot_str_split PySem.F.type_str_split mt_split ok_split (me_var 0 (pv 0)) (ma_cons (me_str [10]) ma_nil))))
    (mss_cons (by exact (ms_if (mt_ne hr.units (me_ixX (hu_of hr) (me_var 1 (pv 1)) (me_neg me_int) (fun _ _ => rfl)) (me_str [])) (mss_one (by exact (ms_expr (me_mut (i := 1) PySem.F.slot_list_append PySem.F.type_list_append mt_append ok_app (pv 1) (ma_cons (me_str []) ma_nil))))) mss_nil))
    (mss_cons (by exact (ms_asgT (i := 2) sc_read_pages.nd rfl (by first | exact Or.inl rfl | exact Or.inr rfl) (mb_new (me_lst ma_nil) (ke_lst ka_nil))))
    (mss_cons (by exact (ms_setF (i := 3) sc_read_pages.nd rfl (by first | exact Or.inl rfl | exact Or.inr rfl) me_int))
    (mss_cons (by exact (ms_setF (i := 4) sc_read_pages.nd rfl (by first | exact Or.inl rfl | exact Or.inr rfl) (me_bm PySem.F.plainAttrs_str PySem.F.slot_str_count PySem.F.type_str_count k_count ok_count (me_var 0 (pv 0)) (ma_cons (me_str [10]) ma_nil))))
    (mss_cons (by exact (ms_for (passes_of rfl) rfl (mi_enB rfl Z.f_enumerate (ma_cons (me_slice (me_var 1 (pv 1)) mo_none (mo_some (me_neg me_int))) ma_nil)) (mg_tup rfl (mgs_cons (mg_name [5, 6] sc_read_pages.nd rfl (by first | exact Or.inl rfl | exact Or.inr rfl)) (mgs_cons (mg_name [5, 6] sc_read_pages.nd rfl (by first | exact Or.inl rfl | exact Or.inr rfl)) mgs_nil)) (gLc_len (gLc_len gL0_len))) (mss_fgt [5, 6, 7] (mss_cons (by exact (ms_setF (i := 7) sc_read_pages.nd rfl (by first | exact Or.inl rfl | exact Or.inr rfl) (me_if (mt_cmp op_gt ok_gt (me_var 3 (pv 3)) me_int (nomark _)) (me_callN g_read_row (hr.mono (by decide)) rfl (ma_cons (me_var 6 (pv 6)) ma_nil) (dCons_len dNil_len)) (me_callN g_read_head (hr.mono (by decide)) rfl (ma_cons (me_var 6 (pv 6)) ma_nil) (dCons_len dNil_len)))))
    (mss_cons (by exact (ms_if (mt_w (mw_or (mt_cmp op_isN ok_isN (me_var 7 (pv 7)) me_non (nomark _)) (mw_or1 (mt_cmp op_ge ok_ge (me_var 5 (pv 5)) (me_var 4 (pv 4)) (nomark _))))) (mss_one (by exact (ms_raiseE tk rfl x_TextError (hr.mono (by decide)) rfl (ma_cons (me_add (me_var 5 (pv 5)) me_int) ma_nil)))) mss_nil))
    (mss_one (by exact (ms_if (mt_cmp op_gt ok_gt (me_var 3 (pv 3)) me_int (nomark _)) (mss_cons (by exact (ms_expr (me_appT (mp_ix (hu_of hr) (mp_ix (hu_of hr) (mp_var 2 (pv 2)) sm_neg (fun _ _ => rfl)) sm_int (fun _ _ => rfl)) (mb_leaf (me_var 7 (pv 7)) ke_var))))
    (mss_one (by exact (ms_setF (i := 3) sc_read_pages.nd rfl (by first | exact Or.inl rfl | exact Or.inr rfl) (me_sub (me_var 3 (pv 3)) me_int))))) (mss_cons (by exact (ms_expr (me_appT (mp_var 2 (pv 2)) (mb_tup (mbs_cons (mb_leaf (me_str [112, 97, 103, 101]) ke_c) (mbs_cons (mb_leaf (me_ixX (hu_of hr) (me_var 7 (pv 7)) me_int (fun _ _ => rfl)) (ke_op kr_ix ke_var ke_c)) (mbs_cons (mb_new (me_lst ma_nil) (ke_lst ka_nil)) mbs_nil)))))))
    (mss_one (by exact (ms_setF (i := 3) sc_read_pages.nd rfl (by first | exact Or.inl rfl | exact Or.inr rfl) (me_ixX (hu_of hr) (me_var 7 (pv 7)) me_int (fun _ _ => rfl))))))))))))))
    (mss_cons (by exact (ms_if (mt_cmp op_gt ok_gt (me_var 3 (pv 3)) me_int (nomark _)) (mss_one (by exact (ms_raiseE tk rfl x_TextError (hr.mono (by decide)) rfl (ma_cons (me_cb (k_len rfl) ok_len rfl Z.f_len (by decide +kernel) (ma_cons (me_var 1 (pv 1)) ma_nil)) ma_nil)))) mss_nil))
    (mss_one (by exact (ms_ret (me_var 2 (pv 2))))))))))))
  exact ⟨_, m.pe, start_ok m.sim rfl (by decide) (by decide) (fun _ _ _ _ z => z) h⟩
abbrev s_law_numbers : Stmt := top 27
abbrev n_law_numbers : List Str := ["_law_script", "_law_row", "_law_cell", "_law_k", "_law_seed"]
theorem sc_law_numbers : FnScope n_law_numbers ["_law_script"] (defScope s_law_numbers) := ⟨rfl, rfl, rfl, by decide +kernel, rfl, by decide +kernel, by decide +kernel⟩
noncomputable def lb1_law_numbers : PSt → SRes := (dFgt [3] (dIfS (dTst (dOp2 gGt (dVar 2) (dC (.int 0)))) (dSeq (dExp (dMut 1 gApp (dCons (dOp2 gModI (dCB gInt (dCons (dVar 2) dNil)) (dC (.int 1000))) dNil)))
    (dAsgF 2 (dOp2 gDivI (dVar 2) (dC (.int 1000))))) dNext))
theorem elb1_law_numbers (τ : PSt) : lb1_law_numbers τ = (dFgt [3] (dIfS (dTst (dOp2 gGt (dVar 2) (dC (.int 0)))) (dSeq (dExp (dMut 1 gApp (dCons (dOp2 gModI (dCB gInt (dCons (dVar 2) dNil)) (dC (.int 1000))) dNil)))
    (dAsgF 2 (dOp2 gDivI (dVar 2) (dC (.int 1000))))) dNext)) τ := rfl
noncomputable def lb2_law_numbers : PSt → SRes := (dFgt [3] (dSeq (dAsgF 4 (dOp2 gModI (dCB gInt (dCons (dOp2 gAdd (dOp2 gAdd (dOp2 gMul (dVar 4) (dC (.int 69621))) (dOp2 gMul (dC (.int 7)) (dVar 3))) (dC (.int 1))) dNil)) (dC (.int 2147483647))))
    (dExp (dMut 1 gApp (dCons (dOp2 gModI (dCB gInt (dCons (dOp2 gAdd (dOp2 gMul (dOp2 gModI (dCB gInt (dCons (dVar 4) dNil)) (dC (.int 1000003))) (dC (.int 7919))) (dOp2 gDivI (dVar 4) (dC (.int 1009)))) dNil)) (dC (.int 1000))) dNil)))))
theorem elb2_law_numbers (τ : PSt) : lb2_law_numbers τ = (dFgt [3] (dSeq (dAsgF 4 (dOp2 gModI (dCB gInt (dCons (dOp2 gAdd (dOp2 gAdd (dOp2 gMul (dVar 4) (dC (.int 69621))) (dOp2 gMul (dC (.int 7)) (dVar 3))) (dC (.int 1))) dNil)) (dC (.int 2147483647))))
    (dExp (dMut 1 gApp (dCons (dOp2 gModI (dCB gInt (dCons (dOp2 gAdd (dOp2 gMul (dOp2 gModI (dCB gInt (dCons (dVar 4) dNil)) (dC (.int 1000003))) (dC (.int 7919))) (dOp2 gDivI (dVar 4) (dC (.int 1009)))) dNil)) (dC (.int 1000))) dNil))))) τ := rfl
noncomputable def lb3_law_numbers : PSt → SRes := (dFgt [2, 3, 4] (dFgt [2, 3, 4] (dIfS (dTst (dOp2 gGe (dVar 2) (dOp2 gPowI (dC (.int 10)) (dC (.int 18))))) (dFor (dRng1 (dCons (dC (.int 60)) dNil)) (gN 3) lb1_law_numbers) (dSeq (dAsgF 4 (dOp2 gModI (dCB gInt (dCons (dOp2 gAdd (dOp2 gMul (dVar 2) (dC (.int 48271))) (dC (.int 11))) dNil)) (dC (.int 2147483647))))
    (dFor (dRng1 (dCons (dC (.int 9)) dNil)) (gN 3) lb2_law_numbers)))))
theorem elb3_law_numbers (τ : PSt) : lb3_law_numbers τ = (dFgt [2, 3, 4] (dFgt [2, 3, 4] (dIfS (dTst (dOp2 gGe (dVar 2) (dOp2 gPowI (dC (.int 10)) (dC (.int 18))))) (dFor (dRng1 (dCons (dC (.int 60)) dNil)) (gN 3) lb1_law_numbers) (dSeq (dAsgF 4 (dOp2 gModI (dCB gInt (dCons (dOp2 gAdd (dOp2 gMul (dVar 2) (dC (.int 48271))) (dC (.int 11))) dNil)) (dC (.int 2147483647))))
    (dFor (dRng1 (dCons (dC (.int 9)) dNil)) (gN 3) lb2_law_numbers))))) τ := rfl
noncomputable def d_law_numbers : PSt → SRes := (dSeq (dAsg 1 (dLst dNil))
    (dSeq (dFor (dItA (dSl gSl (dVar 0) dNoPart (dPart (dC (.int 63))))) (gN 2) lb3_law_numbers)
    (dSeq (dAsg 1 (dSl gSl (dVar 1) dNoPart (dPart (dC (.int 300)))))
    (dSeq (dExp (dMut 1 gRev dNil))
    (dRet [] (dVar 1))))))
noncomputable def sem_law_numbers : List SV → Res SV := runDef [] 1 5 (d_law_numbers)
theorem fn_law_numbers (Z : Fac K mg) {f : Addr} {fd : FuncData} (F : FnP K "_law_numbers" s_law_numbers f fd) (hm : mg "_law_numbers" = some (.ref f))  : Fn P w K mg base "_law_numbers" 1 ["_law_script"] (spOf K 1 [] (sem_law_numbers)) := by
  refine ⟨f, fd, hm, F.kp, F.bindsN fun _ _ _ _ _ _ us hl => match us, hl with | [_], _ => rfl, ?_⟩
  refine F.ok sc_law_numbers (fun _ _ _ _ h => h.1) fun cdv A outer s H vs Q E (hr : Room 0 _) h => ?_
  have m : MSs (L2.cxOf CX0 P w K mg base n_law_numbers "_law_numbers" (defScope s_law_numbers) f cdv A outer s H E).nox K (fun c d _ H => E c d H) [] (defBody s_law_numbers) _ (d_law_numbers) := (mss_cons (by exact (ms_set (i := 1) sc_law_numbers.nd rfl (by first | exact Or.inl rfl | exact Or.inr rfl) (me_lst ma_nil)))
    (mss_cons (by exact (ms_for PassesOwn.never rfl (mi_any (me_slice (me_var 0 (pv 0)) mo_none (mo_some me_int))) (mg_name [2] sc_law_numbers.nd rfl (by first | exact Or.inl rfl | exact Or.inr rfl)) (mss_fgt [2, 3, 4] (mss_one (by exact (ms_fgt [2, 3, 4] (ms_if (mt_cmp op_ge ok_ge (me_var 2 (pv 2)) (me_pow me_int me_int) (nomark _)) (mss_one (by exact (ms_for PassesOwn.never rfl (mi_range1 rfl Z.f_range (ma_cons me_int ma_nil)) (mg_name [3] sc_law_numbers.nd rfl (by first | exact Or.inl rfl | exact Or.inr rfl)) (mss_fgt [3] (mss_one (by exact (ms_if (mt_cmp op_gt ok_gt (me_var 2 (pv 2)) me_int (nomark _)) (mss_cons (by exact (ms_expr (me_mut (i := 1) PySem.F.slot_list_append PySem.F.type_list_append mt_append ok_app (pv 1) (ma_cons (me_mod (me_ct (call_or call_int1 call_int_str) ok_int rfl Z.f_int (by decide +kernel) (ma_cons (me_var 2 (pv 2)) ma_nil)) me_int) ma_nil))))
    (mss_one (by exact (ms_setF (i := 2) sc_law_numbers.nd rfl (by first | exact Or.inl rfl | exact Or.inr rfl) (me_fdiv (me_var 2 (pv 2)) me_int))))) mss_nil))))))) (mss_cons (by exact (ms_setF (i := 4) sc_law_numbers.nd rfl (by first | exact Or.inl rfl | exact Or.inr rfl) (me_mod (me_ct (call_or call_int1 call_int_str) ok_int rfl Z.f_int (by decide +kernel) (ma_cons (me_add (me_mul (me_var 2 (pv 2)) me_int) me_int) ma_nil)) me_int)))
    (mss_one (by exact (ms_for PassesOwn.never rfl (mi_range1 rfl Z.f_range (ma_cons me_int ma_nil)) (mg_name [3] sc_law_numbers.nd rfl (by first | exact Or.inl rfl | exact Or.inr rfl)) (mss_fgt [3] (mss_cons (by exact (ms_setF (i := 4) sc_law_numbers.nd rfl (by first | exact Or.inl rfl | exact Or.inr rfl) (me_mod (me_ct (call_or call_int1 call_int_str) ok_int rfl Z.f_int (by decide +kernel) (ma_cons (me_add (me_add (me_mul (me_var 4 (pv 4)) me_int) (me_mul me_int (me_var 3 (pv 3)))) me_int) ma_nil)) me_int)))
    (mss_one (by exact (ms_expr (me_mut (i := 1) PySem.F.slot_list_append PySem.F.type_list_append mt_append ok_app (pv 1) (ma_cons (me_mod (me_ct (call_or call_int1 call_int_str) ok_int rfl Z.f_int (by decide +kernel) (ma_cons (me_add (me_mul (me_mod (me_ct (call_or call_int1 call_int_str) ok_int rfl Z.f_int (by decide +kernel) (ma_cons (me_var 4 (pv 4)) ma_nil)) me_int) me_int) (me_fdiv (me_var 4 (pv 4)) me_int)) ma_nil)) me_int) ma_nil))))))))))))))))))
    (mss_cons (by exact (ms_set (i := 1) sc_law_numbers.nd rfl (by first | exact Or.inl rfl | exact Or.inr rfl) (me_slice (me_var 1 (pv 1)) mo_none (mo_some me_int))))
    (mss_cons (by exact (ms_expr (me_mut0 (i := 1) PySem.F.slot_list_reverse PySem.F.type_list_reverse mt_reverse ok_rev (pv 1))))
    (mss_one (by exact (ms_ret (me_var 1 (pv 1)))))))))
  exact ⟨_, m.pe.nox, start_ok m.sim rfl (by decide) (by decide) (fun _ _ _ _ z => z) h⟩
abbrev s_law_pick : Stmt := top 28
abbrev n_law_pick : List Str := ["_law_feed", "_law_many"]
theorem sc_law_pick : FnScope n_law_pick ["_law_feed", "_law_many"] (defScope s_law_pick) := ⟨rfl, rfl, rfl, by decide +kernel, rfl, by decide +kernel, by decide +kernel⟩
noncomputable def d_law_pick : PSt → SRes := (dSeq (dIfS (dTst (dOp2 gEq (dCB gLen (dCons (dVar 0) dNil)) (dC (.int 0)))) (dRet [0] (dC (.int 0))) dNext)
    (dRet [0] (dOp2 gModI (dCB gInt (dCons (dMut 0 gPop dNil) dNil)) (dVar 1))))
noncomputable def sem_law_pick : List SV → Res SV := runDef [0] 2 2 (d_law_pick)
theorem fn_law_pick (Z : Fac K mg) {f : Addr} {fd : FuncData} (F : FnP K "_law_pick" s_law_pick f fd) (hm : mg "_law_pick" = some (.ref f))  : Fn P w K mg base "_law_pick" 1 ["_law_feed", "_law_many"] (spOf K 2 [0] (sem_law_pick)) := by
  refine ⟨f, fd, hm, F.kp, F.bindsN fun _ _ _ _ _ _ us hl => match us, hl with | [_, _], _ => rfl, ?_⟩
  refine F.ok sc_law_pick (fun _ _ _ _ h => h.1) fun cdv A outer s H vs Q E (hr : Room 0 _) h => ?_
  have m : MSs (L2.cxOf CX0 P w K mg base n_law_pick "_law_pick" (defScope s_law_pick) f cdv A outer s H E).nox K (fun c d _ H => E c d H) [0] (defBody s_law_pick) _ (d_law_pick) := (mss_cons (by exact (ms_if (mt_eq hr.units (me_cb (k_len rfl) ok_len rfl Z.f_len (by decide +kernel) (ma_cons (me_var 0 (pv 0)) ma_nil)) me_int) (mss_one (by exact (ms_ret me_int))) mss_nil))
    (mss_one (by exact (ms_ret (me_mod (me_ct (call_or call_int1 call_int_str) ok_int rfl Z.f_int (by decide +kernel) (ma_cons (me_mut0 (i := 0) PySem.F.slot_list_pop PySem.F.type_list_pop mt_pop ok_pop (pv 0)) ma_nil)) (me_var 1 (pv 1)))))))
  exact ⟨_, m.pe.nox, start_ok m.sim rfl (by decide) (by decide) (fun _ _ _ _ z => z) h⟩
abbrev s_law_glyph : Stmt := top 29
abbrev n_law_glyph : List Str := ["_law_feed", "_law_signs", "_law_size", "_law_k"]
theorem sc_law_glyph : FnScope n_law_glyph ["_law_feed"] (defScope s_law_glyph) := ⟨rfl, rfl, rfl, by decide +kernel, rfl, by decide +kernel, by decide +kernel⟩
noncomputable def d_law_glyph : PSt → SRes := (dSeq (dAsgF 1 (dC (.str [97, 98, 91, 93, 92, 110, 45, 126, 33, 48, 122, 124, 123])))
    (dSeq (dIfS (dTst (dOp2 gEq (dCallMN 0 sem_law_pick (dCons (dVar 0) (dCons (dC (.int 7)) dNil))) (dC (.int 1)))) (dRet [0] (dC (.str [45, 10]))) dNext)
    (dSeq (dAsgF 2 (dOp2 gIx (dLst (dCons (dC (.int 1)) (dCons (dC (.int 1)) (dCons (dC (.int 1)) (dCons (dC (.int 2)) (dCons (dC (.int 3)) (dCons (dC (.int 4)) dNil))))))) (dCallMN 0 sem_law_pick (dCons (dVar 0) (dCons (dC (.int 6)) dNil)))))
    (dRet [0] (dBM "str" gJoin (dC (.str [])) (dCons (dLc [3] (dRng1 (dCons (dVar 2) dNil)) (gN 3) dYes (dOp2 gIx (dVar 1) (dCallMN 0 sem_law_pick (dCons (dVar 0) (dCons (dC (.int 13)) dNil))))) dNil))))))
noncomputable def sem_law_glyph : List SV → Res SV := runDef [0] 1 4 (d_law_glyph)
theorem fn_law_glyph (Z : Fac K mg) {f : Addr} {fd : FuncData} (F : FnP K "_law_glyph" s_law_glyph f fd) (hm : mg "_law_glyph" = some (.ref f)) (g_law_pick : Fn P w K mg base "_law_pick" 1 ["_law_feed", "_law_many"] (spOf K 2 [0] sem_law_pick)) : Fn P w K mg base "_law_glyph" 2 ["_law_feed"] (spOf K 1 [0] (sem_law_glyph)) := by
  refine ⟨f, fd, hm, F.kp, F.bindsN fun _ _ _ _ _ _ us hl => match us, hl with | [_], _ => rfl, ?_⟩
  refine F.ok sc_law_glyph (fun _ _ _ _ h => h.1) fun cdv A outer s H vs Q E (hr : Room 1 _) h => ?_
  have m : MSs (L2.cxOf CX0 P w K mg base n_law_glyph "_law_glyph" (defScope s_law_glyph) f cdv A outer s H E).nox K (fun c d _ H => E c d H) [0] (defBody s_law_glyph) _ (d_law_glyph) := (mss_cons (by exact (ms_setF (i := 1) sc_law_glyph.nd rfl (by first | exact Or.inl rfl | exact Or.inr rfl) (me_str [97, 98, 91, 93, 92, 110, 45, 126, 33, 48, 122, 124, 123])))
    (mss_cons (by exact (ms_if (mt_eq hr.units (me_callMN 0 g_law_pick (hr.mono (by decide)) rfl (ma_cons (me_var 0 (pv 0)) (ma_cons me_int ma_nil)) (dCons_len (dCons_len dNil_len))) me_int) (mss_one (by exact (ms_ret (me_str [45, 10])))) mss_nil))
    (mss_cons (by exact (ms_setF (i := 2) sc_law_glyph.nd rfl (by first | exact Or.inl rfl | exact Or.inr rfl) (me_ixX (hu_of hr) (me_lst (ma_cons me_int (ma_cons me_int (ma_cons me_int (ma_cons me_int (ma_cons me_int (ma_cons me_int ma_nil))))))) (me_callMN 0 g_law_pick (hr.mono (by decide)) rfl (ma_cons (me_var 0 (pv 0)) (ma_cons me_int ma_nil)) (dCons_len (dCons_len dNil_len))) (fun _ _ => rfl))))
    (mss_one (by exact (ms_ret (me_bm PySem.F.plainAttrs_str PySem.F.slot_str_join PySem.F.type_str_join (k_join rfl) ok_join (me_str []) (ma_cons (me_lc (own := [("_law_k", 3)]) rfl sc_law_glyph.nd (mi_range1 rfl Z.f_range (ma_cons (me_var 2 (pv 2)) ma_nil)) (blkOk_by (own := [("_law_k", 3)]) (N := n_law_glyph) (sc := defScope s_law_glyph) (by decide +kernel)) (fun _ _ _ _ _ => by exact (mg_name _ sc_law_glyph.nd rfl (by first | exact Or.inl rfl | exact Or.inr rfl))) (fun _ _ _ _ _ => by exact mts_nil) (fun _ _ _ _ _ => by exact (me_ixX (hu_of hr) (me_var 1 (pv 1)) (me_callMN 0 g_law_pick (hr.mono (by decide)) rfl (ma_cons (me_var 0 (pv 0)) (ma_cons me_int ma_nil)) (dCons_len (dCons_len dNil_len))) (fun _ _ => rfl)))) ma_nil))))))))
  exact ⟨_, m.pe.nox, start_ok m.sim rfl (by decide) (by decide) (fun _ _ _ _ z => z) h⟩
abbrev s_law_whole : Stmt := top 30
abbrev n_law_whole : List Str := ["_law_feed", "_law_rows"]
theorem sc_law_whole : FnScope n_law_whole ["_law_feed"] (defScope s_law_whole) := ⟨rfl, rfl, rfl, by decide +kernel, rfl, by decide +kernel, by decide +kernel⟩
noncomputable def d_law_whole : PSt → SRes := (dSeq (dAsgF 1 (dLst (dCons (dC (.int 0)) (dCons (dC (.int 1)) (dCons (dOp1 gNeg (dC (.int 1))) (dCons (dOp2 gAdd (dOp2 gMul (dCallMN 0 sem_law_pick (dCons (dVar 0) (dCons (dC (.int 1000)) dNil))) (dC (.int 1000))) (dCallMN 0 sem_law_pick (dCons (dVar 0) (dCons (dC (.int 1000)) dNil)))) (dCons (dC (.int 999999999999)) (dCons (dOp1 gNeg (dC (.int 999999999999))) (dCons (dCallMN 0 sem_law_pick (dCons (dVar 0) (dCons (dC (.int 90)) dNil))) dNil)))))))))
    (dRet [0] (dOp2 gIx (dVar 1) (dCallMN 0 sem_law_pick (dCons (dVar 0) (dCons (dC (.int 7)) dNil))))))
noncomputable def sem_law_whole : List SV → Res SV := runDef [0] 1 2 (d_law_whole)
theorem fn_law_whole (Z : Fac K mg) {f : Addr} {fd : FuncData} (F : FnP K "_law_whole" s_law_whole f fd) (hm : mg "_law_whole" = some (.ref f)) (g_law_pick : Fn P w K mg base "_law_pick" 1 ["_law_feed", "_law_many"] (spOf K 2 [0] sem_law_pick)) : Fn P w K mg base "_law_whole" 2 ["_law_feed"] (spOf K 1 [0] (sem_law_whole)) := by
  refine ⟨f, fd, hm, F.kp, F.bindsN fun _ _ _ _ _ _ us hl => match us, hl with | [_], _ => rfl, ?_⟩
  refine F.ok sc_law_whole (fun _ _ _ _ h => h.1) fun cdv A outer s H vs Q E (hr : Room 1 _) h => ?_
  have m : MSs (L2.cxOf CX0 P w K mg base n_law_whole "_law_whole" (defScope s_law_whole) f cdv A outer s H E).nox K (fun c d _ H => E c d H) [0] (defBody s_law_whole) _ (d_law_whole) := (mss_cons (by exact (ms_setF (i := 1) sc_law_whole.nd rfl (by first | exact Or.inl rfl | exact Or.inr rfl) (me_lst (ma_cons me_int (ma_cons me_int (ma_cons (me_neg me_int) (ma_cons (me_add (me_mul (me_callMN 0 g_law_pick (hr.mono (by decide)) rfl (ma_cons (me_var 0 (pv 0)) (ma_cons me_int ma_nil)) (dCons_len (dCons_len dNil_len))) me_int) (me_callMN 0 g_law_pick (hr.mono (by decide)) rfl (ma_cons (me_var 0 (pv 0)) (ma_cons me_int ma_nil)) (dCons_len (dCons_len dNil_len)))) (ma_cons me_int (ma_cons (me_neg me_int) (ma_cons (me_callMN 0 g_law_pick (hr.mono (by decide)) rfl (ma_cons (me_var 0 (pv 0)) (ma_cons me_int ma_nil)) (dCons_len (dCons_len dNil_len))) ma_nil))))))))))
    (mss_one (by exact (ms_ret (me_ixX (hu_of hr) (me_var 1 (pv 1)) (me_callMN 0 g_law_pick (hr.mono (by decide)) rfl (ma_cons (me_var 0 (pv 0)) (ma_cons me_int ma_nil)) (dCons_len (dCons_len dNil_len))) (fun _ _ => rfl))))))
  exact ⟨_, m.pe.nox, start_ok m.sim rfl (by decide) (by decide) (fun _ _ _ _ z => z) h⟩
abbrev s_law_pages : Stmt := top 31
abbrev n_law_pages : List Str := ["_law_feed", "_law_pages_here", "_law_k", "_law_rows", "_law_j", "_law_use", "_law_glyphs", "_law_i"]
theorem sc_law_pages : FnScope n_law_pages ["_law_feed"] (defScope s_law_pages) := ⟨rfl, rfl, rfl, by decide +kernel, rfl, by decide +kernel, by decide +kernel⟩
noncomputable def lb1_law_pages : PSt → SRes := (dFgt [4, 5, 6] (dSeq (dAsgF 5 (dOp2 gIx (dLst (dCons (dC (.str [116, 101, 120, 116])) (dCons (dC (.str [110, 111, 116, 101])) (dCons (dC (.str [104, 101, 97, 100, 49])) (dCons (dC (.str [97])) (dCons (dC (.str [112, 97, 103, 101])) (dCons (dC (.str [122, 49, 50, 51, 52, 53, 54, 55, 56, 57, 48, 49, 50, 51, 52, 53])) dNil))))))) (dCallMN 0 sem_law_pick (dCons (dVar 0) (dCons (dC (.int 6)) dNil)))))
    (dSeq (dAsgF 6 (dLc [7] (dRng1 (dCons (dOp2 gAdd (dC (.int 1)) (dCallMN 0 sem_law_pick (dCons (dVar 0) (dCons (dC (.int 5)) dNil)))) dNil)) (gN 7) dYes (dCallMN 0 sem_law_glyph (dCons (dVar 0) dNil))))
    (dExp (dMut 3 gApp (dCons (dTup (dCons (dCallMN 0 sem_law_whole (dCons (dVar 0) dNil)) (dCons (dCallMN 0 sem_law_whole (dCons (dVar 0) dNil)) (dCons (dVar 5) (dCons (dVar 6) dNil))))) dNil))))))
theorem elb1_law_pages (τ : PSt) : lb1_law_pages τ = (dFgt [4, 5, 6] (dSeq (dAsgF 5 (dOp2 gIx (dLst (dCons (dC (.str [116, 101, 120, 116])) (dCons (dC (.str [110, 111, 116, 101])) (dCons (dC (.str [104, 101, 97, 100, 49])) (dCons (dC (.str [97])) (dCons (dC (.str [112, 97, 103, 101])) (dCons (dC (.str [122, 49, 50, 51, 52, 53, 54, 55, 56, 57, 48, 49, 50, 51, 52, 53])) dNil))))))) (dCallMN 0 sem_law_pick (dCons (dVar 0) (dCons (dC (.int 6)) dNil)))))
    (dSeq (dAsgF 6 (dLc [7] (dRng1 (dCons (dOp2 gAdd (dC (.int 1)) (dCallMN 0 sem_law_pick (dCons (dVar 0) (dCons (dC (.int 5)) dNil)))) dNil)) (gN 7) dYes (dCallMN 0 sem_law_glyph (dCons (dVar 0) dNil))))
    (dExp (dMut 3 gApp (dCons (dTup (dCons (dCallMN 0 sem_law_whole (dCons (dVar 0) dNil)) (dCons (dCallMN 0 sem_law_whole (dCons (dVar 0) dNil)) (dCons (dVar 5) (dCons (dVar 6) dNil))))) dNil)))))) τ := rfl
noncomputable def lb2_law_pages : PSt → SRes := (dFgt [2, 3, 4, 5, 6] (dSeq (dAsg 3 (dLst dNil))
    (dSeq (dFor (dRng1 (dCons (dCallMN 0 sem_law_pick (dCons (dVar 0) (dCons (dC (.int 6)) dNil))) dNil)) (gN 4) lb1_law_pages)
    (dExp (dMut 1 gApp (dCons (dTup (dCons (dC (.str [112, 97, 103, 101])) (dCons (dCB gAbs (dCons (dCallMN 0 sem_law_whole (dCons (dVar 0) dNil)) dNil)) (dCons (dVar 3) dNil)))) dNil))))))
theorem elb2_law_pages (τ : PSt) : lb2_law_pages τ = (dFgt [2, 3, 4, 5, 6] (dSeq (dAsg 3 (dLst dNil))
    (dSeq (dFor (dRng1 (dCons (dCallMN 0 sem_law_pick (dCons (dVar 0) (dCons (dC (.int 6)) dNil))) dNil)) (gN 4) lb1_law_pages)
    (dExp (dMut 1 gApp (dCons (dTup (dCons (dC (.str [112, 97, 103, 101])) (dCons (dCB gAbs (dCons (dCallMN 0 sem_law_whole (dCons (dVar 0) dNil)) dNil)) (dCons (dVar 3) dNil)))) dNil)))))) τ := rfl
noncomputable def d_law_pages : PSt → SRes := (dSeq (dAsg 1 (dLst dNil))
    (dSeq (dFor (dRng1 (dCons (dCallMN 0 sem_law_pick (dCons (dVar 0) (dCons (dC (.int 5)) dNil))) dNil)) (gN 2) lb2_law_pages)
    (dRet [0] (dVar 1))))
noncomputable def sem_law_pages : List SV → Res SV := runDef [0] 1 8 (d_law_pages)
theorem fn_law_pages (Z : Fac K mg) {f : Addr} {fd : FuncData} (F : FnP K "_law_pages" s_law_pages f fd) (hm : mg "_law_pages" = some (.ref f)) (g_law_pick : Fn P w K mg base "_law_pick" 1 ["_law_feed", "_law_many"] (spOf K 2 [0] sem_law_pick)) (g_law_glyph : Fn P w K mg base "_law_glyph" 2 ["_law_feed"] (spOf K 1 [0] sem_law_glyph)) (g_law_whole : Fn P w K mg base "_law_whole" 2 ["_law_feed"] (spOf K 1 [0] sem_law_whole)) : Fn P w K mg base "_law_pages" 3 ["_law_feed"] (spOf K 1 [0] (sem_law_pages)) := by
  refine ⟨f, fd, hm, F.kp, F.bindsN fun _ _ _ _ _ _ us hl => match us, hl with | [_], _ => rfl, ?_⟩
  refine F.ok sc_law_pages (fun _ _ _ _ h => h.1) fun cdv A outer s H vs Q E (hr : Room 2 _) h => ?_
  have m : MSs (L2.cxOf CX0 P w K mg base n_law_pages "_law_pages" (defScope s_law_pages) f cdv A outer s H E).nox K (fun c d _ H => E c d H) [0] (defBody s_law_pages) _ (d_law_pages) := (mss_cons (by exact (ms_set (i := 1) sc_law_pages.nd rfl (by first | exact Or.inl rfl | exact Or.inr rfl) (me_lst ma_nil)))
    (mss_cons (by exact (ms_for PassesOwn.never rfl (mi_range1 rfl Z.f_range (ma_cons (me_callMN 0 g_law_pick (hr.mono (by decide)) rfl (ma_cons (me_var 0 (pv 0)) (ma_cons me_int ma_nil)) (dCons_len (dCons_len dNil_len))) ma_nil)) (mg_name [2] sc_law_pages.nd rfl (by first | exact Or.inl rfl | exact Or.inr rfl)) (mss_fgt [2, 3, 4, 5, 6] (mss_cons (by exact (ms_set (i := 3) sc_law_pages.nd rfl (by first | exact Or.inl rfl | exact Or.inr rfl) (me_lst ma_nil)))
    (mss_cons (by exact (ms_for PassesOwn.never rfl (mi_range1 rfl Z.f_range (ma_cons (me_callMN 0 g_law_pick (hr.mono (by decide)) rfl (ma_cons (me_var 0 (pv 0)) (ma_cons me_int ma_nil)) (dCons_len (dCons_len dNil_len))) ma_nil)) (mg_name [4] sc_law_pages.nd rfl (by first | exact Or.inl rfl | exact Or.inr rfl)) (mss_fgt [4, 5, 6] (mss_cons (by exact (ms_setF (i := 5) sc_law_pages.nd rfl (by first | exact Or.inl rfl | exact Or.inr rfl) (me_ixX (hu_of hr) (me_lst (ma_cons (me_str [116, 101, 120, 116]) (ma_cons (me_str [110, 111, 116, 101]) (ma_cons (me_str [104, 101, 97, 100, 49]) (ma_cons (me_str [97]) (ma_cons (me_str [112, 97, 103, 101]) (ma_cons (me_str [122, 49, 50, 51, 52, 53, 54, 55, 56, 57, 48, 49, 50, 51, 52, 53]) ma_nil))))))) (me_callMN 0 g_law_pick (hr.mono (by decide)) rfl (ma_cons (me_var 0 (pv 0)) (ma_cons me_int ma_nil)) (dCons_len (dCons_len dNil_len))) (fun _ _ => rfl))))
    (mss_cons (by exact (ms_setLcF (i := 6) (own := [("_law_i", 7)]) rfl sc_law_pages.nd rfl rfl (sw_true rfl rfl rfl (by decide +kernel)) (mi_range1 rfl Z.f_range (ma_cons (me_add me_int (me_callMN 0 g_law_pick (hr.mono (by decide)) rfl (ma_cons (me_var 0 (pv 0)) (ma_cons me_int ma_nil)) (dCons_len (dCons_len dNil_len)))) ma_nil)) (blkOk_by (own := [("_law_i", 7)]) (N := n_law_pages) (sc := defScope s_law_pages) (by decide +kernel)) (fun _ _ _ _ _ => by exact (mg_name _ sc_law_pages.nd rfl (by first | exact Or.inl rfl | exact Or.inr rfl))) (fun _ _ _ _ _ => by exact mts_nil) (fun _ _ _ _ _ => by exact (me_callMN 0 g_law_glyph (hr.mono (by decide)) rfl (ma_cons (me_var 0 (pv 0)) ma_nil) (dCons_len dNil_len)))))
    (mss_one (by exact (ms_expr (me_mut (i := 3) PySem.F.slot_list_append PySem.F.type_list_append mt_append ok_app (pv 3) (ma_cons (me_tup (ma_cons (me_callMN 0 g_law_whole (hr.mono (by decide)) rfl (ma_cons (me_var 0 (pv 0)) ma_nil) (dCons_len dNil_len)) (ma_cons (me_callMN 0 g_law_whole (hr.mono (by decide)) rfl (ma_cons (me_var 0 (pv 0)) ma_nil) (dCons_len dNil_len)) (ma_cons (me_var 5 (pv 5)) (ma_cons (me_var 6 (pv 6)) ma_nil))))) ma_nil))))))))))
    (mss_one (by exact (ms_expr (me_mut (i := 1) PySem.F.slot_list_append PySem.F.type_list_append mt_append ok_app (pv 1) (ma_cons (me_tup (ma_cons (me_str [112, 97, 103, 101]) (ma_cons (me_cb call_abs ok_abs rfl Z.f_abs (by decide +kernel) (ma_cons (me_callMN 0 g_law_whole (hr.mono (by decide)) rfl (ma_cons (me_var 0 (pv 0)) ma_nil) (dCons_len dNil_len)) ma_nil)) (ma_cons (me_var 3 (pv 3)) ma_nil)))) ma_nil))))))))))
    (mss_one (by exact (ms_ret (me_var 1 (pv 1)))))))
  exact ⟨_, m.pe.nox, start_ok m.sim rfl (by decide) (by decide) (fun _ _ _ _ z => z) h⟩
abbrev s_law_glyphs_text : Stmt := top 32
abbrev n_law_glyphs_text : List Str := ["_law_glyphs", "_law_text", "_law_glyph_here", "_law_inner", "_law_char"]
theorem sc_law_glyphs_text : FnScope n_law_glyphs_text ["_law_glyphs"] (defScope s_law_glyphs_text) := ⟨rfl, rfl, rfl, by decide +kernel, rfl, by decide +kernel, by decide +kernel⟩
noncomputable def lb1_law_glyphs_text : PSt → SRes := (dFgt [4] (dIfS (dTst (dOp2 gEq (dVar 4) (dC (.str [10])))) (dAsgF 3 (dOp2 gAdd (dVar 3) (dC (.str [92, 110])))) (dIfS (dTst (dOp2 gIn (dVar 4) (dC (.str [91, 93, 92])))) (dAsgF 3 (dOp2 gAdd (dOp2 gAdd (dVar 3) (dC (.str [92]))) (dVar 4))) (dAsgF 3 (dOp2 gAdd (dVar 3) (dVar 4))))))
theorem elb1_law_glyphs_text (τ : PSt) : lb1_law_glyphs_text τ = (dFgt [4] (dIfS (dTst (dOp2 gEq (dVar 4) (dC (.str [10])))) (dAsgF 3 (dOp2 gAdd (dVar 3) (dC (.str [92, 110])))) (dIfS (dTst (dOp2 gIn (dVar 4) (dC (.str [91, 93, 92])))) (dAsgF 3 (dOp2 gAdd (dOp2 gAdd (dVar 3) (dC (.str [92]))) (dVar 4))) (dAsgF 3 (dOp2 gAdd (dVar 3) (dVar 4)))))) τ := rfl
noncomputable def lb2_law_glyphs_text : PSt → SRes := (dFgt [2, 3, 4] (dSeq (dAsgF 3 (dC (.str [])))
    (dSeq (dFor (dItA (dVar 2)) (gN 4) lb1_law_glyphs_text)
    (dSeq (dIfS (dTst (dOp2 gGt (dCB gLen (dCons (dVar 2) dNil)) (dC (.int 1)))) (dAsgF 3 (dOp2 gAdd (dOp2 gAdd (dC (.str [91])) (dVar 3)) (dC (.str [93])))) dNext)
    (dAsgF 1 (dOp2 gAdd (dVar 1) (dVar 3)))))))
theorem elb2_law_glyphs_text (τ : PSt) : lb2_law_glyphs_text τ = (dFgt [2, 3, 4] (dSeq (dAsgF 3 (dC (.str [])))
    (dSeq (dFor (dItA (dVar 2)) (gN 4) lb1_law_glyphs_text)
    (dSeq (dIfS (dTst (dOp2 gGt (dCB gLen (dCons (dVar 2) dNil)) (dC (.int 1)))) (dAsgF 3 (dOp2 gAdd (dOp2 gAdd (dC (.str [91])) (dVar 3)) (dC (.str [93])))) dNext)
    (dAsgF 1 (dOp2 gAdd (dVar 1) (dVar 3))))))) τ := rfl
noncomputable def d_law_glyphs_text : PSt → SRes := (dSeq (dAsgF 1 (dC (.str [])))
    (dSeq (dFor (dItA (dVar 0)) (gN 2) lb2_law_glyphs_text)
    (dRet [] (dVar 1))))
noncomputable def sem_law_glyphs_text : List SV → Res SV := runDef [] 1 5 (d_law_glyphs_text)
theorem fn_law_glyphs_text (Z : Fac K mg) {f : Addr} {fd : FuncData} (F : FnP K "_law_glyphs_text" s_law_glyphs_text f fd) (hm : mg "_law_glyphs_text" = some (.ref f))  : Fn P w K mg base "_law_glyphs_text" 1 ["_law_glyphs"] (spOf K 1 [] (sem_law_glyphs_text)) := by
  refine ⟨f, fd, hm, F.kp, F.bindsN fun _ _ _ _ _ _ us hl => match us, hl with | [_], _ => rfl, ?_⟩
  refine F.ok sc_law_glyphs_text (fun _ _ _ _ h => h.1) fun cdv A outer s H vs Q E (hr : Room 0 _) h => ?_
  have m : MSs (L2.cxOf CX0 P w K mg base n_law_glyphs_text "_law_glyphs_text" (defScope s_law_glyphs_text) f cdv A outer s H E).nox K (fun c d _ H => E c d H) [] (defBody s_law_glyphs_text) _ (d_law_glyphs_text) := (mss_cons (by exact (ms_setF (i := 1) sc_law_glyphs_text.nd rfl (by first | exact Or.inl rfl | exact Or.inr rfl) (me_str [])))
    (mss_cons (by exact (ms_for PassesOwn.never rfl (mi_any (me_var 0 (pv 0))) (mg_name [2] sc_law_glyphs_text.nd rfl (by first | exact Or.inl rfl | exact Or.inr rfl)) (mss_fgt [2, 3, 4] (mss_cons (by exact (ms_setF (i := 3) sc_law_glyphs_text.nd rfl (by first | exact Or.inl rfl | exact Or.inr rfl) (me_str [])))
    (mss_cons (by exact (ms_for PassesOwn.never rfl (mi_any (me_var 2 (pv 2))) (mg_name [4] sc_law_glyphs_text.nd rfl (by first | exact Or.inl rfl | exact Or.inr rfl)) (mss_fgt [4] (mss_one (by exact (ms_if (mt_eq hr.units (me_var 4 (pv 4)) (me_str [10])) (mss_one (by exact (ms_setF (i := 3) sc_law_glyphs_text.nd rfl (by first | exact Or.inl rfl | exact Or.inr rfl) (me_add (me_var 3 (pv 3)) (me_str [92, 110]))))) (mss_one (by exact (ms_if (mt_cmp (k_in rfl (hu_of hr)) ok_in (me_var 4 (pv 4)) (me_str [91, 93, 92]) (by rfl)) (mss_one (by exact (ms_setF (i := 3) sc_law_glyphs_text.nd rfl (by first | exact Or.inl rfl | exact Or.inr rfl) (me_add (me_add (me_var 3 (pv 3)) (me_str [92])) (me_var 4 (pv 4)))))) (mss_one (by exact (ms_setF (i := 3) sc_law_glyphs_text.nd rfl (by first | exact Or.inl rfl | exact Or.inr rfl) (me_add (me_var 3 (pv 3)) (me_var 4 (pv 4)))))))))))))))
    (mss_cons (by exact (ms_if (mt_cmp op_gt ok_gt (me_cb (k_len rfl) ok_len rfl Z.f_len (by decide +kernel) (ma_cons (me_var 2 (pv 2)) ma_nil)) me_int (nomark _)) (mss_one (by exact (ms_setF (i := 3) sc_law_glyphs_text.nd rfl (by first | exact Or.inl rfl | exact Or.inr rfl) (me_add (me_add (me_str [91]) (me_var 3 (pv 3))) (me_str [93]))))) mss_nil))
    (mss_one (by exact (ms_setF (i := 1) sc_law_glyphs_text.nd rfl (by first | exact Or.inl rfl | exact Or.inr rfl) (me_add (me_var 1 (pv 1)) (me_var 3 (pv 3))))))))))))
    (mss_one (by exact (ms_ret (me_var 1 (pv 1)))))))
  exact ⟨_, m.pe.nox, start_ok m.sim rfl (by decide) (by decide) (fun _ _ _ _ z => z) h⟩
abbrev s_law_lines : Stmt := top 33
abbrev n_law_lines : List Str := ["_law_pages_here", "_law_lines_here", "_law_page", "_law_row"]
theorem sc_law_lines : FnScope n_law_lines ["_law_pages_here"] (defScope s_law_lines) := ⟨rfl, rfl, rfl, by decide +kernel, rfl, by decide +kernel, by decide +kernel⟩
noncomputable def lb1_law_lines : PSt → SRes := (dFgt [3] (dExp (dMut 1 gApp (dCons (dOp2 gAdd (dOp2 gAdd (dOp2 gAdd (dOp2 gAdd (dOp2 gAdd (dOp2 gAdd (dCB gStrI (dCons (dOp2 gIx (dVar 3) (dC (.int 0))) dNil)) (dC (.str [32]))) (dCB gStrI (dCons (dOp2 gIx (dVar 3) (dC (.int 1))) dNil))) (dC (.str [32]))) (dOp2 gIx (dVar 3) (dC (.int 2)))) (dC (.str [32]))) (dCallN sem_law_glyphs_text (dCons (dOp2 gIx (dVar 3) (dC (.int 3))) dNil))) dNil))))
theorem elb1_law_lines (τ : PSt) : lb1_law_lines τ = (dFgt [3] (dExp (dMut 1 gApp (dCons (dOp2 gAdd (dOp2 gAdd (dOp2 gAdd (dOp2 gAdd (dOp2 gAdd (dOp2 gAdd (dCB gStrI (dCons (dOp2 gIx (dVar 3) (dC (.int 0))) dNil)) (dC (.str [32]))) (dCB gStrI (dCons (dOp2 gIx (dVar 3) (dC (.int 1))) dNil))) (dC (.str [32]))) (dOp2 gIx (dVar 3) (dC (.int 2)))) (dC (.str [32]))) (dCallN sem_law_glyphs_text (dCons (dOp2 gIx (dVar 3) (dC (.int 3))) dNil))) dNil)))) τ := rfl
noncomputable def lb2_law_lines : PSt → SRes := (dFgt [2, 3] (dSeq (dExp (dMut 1 gApp (dCons (dOp2 gAdd (dOp2 gAdd (dOp2 gAdd (dC (.str [112, 97, 103, 101, 32])) (dCB gStrI (dCons (dOp2 gIx (dVar 2) (dC (.int 1))) dNil))) (dC (.str [32]))) (dCB gStrI (dCons (dCB gLen (dCons (dOp2 gIx (dVar 2) (dC (.int 2))) dNil)) dNil))) dNil)))
    (dFor (dItA (dOp2 gIx (dVar 2) (dC (.int 2)))) (gN 3) lb1_law_lines)))
theorem elb2_law_lines (τ : PSt) : lb2_law_lines τ = (dFgt [2, 3] (dSeq (dExp (dMut 1 gApp (dCons (dOp2 gAdd (dOp2 gAdd (dOp2 gAdd (dC (.str [112, 97, 103, 101, 32])) (dCB gStrI (dCons (dOp2 gIx (dVar 2) (dC (.int 1))) dNil))) (dC (.str [32]))) (dCB gStrI (dCons (dCB gLen (dCons (dOp2 gIx (dVar 2) (dC (.int 2))) dNil)) dNil))) dNil)))
    (dFor (dItA (dOp2 gIx (dVar 2) (dC (.int 2)))) (gN 3) lb1_law_lines))) τ := rfl
noncomputable def d_law_lines : PSt → SRes := (dSeq (dAsg 1 (dLst dNil))
    (dSeq (dFor (dItA (dVar 0)) (gN 2) lb2_law_lines)
    (dRet [] (dVar 1))))
noncomputable def sem_law_lines : List SV → Res SV := runDef [] 1 4 (d_law_lines)
theorem fn_law_lines (Z : Fac K mg) {f : Addr} {fd : FuncData} (F : FnP K "_law_lines" s_law_lines f fd) (hm : mg "_law_lines" = some (.ref f)) (g_law_glyphs_text : Fn P w K mg base "_law_glyphs_text" 1 ["_law_glyphs"] (spOf K 1 [] sem_law_glyphs_text)) : Fn P w K mg base "_law_lines" 2 ["_law_pages_here"] (spOf K 1 [] (sem_law_lines)) := by
  refine ⟨f, fd, hm, F.kp, F.bindsN fun _ _ _ _ _ _ us hl => match us, hl with | [_], _ => rfl, ?_⟩
  refine F.ok sc_law_lines (fun _ _ _ _ h => h.1) fun cdv A outer s H vs Q E (hr : Room 1 _) h => ?_
  have m : MSs (L2.cxOf CX0 P w K mg base n_law_lines "_law_lines" (defScope s_law_lines) f cdv A outer s H E).nox K (fun c d _ H => E c d H) [] (defBody s_law_lines) _ (d_law_lines) := (mss_cons (by exact (ms_set (i := 1) sc_law_lines.nd rfl (by first | exact Or.inl rfl | exact Or.inr rfl) (me_lst ma_nil)))
    (mss_cons (by exact (ms_for PassesOwn.never rfl (mi_any (me_var 0 (pv 0))) (mg_name [2] sc_law_lines.nd rfl (by first | exact Or.inl rfl | exact Or.inr rfl)) (mss_fgt [2, 3] (mss_cons (by exact (ms_expr (me_mut (i := 1) PySem.F.slot_list_append PySem.F.type_list_append mt_append ok_app (pv 1) (ma_cons (me_add (me_add (me_add (me_str [112, 97, 103, 101, 32]) (me_ct call_str_int ok_stri rfl Z.f_str (by decide +kernel) (ma_cons (me_ixX (hu_of hr) (me_var 2 (pv 2)) me_int (fun _ _ => rfl)) ma_nil))) (me_str [32])) (me_ct call_str_int ok_stri rfl Z.f_str (by decide +kernel) (ma_cons (me_cb (k_len rfl) ok_len rfl Z.f_len (by decide +kernel) (ma_cons (me_ixX (hu_of hr) (me_var 2 (pv 2)) me_int (fun _ _ => rfl)) ma_nil)) ma_nil))) ma_nil))))
    (mss_one (by exact (ms_for PassesOwn.never rfl (mi_any (me_ixX (hu_of hr) (me_var 2 (pv 2)) me_int (fun _ _ => rfl))) (mg_name [3] sc_law_lines.nd rfl (by first | exact Or.inl rfl | exact Or.inr rfl)) (mss_fgt [3] (mss_one (by exact (ms_expr (me_mut (i := 1) PySem.F.slot_list_append PySem.F.type_list_append mt_append ok_app (pv 1) (ma_cons (me_add (me_add (me_add (me_add (me_add (me_add (me_ct call_str_int ok_stri rfl Z.f_str (by decide +kernel) (ma_cons (me_ixX (hu_of hr) (me_var 3 (pv 3)) me_int (fun _ _ => rfl)) ma_nil)) (me_str [32])) (me_ct call_str_int ok_stri rfl Z.f_str (by decide +kernel) (ma_cons (me_ixX (hu_of hr) (me_var 3 (pv 3)) me_int (fun _ _ => rfl)) ma_nil))) (me_str [32])) (me_ixX (hu_of hr) (me_var 3 (pv 3)) me_int (fun _ _ => rfl))) (me_str [32])) (me_callN g_law_glyphs_text (hr.mono (by decide)) rfl (ma_cons (me_ixX (hu_of hr) (me_var 3 (pv 3)) me_int (fun _ _ => rfl)) ma_nil) (dCons_len dNil_len))) ma_nil)))))))))))))
    (mss_one (by exact (ms_ret (me_var 1 (pv 1)))))))
  exact ⟨_, m.pe.nox, start_ok m.sim rfl (by decide) (by decide) (fun _ _ _ _ z => z) h⟩
abbrev s_law_same : Stmt := top 34
abbrev n_law_same : List Str := ["_law_actual", "_law_due", "_law_k"]
theorem sc_law_same : FnScope n_law_same ["_law_actual", "_law_due"] (defScope s_law_same) := ⟨rfl, rfl, rfl, by decide +kernel, rfl, by decide +kernel, by decide +kernel⟩
noncomputable def lb1_law_same (self : List SV → Res SV) : PSt → SRes := (dFgt [2] (dIfS (dNot (dTru (dCallN self (dCons (dOp2 gIx (dVar 0) (dVar 2)) (dCons (dOp2 gIx (dVar 1) (dVar 2)) dNil))))) (dRet [] (dC (.bl false))) dNext))
theorem elb1_law_same (self : List SV → Res SV) (τ : PSt) : lb1_law_same self τ = (dFgt [2] (dIfS (dNot (dTru (dCallN self (dCons (dOp2 gIx (dVar 0) (dVar 2)) (dCons (dOp2 gIx (dVar 1) (dVar 2)) dNil))))) (dRet [] (dC (.bl false))) dNext)) τ := rfl
noncomputable def st1_law_same (self : List SV → Res SV) : PSt → SRes := (dIfS (dTst (dOp2 gIsN (dVar 1) (dC .non))) (dRet [] (dOp2 gIsN (dVar 0) (dC .non))) dNext)
theorem est1_law_same (self : List SV → Res SV) (τ : PSt) : st1_law_same self τ = (dIfS (dTst (dOp2 gIsN (dVar 1) (dC .non))) (dRet [] (dOp2 gIsN (dVar 0) (dC .non))) dNext) τ := rfl
noncomputable def st2_law_same (self : List SV → Res SV) : PSt → SRes := (dIfS (dTru (dCB gIsi (dCons (dVar 1) (dCons (dC (.ty "bool")) dNil)))) (dRet [] (dAndV (dCB gIsi (dCons (dVar 0) (dCons (dC (.ty "bool")) dNil))) (dOp2 gEq (dVar 0) (dVar 1)))) dNext)
theorem est2_law_same (self : List SV → Res SV) (τ : PSt) : st2_law_same self τ = (dIfS (dTru (dCB gIsi (dCons (dVar 1) (dCons (dC (.ty "bool")) dNil)))) (dRet [] (dAndV (dCB gIsi (dCons (dVar 0) (dCons (dC (.ty "bool")) dNil))) (dOp2 gEq (dVar 0) (dVar 1)))) dNext) τ := rfl
noncomputable def st3_law_same (self : List SV → Res SV) : PSt → SRes := (dIfS (dTru (dCB gIsi (dCons (dVar 1) (dCons (dC (.ty "int")) dNil)))) (dRet [] (dAndV (dCB gIsi (dCons (dVar 0) (dCons (dC (.ty "int")) dNil))) (dAndV (dNotV (dCB gIsi (dCons (dVar 0) (dCons (dC (.ty "bool")) dNil)))) (dOp2 gEq (dVar 0) (dVar 1))))) dNext)
theorem est3_law_same (self : List SV → Res SV) (τ : PSt) : st3_law_same self τ = (dIfS (dTru (dCB gIsi (dCons (dVar 1) (dCons (dC (.ty "int")) dNil)))) (dRet [] (dAndV (dCB gIsi (dCons (dVar 0) (dCons (dC (.ty "int")) dNil))) (dAndV (dNotV (dCB gIsi (dCons (dVar 0) (dCons (dC (.ty "bool")) dNil)))) (dOp2 gEq (dVar 0) (dVar 1))))) dNext) τ := rfl
noncomputable def st4_law_same (self : List SV → Res SV) : PSt → SRes := (dIfS (dTru (dCB gIsi (dCons (dVar 1) (dCons (dC (.ty "str")) dNil)))) (dRet [] (dAndV (dCB gIsi (dCons (dVar 0) (dCons (dC (.ty "str")) dNil))) (dOp2 gEq (dVar 0) (dVar 1)))) dNext)
theorem est4_law_same (self : List SV → Res SV) (τ : PSt) : st4_law_same self τ = (dIfS (dTru (dCB gIsi (dCons (dVar 1) (dCons (dC (.ty "str")) dNil)))) (dRet [] (dAndV (dCB gIsi (dCons (dVar 0) (dCons (dC (.ty "str")) dNil))) (dOp2 gEq (dVar 0) (dVar 1)))) dNext) τ := rfl
noncomputable def st5_law_same (self : List SV → Res SV) : PSt → SRes := (dIfS (dAnd (dTru (dCB gIsi (dCons (dVar 1) (dCons (dC (.ty "list")) dNil)))) (dNot (dTru (dCB gIsi (dCons (dVar 0) (dCons (dC (.ty "list")) dNil)))))) (dRet [] (dC (.bl false))) dNext)
theorem est5_law_same (self : List SV → Res SV) (τ : PSt) : st5_law_same self τ = (dIfS (dAnd (dTru (dCB gIsi (dCons (dVar 1) (dCons (dC (.ty "list")) dNil)))) (dNot (dTru (dCB gIsi (dCons (dVar 0) (dCons (dC (.ty "list")) dNil)))))) (dRet [] (dC (.bl false))) dNext) τ := rfl
noncomputable def st6_law_same (self : List SV → Res SV) : PSt → SRes := (dIfS (dAnd (dTru (dCB gIsi (dCons (dVar 1) (dCons (dC (.ty "tuple")) dNil)))) (dNot (dTru (dCB gIsi (dCons (dVar 0) (dCons (dC (.ty "tuple")) dNil)))))) (dRet [] (dC (.bl false))) dNext)
theorem est6_law_same (self : List SV → Res SV) (τ : PSt) : st6_law_same self τ = (dIfS (dAnd (dTru (dCB gIsi (dCons (dVar 1) (dCons (dC (.ty "tuple")) dNil)))) (dNot (dTru (dCB gIsi (dCons (dVar 0) (dCons (dC (.ty "tuple")) dNil)))))) (dRet [] (dC (.bl false))) dNext) τ := rfl
noncomputable def st7_law_same (self : List SV → Res SV) : PSt → SRes := (dIfS (dTst (dOp2 gNe (dCB gLen (dCons (dVar 0) dNil)) (dCB gLen (dCons (dVar 1) dNil)))) (dRet [] (dC (.bl false))) dNext)
theorem est7_law_same (self : List SV → Res SV) (τ : PSt) : st7_law_same self τ = (dIfS (dTst (dOp2 gNe (dCB gLen (dCons (dVar 0) dNil)) (dCB gLen (dCons (dVar 1) dNil)))) (dRet [] (dC (.bl false))) dNext) τ := rfl
noncomputable def st8_law_same (self : List SV → Res SV) : PSt → SRes := (dFor (dRng1 (dCons (dCB gLen (dCons (dVar 1) dNil)) dNil)) (gN 2) (lb1_law_same self))
theorem est8_law_same (self : List SV → Res SV) (τ : PSt) : st8_law_same self τ = (dFor (dRng1 (dCons (dCB gLen (dCons (dVar 1) dNil)) dNil)) (gN 2) (lb1_law_same self)) τ := rfl
noncomputable def st9_law_same (self : List SV → Res SV) : PSt → SRes := (dRet [] (dC (.bl true)))
theorem est9_law_same (self : List SV → Res SV) (τ : PSt) : st9_law_same self τ = (dRet [] (dC (.bl true))) τ := rfl
noncomputable def d_law_same (self : List SV → Res SV) : PSt → SRes := (dSeq (st1_law_same self)
    (dSeq (st2_law_same self)
    (dSeq (st3_law_same self)
    (dSeq (st4_law_same self)
    (dSeq (st5_law_same self)
    (dSeq (st6_law_same self)
    (dSeq (st7_law_same self)
    (dSeq (st8_law_same self)
    (st9_law_same self)))))))))
noncomputable def sem_law_same (self : List SV → Res SV) : List SV → Res SV := runDef [] 2 3 (d_law_same self)
theorem fn_law_same (Z : Fac K mg) {f : Addr} {fd : FuncData} {self : List SV → Res SV} {kk : Nat} (hk : 0 ≤ kk) (F : FnP K "_law_same" s_law_same f fd) (hm : mg "_law_same" = some (.ref f)) (g_law_same : Fn P w K mg base "_law_same" kk ["_law_actual", "_law_due"] (spOf K 2 [] self)) : Fn P w K mg base "_law_same" (kk + 1) ["_law_actual", "_law_due"] (spOf K 2 [] (sem_law_same self)) := by
  refine ⟨f, fd, hm, F.kp, F.bindsN fun _ _ _ _ _ _ us hl => match us, hl with | [_, _], _ => rfl, ?_⟩
  refine F.ok sc_law_same (fun _ _ _ _ h => h.1) fun cdv A outer s H vs Q E (hr : Room kk _) h => ?_
  have m : MSs (L2.cxOf CX0 P w K mg base n_law_same "_law_same" (defScope s_law_same) f cdv A outer s H E).nox K (fun c d _ H => E c d H) [] (defBody s_law_same) _ (d_law_same self) := (mss_cons (by exact (ms_if (mt_cmp op_isN ok_isN (me_var 1 (pv 1)) me_non (nomark _)) (mss_one (by exact (ms_ret (me_cmp op_isN ok_isN (me_var 0 (pv 0)) me_non (nomark _))))) mss_nil))
    (mss_cons (by exact (ms_if (mt_tru (me_cb (k_isi rfl) ok_isi rfl Z.f_isinstance (by decide +kernel) (ma_cons (me_var 1 (pv 1)) (ma_cons (me_ty rfl Z.f_bool PyProof.Rows.boot_bool) ma_nil)))) (mss_one (by exact (ms_ret (me_and (me_cb (k_isi rfl) ok_isi rfl Z.f_isinstance (by decide +kernel) (ma_cons (me_var 0 (pv 0)) (ma_cons (me_ty rfl Z.f_bool PyProof.Rows.boot_bool) ma_nil))) (me_one (me_eq hr.units (me_var 0 (pv 0)) (me_var 1 (pv 1)))))))) mss_nil))
    (mss_cons (by exact (ms_if (mt_tru (me_cb (k_isi rfl) ok_isi rfl Z.f_isinstance (by decide +kernel) (ma_cons (me_var 1 (pv 1)) (ma_cons (me_ty rfl Z.f_int PyProof.Rows.boot_int) ma_nil)))) (mss_one (by exact (ms_ret (me_and (me_cb (k_isi rfl) ok_isi rfl Z.f_isinstance (by decide +kernel) (ma_cons (me_var 0 (pv 0)) (ma_cons (me_ty rfl Z.f_int PyProof.Rows.boot_int) ma_nil))) (me_and (me_not (me_cb (k_isi rfl) ok_isi rfl Z.f_isinstance (by decide +kernel) (ma_cons (me_var 0 (pv 0)) (ma_cons (me_ty rfl Z.f_bool PyProof.Rows.boot_bool) ma_nil)))) (me_one (me_eq hr.units (me_var 0 (pv 0)) (me_var 1 (pv 1))))))))) mss_nil))
    (mss_cons (by exact (ms_if (mt_tru (me_cb (k_isi rfl) ok_isi rfl Z.f_isinstance (by decide +kernel) (ma_cons (me_var 1 (pv 1)) (ma_cons (me_ty rfl Z.f_str PyProof.Rows.boot_str) ma_nil)))) (mss_one (by exact (ms_ret (me_and (me_cb (k_isi rfl) ok_isi rfl Z.f_isinstance (by decide +kernel) (ma_cons (me_var 0 (pv 0)) (ma_cons (me_ty rfl Z.f_str PyProof.Rows.boot_str) ma_nil))) (me_one (me_eq hr.units (me_var 0 (pv 0)) (me_var 1 (pv 1)))))))) mss_nil))
    (mss_cons (by exact (ms_if (mt_w (mw_and (mt_tru (me_cb (k_isi rfl) ok_isi rfl Z.f_isinstance (by decide +kernel) (ma_cons (me_var 1 (pv 1)) (ma_cons (me_ty rfl Z.f_list PyProof.Rows.boot_list) ma_nil)))) (mw_and1 (mt_not (mt_tru (me_cb (k_isi rfl) ok_isi rfl Z.f_isinstance (by decide +kernel) (ma_cons (me_var 0 (pv 0)) (ma_cons (me_ty rfl Z.f_list PyProof.Rows.boot_list) ma_nil)))))))) (mss_one (by exact (ms_ret me_bl))) mss_nil))
    (mss_cons (by exact (ms_if (mt_w (mw_and (mt_tru (me_cb (k_isi rfl) ok_isi rfl Z.f_isinstance (by decide +kernel) (ma_cons (me_var 1 (pv 1)) (ma_cons (me_ty rfl Z.f_tuple PyProof.Rows.boot_tuple) ma_nil)))) (mw_and1 (mt_not (mt_tru (me_cb (k_isi rfl) ok_isi rfl Z.f_isinstance (by decide +kernel) (ma_cons (me_var 0 (pv 0)) (ma_cons (me_ty rfl Z.f_tuple PyProof.Rows.boot_tuple) ma_nil)))))))) (mss_one (by exact (ms_ret me_bl))) mss_nil))
    (mss_cons (by exact (ms_if (mt_ne hr.units (me_cb (k_len rfl) ok_len rfl Z.f_len (by decide +kernel) (ma_cons (me_var 0 (pv 0)) ma_nil)) (me_cb (k_len rfl) ok_len rfl Z.f_len (by decide +kernel) (ma_cons (me_var 1 (pv 1)) ma_nil))) (mss_one (by exact (ms_ret me_bl))) mss_nil))
    (mss_cons (by exact (ms_for PassesOwn.never rfl (mi_range1 rfl Z.f_range (ma_cons (me_cb (k_len rfl) ok_len rfl Z.f_len (by decide +kernel) (ma_cons (me_var 1 (pv 1)) ma_nil)) ma_nil)) (mg_name [2] sc_law_same.nd rfl (by first | exact Or.inl rfl | exact Or.inr rfl)) (mss_fgt [2] (mss_one (by exact (ms_if (mt_not (mt_tru (me_callN g_law_same (hr.mono (by omega)) rfl (ma_cons (me_ixX (hu_of hr) (me_var 0 (pv 0)) (me_var 2 (pv 2)) (fun _ _ => rfl)) (ma_cons (me_ixX (hu_of hr) (me_var 1 (pv 1)) (me_var 2 (pv 2)) (fun _ _ => rfl)) ma_nil)) (dCons_len (dCons_len dNil_len))))) (mss_one (by exact (ms_ret me_bl))) mss_nil))))))
    (mss_one (by exact (ms_ret me_bl)))))))))))
  exact ⟨_, m.pe.nox, start_ok m.sim rfl (by decide) (by decide) (fun _ _ _ _ z => z) h⟩
section
open Classical in
theorem same_turn (m : Nat) (A B : PV) (ps qs : List PV) (k : Nat) (hAB : (A = .lst ps ∧ B = .lst qs) ∨ (A = .tup ps ∧ B = .tup qs)) (h1 : ∀ p ∈ ps, flat m p = true) (h2 : ∀ q ∈ qs, flat m q = true) (hk : k < ps.length) (hk2 : k < qs.length) :
    turnF (gN 2) (lb1_law_same (sameC m)) (.int (0 + k)) [.fz A, .fz B, .un] = if ps[k] = qs[k] then .nx [.fz A, .fz B, .un] else .rt (.fz (.bl false)) [.fz A, .fz B, .fz (.int k)] := by
  have g1 := h1 _ (List.getElem_mem hk)
  have g2 := h2 _ (List.getElem_mem hk2)
  have q1 : ps[k]? = some ps[k] := List.getElem?_eq_getElem hk
  have q2 : qs[k]? = some qs[k] := List.getElem?_eq_getElem hk2
  generalize ps[k] = x at *
  generalize qs[k] = y at *
  rcases hAB with ⟨rfl, rfl⟩ | ⟨rfl, rfl⟩
  · by_cases e : x = y
    · subst e; simp [elb1_law_same, q1, q2, g1]
    · simp [elb1_law_same, q1, q2, g1, g2, e]
  · by_cases e : x = y
    · subst e; simp [elb1_law_same, q1, q2, g1]
    · simp [elb1_law_same, q1, q2, g1, g2, e]
theorem same_loop (m : Nat) (A B : PV) (ps qs : List PV) (hAB : (A = .lst ps ∧ B = .lst qs) ∨ (A = .tup ps ∧ B = .tup qs)) (h1 : ∀ p ∈ ps, flat m p = true) (h2 : ∀ q ∈ qs, flat m q = true) (hl : ps.length = qs.length) :
    (ps = qs → loopF (turnF (gN 2) (lb1_law_same (sameC m))) (rngP 0 qs.length) [.fz A, .fz B, .un] = .nx [.fz A, .fz B, .un]) ∧
    (ps ≠ qs → ∃ τ, loopF (turnF (gN 2) (lb1_law_same (sameC m))) (rngP 0 qs.length) [.fz A, .fz B, .un] = .rt (.fz (.bl false)) τ) := by
  constructor
  · intro e
    refine loop_good fun p hp => ?_
    obtain ⟨k, rfl, hk⟩ := mem_rng hp
    rw [same_turn m A B ps qs k hAB h1 h2 (by omega) (by omega), if_pos (by subst e; rfl)]
  · intro e
    refine loop_bad (fun p hp => ?_) ?_
    · obtain ⟨k, rfl, hk⟩ := mem_rng hp
      rw [same_turn m A B ps qs k hAB h1 h2 (by omega) (by omega)]
      split
      · exact .inl rfl
      · exact .inr ⟨_, rfl⟩
    · refine Classical.byContradiction fun z => e ?_
      refine List.ext_getElem hl fun k hk hk2 => Classical.byContradiction fun ne => z ⟨.int (0 + k), ?_, ?_⟩
      · unfold rngP
        exact List.mem_map.mpr ⟨k, List.mem_range.mpr (by omega), rfl⟩
      · rw [same_turn m A B ps qs k hAB h1 h2 hk hk2, if_neg ne]
        simp
theorem same_step (m : Nat) (args : List SV) : sameC (m + 1) args = .no ∨ sem_law_same (sameC m) args = sameC (m + 1) args := by
  rcases sameC_cases (m + 1) args with h | ⟨a, b, rfl, ha, hb⟩
  · exact .inl h
  · right
    · rw [sameC_fz, if_pos ⟨ha, hb⟩]
      unfold sem_law_same runDef d_law_same
      cases b with
      | non => cases a <;> simp [flat] at ha <;> simp [est1_law_same]
      | bl y => cases a <;> simp [flat] at ha <;> simp [est1_law_same, est2_law_same, decide_eq_decide]
      | int y => cases a <;> simp [flat] at ha <;> simp [est1_law_same, est2_law_same, est3_law_same, decide_eq_decide]
      | str y => cases a <;> simp [flat] at ha <;> simp [est1_law_same, est2_law_same, est3_law_same, est4_law_same, decide_eq_decide]
      | lst qs =>
        simp [flat] at hb
        cases a with
        | lst ps =>
          simp [flat] at ha
          by_cases hl : ps.length = qs.length
          · obtain ⟨g1, g2⟩ := same_loop m (.lst ps) (.lst qs) ps qs (.inl ⟨rfl, rfl⟩) ha.1 hb.1 hl
            have r1 : In62 (qs.length : Int) := In62.nat hb.2
            by_cases e : ps = qs
            · subst e
              simp [est1_law_same, est2_law_same, est3_law_same, est4_law_same, est5_law_same, est6_law_same, est7_law_same, est8_law_same, est9_law_same, g1 rfl, r1]
            · obtain ⟨τ, g⟩ := g2 e
              simp [est1_law_same, est2_law_same, est3_law_same, est4_law_same, est5_law_same, est6_law_same, est7_law_same, est8_law_same, est9_law_same, g, r1, e, hl]
          · have e : ps ≠ qs := fun z => hl (congrArg List.length z)
            have hl' : ¬ ((ps.length : Int) = qs.length) := by omega
            simp [est1_law_same, est2_law_same, est3_law_same, est4_law_same, est5_law_same, est6_law_same, est7_law_same, e, hl, hl']
        | _ => simp [flat] at ha <;> simp [est1_law_same, est2_law_same, est3_law_same, est4_law_same, est5_law_same]
      | tup qs =>
        simp [flat] at hb
        cases a with
        | tup ps =>
          simp [flat] at ha
          by_cases hl : ps.length = qs.length
          · obtain ⟨g1, g2⟩ := same_loop m (.tup ps) (.tup qs) ps qs (.inr ⟨rfl, rfl⟩) ha.1 hb.1 hl
            have r1 : In62 (qs.length : Int) := In62.nat hb.2
            by_cases e : ps = qs
            · subst e
              simp [est1_law_same, est2_law_same, est3_law_same, est4_law_same, est5_law_same, est6_law_same, est7_law_same, est8_law_same, est9_law_same, g1 rfl, r1]
            · obtain ⟨τ, g⟩ := g2 e
              simp [est1_law_same, est2_law_same, est3_law_same, est4_law_same, est5_law_same, est6_law_same, est7_law_same, est8_law_same, est9_law_same, g, r1, e, hl]
          · have e : ps ≠ qs := fun z => hl (congrArg List.length z)
            have hl' : ¬ ((ps.length : Int) = qs.length) := by omega
            simp [est1_law_same, est2_law_same, est3_law_same, est4_law_same, est5_law_same, est6_law_same, est7_law_same, e, hl, hl']
        | _ => simp [flat] at ha <;> simp [est1_law_same, est2_law_same, est3_law_same, est4_law_same, est5_law_same, est6_law_same]
      | _ => simp [flat] at hb
end
noncomputable abbrev semN_law_same : List SV → Res SV := sameC 20
theorem fnN_law_same (Z : Fac K mg) {f : Addr} {fd : FuncData} (F : FnP K "_law_same" s_law_same f fd) (hm : mg "_law_same" = some (.ref f)) : Fn P w K mg base "_law_same" 20 ["_law_actual", "_law_due"] (spOf K 2 [] semN_law_same) :=
  Fn.selfCall (b := 0) hm F.kp (F.bindsN fun _ _ _ _ _ _ us hl => match us, hl with | [_, _], _ => rfl) (fun self kk _ G => fn_law_same Z (Nat.zero_le _) F hm G) sameC_zero same_step 20

abbrev s_law : Stmt := top 35
abbrev n_law : List Str := ["_law_script", "_law_feed", "_law_pages_here", "_law_kept", "_law_text", "_law_line"]
theorem sc_law : FnScope n_law ["_law_script"] (defScope s_law) := ⟨rfl, rfl, rfl, by decide +kernel, rfl, by decide +kernel, by decide +kernel⟩
noncomputable def st1_law : PSt → SRes := (dAsg 1 (dCallN sem_law_numbers (dCons (dVar 0) dNil)))
theorem est1_law (τ : PSt) : st1_law τ = (dAsg 1 (dCallN sem_law_numbers (dCons (dVar 0) dNil))) τ := rfl
noncomputable def st2_law : PSt → SRes := (dAsgF 2 (dCallMN 0 sem_law_pages (dCons (dVar 1) dNil)))
theorem est2_law (τ : PSt) : st2_law τ = (dAsgF 2 (dCallMN 0 sem_law_pages (dCons (dVar 1) dNil))) τ := rfl
noncomputable def st3_law : PSt → SRes := (dAsgF 3 (dCB gReprQ (dCons (dVar 2) dNil)))
theorem est3_law (τ : PSt) : st3_law τ = (dAsgF 3 (dCB gReprQ (dCons (dVar 2) dNil))) τ := rfl
noncomputable def st4_law : PSt → SRes := (dAsgF 4 (dBM "str" gJoin (dC (.str [])) (dCons (dLc [5] (dItA (dCallN sem_law_lines (dCons (dVar 2) dNil))) (gN 5) dYes (dOp2 gAdd (dVar 5) (dC (.str [10])))) dNil)))
theorem est4_law (τ : PSt) : st4_law τ = (dAsgF 4 (dBM "str" gJoin (dC (.str [])) (dCons (dLc [5] (dItA (dCallN sem_law_lines (dCons (dVar 2) dNil))) (gN 5) dYes (dOp2 gAdd (dVar 5) (dC (.str [10])))) dNil))) τ := rfl
noncomputable def st5_law : PSt → SRes := (dIfS (dNot (dTru (dCallN semN_law_same (dCons (dCallN sem_write_pages (dCons (dVar 2) dNil)) (dCons (dVar 4) dNil))))) (dRet [] (dC (.bl false))) dNext)
theorem est5_law (τ : PSt) : st5_law τ = (dIfS (dNot (dTru (dCallN semN_law_same (dCons (dCallN sem_write_pages (dCons (dVar 2) dNil)) (dCons (dVar 4) dNil))))) (dRet [] (dC (.bl false))) dNext) τ := rfl
noncomputable def st6_law : PSt → SRes := (dRet [] (dAndV (dCallN semN_law_same (dCons (dCall sem_read_pages (dCons (dVar 4) dNil)) (dCons (dVar 2) dNil))) (dOp2 gEq (dCB gReprQ (dCons (dVar 2) dNil)) (dVar 3))))
theorem est6_law (τ : PSt) : st6_law τ = (dRet [] (dAndV (dCallN semN_law_same (dCons (dCall sem_read_pages (dCons (dVar 4) dNil)) (dCons (dVar 2) dNil))) (dOp2 gEq (dCB gReprQ (dCons (dVar 2) dNil)) (dVar 3)))) τ := rfl
noncomputable def d_law : PSt → SRes := (dSeq st1_law
    (dSeq st2_law
    (dSeq st3_law
    (dSeq st4_law
    (dSeq st5_law
    st6_law)))))
noncomputable def sem_law : List SV → Res SV := runDef [] 1 6 (d_law)
theorem body_law (Z : Fac K mg) {f : Addr} (g_law_numbers : Fn P w K mg base "_law_numbers" 1 ["_law_script"] (spOf K 1 [] sem_law_numbers)) (g_law_pages : Fn P w K mg base "_law_pages" 3 ["_law_feed"] (spOf K 1 [0] sem_law_pages)) (g_law_lines : Fn P w K mg base "_law_lines" 2 ["_law_pages_here"] (spOf K 1 [] sem_law_lines)) (g_write_pages : Fn P w K mg base "write_pages" 4 ["pages"] (spOf K 1 [] sem_write_pages)) (g_law_same : Fn P w K mg base "_law_same" 20 ["_law_actual", "_law_due"] (spOf K 2 [] semN_law_same)) (g_read_pages : FnX P w K mg base "read_pages" 5 ["text"] (spOf K 1 [] sem_read_pages)) {ns : List Int} (h : ∃ τ, sem_law [.fz (.scr ns)] = .ok (.fz (.bl true)) τ) : LawBody P w K mg base n_law "law" (defScope s_law) f (defBody s_law) ns := by
  intro cdv s H a only sq
  have hr : Room 20 (L2.cxOf CX0 P w K mg base n_law "law" (defScope s_law) f cdv callerA [] s H (fun _ _ _ => False)).A := top_room _ (by decide)
  have tk : Takes (L2.cxOf CX0 P w K mg base n_law "law" (defScope s_law) f cdv callerA [] s H (fun _ _ _ => False)).nox (fun c d _ H => False) := takes0
  have m : MSs (L2.cxOf CX0 P w K mg base n_law "law" (defScope s_law) f cdv callerA [] s H (fun _ _ _ => False)).nox K (fun c d _ H => False) [] (defBody s_law) _ d_law := (mss_cons (by exact (ms_set (i := 1) sc_law.nd rfl (by first | exact Or.inl rfl | exact Or.inr rfl) (me_callN g_law_numbers (hr.mono (by decide)) rfl (ma_cons (me_var 0 (pv 0)) ma_nil) (dCons_len dNil_len))))
    (mss_cons (by exact (ms_setF (i := 2) sc_law.nd rfl (by first | exact Or.inl rfl | exact Or.inr rfl) (me_callMN 0 g_law_pages (hr.mono (by decide)) rfl (ma_cons (me_var 1 (pv 1)) ma_nil) (dCons_len dNil_len))))
    (mss_cons (by exact (ms_setF (i := 3) sc_law.nd rfl (by first | exact Or.inl rfl | exact Or.inr rfl) (me_cb (k_reprQ rfl Z.s_sys rfl (hu200 hr)) ok_reprQ rfl Z.f_repr PyProof.Rows.boot_repr (ma_cons (me_var 2 (pv 2)) ma_nil))))
    (mss_cons (by exact (ms_setF (i := 4) sc_law.nd rfl (by first | exact Or.inl rfl | exact Or.inr rfl) (me_bm PySem.F.plainAttrs_str PySem.F.slot_str_join PySem.F.type_str_join (k_join rfl) ok_join (me_str []) (ma_cons (me_lc (own := [("_law_line", 5)]) rfl sc_law.nd (mi_any (me_callN g_law_lines (hr.mono (by decide)) rfl (ma_cons (me_var 2 (pv 2)) ma_nil) (dCons_len dNil_len))) (blkOk_by (own := [("_law_line", 5)]) (N := n_law) (sc := defScope s_law) (by decide +kernel)) (fun _ _ _ _ _ => by exact (mg_name _ sc_law.nd rfl (by first | exact Or.inl rfl | exact Or.inr rfl))) (fun _ _ _ _ _ => by exact mts_nil) (fun _ _ _ _ _ => by exact (me_add (me_var 5 (pv 5)) (me_str [10])))) ma_nil))))
    (mss_cons (by exact (ms_if (mt_not (mt_tru (me_callN g_law_same (hr.mono (by decide)) rfl (ma_cons (me_callN g_write_pages (hr.mono (by decide)) rfl (ma_cons (me_var 2 (pv 2)) ma_nil) (dCons_len dNil_len)) (ma_cons (me_var 4 (pv 4)) ma_nil)) (dCons_len (dCons_len dNil_len))))) (mss_one (by exact (ms_ret me_bl))) mss_nil))
    (mss_one (by exact (ms_ret (me_and (me_callN g_law_same (hr.mono (by decide)) rfl (ma_cons (me_callX tk g_read_pages (hr.mono (by decide)) rfl (ma_cons (me_var 4 (pv 4)) ma_nil) (dCons_len dNil_len)) (ma_cons (me_var 2 (pv 2)) ma_nil)) (dCons_len (dCons_len dNil_len))) (me_one (me_eq hr.units (me_cb (k_reprQ rfl Z.s_sys rfl (hu200 hr)) ok_reprQ rfl Z.f_repr PyProof.Rows.boot_repr (ma_cons (me_var 2 (pv 2)) ma_nil)) (me_var 3 (pv 3)))))))))))))
  exact ⟨_, m.pe.nox, start_ok (E := fun _ _ _ => False) m.sim rfl (by decide) (by decide) (fun _ _ _ _ z => z) (top_sp only sq h)⟩
abbrev i_TextError : Stmt := (clsBody (top 2)).getD 0 (.Pass ⟨0, 0, 0, 0⟩)
theorem isc_TextError : FnScope ["self", "line"] ["self", "line"] (defScope i_TextError) := ⟨rfl, rfl, rfl, by decide +kernel, rfl, by decide +kernel, by decide +kernel⟩
theorem in_TextError {fd : FuncData} (F : FunD K "__init__" "TextError.__init__" (defArgs i_TextError) (defBody i_TextError) (defScope i_TextError) [] [] (He.ma K (He.ga K "TextError") "__init__") fd) (ec : ExC K (He.ga K "TextError") (He.ma K (He.ga K "TextError") "__init__") ["line"]) (v : VeI K (He.ga K "GalleyError")) (mG : mg "GalleyError" = some (.ref (He.ga K "GalleyError"))) (mC : mg "TextError" = some (.ref (He.ga K "TextError"))) : Exn P w K mg base "TextError" ["line"] := by
  refine ⟨⟨fd, ["self", "line"], F.ok isc_TextError (fun _ _ _ _ h => ?_) fun cdv A outer s H vs Q E hr h => ?_, F.bindsN fun _ _ _ _ _ _ us hl => match us, hl with | [_, _], _ => rfl⟩, ec, mC⟩
  · obtain ⟨a, ys, rfl, hl, _⟩ := h; simp [hl]
  · obtain ⟨a, ys, rfl, hl, ha, hq⟩ := h
    match ys, hl with
    | [_], _ => exact ⟨_, pss_cons (ps_expr (pe_oinit rfl mG v (pa_cons (pv 0) (pa_cons pe_str pa_nil)))) (pss_one (ps_ost (pv 0) (pv 1))), init1 ec.oex (ec.no _ (by simp)) ha hq⟩
end
end Gx

namespace Gx
open PySem PySem.Spec L2 VL
/-! ### the feed -/
theorem pick_ok (feed : List Int) (m : Int) (h : 0 < m) : sem_law_pick [.ow (.lst (feed.map .int)), .fz (.int m)] = .ok (.fz (.int (pkV feed m))) [.ow (.lst ((pkF feed).map .int)), .un] := by
  unfold sem_law_pick runDef d_law_pick
  cases e : feed.getLast? with
  | none =>
    obtain rfl := List.getLast?_eq_none_iff.mp e
    simp [pkV, pkF]
  | some x =>
    obtain ⟨l, rfl⟩ := List.getLast?_eq_some_iff.mp e
    simp [pkV, pkF, h]
theorem numbers_in1 (s : PV) (n : Nat) (hn : n < 10000) (row : List Int) (cell : Int) (h1 : Feed row) (h2 : row.length ≤ n) : ∃ (row' : List Int) (c : Int), Feed row' ∧ row'.length ≤ n + 60 ∧
    loopF (turnF (gN 3) lb1_law_numbers) (rngP 0 60) [.fz s, .ow (.lst (row.map .int)), .fz (.int cell), .un, .un] = .nx [.fz s, .ow (.lst (row'.map .int)), .fz (.int c), .un, .un] := by
  obtain ⟨τ', e, row', c', g1, g2, rfl⟩ := loop_on (step := turnF (gN 3) lb1_law_numbers) (items := rngP 0 60) (τ := [.fz s, .ow (.lst (row.map .int)), .fz (.int cell), .un, .un])
    (fun j τ => ∃ (row' : List Int) (c : Int), Feed row' ∧ row'.length ≤ n + j ∧ τ = [.fz s, .ow (.lst (row'.map .int)), .fz (.int c), .un, .un]) ⟨row, cell, h1, by omega, rfl⟩ (by
      rintro J hJ j p τ hj ⟨row', c, g1, g2, rfl⟩
      obtain ⟨rfl, hj2⟩ := rng_get hj
      have hz : row'.length < 16777216 := by omega
      by_cases hp : 0 < c
      · simp [elb1_law_numbers, hp, hz, cdiv1000]
        exact hJ _ _ ⟨row' ++ [c % 1000], c / 1000, g1.snoc (by omega) (by omega), by simp; omega, by simp⟩
      · simp [elb1_law_numbers, hp]
        exact hJ _ _ ⟨row', c, g1, by omega, rfl⟩)
  exact ⟨row', c', g1, by simpa using g2, e⟩
theorem numbers_in2 (s x : PV) (n : Nat) (hn : n < 10000) (row : List Int) (c : Int) (h1 : Feed row) (h2 : row.length ≤ n) (h3 : 0 ≤ c ∧ c < 2147483647) : ∃ (row' : List Int) (c' : Int), Feed row' ∧ row'.length ≤ n + 60 ∧
    loopF (turnF (gN 3) lb2_law_numbers) (rngP 0 9) [.fz s, .ow (.lst (row.map .int)), .fz x, .un, .fz (.int c)] = .nx [.fz s, .ow (.lst (row'.map .int)), .fz x, .un, .fz (.int c')] := by
  obtain ⟨τ', e, row', c', g1, g2, g3, rfl⟩ := loop_on (step := turnF (gN 3) lb2_law_numbers) (items := rngP 0 9) (τ := [.fz s, .ow (.lst (row.map .int)), .fz x, .un, .fz (.int c)])
    (fun j τ => ∃ (row' : List Int) (c : Int), Feed row' ∧ row'.length ≤ n + j ∧ (0 ≤ c ∧ c < 2147483647) ∧ τ = [.fz s, .ow (.lst (row'.map .int)), .fz x, .un, .fz (.int c)]) ⟨row, c, h1, by omega, h3, rfl⟩ (by
      rintro J hJ j p τ hj ⟨row', c, g1, g2, g3, rfl⟩
      obtain ⟨rfl, hj2⟩ := rng_get hj
      have hz : row'.length < 16777216 := by omega
      have m1 : IntMulOk c 69621 := mul_r (by decide)
      have m2 : IntMulOk 7 (j : Int) := mul_l (by decide)
      have m3 : ∀ x, IntMulOk x 7919 := fun x => mul_r (by decide)
      simp [elb2_law_numbers, hz, cdiv1009, m1, m2, m3]
      have b1 := Int.emod_nonneg (c * 69621 + 7 * ↑j + 1) (show (2147483647 : Int) ≠ 0 by decide)
      have b2 := Int.emod_lt_of_pos (c * 69621 + 7 * ↑j + 1) (show (0 : Int) < 2147483647 by decide)
      generalize (c * 69621 + 7 * ↑j + 1) % 2147483647 = c2 at *
      have b3 := Int.emod_nonneg (c2 % 1000003 * 7919 + c2 / 1009) (show (1000 : Int) ≠ 0 by decide)
      have b4 := Int.emod_lt_of_pos (c2 % 1000003 * 7919 + c2 / 1009) (show (0 : Int) < 1000 by decide)
      generalize (c2 % 1000003 * 7919 + c2 / 1009) % 1000 = v at *
      exact hJ _ _ ⟨row' ++ [v], c2, g1.snoc b3 b4, by rw [List.length_append]; simp; omega, ⟨b1, b2⟩, by simp⟩)
  exact ⟨row', c', g1, by simp at g2; omega, e⟩
theorem numbers_out (s : PV) (items : List Int) (hl : items.length ≤ 63) : ∃ row : List Int, Feed row ∧ loopF (turnF (gN 2) lb3_law_numbers) (items.map .int) [.fz s, .ow (.lst []), .un, .un, .un] = .nx [.fz s, .ow (.lst (row.map .int)), .un, .un, .un] := by
  obtain ⟨τ', e, row, h1, h2, rfl⟩ := loop_on (step := turnF (gN 2) lb3_law_numbers) (items := items.map .int) (τ := [.fz s, .ow (.lst []), .un, .un, .un]) (fun i τ => ∃ row : List Int, Feed row ∧ row.length ≤ 60 * i ∧ τ = [.fz s, .ow (.lst (row.map .int)), .un, .un, .un]) ⟨[], fun _ h => (nomatch h), by simp, rfl⟩ (by
    rintro J hJ i p τ hp ⟨row, h1, h2, rfl⟩
    obtain ⟨cell, hc, rfl⟩ := mapInt_get hp
    have hi : i < 63 := by have := (List.getElem?_eq_some_iff.mp hc).1; omega
    by_cases hb : (10 : Int) ^ 18 ≤ cell
    · obtain ⟨row', c', g1, g2, e⟩ := numbers_in1 s (60 * i) (by omega) row cell h1 h2
      have hb' : (1000000000000000000 : Int) ≤ cell := by simpa using hb
      simp [elb3_law_numbers, hb', e]
      exact hJ _ _ ⟨row', g1, by omega, rfl⟩
    · obtain ⟨row', c', g1, g2, e⟩ := numbers_in2 s (.int cell) (60 * i) (by omega) row ((cell * 48271 + 11) % 2147483647) h1 h2 ⟨by omega, by omega⟩
      have m0 : IntMulOk cell 48271 := mul_r (by decide)
      have hb' : ¬ (1000000000000000000 : Int) ≤ cell := by simpa using hb
      simp [elb3_law_numbers, hb', e, m0]
      exact hJ _ _ ⟨row', g1, by omega, rfl⟩)
  exact ⟨row, h1, e⟩
theorem numbers_ok (ns : List Int) : ∃ feed : List Int, Feed feed ∧ sem_law_numbers [.fz (.scr ns)] = .ok (.ow (.lst (feed.map .int))) [.un] := by
  obtain ⟨row, h1, e⟩ := numbers_out (.scr ns) (cutP ns none (some 63)) (by simp [cutP, HT.sIx]; omega)
  refine ⟨(cutP row none (some 300)).reverse, fun x hx => h1 x ?_, ?_⟩
  · have := List.mem_reverse.mp hx
    unfold cutP at this
    exact List.mem_of_mem_drop (List.mem_of_mem_take this)
  · unfold sem_law_numbers runDef d_law_numbers
    have cm : ∀ l : List Int, cutP (l.map PV.int) none (some 300) = (cutP l none (some 300)).map PV.int := fun l => by simp [cutP, List.map_take, List.map_drop]
    simp [e, cm, List.map_reverse]
end Gx

namespace Gx
open PySem PySem.Spec L2 VL
/-! ### numbers as text -/
def dgs : List Nat := [48, 49, 50, 51, 52, 53, 54, 55, 56, 57]
def dig (c : Nat) : Bool := decide (c ∈ dgs)
theorem dig_of {c : Nat} (h : 48 ≤ c ∧ c ≤ 57) : dig c = true := by
  unfold dig dgs
  have : c = 48 ∨ c = 49 ∨ c = 50 ∨ c = 51 ∨ c = 52 ∨ c = 53 ∨ c = 54 ∨ c = 55 ∨ c = 56 ∨ c = 57 := by omega
  rcases this with rfl | rfl | rfl | rfl | rfl | rfl | rfl | rfl | rfl | rfl <;> rfl
theorem of_dig {c : Nat} (h : dig c = true) : 48 ≤ c ∧ c ≤ 57 := by
  unfold dig dgs at h
  simp at h
  omega
def strI (i : Int) : List Nat := ((toString i : String) : Str).cps.toList
theorem strI_nat (n : Nat) : strI (n : Int) = TL.numL n := TL.tl_num n
theorem strI_neg (n : Nat) : strI (-((n + 1 : Nat) : Int)) = 45 :: TL.numL (n + 1) := by
  have e : (toString (-((n + 1 : Nat) : Int)) : String) = "-" ++ toString ((n + 1 : Nat) : Int) := rfl
  have h : ∀ s : String, (Str.ofString s).cps.toList = s.toList.map Char.toNat := TL.tl_ofString
  show (Str.ofString (toString (-((n + 1 : Nat) : Int)))).cps.toList = _
  rw [← TL.tl_num]
  show _ = 45 :: (Str.ofString (toString ((n + 1 : Nat) : Int))).cps.toList
  rw [h, h, e]
  simp
theorem strI_cases (i : Int) : (0 ≤ i ∧ strI i = TL.numL i.natAbs) ∨ (i < 0 ∧ strI i = 45 :: TL.numL i.natAbs) := by
  by_cases h : 0 ≤ i
  · obtain ⟨n, rfl⟩ := Int.eq_ofNat_of_zero_le h
    exact .inl ⟨h, strI_nat n⟩
  · obtain ⟨n, rfl⟩ : ∃ n : Nat, i = -((n + 1 : Nat) : Int) := ⟨i.natAbs - 1, by omega⟩
    refine .inr ⟨by omega, ?_⟩
    rw [strI_neg]
    congr 2
    all_goals omega
def bigN : Nat := 1000000000000
theorem strI_free {i : Int} {s : Nat} (h : s < 45 ∨ 57 < s) : s ∉ strI i := by
  rcases strI_cases i with ⟨_, e⟩ | ⟨_, e⟩ <;> rw [e]
  · exact TL.numL_free (by omega)
  · intro z
    rcases List.mem_cons.mp z with z | z
    · omega
    · exact TL.numL_free (by omega) z
theorem numL_len12 {n : Nat} (h : n < bigN) : (TL.numL n).length ≤ 12 := TL.numL_len (by decide) (by unfold bigN at h; omega)
theorem strI_len {i : Int} (h : i.natAbs < bigN) : (strI i).length ≤ 13 := by
  have := numL_len12 h
  rcases strI_cases i with ⟨_, e⟩ | ⟨_, e⟩ <;> rw [e]
  · omega
  · simp; omega
theorem log_ok {i : Int} (h : i.natAbs < bigN * bigN) : i.natAbs.log2 < 1920 := by
  rcases Nat.eq_zero_or_pos i.natAbs with z | z
  · rw [z]; decide
  · refine Nat.lt_of_lt_of_le ((Nat.log2_lt (by omega)).mpr (Nat.lt_of_lt_of_le h ?_)) (Nat.le_refl 1920)
    decide
/-! ### what number_text says -/
def nsgn (w : List Nat) : List Nat := if w.head? = some 45 then w.drop 1 else w
def nval (w : List Nat) : Int := if nsgn w = w then (NumText.digitsVal (nsgn w) : Int) else -(NumText.digitsVal (nsgn w) : Int)
def numP (w : List Nat) : Option Int := if 1 ≤ (nsgn w).length ∧ (nsgn w).length ≤ 12 ∧ (nsgn w).all dig = true then (if strI (nval w) = w then some (nval w) else none) else none
def optI : Option Int → PV | none => .non | some n => .int n
theorem dv_lt : ∀ (l : List Nat), NumText.AllDigits l → NumText.digitsVal l < 10 ^ l.length := by
  have key : ∀ (l : List Nat) (a : Nat), NumText.AllDigits l → l.foldl (fun acc c => acc * 10 + (c - 48)) a < (a + 1) * 10 ^ l.length := by
    intro l
    induction l with
    | nil => intro a _; simp
    | cons c l ih =>
      intro a h
      have hc := h.head
      have := ih (a * 10 + (c - 48)) h.tail
      rw [List.foldl_cons, List.length_cons, Nat.pow_succ]
      refine Nat.lt_of_lt_of_le this ?_
      rw [Nat.mul_comm (10 ^ l.length) 10, ← Nat.mul_assoc]
      exact Nat.mul_le_mul_right _ (by omega)
  intro l h
  have := key l 0 h
  simpa [NumText.digitsVal] using this
theorem sub_take (x y : List Nat) (i : Nat) : Builtin.Str.subAt (sl x) (sl y) i = ((x.drop i).take y.length == y) := by
  rw [StrLaws.subAt_eq, cps_sl, cps_sl, sl_length]
theorem starts1 (s : List Nat) (x : Nat) : startsP s [x] = decide (s.head? = some x) := by
  show (decide (0 + (sl [x]).length ≤ (sl s).length) && Builtin.Str.subAt (sl s) (sl [x]) 0) = _
  rw [sub_take, sl_length, sl_length]
  cases s with
  | nil => simp
  | cons c s => simp [Bool.beq_eq_decide_eq]
theorem lc_typed1 {α β : Type} {vs : List Nat} {g : PV → PSt → Option PSt} {dt : PSt → Res Bool} {de : PSt → Res RV} {τ : PSt} (enc : α → PV) (encB : β → PV) (f : α → β) {xs : List α} (h : ∀ x ∈ xs, lcStep vs g dt de (enc x) τ = .ok (some (encB (f x))) τ) (hl : xs.length ≤ 16777216) :
    lcF vs g dt de (xs.map enc) [] τ = .ok ((xs.map f).map encB) τ := lc_map enc encB f h hl
theorem nsgn_len (w : List Nat) : (nsgn w).length ≤ w.length := by unfold nsgn; split <;> simp
theorem intText_dg {d : List Nat} (h : d.all dig = true) (h1 : 1 ≤ d.length) (h2 : d.length ≤ 12) : PySem.intText? (sl d) = some (NumText.digitsVal d : Int) := by
  have := PySem.intText_digits (x := sl d) (by rw [cps_sl]; exact fun c hc => of_dig (List.all_eq_true.mp h c hc)) (by rw [cps_sl]; intro z; rw [z] at h1; exact absurd h1 (by decide)) (by rw [sl_length]; omega)
  rw [cps_sl] at this
  exact this
theorem dval_lt {d : List Nat} (h : d.all dig = true) (h2 : d.length ≤ 12) : NumText.digitsVal d < bigN :=
  Nat.lt_of_lt_of_le (dv_lt d fun c hc => of_dig (List.all_eq_true.mp h c hc)) (Nat.le_trans (Nat.pow_le_pow_right (by decide) h2) (by decide))
theorem number_text_ok (w : List Nat) (hw : w.length ≤ 1000000) : ∃ τ, sem_number_text [.fz (.str w)] = .ok (.fz (optI (numP w))) τ := by
  have zw : w.length ≤ 16777216 := by omega
  have z1 : (nsgn w).length ≤ 16777216 := by have := nsgn_len w; omega
  have z640 : (nsgn w).length ≤ 12 → (nsgn w).length ≤ 640 := fun h => by omega
  have s1 : (dAsgF 1 (dIf (dTru (dBM "str" gStarts (dVar 0) (dCons (dC (.str [45])) dNil))) (dSl gSl (dVar 0) (dPart (dC (.int 1))) dNoPart) (dVar 0))) [.fz (.str w), .un, .un, .un] = .nx [.fz (.str w), .fz (.str (nsgn w)), .un, .un] := by
    by_cases h : w.head? = some 45
    · simp [starts1, h, nsgn, show cutP w (some 1) none = w.tail from (cut_from w 1).trans List.drop_one, tyP, zw]
    · simp [starts1, h, nsgn, tyP]
  have hv := fun h1 h2 h3 => intText_dg (d := nsgn w) h3 h1 h2
  have hl := fun h2 h3 => dval_lt (d := nsgn w) h3 h2
  unfold numP nval
  generalize nsgn w = d at *
  have lc := lc_typed1 (vs := [3]) (g := gN 3) (dt := dYes) (de := dOp2 gIn (dVar 3) (dC (.str [48, 49, 50, 51, 52, 53, 54, 55, 56, 57]))) (τ := [.fz (.str w), .fz (.str d), .un, .un]) (fun c => PV.str [c]) PV.bl dig (xs := d) (fun c _ => by simp [inP, dig, dgs]) z1
  unfold sem_number_text runDef d_number_text
  rw [show ([SV.fz (.str w)] ++ List.replicate (4 - 1) SV.un) = [.fz (.str w), .un, .un, .un] from rfl, e_dSeq, s1, then_nx]
  by_cases h1 : 1 ≤ d.length
  · by_cases h2 : d.length ≤ 12
    · by_cases h3 : d.all dig = true
      · have e3 : ((d.map dig).all id) = true := by rw [List.all_map]; exact h3
        have h1' : (1 : Int) ≤ (d.length : Int) := by omega
        have h2' : (d.length : Int) ≤ 12 := by omega
        have hv' := hv h1 h2 h3
        have hl' := hl h2 h3
        have z6 := z640 h2
        rw [if_pos ⟨h1, h2, h3⟩]
        generalize NumText.digitsVal d = v at *
        have l1 : (v : Int).natAbs.log2 < 1920 := log_ok (by simp; unfold bigN at *; omega)
        have l2 : (-(v : Int)).natAbs.log2 < 1920 := log_ok (by simp; unfold bigN at *; omega)
        have g1 : gStrI [.int (v : Int)] = some (.old (.str (strI (v : Int)))) := if_pos l1
        have g2 : gStrI [.int (-(v : Int))] = some (.old (.str (strI (-(v : Int))))) := if_pos l2
        by_cases e : d = w
        · subst e
          by_cases e5 : strI (v : Int) = d
          · simp [-List.map_map, -gStrI, lc, e3, h1', h2', hv', z6, g1, e5, optI, z1]
          · simp [-List.map_map, -gStrI, lc, e3, h1', h2', hv', z6, g1, e5, optI, z1]
        · by_cases e5 : strI (-(v : Int)) = w
          · simp [-List.map_map, -gStrI, lc, e3, h1', h2', hv', z6, g2, e, e5, optI, z1]
          · simp [-List.map_map, -gStrI, lc, e3, h1', h2', hv', z6, g2, e, e5, optI, z1]
      · have e3 : ((d.map dig).all id) = false := by rw [List.all_map]; simpa using h3
        have h1' : (1 : Int) ≤ (d.length : Int) := by omega
        have h2' : (d.length : Int) ≤ 12 := by omega
        rw [if_neg fun z => h3 z.2.2]
        simp [-List.map_map, lc, e3, h1', h2', z1, optI]
    · have h1' : (1 : Int) ≤ (d.length : Int) := by omega
      have h2' : ¬ (d.length : Int) ≤ 12 := by omega
      rw [if_neg fun z => h2 z.2.1]
      simp [-List.map_map, h1', h2', z1, optI]
  · have h1' : ¬ (1 : Int) ≤ (d.length : Int) := by omega
    rw [if_neg fun z => h1 z.1]
    simp [-List.map_map, h1', z1, optI]
theorem numL_all (n : Nat) : (TL.numL n).all dig = true := List.all_eq_true.mpr fun c hc => dig_of (TL.numL_digits n c hc)
/-- a number that was written is read -/
theorem numP_str {i : Int} (h : i.natAbs < bigN) : numP (strI i) = some i := by
  have hl := numL_len12 h
  have hne := TL.numL_ne i.natAbs
  have h1 : 1 ≤ (TL.numL i.natAbs).length := List.length_pos_iff.mpr hne
  have hd : ∀ c, (TL.numL i.natAbs).head? = some c → c ≠ 45 := fun c hc z => by
    have := TL.numL_digits i.natAbs c (List.mem_of_mem_head? hc); omega
  rcases strI_cases i with ⟨h0, e⟩ | ⟨h0, e⟩
  · have e1 : nsgn (strI i) = strI i := by
      unfold nsgn
      rw [if_neg]
      rw [e]
      exact fun z => hd _ z rfl
    have e2 : nval (strI i) = i := by
      unfold nval
      rw [e1, if_pos rfl, e, TL.numL_val]
      omega
    unfold numP
    rw [e2, e1, if_pos rfl, if_pos]
    rw [e]
    exact ⟨h1, hl, numL_all _⟩
  · have e1 : nsgn (strI i) = TL.numL i.natAbs := by
      unfold nsgn
      rw [e]
      simp
    have e2 : nval (strI i) = i := by
      unfold nval
      rw [e1, if_neg, TL.numL_val]
      · omega
      · rw [e]
        intro z
        have := congrArg List.length z
        simp at this
    unfold numP
    rw [e2, e1, if_pos rfl, if_pos]
    exact ⟨h1, hl, numL_all _⟩
end Gx

namespace Gx
open PySem PySem.Spec L2 VL
/-! ### glyphs as text -/
def encC (c : Nat) : List Nat := if c = 10 then [92, 110] else if c = 91 ∨ c = 93 ∨ c = 92 then [92, c] else [c]
def inn (g : List Nat) : List Nat := (g.map encC).flatten
def encG (g : List Nat) : List Nat := if g.length = 1 then inn g else 91 :: (inn g ++ [93])
def encGs (G : List (List Nat)) : List Nat := (G.map encG).flatten
theorem encC_len (c : Nat) : 1 ≤ (encC c).length ∧ (encC c).length ≤ 2 := by
  unfold encC; split
  · simp
  · split <;> simp
theorem inn_len : ∀ g : List Nat, g.length ≤ (inn g).length ∧ (inn g).length ≤ 2 * g.length
  | [] => ⟨Nat.le_refl _, Nat.le_refl _⟩
  | c :: g => by
    have h1 := inn_len g
    have h2 := encC_len c
    unfold inn at *
    rw [List.map_cons, List.flatten_cons, List.length_append, List.length_cons]
    omega
theorem encG_len (g : List Nat) : 1 ≤ (encG g).length ∧ g.length ≤ (encG g).length ∧ (encG g).length ≤ 2 * g.length + 2 := by
  have := inn_len g
  unfold encG; split
  · omega
  · simp; omega
theorem encGs_cons (g : List Nat) (G : List (List Nat)) : encGs (g :: G) = encG g ++ encGs G := rfl
theorem encGs_len : ∀ G : List (List Nat), G.length ≤ (encGs G).length ∧ ∀ g ∈ G, (encG g).length ≤ (encGs G).length
  | [] => ⟨Nat.le_refl _, fun _ h => nomatch h⟩
  | g :: G => by
    have ih := encGs_len G
    have h := encG_len g
    rw [encGs_cons, List.length_append, List.length_cons]
    refine ⟨by omega, fun x hx => ?_⟩
    rcases List.mem_cons.mp hx with rfl | hx
    · omega
    · have := ih.2 x hx; omega
theorem sum_flat : ∀ ls : List (List Nat), (ls.map (·.length)).sum = ls.flatten.length
  | [] => rfl
  | c :: cs => by have := sum_flat cs; simp at this ⊢
theorem join0 (ls : List (List Nat)) (h : ls.flatten.length ≤ 16777216) : joinP [] ls = some (.old (.str ls.flatten)) := by
  unfold joinP
  rw [if_pos, joinL_nil]
  rw [sum_flat]; simpa using h
theorem char_ok (c : Nat) : sem_char_text [.fz (.str [c])] = .ok (.fz (.str (encC c))) [.un] := by
  unfold sem_char_text runDef d_char_text encC
  by_cases h : c = 10
  · subst h; simp
  · by_cases h2 : c = 91 ∨ c = 93 ∨ c = 92
    · rw [if_neg h, if_pos h2]
      simp [h, inP, h2]
    · rw [if_neg h, if_neg h2]
      simp [h, inP, h2]
theorem gt_loop (a0 : SV) : ∀ (G P : List (List Nat)), (encGs G).length ≤ 1000000 → P.length + (encGs G).length ≤ 2000000 → loopF (turnF (gN 2) lb1_glyphs_text) (G.map .str) [a0, .ow (.lst (P.map .str)), .un, .un, .un] = .nx [a0, .ow (.lst ((P ++ G.map encG).map .str)), .un, .un, .un]
  | [], P, _, _ => by simp [loopF]
  | g :: G, P, h, hP => by
    have hl := encG_len g
    have hi := inn_len g
    rw [encGs_cons, List.length_append] at h hP
    have ih := gt_loop a0 G (P ++ [encG g]) (by omega) (by simp; omega)
    have zg : g.length ≤ 16777216 := by omega
    have zP : P.length < 16777216 := by omega
    have lc := lc_typed1 (vs := [4]) (g := gN 4) (dt := dYes) (de := dCallN sem_char_text (dCons (dVar 4) dNil)) (τ := [a0, .ow (.lst (P.map .str)), .fz (.str g), .un, .un]) (fun c => PV.str [c]) PV.str encC (xs := g) (fun c _ => by simp [char_ok]) zg
    have ej : joinP [] (g.map encC) = some (.old (.str (inn g))) := join0 _ (by unfold inn at hi; omega)
    have et : turnF (gN 2) lb1_glyphs_text (.str g) [a0, .ow (.lst (P.map .str)), .un, .un, .un] = .nx [a0, .ow (.lst ((P ++ [encG g]).map .str)), .un, .un, .un] := by
      by_cases h1 : g.length = 1
      · have h1' : (g.length : Int) = 1 := by omega
        simp [-List.map_map, elb1_glyphs_text, lc, ej, tyP, zg, zP, h1', h1, encG]
      · have h1' : ¬ (g.length : Int) = 1 := by omega
        have z3 : (inn g).length + 2 ≤ 16777216 := by omega
        have z4 : (inn g).length + 1 ≤ 16777216 := by omega
        have z5 : 1 + (inn g).length ≤ 16777216 := by omega
        simp [-List.map_map, elb1_glyphs_text, lc, ej, tyP, zg, zP, h1', h1, encG, z3, z4, z5]
    rw [List.map_cons, loopF, et]
    dsimp only
    rw [ih, List.append_assoc]
    rfl
theorem glyphs_text_ok (G : List (List Nat)) (h : (encGs G).length ≤ 1000000) : ∃ τ, sem_glyphs_text [.fz (.lst (G.map .str))] = .ok (.fz (.str (encGs G))) τ := by
  have e := gt_loop (.fz (.lst (G.map .str))) G [] h (by simp; omega)
  have ej : joinP [] (G.map encG) = some (.old (.str (encGs G))) := join0 _ (by unfold encGs at h; omega)
  unfold sem_glyphs_text runDef d_glyphs_text
  simp only [List.map_nil, List.nil_append] at e
  simp [-List.map_map, e, ej, tyP]
def lencG (g : List Nat) : List Nat := if 1 < g.length then 91 :: (inn g ++ [93]) else inn g
theorem lencG_eq {g : List Nat} (h : g ≠ []) : lencG g = encG g := by
  have : 0 < g.length := List.length_pos_iff.mpr h
  unfold lencG encG
  by_cases h1 : g.length = 1
  · rw [if_pos h1, if_neg (by omega)]
  · rw [if_neg h1, if_pos (by omega)]
theorem lg_in (a0 a1 a2 : SV) : ∀ (g acc : List Nat), acc.length + 2 * g.length ≤ 4000000 → loopF (turnF (gN 4) lb1_law_glyphs_text) (g.map fun c => .str [c]) [a0, a1, a2, .fz (.str acc), .un] = .nx [a0, a1, a2, .fz (.str (acc ++ inn g)), .un]
  | [], acc, _ => by simp [inn, loopF]
  | c :: g, acc, h => by
    have hl := encC_len c
    rw [List.length_cons] at h
    have ih := lg_in a0 a1 a2 g (acc ++ encC c) (by simp; omega)
    have z1 : acc.length + 1 ≤ 16777216 := by omega
    have z2 : acc.length + 2 ≤ 16777216 := by omega
    have et : turnF (gN 4) lb1_law_glyphs_text (.str [c]) [a0, a1, a2, .fz (.str acc), .un] = .nx [a0, a1, a2, .fz (.str (acc ++ encC c)), .un] := by
      by_cases h1 : c = 10
      · subst h1; simp [elb1_law_glyphs_text, encC, z1, z2]
      · by_cases h2 : c = 91 ∨ c = 93 ∨ c = 92
        · simp [elb1_law_glyphs_text, encC, z1, z2, h1, h2, inP]
        · simp [elb1_law_glyphs_text, encC, z1, z2, h1, h2, inP]
    rw [List.map_cons, loopF, et]
    dsimp only
    rw [ih, List.append_assoc]
    rfl
theorem lg_loop (a0 : SV) : ∀ (G : List (List Nat)) (acc : List Nat), (∀ g ∈ G, g ≠ []) → acc.length + (encGs G).length ≤ 2000000 → loopF (turnF (gN 2) lb2_law_glyphs_text) (G.map .str) [a0, .fz (.str acc), .un, .un, .un] = .nx [a0, .fz (.str (acc ++ encGs G)), .un, .un, .un]
  | [], acc, _, _ => by simp [encGs, loopF]
  | g :: G, acc, hg, h => by
    have hl := encG_len g
    have hi := inn_len g
    rw [encGs_cons, List.length_append] at h
    have ih := lg_loop a0 G (acc ++ encG g) (fun x hx => hg x (List.mem_cons_of_mem _ hx)) (by simp; omega)
    have el := lencG_eq (hg g (List.mem_cons_self ..))
    have zg : g.length ≤ 16777216 := by omega
    have ein := lg_in a0 (.fz (.str acc)) (.fz (.str g)) g [] (by simp; omega)
    simp only [List.nil_append] at ein
    have et : turnF (gN 2) lb2_law_glyphs_text (.str g) [a0, .fz (.str acc), .un, .un, .un] = .nx [a0, .fz (.str (acc ++ encG g)), .un, .un, .un] := by
      rw [← el]
      rw [← el] at h hl
      unfold lencG at *
      by_cases h1 : 1 < g.length
      · have h1' : (1 : Int) < (g.length : Int) := by omega
        rw [if_pos h1] at *
        have z3 : acc.length + ((inn g).length + 2) ≤ 16777216 := by simp at h; omega
        have z4 : (inn g).length + 1 ≤ 16777216 := by omega
        have z5 : (inn g).length + 2 ≤ 16777216 := by omega
        have z6 : acc.length + ((inn g).length + 1 + 1) ≤ 16777216 := by omega
        have z7 : 1 + (inn g).length ≤ 16777216 := by omega
        simp [-List.map_map, elb2_law_glyphs_text, ein, zg, h1', h1, z3, z4, z5, z6, z7]
      · have h1' : ¬ (1 : Int) < (g.length : Int) := by omega
        rw [if_neg h1] at *
        have z3 : acc.length + (inn g).length ≤ 16777216 := by omega
        simp [-List.map_map, elb2_law_glyphs_text, ein, zg, h1', h1, z3]
    rw [List.map_cons, loopF, et]
    dsimp only
    rw [ih, List.append_assoc]
    rfl
theorem law_glyphs_text_ok (G : List (List Nat)) (hg : ∀ g ∈ G, g ≠ []) (h : (encGs G).length ≤ 1000000) : ∃ τ, sem_law_glyphs_text [.fz (.lst (G.map .str))] = .ok (.fz (.str (encGs G))) τ := by
  have e := lg_loop (.fz (.lst (G.map .str))) G [] hg (by simp; omega)
  unfold sem_law_glyphs_text runDef d_law_glyphs_text
  simp only [List.nil_append] at e
  simp [-List.map_map, e]
end Gx

namespace Gx
open PySem PySem.Spec L2 VL
/-! ### a word of glyphs read -/
def chs : List Nat → Option (List (List Nat))
  | [] => some []
  | c :: t => if c = 92 then (match t with | [] => none | d :: u => (chs u).map ([92, d] :: ·)) else (chs t).map ([c] :: ·)
termination_by l => l.length
decreasing_by all_goals simp; try omega
theorem chs_nil : chs [] = some [] := by rw [chs]
theorem chs_one {c : Nat} (h : c ≠ 92) (t : List Nat) : chs (c :: t) = (chs t).map ([c] :: ·) := by rw [chs.eq_def]; simp only [if_neg h]
theorem chs_two (d : Nat) (u : List Nat) : chs (92 :: d :: u) = (chs u).map ([92, d] :: ·) := by rw [chs, if_pos rfl]
theorem chs_bad : chs [92] = none := by rw [chs, if_pos rfl]
def optL : Option (List (List Nat)) → PV | none => .non | some G => .lst (G.map .str)
def optW : Option (List (List Nat)) → SV | none => .fz .non | some G => .ow (.lst (G.map .str))
theorem co_loop (w : List Nat) (hw : w.length ≤ 500000) : ∀ (k : Nat) (at_ : Nat) (F : List (List Nat)) (n : Nat), (w.drop at_).length ≤ k → at_ ≤ w.length → F.length ≤ at_ → k < n →
    ∃ τ, whileF n (dTst (dOp2 gLt (dVar 2) (dCB gLen (dCons (dVar 0) dNil)))) lb1_chars_of [.fz (.str w), .ow (.lst (F.map .str)), .fz (.int (at_ : Nat)), .un] =
      (match chs (w.drop at_) with
        | none => .rt (.fz .non) τ
        | some C => .nx [.fz (.str w), .ow (.lst ((F ++ C).map .str)), .fz (.int (w.length : Nat)), .un]) := by
  have zw : w.length ≤ 16777216 := by omega
  intro k
  induction k using Nat.strongRecOn with
  | _ k ih =>
    intro at_ F n hk ha hF hn
    obtain ⟨n, rfl⟩ : ∃ m, n = m + 1 := ⟨n - 1, by omega⟩
    have zF : F.length < 16777216 := by omega
    rw [while_s]
    cases hd : w.drop at_ with
    | nil =>
      have h1 : w.length ≤ at_ := by have := congrArg List.length hd; simp at this; omega
      have h2 : at_ = w.length := by omega
      subst h2
      refine ⟨[], ?_⟩
      rw [chs_nil]
      simp [zw]
    | cons c t =>
      have h1 : at_ < w.length := by have := congrArg List.length hd; simp at this; omega
      have h1' : (at_ : Int) < (w.length : Int) := by omega
      have ec : w[at_]? = some c := by rw [← List.head?_drop, hd]; rfl
      have et : w.drop (at_ + 1) = t := by rw [← List.drop_drop, hd]; rfl
      have hk' : t.length + 1 ≤ k := by rw [hd] at hk; simpa using hk
      have hlen : t.length + 1 + at_ = w.length := by have := congrArg List.length hd; simp at this; omega
      have etk : ∀ m, ((w.take (at_ + m)).drop at_) = (c :: t).take m := fun m => by
        rw [← hd, List.drop_take]; congr 1; omega
      have q1 : In62 (at_ : Int) := In62.of (by omega) (by omega)
      have q2 : In62 ((at_ : Int) + 1) := In62.of (by omega) (by omega)
      have q3 : In62 ((at_ : Int) + 2) := In62.of (by omega) (by omega)
      by_cases h92 : c = 92
      · subst h92
        cases t with
        | nil =>
          rw [chs_bad]
          have h3 : (w.length : Int) < (at_ : Int) + 2 := by simp at hlen; omega
          refine ⟨?_, ?_⟩
          rotate_left
          · simp [zw, h1', elb1_chars_of, ec, q1, q2, q3, h3]
            rfl
        | cons d u =>
          have h3 : ¬ (w.length : Int) < (at_ : Int) + 2 := by simp at hlen; omega
          have eu : w.drop (at_ + 2) = u := by rw [show at_ + 2 = at_ + 1 + 1 from rfl, ← List.drop_drop, et]; rfl
          obtain ⟨τ, e⟩ := ih u.length (by simp at hk'; omega) (at_ + 2) (F ++ [[92, d]]) n (by rw [eu]; exact Nat.le_refl _) (by simp at hlen; omega) (by simp; omega) (by simp at hk'; omega)
          refine ⟨τ, ?_⟩
          have ecut : cutP w (some (at_ : Int)) (some ((at_ : Int) + 2)) = [92, d] := by
            rw [show (at_ : Int) + 2 = ((at_ + 2 : Nat) : Int) by omega, cut_ab, etk]; rfl
          rw [chs_two]
          rw [eu] at e
          have e9 : ((at_ + 2 : Nat) : Int) = (at_ : Int) + 2 := by omega
          rw [e9] at e
          simp [zw, h1', elb1_chars_of, ec, q1, q2, q3, h3, ecut, zF]
          simp at e
          rw [e]
          cases chs u <;> simp
      · have h3 : ¬ (w.length : Int) < (at_ : Int) + 1 := by omega
        obtain ⟨τ, e⟩ := ih t.length (by omega) (at_ + 1) (F ++ [[c]]) n (by rw [et]; exact Nat.le_refl _) (by omega) (by simp; omega) (by omega)
        refine ⟨τ, ?_⟩
        have ecut : cutP w (some (at_ : Int)) (some ((at_ : Int) + 1)) = [c] := by
          rw [show (at_ : Int) + 1 = ((at_ + 1 : Nat) : Int) by omega, cut_ab, etk]; rfl
        rw [chs_one h92]
        rw [et] at e
        have e9 : ((at_ + 1 : Nat) : Int) = (at_ : Int) + 1 := by omega
        rw [e9] at e
        simp [zw, h1', elb1_chars_of, ec, q1, q2, q3, h3, ecut, zF, h92]
        simp at e
        rw [e]
        cases chs t <;> simp
theorem chs_ne : ∀ (w : List Nat) (C : List (List Nat)), chs w = some C → ∀ x ∈ C, x ≠ [] := by
  intro w
  induction hn : w.length using Nat.strongRecOn generalizing w with
  | _ n ih =>
    intro C h x hx
    cases w with
    | nil => rw [chs_nil] at h; cases h; cases hx
    | cons c t =>
      by_cases h92 : c = 92
      · subst h92
        cases t with
        | nil => rw [chs_bad] at h; cases h
        | cons d u =>
          rw [chs_two] at h
          obtain ⟨D, e, rfl⟩ := Option.map_eq_some_iff.mp h
          rcases List.mem_cons.mp hx with rfl | hx
          · simp
          · exact ih u.length (by rw [← hn]; simp; omega) u rfl D e x hx
      · rw [chs_one h92] at h
        obtain ⟨D, e, rfl⟩ := Option.map_eq_some_iff.mp h
        rcases List.mem_cons.mp hx with rfl | hx
        · simp
        · exact ih t.length (by rw [← hn]; simp) t rfl D e x hx
theorem chs_flat : ∀ (w : List Nat) (C : List (List Nat)), chs w = some C → C.flatten = w := by
  intro w
  induction hn : w.length using Nat.strongRecOn generalizing w with
  | _ n ih =>
    intro C h
    cases w with
    | nil => rw [chs_nil] at h; cases h; rfl
    | cons c t =>
      by_cases h92 : c = 92
      · subst h92
        cases t with
        | nil => rw [chs_bad] at h; cases h
        | cons d u =>
          rw [chs_two] at h
          obtain ⟨D, e, rfl⟩ := Option.map_eq_some_iff.mp h
          rw [List.flatten_cons, ih u.length (by rw [← hn]; simp; omega) u rfl D e]; rfl
      · rw [chs_one h92] at h
        obtain ⟨D, e, rfl⟩ := Option.map_eq_some_iff.mp h
        rw [List.flatten_cons, ih t.length (by rw [← hn]; simp) t rfl D e]; rfl
theorem chars_of_ok (w : List Nat) (hw : w.length ≤ 500000) : ∃ τ, sem_chars_of [.fz (.str w)] = .ok (optW (chs w)) τ := by
  obtain ⟨τ, e⟩ := co_loop w hw w.length 0 [] (999999 + 1) (by simp) (Nat.zero_le _) (Nat.le_refl _) (by omega)
  have e := while_fuel e
  simp only [Int.natCast_zero, List.map_nil, List.nil_append, List.drop_zero] at e
  unfold sem_chars_of runDef d_chars_of
  cases h : chs w with
  | none =>
    rw [h] at e
    refine ⟨[.un], ?_⟩
    simp [-List.map_map, e, optW]
  | some C =>
    rw [h] at e
    refine ⟨[.un], ?_⟩
    simp [-List.map_map, e, optW]
def plainC (x : List Nat) : List Nat := if x = [92, 110] then [10] else [x.getLast?.getD 0]
theorem plain_ok (x : List Nat) (h : x ≠ []) (hx : x.length ≤ 1000000) : sem_plain_char [.fz (.str x)] = .ok (.fz (.str (plainC x))) [.un] := by
  obtain ⟨l, c, rfl⟩ : ∃ l c, x = l ++ [c] := ⟨x.dropLast, x.getLast h, (List.dropLast_concat_getLast h).symm⟩
  unfold sem_plain_char runDef d_plain_char plainC
  by_cases h2 : l ++ [c] = [92, 110]
  · rw [if_pos h2, h2]; simp
  · rw [if_neg h2]
    have z : l.length ≤ 16777215 := by simp at hx; omega
    simp [h2, z]
def optS : Option (List Nat) → PV | none => .non | some i => .str i
def stepR (st : List (List Nat) × Option (List Nat)) (x : List Nat) : List (List Nat) × Option (List Nat) :=
  match st.2 with
  | none => if x = [91] then (st.1, some []) else (st.1 ++ [plainC x], none)
  | some i => if x = [93] then (st.1 ++ [i], none) else (st.1, some (i ++ plainC x))
theorem plainC_len (x : List Nat) : (plainC x).length = 1 := by unfold plainC; split <;> rfl
def ilen : Option (List Nat) → Nat | none => 0 | some i => i.length
theorem rg_loop (a0 a1 : SV) : ∀ (C G : List (List Nat)) (i : Option (List Nat)), (∀ x ∈ C, x ≠ [] ∧ x.length ≤ 1000000) → G.length + C.length ≤ 1000000 → ilen i + C.length ≤ 1000000 →
    loopF (turnF (gN 4) lb1_read_glyphs) (C.map .str) [a0, a1, .ow (.lst (G.map .str)), .fz (optS i), .un, .un] = .nx [a0, a1, .ow (.lst ((C.foldl stepR (G, i)).1.map .str)), .fz (optS (C.foldl stepR (G, i)).2), .un, .un]
  | [], G, i, _, _, _ => by simp [loopF]
  | x :: C, G, i, hx, hG, hi => by
    obtain ⟨x1, x2⟩ := hx x (List.mem_cons_self ..)
    rw [List.length_cons] at hG hi
    have ep := plain_ok x x1 x2
    have pl := plainC_len x
    have zG : G.length < 16777216 := by omega
    have ih := rg_loop a0 a1 C (stepR (G, i) x).1 (stepR (G, i) x).2 (fun y hy => hx y (List.mem_cons_of_mem _ hy))
    have et : turnF (gN 4) lb1_read_glyphs (.str x) [a0, a1, .ow (.lst (G.map .str)), .fz (optS i), .un, .un] = .nx [a0, a1, .ow (.lst ((stepR (G, i) x).1.map .str)), .fz (optS (stepR (G, i) x).2), .un, .un] ∧ (stepR (G, i) x).1.length ≤ G.length + 1 ∧ ilen (stepR (G, i) x).2 ≤ ilen i + 1 := by
      cases i with
      | none =>
        by_cases h : x = [91]
        · subst h; simp [elb1_read_glyphs, stepR, optS, ilen]
        · by_cases h2 : x = [93]
          · subst h2; simp [-List.map_map, elb1_read_glyphs, stepR, optS, ilen, ep, zG]
          · simp [-List.map_map, elb1_read_glyphs, stepR, optS, ilen, ep, zG, h, h2]
      | some i =>
        have zi : i.length + 1 ≤ 16777216 := by simp [ilen] at hi; omega
        by_cases h : x = [93]
        · subst h; simp [elb1_read_glyphs, stepR, optS, ilen, zG]
        · by_cases h2 : x = [91]
          · subst h2; simp [-List.map_map, elb1_read_glyphs, stepR, optS, ilen, ep, zG, zi, pl]
          · simp [-List.map_map, elb1_read_glyphs, stepR, optS, ilen, ep, zG, h, h2, zi, pl]
    rw [List.map_cons, loopF, et.1]
    dsimp only
    rw [ih (by omega) (by omega)]
    rfl
def sgs : List Nat := [33, 34, 35, 36, 38, 39, 40, 41, 42, 43, 44, 45, 46, 47, 48, 49, 50, 51, 52, 53, 54, 55, 56, 57, 58, 59, 60, 61, 62, 63, 64, 65, 66, 67, 68, 69, 70, 71, 72, 73, 74, 75, 76, 77, 78, 79, 80, 81, 82, 83, 84, 85, 86, 87, 88, 89, 90, 91, 92, 93, 94, 95, 96, 97, 98, 99, 100, 101, 102, 103, 104, 105, 106, 107, 108, 109, 110, 111, 112, 113, 114, 115, 116, 117, 118, 119, 120, 121, 122, 123, 124, 125, 126]
def sgn (c : Nat) : Bool := decide (c ∈ sgs)
def gname (g : List Nat) : Bool := decide (g = [45, 10]) || (decide (1 ≤ g.length ∧ g.length ≤ 4) && g.all sgn)
theorem isg_ok (g : List Nat) (hg : g.length ≤ 1000000) : ∃ τ, sem_is_glyph_name [.fz (.str g)] = .ok (.fz (.bl (gname g))) τ := by
  have zg : g.length ≤ 16777216 := by omega
  have lc := lc_typed1 (vs := [1]) (g := gN 1) (dt := dYes) (de := dOp2 gIn (dVar 1) (dC (.str sgs))) (τ := [.fz (.str g), .un]) (fun c => PV.str [c]) PV.bl sgn (xs := g) (fun c _ => by simp [inP, sgn]) zg
  unfold sem_is_glyph_name runDef d_is_glyph_name gname
  rw [show ([33, 34, 35, 36, 38, 39, 40, 41, 42, 43, 44, 45, 46, 47, 48, 49, 50, 51, 52, 53, 54, 55, 56, 57, 58, 59, 60, 61, 62, 63, 64, 65, 66, 67, 68, 69, 70, 71, 72, 73, 74, 75, 76, 77, 78, 79, 80, 81, 82, 83, 84, 85, 86, 87, 88, 89, 90, 91, 92, 93, 94, 95, 96, 97, 98, 99, 100, 101, 102, 103, 104, 105, 106, 107, 108, 109, 110, 111, 112, 113, 114, 115, 116, 117, 118, 119, 120, 121, 122, 123, 124, 125, 126] : List Nat) = sgs from rfl]
  have ea : ((g.map sgn).all id) = g.all sgn := by rw [List.all_map]; rfl
  generalize g.all sgn = b at *
  generalize sgs = S at *
  by_cases h : g = [45, 10]
  · simp [h]
  · by_cases h1 : 1 ≤ g.length
    · have h1' : (1 : Int) ≤ (g.length : Int) := by omega
      by_cases h2 : g.length ≤ 4
      · have h2' : (g.length : Int) ≤ 4 := by omega
        simp [-List.map_map, h, h1', h2', h1, h2, lc, ea, zg]
      · have h2' : ¬ (g.length : Int) ≤ 4 := by omega
        simp [-List.map_map, h, h1', h2', h1, h2, lc, ea, zg]
    · have h1' : ¬ (1 : Int) ≤ (g.length : Int) := by omega
      simp [-List.map_map, h, h1', h1, lc, ea, zg]
def rgP (w : List Nat) : Option (List (List Nat)) :=
  match chs w with
  | none => none
  | some C => if C = [] then none else if (C.foldl stepR ([], none)).2.isSome = true then none else if (C.foldl stepR ([], none)).1.all gname = true then (if encGs (C.foldl stepR ([], none)).1 = w then some (C.foldl stepR ([], none)).1 else none) else none
end Gx

namespace Gx
open PySem PySem.Spec L2 VL
theorem mem_flat_len : ∀ (ls : List (List Nat)), ∀ l ∈ ls, l.length ≤ ls.flatten.length
  | a :: ls, l, h => by
    rcases List.mem_cons.mp h with rfl | h
    · simp
    · have := mem_flat_len ls l h; rw [List.flatten_cons, List.length_append]; omega
theorem ne_flat_len : ∀ (ls : List (List Nat)), (∀ l ∈ ls, l ≠ []) → ls.length ≤ ls.flatten.length
  | [], _ => Nat.le_refl _
  | a :: ls, h => by
    have := ne_flat_len ls fun l hl => h l (List.mem_cons_of_mem _ hl)
    have h2 := List.length_pos_iff.mpr (h a (List.mem_cons_self ..))
    rw [List.flatten_cons, List.length_append, List.length_cons]; omega
theorem fold_len : ∀ (C G : List (List Nat)) (i : Option (List Nat)), (C.foldl stepR (G, i)).1.length ≤ G.length + C.length
  | [], G, i => Nat.le_refl _
  | x :: C, G, i => by
    have := fold_len C (stepR (G, i) x).1 (stepR (G, i) x).2
    rw [List.foldl_cons]
    have h2 : (stepR (G, i) x).1.length ≤ G.length + 1 := by
      cases i <;> simp only [stepR] <;> split <;> simp
    rw [List.length_cons]
    exact Nat.le_trans this (by omega)
theorem gname_len {g : List Nat} (h : gname g = true) : 1 ≤ g.length ∧ g.length ≤ 4 := by
  unfold gname at h
  rw [Bool.or_eq_true, Bool.and_eq_true] at h
  rcases h with h | h
  · rw [of_decide_eq_true h]; decide
  · exact of_decide_eq_true h.1
theorem gname_ne {g : List Nat} (h : gname g = true) : g ≠ [] := fun z => by
  have := gname_len h; rw [z] at this; simp at this
theorem encGs_le : ∀ G : List (List Nat), (∀ g ∈ G, gname g = true) → (encGs G).length ≤ 10 * G.length
  | [], _ => Nat.le_refl _
  | g :: G, h => by
    have h1 := gname_len (h g (List.mem_cons_self ..))
    have h2 := encG_len g
    have := encGs_le G fun x hx => h x (List.mem_cons_of_mem _ hx)
    rw [encGs_cons, List.length_append, List.length_cons]; omega
theorem rg_ilen : ∀ (C G : List (List Nat)) (i : Option (List Nat)), (∀ g ∈ G, g.length ≤ 300000) → ilen i + C.length ≤ 300000 → ∀ g ∈ (C.foldl stepR (G, i)).1, g.length ≤ 300000
  | [], G, i, h, _ => h
  | x :: C, G, i, h, hi => by
    rw [List.foldl_cons]
    rw [List.length_cons] at hi
    have pl := plainC_len x
    refine rg_ilen C (stepR (G, i) x).1 (stepR (G, i) x).2 ?_ ?_
    · cases i with
      | none =>
        simp only [stepR]; split
        · exact h
        · intro g hg; rcases List.mem_append.mp hg with hg | hg
          · exact h g hg
          · rw [List.mem_singleton.mp hg]; omega
      | some i =>
        simp only [stepR]; split
        · intro g hg; rcases List.mem_append.mp hg with hg | hg
          · exact h g hg
          · rw [List.mem_singleton.mp hg]; simp only [ilen] at hi; omega
        · exact h
    · cases i <;> simp only [stepR] <;> split <;> simp only [ilen] at * <;> simp <;> omega
theorem read_glyphs_ok (w : List Nat) (hw : w.length ≤ 90000) : ∃ τ, sem_read_glyphs [.fz (.str w)] = .ok (.fz (optL (rgP w))) τ := by
  obtain ⟨τ0, e0⟩ := chars_of_ok w (by omega)
  unfold sem_read_glyphs runDef d_read_glyphs rgP
  rw [show ([SV.fz (.str w)] ++ List.replicate (6 - 1) SV.un) = [.fz (.str w), .un, .un, .un, .un, .un] from rfl]
  cases hc : chs w with
  | none =>
    rw [hc] at e0
    simp [est1_read_glyphs, est2_read_glyphs, e0, optW, optL]
  | some C =>
    rw [hc] at e0
    have hne := chs_ne w C hc
    have hfl := chs_flat w C hc
    have hC : C.length ≤ 90000 := by have := ne_flat_len C hne; rw [hfl] at this; omega
    have hm := mem_flat_len C
    rw [hfl] at hm
    dsimp only
    by_cases hn : C = []
    · subst hn
      rw [if_pos rfl]
      simp [est1_read_glyphs, est2_read_glyphs, e0, optW, optL]
    · rw [if_neg hn]
      have lp := rg_loop (.fz (.str w)) (.fz (.lst (C.map .str))) C [] none (fun x hx => ⟨hne x hx, by have := hm x hx; omega⟩) (by simp; omega) (by simp [ilen]; omega)
      have fl := fold_len C [] none
      have gl := rg_ilen C [] none (fun _ h => nomatch h) (by simp [ilen]; omega)
      simp only [List.map_nil] at lp
      generalize C.foldl stepR ([], none) = st at *
      obtain ⟨G, i⟩ := st
      dsimp only at *
      have zG : G.length ≤ 16777216 := by simp at fl; omega
      have zC : C.length ≤ 16777216 := by omega
      have hn' : ¬ ((C.length : Int) = 0) := by have := List.length_pos_iff.mpr hn; omega
      have s1 : st1_read_glyphs [.fz (.str w), .un, .un, .un, .un, .un] = .nx [.fz (.str w), .fz (.lst (C.map .str)), .un, .un, .un, .un] := by
        simp [-List.map_map, est1_read_glyphs, e0, optW]
      have s2 : st2_read_glyphs [.fz (.str w), .fz (.lst (C.map .str)), .un, .un, .un, .un] = .nx [.fz (.str w), .fz (.lst (C.map .str)), .un, .un, .un, .un] := by
        simp [-List.map_map, est2_read_glyphs, hn, hn']
      have lc := lc_typed1 (vs := [5]) (g := gN 5) (dt := dYes) (de := dCallN sem_is_glyph_name (dCons (dVar 5) dNil)) (τ := [.fz (.str w), .fz (.lst (C.map .str)), .fz (.lst (G.map .str)), .fz (optS i), .un, .un]) PV.str PV.bl gname (xs := G) (fun g hg => by
        obtain ⟨τ, e⟩ := isg_ok g (by have := gl g hg; omega)
        simp [e]) zG
      have ea : ((G.map gname).all id) = G.all gname := by rw [List.all_map]; rfl
      cases i with
      | some i =>

        simp only [optS] at lp
        simp [-List.map_map, lp, s1, s2, est3_read_glyphs, est4_read_glyphs, est5_read_glyphs, est6_read_glyphs, optL]
      | none =>
        simp only [optS] at lp lc
        by_cases hg : G.all gname = true
        · obtain ⟨τ2, e2⟩ := glyphs_text_ok G (Nat.le_trans (encGs_le G (List.all_eq_true.mp hg)) (by simp at fl; omega))
          by_cases he : encGs G = w
          · simp [-List.map_map, lp, lc, ea, hg, e2, he, s1, s2, est3_read_glyphs, est4_read_glyphs, est5_read_glyphs, est6_read_glyphs, est7_read_glyphs, optL, zG]
          · simp [-List.map_map, lp, lc, ea, hg, e2, he, s1, s2, est3_read_glyphs, est4_read_glyphs, est5_read_glyphs, est6_read_glyphs, est7_read_glyphs, optL, zG]
        · have hg' : G.all gname = false := by simpa using hg
          simp [-List.map_map, lp, lc, ea, hg', s1, s2, est3_read_glyphs, est4_read_glyphs, est5_read_glyphs, est6_read_glyphs, est7_read_glyphs, optL, zG]
/-! ### what was written is read -/
theorem chs_enc (c : Nat) (t : List Nat) : chs (encC c ++ t) = (chs t).map (encC c :: ·) := by
  unfold encC
  by_cases h : c = 10
  · rw [if_pos h]; exact chs_two 110 t
  · rw [if_neg h]
    by_cases h2 : c = 91 ∨ c = 93 ∨ c = 92
    · rw [if_pos h2]; exact chs_two c t
    · rw [if_neg h2]; exact chs_one (by omega) t
theorem chs_inn : ∀ (g t : List Nat), chs (inn g ++ t) = (chs t).map (g.map encC ++ ·)
  | [], t => by simp [inn]
  | c :: g, t => by
    have : inn (c :: g) ++ t = encC c ++ (inn g ++ t) := by simp [inn]
    rw [this, chs_enc, chs_inn g t]
    cases chs t <;> rfl
def chG (g : List Nat) : List (List Nat) := if g.length = 1 then g.map encC else [91] :: (g.map encC ++ [[93]])
theorem chs_G (g t : List Nat) : chs (encG g ++ t) = (chs t).map (chG g ++ ·) := by
  unfold encG chG
  by_cases h : g.length = 1
  · rw [if_pos h, if_pos h, chs_inn]
  · rw [if_neg h, if_neg h, List.cons_append, chs_one (by decide), List.append_assoc, chs_inn, show [93] ++ t = 93 :: t from rfl, chs_one (by decide)]
    cases chs t <;> simp
theorem chs_Gs : ∀ G : List (List Nat), chs (encGs G) = some (G.map chG).flatten
  | [] => chs_nil
  | g :: G => by rw [encGs_cons, chs_G, chs_Gs G]; rfl
theorem plain_enc (c : Nat) : plainC (encC c) = [c] := by
  unfold plainC encC
  by_cases h : c = 10
  · subst h; rfl
  · rw [if_neg h]
    by_cases h2 : c = 91 ∨ c = 93 ∨ c = 92
    · rw [if_pos h2, if_neg (by simp; omega)]; rfl
    · rw [if_neg h2, if_neg (by simp)]; rfl
theorem enc_ne (c : Nat) : encC c ≠ [91] ∧ encC c ≠ [93] := by
  unfold encC
  by_cases h : c = 10
  · rw [if_pos h]; decide
  · rw [if_neg h]
    by_cases h2 : c = 91 ∨ c = 93 ∨ c = 92
    · rw [if_pos h2]; simp
    · rw [if_neg h2]; simp; omega
theorem fold_in : ∀ (g : List Nat) (G : List (List Nat)) (i : List Nat), (g.map encC).foldl stepR (G, some i) = (G, some (i ++ g))
  | [], G, i => by simp
  | c :: g, G, i => by
    rw [List.map_cons, List.foldl_cons]
    have : stepR (G, some i) (encC c) = (G, some (i ++ [c])) := by
      simp only [stepR]; rw [if_neg (enc_ne c).2, plain_enc]
    rw [this, fold_in g G]; simp
theorem fold_G (g : List Nat) (G : List (List Nat)) : (chG g).foldl stepR (G, none) = (G ++ [g], none) := by
  unfold chG
  by_cases h : g.length = 1
  · rw [if_pos h]
    obtain ⟨c, rfl⟩ := List.length_eq_one_iff.mp h
    simp only [List.map_cons, List.map_nil, List.foldl_cons, List.foldl_nil, stepR]
    rw [if_neg (enc_ne c).1, plain_enc]
  · rw [if_neg h, List.foldl_cons, List.foldl_append]
    have : stepR (G, none) [91] = (G, some []) := rfl
    rw [this, fold_in]
    rfl
theorem fold_Gs : ∀ (G H : List (List Nat)), ((G.map chG).flatten).foldl stepR (H, none) = (H ++ G, none)
  | [], H => by simp
  | g :: G, H => by
    rw [List.map_cons, List.flatten_cons, List.foldl_append, fold_G, fold_Gs G]; simp
theorem chG_ne (g : List Nat) : chG g ≠ [] := by
  unfold chG; split
  · rename_i h
    obtain ⟨c, rfl⟩ := List.length_eq_one_iff.mp h
    simp
  · simp
theorem rgP_enc {G : List (List Nat)} (h : G ≠ []) (hg : ∀ g ∈ G, gname g = true) : rgP (encGs G) = some G := by
  unfold rgP
  rw [chs_Gs]
  dsimp only
  have hne : (G.map chG).flatten ≠ [] := by
    cases G with
    | nil => exact absurd rfl h
    | cons g G => rw [List.map_cons, List.flatten_cons]; intro z; exact chG_ne g (List.append_eq_nil_iff.mp z).1
  rw [if_neg hne, fold_Gs]
  rw [if_neg (by simp), if_pos (List.all_eq_true.mpr (by simpa using hg)), if_pos (by simp)]
  simp
theorem rgP_ok {w : List Nat} {G : List (List Nat)} (h : rgP w = some G) : G ≠ [] ∧ (∀ g ∈ G, gname g = true) ∧ encGs G = w := by
  unfold rgP at h
  cases hc : chs w with
  | none => rw [hc] at h; cases h
  | some C =>
    rw [hc] at h
    dsimp only at h
    by_cases hn : C = []
    · rw [if_pos hn] at h; cases h
    · rw [if_neg hn] at h
      generalize C.foldl stepR ([], none) = st at *
      split at h
      · cases h
      · split at h
        · rename_i h2
          split at h
          · rename_i h3
            cases h
            refine ⟨?_, List.all_eq_true.mp h2, h3⟩
            intro z
            rw [z] at h3
            have : w = [] := h3.symm
            subst this
            rw [chs_nil] at hc
            cases hc
            exact hn rfl
          · cases h
        · cases h
end Gx

namespace Gx
open PySem PySem.Spec L2 VL
/-! ### lines read -/
def lows : List Nat := [97, 98, 99, 100, 101, 102, 103, 104, 105, 106, 107, 108, 109, 110, 111, 112, 113, 114, 115, 116, 117, 118, 119, 120, 121, 122]
def nch (c : Nat) : Bool := decide (c ∈ lows) || decide (c ∈ dgs)
def nmP (w : List Nat) : Bool := decide (1 ≤ w.length ∧ w.length ≤ 16) && (decide ((w.head?.getD 0) ∈ lows) && w.all nch)
theorem is_name_ok (w : List Nat) (hw : w.length ≤ 1000000) : ∃ τ, sem_is_name [.fz (.str w)] = .ok (.fz (.bl (nmP w))) τ := by
  have zw : w.length ≤ 16777216 := by omega
  have lc := lc_typed1 (vs := [1]) (g := gN 1) (dt := dYes) (de := dOrV (dOp2 gIn (dVar 1) (dC (.str lows))) (dOp2 gIn (dVar 1) (dC (.str dgs)))) (τ := [.fz (.str w), .un]) (fun c => PV.str [c]) PV.bl nch (xs := w) (fun c _ => by
    by_cases h : c ∈ lows
    · simp [inP, nch, h]
    · by_cases h2 : c ∈ dgs <;> simp [inP, nch, h, h2]) zw
  unfold sem_is_name runDef d_is_name nmP
  rw [show ([97, 98, 99, 100, 101, 102, 103, 104, 105, 106, 107, 108, 109, 110, 111, 112, 113, 114, 115, 116, 117, 118, 119, 120, 121, 122] : List Nat) = lows from rfl, show ([48, 49, 50, 51, 52, 53, 54, 55, 56, 57] : List Nat) = dgs from rfl]
  have ea : ((w.map nch).all id) = w.all nch := by rw [List.all_map]; rfl
  generalize w.all nch = b at *
  by_cases h1 : 1 ≤ w.length
  · have h1' : (1 : Int) ≤ (w.length : Int) := by omega
    by_cases h2 : w.length ≤ 16
    · have h2' : (w.length : Int) ≤ 16 := by omega
      obtain ⟨c, t, rfl⟩ : ∃ c t, w = c :: t := by
        cases w with
        | nil => simp at h1
        | cons c t => exact ⟨c, t, rfl⟩
      have h3' : (t.length : Int) + 1 ≤ 16 := by simpa using h2'
      have h2'' : t.length + 1 ≤ 16 := by simpa using h2
      have h3'' : t.length ≤ 15 := by omega
      have zt : t.length ≤ 16777215 := by omega
      have zt2 : t.length + 1 ≤ 16777216 := by omega
      have h1'' : (1 : Int) ≤ (t.length : Int) + 1 := by omega
      simp only [List.map_cons] at lc ea
      generalize lows = S at *
      generalize dgs = S2 at *
      by_cases h : c ∈ S
      · simp [-List.map_map, -List.all_cons, h1', h2', h1, h2, h3', h3'', h1'', lc, ea, zw, zt, zt2, h, inP]
      · simp [-List.map_map, -List.all_cons, h1', h2', h1, h2, h3', h3'', h1'', lc, ea, zw, zt, zt2, h, inP]
    · have h2' : ¬ (w.length : Int) ≤ 16 := by omega
      simp [-List.map_map, h1', h2', h1, h2, zw]
  · have h1' : ¬ (1 : Int) ≤ (w.length : Int) := by omega
    simp [-List.map_map, h1', h1, zw]
def sp (x : Nat) (w : List Nat) : List (List Nat) := TL.spl [x] 0 [] w
theorem splc_cons (x : Nat) (acc t : List Nat) (c : Nat) : TL.spl [x] 0 acc (c :: t) = if c = x then acc :: TL.spl [x] 0 [] t else TL.spl [x] 0 (acc ++ [c]) t := by
  have hp : TL.pre [x] (c :: t) = decide (c = x) := by
    show ((c :: t).take 1 == [x]) = _
    simp [Bool.beq_eq_decide_eq]
  by_cases h : c = x
  · rw [if_pos h, TL.spl_hit (by rw [hp]; exact decide_eq_true h)]; rfl
  · rw [if_neg h, TL.spl_miss (by rw [hp]; exact decide_eq_false h)]
theorem splc_len (x : Nat) : ∀ (t acc : List Nat), (TL.spl [x] 0 acc t).length ≤ t.length + 1 ∧ ∀ p ∈ TL.spl [x] 0 acc t, p.length ≤ acc.length + t.length
  | [], acc => by rw [TL.spl_nil]; simp
  | c :: t, acc => by
    rw [splc_cons]
    by_cases h : c = x
    · rw [if_pos h]
      have := splc_len x t []
      refine ⟨by simp; omega, fun p hp => ?_⟩
      rcases List.mem_cons.mp hp with rfl | hp
      · simp
      · have := this.2 p hp; simp at *; omega
    · rw [if_neg h]
      have := splc_len x t (acc ++ [c])
      refine ⟨by simp; omega, fun p hp => ?_⟩
      have := this.2 p hp; simp at *; omega
theorem sp_len (x : Nat) (w : List Nat) : (sp x w).length ≤ w.length + 1 := (splc_len x w []).1
theorem sp_mem {x : Nat} {w p : List Nat} (h : p ∈ sp x w) : p.length ≤ w.length := by simpa using (splc_len x w []).2 p h
theorem sp_free {x : Nat} {w : List Nat} (h : x ∉ w) : sp x w = [w] := TL.spl_last1 h
theorem sp_cut {x : Nat} {w t : List Nat} (h : x ∉ w) : sp x (w ++ x :: t) = w :: sp x t := TL.spl_part1 (S := []) h
abbrev Row := Int × Int × List Nat × List (List Nat)
def encR (r : Row) : PV := .tup [.int r.1, .int r.2.1, .str r.2.2.1, .lst (r.2.2.2.map .str)]
def optR : Option Row → PV | none => .non | some r => encR r
def row4 (a b c d : List Nat) : Option Row :=
  if nmP c = true then
    match numP a, numP b, rgP d with
    | some x, some y, some G => some (x, y, c, G)
    | _, _, _ => none
  else none
def rowP (line : List Nat) : Option Row :=
  match sp 32 line with
  | [a, b, c, d] => row4 a b c d
  | _ => none
def optH : Option (Int × Int) → PV | none => .non | some h => .tup [.int h.1, .int h.2]
def head3 (p a b : List Nat) : Option (Int × Int) :=
  if p = [112, 97, 103, 101] then
    match numP a, numP b with
    | some n, some m => if n < 0 ∨ m < 0 then none else some (n, m)
    | _, _ => none
  else none
def headP (line : List Nat) : Option (Int × Int) :=
  match sp 32 line with
  | [p, a, b] => head3 p a b
  | _ => none
theorem read_row_ok (l : List Nat) (hl : l.length ≤ 90000) : ∃ τ, sem_read_row [.fz (.str l)] = .ok (.fz (optR (rowP l))) τ := by
  have h1 := sp_len 32 l
  have h2 := @sp_mem 32 l
  have zl : l.length ≤ 16777214 := by omega
  unfold sem_read_row runDef d_read_row rowP
  have e0 : TL.spl [32] 0 [] l = sp 32 l := rfl
  generalize sp 32 l = W at *
  by_cases h4 : W.length = 4
  · match W, h4 with
    | [a, b, c, d], _ =>
      dsimp only
      obtain ⟨τ1, e1⟩ := number_text_ok a (by have := @h2 a (by simp); omega)
      obtain ⟨τ2, e2⟩ := number_text_ok b (by have := @h2 b (by simp); omega)
      obtain ⟨τ3, e3⟩ := is_name_ok c (by have := @h2 c (by simp); omega)
      obtain ⟨τ4, e4⟩ := read_glyphs_ok d (by have := @h2 d (by simp); omega)
      unfold row4
      by_cases hn : nmP c = true
      · rw [if_pos hn]
        rw [hn] at e3
        cases ha : numP a with
        | none => rw [ha] at e1; simp [-List.map_map, e0, e1, e2, e3, e4, zl, tyP, optR, optI]
        | some x =>
          rw [ha] at e1
          cases hb : numP b with
          | none => rw [hb] at e2; simp [-List.map_map, e0, e1, e2, e3, e4, zl, tyP, optR, optI]
          | some y =>
            rw [hb] at e2
            cases hd : rgP d with
            | none => rw [hd] at e4; simp [-List.map_map, e0, e1, e2, e3, e4, zl, tyP, optR, optI, optL]
            | some G => rw [hd] at e4; simp [-List.map_map, e0, e1, e2, e3, e4, zl, tyP, optR, optI, optL, encR]
      · rw [if_neg hn]
        have hn' : nmP c = false := by simpa using hn
        rw [hn'] at e3
        simp [-List.map_map, e0, e1, e2, e3, e4, zl, tyP, optR, optI]
  · have zW : W.length ≤ 16777216 := by omega
    have h4' : ¬ (W.length : Int) = 4 := by omega
    have er : (match W with | [a, b, c, d] => row4 a b c d | _ => none) = none := by
      split
      · simp at h4
      · rfl
    rw [er]
    simp [-List.map_map, e0, zl, zW, h4', tyP, optR]
theorem read_head_ok (l : List Nat) (hl : l.length ≤ 90000) : ∃ τ, sem_read_head [.fz (.str l)] = .ok (.fz (optH (headP l))) τ := by
  have h1 := sp_len 32 l
  have h2 := @sp_mem 32 l
  have zl : l.length ≤ 16777214 := by omega
  unfold sem_read_head runDef d_read_head headP
  have e0 : TL.spl [32] 0 [] l = sp 32 l := rfl
  generalize sp 32 l = W at *
  by_cases h4 : W.length = 3
  · match W, h4 with
    | [p, a, b], _ =>
      dsimp only
      obtain ⟨τ1, e1⟩ := number_text_ok a (by have := @h2 a (by simp); omega)
      obtain ⟨τ2, e2⟩ := number_text_ok b (by have := @h2 b (by simp); omega)
      unfold head3
      by_cases hp : p = [112, 97, 103, 101]
      · rw [if_pos hp]
        subst hp
        cases ha : numP a with
        | none => rw [ha] at e1; simp [-List.map_map, e0, e1, e2, zl, tyP, optH, optI]
        | some x =>
          rw [ha] at e1
          cases hb : numP b with
          | none => rw [hb] at e2; simp [-List.map_map, e0, e1, e2, zl, tyP, optH, optI]
          | some y =>
            rw [hb] at e2
            by_cases hx : x < 0
            · simp [-List.map_map, e0, e1, e2, zl, tyP, optH, optI, hx]
            · by_cases hy : y < 0
              · simp [-List.map_map, e0, e1, e2, zl, tyP, optH, optI, hx, hy]
              · simp [-List.map_map, e0, e1, e2, zl, tyP, optH, optI, hx, hy]
      · rw [if_neg hp]
        simp [-List.map_map, e0, e1, e2, zl, tyP, optH, hp]
  · have zW : W.length ≤ 16777216 := by omega
    have h4' : ¬ (W.length : Int) = 3 := by omega
    have er : (match W with | [p, a, b] => head3 p a b | _ => none) = none := by
      split
      · simp at h4
      · rfl
    rw [er]
    simp [-List.map_map, e0, zl, zW, h4', tyP, optH]
end Gx

namespace Gx
open PySem PySem.Spec L2 VL
/-! ### whole texts read -/
abbrev Page := Int × List Row
def pg : List Nat := [112, 97, 103, 101]
def leafR (r : Row) : OV := .fz (encR r)
def pgT (p : Page) : OV := .tup [.fz (.str pg), .fz (.int p.1), .lst (p.2.map leafR)]
def encP (p : Page) : PV := .tup [.str pg, .int p.1, .lst (p.2.map encR)]
def leafRs (rs : List Row) : List OV := rs.map leafR
def pgTs (ps : List Page) : List OV := ps.map pgT
theorem flats_rows (rs : List Row) : flats (rs.map leafR) = rs.map encR := by
  induction rs with
  | nil => simp
  | cons r rs ih => simp only [List.map_cons, flats_cons, ih, leafR, flat_fz]
theorem flats_pages (ps : List Page) : flats (ps.map pgT) = ps.map encP := by
  induction ps with
  | nil => simp
  | cons p ps ih => rw [List.map_cons, flats_cons, ih]; simp only [pgT, encP, flat_tup, flat_lst, flats_cons, flat_fz, flats_nil, flats_rows, List.map_cons]
theorem flat_pages (ps : List Page) : (OV.lst (pgTs ps)).flat = .lst (ps.map encP) := by rw [flat_lst]; congr 1; exact flats_pages ps
theorem last_ix (T : List OV) (x : OV) : ixN (T ++ [x]).length (-1) = some T.length := by
  rw [List.length_append]
  show ixN (T.length + 1) (-1) = _
  unfold ixN; simp; try omega
theorem last_get (T : List OV) (x : OV) : (T ++ [x])[T.length]? = some x := by simp
theorem res_last (T R : List OV) (a b : OV) : OV.res (.lst (T ++ [.tup [a, b, .lst R]])) [.int (-1), .int 2] = some ([T.length, 2], .lst R) := by
  rw [OV.res, ixOf_lst, last_ix]
  simp
theorem get_last (T R : List OV) (a b : OV) : OV.get (.lst (T ++ [.tup [a, b, .lst R]])) [T.length, 2] = some (.lst R) := by
  simp
theorem put_last (T R : List OV) (a b y : OV) : OV.put (.lst (T ++ [.tup [a, b, .lst R]])) [T.length, 2] y = .lst (T ++ [.tup [a, b, y]]) := by
  simp
def goP (ended : Nat) : List (List Nat) → Nat → Int → List Page → Option Page → Nat ⊕ (Int × List Page)
  | [], _, left, Q, cur => .inr (left, Q ++ cur.toList)
  | l :: ls, k, left, Q, cur =>
    if 0 < left then
      match rowP l with
      | none => .inl (k + 1)
      | some r => if ended ≤ k then .inl (k + 1) else
        match cur with
        | none => .inl 0
        | some p => goP ended ls (k + 1) (left - 1) Q (some (p.1, p.2 ++ [r]))
    else
      match headP l with
      | none => .inl (k + 1)
      | some h => if ended ≤ k then .inl (k + 1) else goP ended ls (k + 1) h.2 (Q ++ cur.toList) (some (h.1, []))
def itm (x : List Nat × Nat) : PV := .tup [.int (x.2 : Nat), .str x.1]
theorem headP_lt {l : List Nat} {h : Int × Int} (e : headP l = some h) : 0 ≤ h.1 ∧ 0 ≤ h.2 := by
  unfold headP at e
  split at e
  · unfold head3 at e
    split at e
    · split at e
      · split at e
        · cases e
        · cases e; simp at *; omega
      · cases e
    · cases e
  · cases e
theorem rp_loop (a0 a1 : SV) (ended : Nat) : ∀ (ls : List (List Nat)) (k : Nat) (left : Int) (Q : List Page) (cur : Option Page), (∀ l ∈ ls, l.length ≤ 90000) → k + ls.length ≤ 1000000 → Q.length + 1 + ls.length ≤ 1000000 → (∀ p, cur = some p → p.2.length + ls.length ≤ 1000000) → (0 < left → cur ≠ none) →
    ∃ τ : PSt, loopF (turnF (gT (gLc (gN 5) (gLc (gN 6) gL0))) lb1_read_pages) ((ls.zipIdx k).map itm) [a0, a1, .tr (.lst (pgTs (Q ++ cur.toList))), .fz (.int left), .fz (.int (ended : Nat)), .un, .un, .un] =
      (match goP ended ls k left Q cur with
        | .inl e => .er ⟨"TextError", [("line", .int (e : Nat))]⟩ τ
        | .inr (l2, P) => .nx [a0, a1, .tr (.lst (pgTs P)), .fz (.int l2), .fz (.int (ended : Nat)), .un, .un, .un])
  | [], k, left, Q, cur, _, _, _, _, _ => ⟨[], by simp [loopF, goP]⟩
  | l :: ls, k, left, Q, cur, hl, hk, hQ, hc, hp => by
    rw [List.length_cons] at hk hQ hc
    have q1 : In62 (k : Int) := In62.of (by omega) (by omega)
    have q2 : In62 ((k : Int) + 1) := In62.of (by omega) (by omega)
    rw [List.zipIdx_cons, List.map_cons, loopF]
    unfold goP
    by_cases h0 : 0 < left
    · rw [if_pos h0]
      obtain ⟨τ1, e1⟩ := read_row_ok l (hl l (List.mem_cons_self ..))
      cases hr : rowP l with
      | none =>
        rw [hr] at e1
        refine ⟨?_, ?_⟩
        rotate_left
        · simp [elb1_read_pages, itm, h0, e1, optR, q1, q2]
          rfl
      | some r =>
        rw [hr] at e1
        by_cases he : ended ≤ k
        · have he' : (ended : Int) ≤ (k : Int) := by omega
          dsimp only
          rw [if_pos he]
          refine ⟨?_, ?_⟩
          rotate_left
          · simp [elb1_read_pages, itm, h0, e1, optR, q1, q2, he', encR]
            rfl
        · have he' : ¬ (ended : Int) ≤ (k : Int) := by omega
          dsimp only
          rw [if_neg he]
          obtain ⟨p, rfl⟩ := Option.ne_none_iff_exists'.mp (hp h0)
          obtain ⟨n, rs⟩ := p
          have hrs := hc (n, rs) rfl
          dsimp only at hrs ⊢
          obtain ⟨τ, ih⟩ := rp_loop a0 a1 ended ls (k + 1) (left - 1) Q (some (n, rs ++ [r])) (fun x hx => hl x (List.mem_cons_of_mem _ hx)) (by omega) (by omega) (fun p hp => by cases hp; simp; omega) (by simp)
          refine ⟨τ, ?_⟩
          rw [← ih]
          have zR : (leafRs rs).length < 16777216 := by simp [leafRs]; omega
          have er : encR r ≠ .non := by simp [encR]
          have t1 : pgTs (Q ++ (some (n, rs)).toList) = pgTs Q ++ [.tup [.fz (.str pg), .fz (.int n), .lst (leafRs rs)]] := by simp [pgTs, pgT, leafRs]
          have t2 : pgTs (Q ++ (some (n, rs ++ [r])).toList) = pgTs Q ++ [.tup [.fz (.str pg), .fz (.int n), .lst (leafRs rs ++ [.fz (encR r)])]] := by simp [pgTs, pgT, leafRs, leafR]
          rw [t1, t2]
          generalize pgTs Q = T at *
          generalize leafRs rs = R at *
          have et : turnF (gT (gLc (gN 5) (gLc (gN 6) gL0))) lb1_read_pages (itm (l, k)) [a0, a1, .tr (.lst (T ++ [.tup [.fz (.str pg), .fz (.int n), .lst R]])), .fz (.int left), .fz (.int (ended : Nat)), .un, .un, .un] = .nx [a0, a1, .tr (.lst (T ++ [.tup [.fz (.str pg), .fz (.int n), .lst (R ++ [.fz (encR r)])]])), .fz (.int (left - 1)), .fz (.int (ended : Nat)), .un, .un, .un] := by
            simp [elb1_read_pages, itm, h0, e1, optR, q1, q2, he', encR, -OV.res, -OV.get, -OV.put, res_last, get_last, put_last, zR]
          rw [et]
    · rw [if_neg h0]
      obtain ⟨τ1, e1⟩ := read_head_ok l (hl l (List.mem_cons_self ..))
      cases hr : headP l with
      | none =>
        rw [hr] at e1
        refine ⟨?_, ?_⟩
        rotate_left
        · simp [elb1_read_pages, itm, h0, e1, optH, q1, q2]
          rfl
      | some r =>
        rw [hr] at e1
        by_cases he : ended ≤ k
        · have he' : (ended : Int) ≤ (k : Int) := by omega
          dsimp only
          rw [if_pos he]
          refine ⟨?_, ?_⟩
          rotate_left
          · simp [elb1_read_pages, itm, h0, e1, optH, q1, q2, he']
            rfl
        · have he' : ¬ (ended : Int) ≤ (k : Int) := by omega
          dsimp only
          rw [if_neg he]
          obtain ⟨n, m⟩ := r
          have lc : (Q ++ cur.toList).length ≤ Q.length + 1 := by cases cur <;> simp
          obtain ⟨τ, ih⟩ := rp_loop a0 a1 ended ls (k + 1) m (Q ++ cur.toList) (some (n, [])) (fun x hx => hl x (List.mem_cons_of_mem _ hx)) (by omega) (by omega) (fun p hp => by cases hp; simp; omega) (by simp)
          refine ⟨τ, ?_⟩
          rw [← ih]
          have t2 : pgTs (Q ++ cur.toList ++ (some (n, ([] : List Row))).toList) = pgTs (Q ++ cur.toList) ++ [.tup [.fz (.str pg), .fz (.int n), .lst []]] := by simp [pgTs, pgT]
          have zT : (pgTs (Q ++ cur.toList)).length < 16777216 := by unfold pgTs; rw [List.length_map]; omega
          rw [t2]
          generalize pgTs (Q ++ cur.toList) = T at *
          have et : turnF (gT (gLc (gN 5) (gLc (gN 6) gL0))) lb1_read_pages (itm (l, k)) [a0, a1, .tr (.lst T), .fz (.int left), .fz (.int (ended : Nat)), .un, .un, .un] = .nx [a0, a1, .tr (.lst (T ++ [.tup [.fz (.str pg), .fz (.int n), .lst []]])), .fz (.int m), .fz (.int (ended : Nat)), .un, .un, .un] := by
            simp [elb1_read_pages, itm, h0, e1, optH, q1, q2, he', zT, pg]
          rw [et]

def linesP (t : List Nat) : List (List Nat) := if (sp 10 t).getLast? = some [] then (sp 10 t).dropLast else sp 10 t
def readP (t : List Nat) : Nat ⊕ List Page :=
  match goP (t.count 10) (linesP t) 0 0 [] none with
  | .inl e => .inl e
  | .inr (l, P) => if 0 < l then .inl ((linesP t).length + 1) else .inr P
theorem cnt_count (t : List Nat) : countP t [10] = (t.count 10 : Nat) := by
  show Txt.count (sl t) (sl [10]) = _
  have : (sl [10] : Str) = ⟨#[10]⟩ := rfl
  rw [this, PyProof.Rows.count_cnt, cps_sl]
  induction t with
  | nil => rfl
  | cons c t ih =>
    rw [PyProof.Rows.cnt_cons, ih, List.count_cons]
    by_cases h : c = 10
    · subst h; simp; omega
    · simp [h]
theorem sp_ne (x : Nat) (t : List Nat) : sp x t ≠ [] := by
  have : ∀ (t acc : List Nat), TL.spl [x] 0 acc t ≠ [] := by
    intro t
    induction t with
    | nil => intro acc; rw [TL.spl_nil]; simp
    | cons c t ih => intro acc; rw [splc_cons]; split <;> simp [ih]
  exact this t []
theorem read_pages_ok (t : List Nat) (ht : t.length ≤ 90000) : ∃ τ, sem_read_pages [.fz (.str t)] =
    (match readP t with
      | .inl e => .er ⟨"TextError", [("line", .int (e : Nat))]⟩ τ
      | .inr P => .ok (.fz (.lst (P.map encP))) τ) := by
  have zt : t.length ≤ 16777214 := by omega
  have e0 : TL.spl [10] 0 [] t = sp 10 t := rfl
  have hne := sp_ne 10 t
  have hlen := sp_len 10 t
  have hmem := @sp_mem 10 t
  unfold readP linesP
  unfold sem_read_pages runDef d_read_pages
  rw [show ([SV.fz (.str t)] ++ List.replicate (8 - 1) SV.un) = [.fz (.str t), .un, .un, .un, .un, .un, .un, .un] from rfl]
  obtain ⟨W, x, hW⟩ : ∃ W x, sp 10 t = W ++ [x] := ⟨(sp 10 t).dropLast, (sp 10 t).getLast hne, (List.dropLast_concat_getLast hne).symm⟩
  rw [hW] at e0 hlen hmem
  rw [hW, List.getLast?_concat, List.dropLast_concat]
  have zW : W.length ≤ 16777214 := by simp at hlen; omega
  have zW2 : W.length < 16777216 := by omega
  have zW3 : W.length + 1 < 16777216 := by omega
  have zW4 : W.length + 1 ≤ 16777216 := by omega
  have zW5 : W.length ≤ 16777216 := by omega
  have zW6 : W.length + 2 ≤ 16777216 := by omega
  have zW7 : W.length ≤ 16777215 := by omega
  have s1 : st1_read_pages [.fz (.str t), .un, .un, .un, .un, .un, .un, .un] = .nx [.fz (.str t), .ow (.lst ((W ++ [x]).map .str)), .un, .un, .un, .un, .un, .un] := by
    simp [-List.map_append, est1_read_pages, e0, zt, tyP]
  have key : ∀ L : List (List Nat), (L = W ∨ L = W ++ [x]) → (∀ l ∈ L, l.length ≤ 90000) ∧ L.length ≤ 90001 := fun L hL => by
    rcases hL with rfl | rfl
    · exact ⟨fun l hl => Nat.le_trans (hmem (List.mem_append_left _ hl)) ht, by simp at hlen; omega⟩
    · exact ⟨fun l hl => Nat.le_trans (hmem hl) ht, by simp at hlen; simp; omega⟩
  obtain ⟨L, hL, hL2, s2⟩ : ∃ L : List (List Nat), (L = W ∨ L = W ++ [x]) ∧ L = (if some x = some [] then W else W ++ [x]) ∧ st2_read_pages [.fz (.str t), .ow (.lst ((W ++ [x]).map .str)), .un, .un, .un, .un, .un, .un] = .nx [.fz (.str t), .ow (.lst ((L ++ [[]]).map .str)), .un, .un, .un, .un, .un, .un] := by
    by_cases hx : x = []
    · subst hx
      exact ⟨W, .inl rfl, by simp, by simp [est2_read_pages, zW, zW2, zW3, zW4, zW5, zW6, zW7]⟩
    · exact ⟨W ++ [x], .inr rfl, by simp [hx], by simp [est2_read_pages, hx, zW, zW2, zW3, zW4, zW5, zW6, zW7]⟩
  obtain ⟨k1, k2⟩ := key L hL
  rw [← hL2]
  obtain ⟨τ, lp⟩ := rp_loop (.fz (.str t)) (.ow (.lst ((L ++ [[]]).map .str))) (t.count 10) L 0 0 [] none k1 (by omega) (by simp; omega) (fun _ h => nomatch h) (by simp)
  have zL : L.length ≤ 16777215 := by omega
  have zL2 : L.length + 1 ≤ 16777216 := by omega
  have ecut : cutP ((L ++ [[]]).map PV.str) none (some (-1)) = L.map .str := by rw [cut_m1]; simp
  have een : enumP 0 (L.map PV.str) = (L.zipIdx 0).map itm := enum_map PV.str L 0
  have s3 : st3_read_pages [.fz (.str t), .ow (.lst ((L ++ [[]]).map .str)), .un, .un, .un, .un, .un, .un] = .nx [.fz (.str t), .ow (.lst ((L ++ [[]]).map .str)), .tr (.lst (pgTs ([] ++ none.toList))), .un, .un, .un, .un, .un] := by
    simp [-List.map_append, est3_read_pages, pgTs]
  have s45 : ∀ tr : SV, (dSeq st4_read_pages st5_read_pages) [.fz (.str t), .ow (.lst ((L ++ [[]]).map .str)), tr, .un, .un, .un, .un, .un] = .nx [.fz (.str t), .ow (.lst ((L ++ [[]]).map .str)), tr, .fz (.int 0), .fz (.int (t.count 10 : Nat)), .un, .un, .un] := fun tr => by
    simp [-List.map_append, est4_read_pages, est5_read_pages, cnt_count, tyP]
  have s6 : ∀ tr : SV, st6_read_pages [.fz (.str t), .ow (.lst ((L ++ [[]]).map .str)), tr, .fz (.int 0), .fz (.int (t.count 10 : Nat)), .un, .un, .un] = loopF (turnF (gT (gLc (gN 5) (gLc (gN 6) gL0))) lb1_read_pages) ((L.zipIdx 0).map itm) [.fz (.str t), .ow (.lst ((L ++ [[]]).map .str)), tr, .fz (.int 0), .fz (.int (t.count 10 : Nat)), .un, .un, .un] := fun tr => by
    simp [-List.map_append, -List.map_map, est6_read_pages, ecut, een, zL, zL2]
  have s45' : ∀ (tr : SV) (d : PSt → SRes), (dSeq st4_read_pages (dSeq st5_read_pages d)) [.fz (.str t), .ow (.lst ((L ++ [[]]).map .str)), tr, .un, .un, .un, .un, .un] = d [.fz (.str t), .ow (.lst ((L ++ [[]]).map .str)), tr, .fz (.int 0), .fz (.int (t.count 10 : Nat)), .un, .un, .un] := fun tr d => by
    simp [-List.map_append, est4_read_pages, est5_read_pages, cnt_count, tyP]
  rw [e_dSeq, s1, then_nx, e_dSeq, s2, then_nx, e_dSeq, s3, then_nx, s45', e_dSeq, s6, lp]
  cases goP (t.count 10) L 0 0 [] none with
  | inl e => exact ⟨[.un], by simp⟩
  | inr y =>
    obtain ⟨l, P⟩ := y
    dsimp only
    have fp := flat_pages P
    generalize pgTs P = T at *
    by_cases hl : 0 < l
    · rw [if_pos hl]
      refine ⟨[.un], ?_⟩
      simp [est7_read_pages, hl, zL, zL2]
    · rw [if_neg hl]
      refine ⟨[.un], ?_⟩
      simp [-flat_lst, est7_read_pages, est8_read_pages, hl, fp]
end Gx

namespace Gx
open PySem PySem.Spec L2 VL
/-! ### pages written -/
def rowL (r : Row) : List Nat := strI r.1 ++ ([32] ++ (strI r.2.1 ++ ([32] ++ (r.2.2.1 ++ ([32] ++ encGs r.2.2.2)))))
def headL (p : Page) : List Nat := [112, 97, 103, 101, 32] ++ (strI p.1 ++ ([32] ++ strI (p.2.length : Nat)))
def pageL (p : Page) : List (List Nat) := headL p :: p.2.map rowL
def pagesL (ps : List Page) : List (List Nat) := (ps.map pageL).flatten
/-- a row as the law draws it -/
structure RowOk (r : Row) : Prop where
  x : r.1.natAbs < bigN
  y : r.2.1.natAbs < bigN
  u : nmP r.2.2.1 = true
  g : ∀ g ∈ r.2.2.2, gname g = true
  ne : r.2.2.2 ≠ []
structure PageOk (p : Page) : Prop where
  n : 0 ≤ p.1 ∧ p.1.natAbs < bigN
  r : ∀ r ∈ p.2, RowOk r
theorem nm_len {u : List Nat} (h : nmP u = true) : u.length ≤ 16 := by
  unfold nmP at h
  rw [Bool.and_eq_true] at h
  exact (of_decide_eq_true h.1).2
theorem gStr_ok {i : Int} (h : i.natAbs < bigN) : gStrI [.int i] = some (.old (.str (strI i))) := if_pos (log_ok (Nat.lt_of_lt_of_le h (by decide)))
theorem rowL_len (r : Row) : (rowL r).length = (strI r.1).length + (strI r.2.1).length + r.2.2.1.length + (encGs r.2.2.2).length + 3 := by
  unfold rowL; simp; omega
theorem row_expr (d : PSt → Res RV) (r : Row) (h : RowOk r) (hl : (rowL r).length ≤ 1000000) (i : Nat) (τ : PSt) (hi : τ[i]? = some (.fz (encR r))) (hd : d τ = .ok (.fz (.str (encGs r.2.2.2))) τ) :
    dOp2 gAdd (dOp2 gAdd (dOp2 gAdd (dOp2 gAdd (dOp2 gAdd (dOp2 gAdd (dCB gStrI (dCons (dOp2 gIx (dVar i) (dC (.int 0))) dNil)) (dC (.str [32]))) (dCB gStrI (dCons (dOp2 gIx (dVar i) (dC (.int 1))) dNil))) (dC (.str [32]))) (dOp2 gIx (dVar i) (dC (.int 2)))) (dC (.str [32]))) d τ = .ok (.fz (.str (rowL r))) τ := by
  rw [rowL_len] at hl
  obtain ⟨x, y, u, G⟩ := r
  have h1 := gStr_ok h.x
  have h2 := gStr_ok h.y
  unfold encR at hi
  dsimp only at *
  unfold rowL
  dsimp only
  generalize strI x = a at *
  generalize strI y = b at *
  generalize encGs G = g at *
  have z1 : a.length ≤ 16777215 := by omega
  have z2 : a.length + 1 + b.length ≤ 16777216 := by omega
  have z3 : a.length + (b.length + 1) ≤ 16777215 := by omega
  have z4 : a.length + (b.length + 1 + 1) + u.length ≤ 16777216 := by omega
  have z5 : a.length + (b.length + (u.length + 1) + 1) ≤ 16777215 := by omega
  have z6 : a.length + (b.length + (u.length + 1 + 1) + 1) + g.length ≤ 16777216 := by omega
  simp [-List.map_map, -gStrI, h1, h2, hi, hd, z1, z2, z3, z4, z5, z6]
theorem row_line_ok (r : Row) (h : RowOk r) (hl : (rowL r).length ≤ 1000000) : ∃ τ, sem_row_line [.fz (encR r)] = .ok (.fz (.str (rowL r))) τ := by
  obtain ⟨τ, e⟩ := glyphs_text_ok r.2.2.2 (by have := rowL_len r; omega)
  unfold sem_row_line runDef d_row_line
  have e2 := row_expr (dCallN sem_glyphs_text (dCons (dOp2 gIx (dVar 0) (dC (.int 3))) dNil)) r h hl 0 [.fz (encR r)] rfl (by simp [encR, -List.map_map, e])
  refine ⟨[.un], ?_⟩
  simp only [dRet] at e2 ⊢
  simp [-e_dOp2, e2]
theorem mem_flat_le {ls : List (List Nat)} {l : List Nat} {n : Nat} (h : ls.flatten.length ≤ n) (hl : l ∈ ls) : l.length ≤ n := Nat.le_trans (mem_flat_len ls l hl) h
theorem rowL_ne (r : Row) : rowL r ≠ [] := fun z => by
  have := rowL_len r
  rw [z] at this
  simp at this
theorem headL_len (p : Page) : (headL p).length = (strI p.1).length + (strI (p.2.length : Nat)).length + 6 := by
  unfold headL; simp; omega
theorem ll_in (a0 a2 : SV) : ∀ (rs : List Row) (acc : List (List Nat)), (∀ r ∈ rs, RowOk r) → (rs.map rowL).flatten.length ≤ 1000000 → acc.length + rs.length ≤ 2000000 →
    loopF (turnF (gN 3) lb1_law_lines) (rs.map encR) [a0, .ow (.lst (acc.map .str)), a2, .un] = .nx [a0, .ow (.lst ((acc ++ rs.map rowL).map .str)), a2, .un]
  | [], acc, _, _, _ => by simp [loopF]
  | r :: rs, acc, h, hl, ha => by
    rw [List.map_cons, List.flatten_cons, List.length_append] at hl
    rw [List.length_cons] at ha
    have ih := ll_in a0 a2 rs (acc ++ [rowL r]) (fun x hx => h x (List.mem_cons_of_mem _ hx)) (by omega) (by simp; omega)
    have hr := h r (List.mem_cons_self ..)
    obtain ⟨τ, e⟩ := law_glyphs_text_ok r.2.2.2 (fun g hg => gname_ne (hr.g g hg)) (by have := rowL_len r; omega)
    have e2 := row_expr (dCallN sem_law_glyphs_text (dCons (dOp2 gIx (dVar 3) (dC (.int 3))) dNil)) r hr (by omega) 3 [a0, .ow (.lst (acc.map .str)), a2, .fz (encR r)] rfl (by simp [encR, -List.map_map, e])
    have za : acc.length < 16777216 := by omega
    rw [List.map_cons, loopF]
    have et : turnF (gN 3) lb1_law_lines (encR r) [a0, .ow (.lst (acc.map .str)), a2, .un] = .nx [a0, .ow (.lst ((acc ++ [rowL r]).map .str)), a2, .un] := by
      simp [-e_dOp2, elb1_law_lines, e2, za]
    rw [et]
    dsimp only
    rw [ih, List.append_assoc]
    rfl
theorem head_expr (p : Page) (h : PageOk p) (hl : p.2.length ≤ 1000000) (i : Nat) (τ : PSt) (hi : τ[i]? = some (.fz (encP p))) :
    dOp2 gAdd (dOp2 gAdd (dOp2 gAdd (dC (.str [112, 97, 103, 101, 32])) (dCB gStrI (dCons (dOp2 gIx (dVar i) (dC (.int 1))) dNil))) (dC (.str [32]))) (dCB gStrI (dCons (dCB gLen (dCons (dOp2 gIx (dVar i) (dC (.int 2))) dNil)) dNil)) τ = .ok (.fz (.str (headL p))) τ := by
  have h1 := gStr_ok h.n.2
  have h2 := @gStr_ok ((p.2.length : Nat) : Int) (by unfold bigN; omega)
  have l1 := strI_len h.n.2
  have l2 := @strI_len ((p.2.length : Nat) : Int) (by unfold bigN; omega)
  obtain ⟨n, rs⟩ := p
  unfold encP at hi
  dsimp only at *
  unfold headL
  dsimp only
  have zr : rs.length ≤ 16777216 := by omega
  generalize strI n = a at *
  generalize strI ((rs.length : Nat) : Int) = b at *
  have z1 : a.length + 5 ≤ 16777216 := by omega
  have z2 : a.length + 6 ≤ 16777216 := by omega
  have z3 : 5 + a.length ≤ 16777216 := by omega
  have z4 : a.length + 1 + b.length ≤ 16777211 := by omega
  have z5 : a.length + 5 ≤ 16777215 := by omega
  have z6 : a.length ≤ 16777210 := by omega
  have z7 : a.length + 1 + 1 + 1 + 1 + 1 + 1 + b.length ≤ 16777216 := by omega
  simp [-List.map_map, -gStrI, h1, h2, hi, zr, z3, z6, z7]
theorem pagesL_cons (p : Page) (ps : List Page) : pagesL (p :: ps) = headL p :: (p.2.map rowL ++ pagesL ps) := rfl
theorem rows_le (rs : List Row) : rs.length ≤ (rs.map rowL).flatten.length := by
  have := ne_flat_len (rs.map rowL) (by intro l hl; obtain ⟨r, _, rfl⟩ := List.mem_map.mp hl; exact rowL_ne r)
  simpa using this
theorem flat_split (p : Page) (ps : List Page) : (pagesL (p :: ps)).flatten.length = (headL p).length + (p.2.map rowL).flatten.length + (pagesL ps).flatten.length := by
  rw [pagesL_cons]; simp; omega
theorem ll_loop (a0 : SV) : ∀ (ps : List Page) (acc : List (List Nat)), (∀ p ∈ ps, PageOk p) → (pagesL ps).flatten.length ≤ 1000000 → acc.length + (pagesL ps).flatten.length ≤ 2000000 →
    loopF (turnF (gN 2) lb2_law_lines) (ps.map encP) [a0, .ow (.lst (acc.map .str)), .un, .un] = .nx [a0, .ow (.lst ((acc ++ pagesL ps).map .str)), .un, .un]
  | [], acc, _, _, _ => by simp [loopF, pagesL]
  | p :: ps, acc, h, hl, ha => by
    rw [flat_split] at hl ha
    have hp := h p (List.mem_cons_self ..)
    have hh := headL_len p
    have hr := rows_le p.2
    have ih := ll_loop a0 ps (acc ++ pageL p) (fun x hx => h x (List.mem_cons_of_mem _ hx)) (by omega) (by rw [List.length_append]; simp only [pageL, List.length_cons, List.length_map]; omega)
    have e1 := head_expr p hp (by omega) 2 [a0, .ow (.lst (acc.map .str)), .fz (encP p), .un] rfl
    have zr2 : p.2.length ≤ 16777216 := by omega
    have e2 := ll_in a0 (.fz (encP p)) p.2 (acc ++ [headL p]) hp.r (by omega) (by simp; omega)
    have za : acc.length < 16777216 := by omega
    rw [List.map_cons, loopF]
    have et : turnF (gN 2) lb2_law_lines (encP p) [a0, .ow (.lst (acc.map .str)), .un, .un] = .nx [a0, .ow (.lst ((acc ++ pageL p).map .str)), .un, .un] := by
      have e3 : (dOp2 gIx (dVar 2) (dC (.int 2))) [a0, .ow (.lst ((acc ++ [headL p]).map .str)), .fz (encP p), .un] = .ok (.fz (.lst (p.2.map encR))) [a0, .ow (.lst ((acc ++ [headL p]).map .str)), .fz (encP p), .un] := by simp [encP]
      simp only [List.map_append, List.map_cons, List.map_nil] at e2 e3
      simp [-e_dOp2, elb2_law_lines, e1, za, e3, e2, pageL, zr2]
    rw [et]
    dsimp only
    rw [ih, List.append_assoc]
    rfl
theorem law_lines_ok (ps : List Page) (h : ∀ p ∈ ps, PageOk p) (hl : (pagesL ps).flatten.length ≤ 1000000) : ∃ τ, sem_law_lines [.fz (.lst (ps.map encP))] = .ok (.ow (.lst ((pagesL ps).map .str))) τ := by
  have e := ll_loop (.fz (.lst (ps.map encP))) ps [] h hl (by rw [List.length_nil]; omega)
  unfold sem_law_lines runDef d_law_lines
  simp only [List.map_nil, List.nil_append] at e
  refine ⟨[.un], ?_⟩
  simp [-List.map_map, e]
theorem wp_loop (a0 : SV) : ∀ (ps : List Page) (acc : List (List Nat)), (∀ p ∈ ps, PageOk p) → (pagesL ps).flatten.length ≤ 1000000 → acc.length + (pagesL ps).flatten.length ≤ 2000000 →
    loopF (turnF (gN 2) lb1_write_pages) (ps.map encP) [a0, .ow (.lst (acc.map .str)), .un, .un, .un] = .nx [a0, .ow (.lst ((acc ++ pagesL ps).map .str)), .un, .un, .un]
  | [], acc, _, _, _ => by simp [loopF, pagesL]
  | p :: ps, acc, h, hl, ha => by
    rw [flat_split] at hl ha
    have hp := h p (List.mem_cons_self ..)
    have hh := headL_len p
    have hr := rows_le p.2
    have ih := wp_loop a0 ps (acc ++ pageL p) (fun x hx => h x (List.mem_cons_of_mem _ hx)) (by omega) (by rw [List.length_append]; simp only [pageL, List.length_cons, List.length_map]; omega)
    have e1 := head_expr p hp (by omega) 2 [a0, .ow (.lst (acc.map .str)), .fz (encP p), .un, .un] rfl
    have za : acc.length < 16777216 := by omega
    have zr : p.2.length ≤ 16777216 := by omega
    have zs : acc.length + 1 + p.2.length ≤ 16777216 := by omega
    have lc := lc_typed1 (vs := [4]) (g := gN 4) (dt := dYes) (de := dCallN sem_row_line (dCons (dVar 4) dNil)) (τ := [a0, .ow (.lst ((acc ++ [headL p]).map .str)), .fz (encP p), .un, .un]) encR PV.str rowL (xs := p.2) (fun r hr => by
      obtain ⟨τ, e⟩ := row_line_ok r (hp.r r hr) (mem_flat_le (n := 1000000) (by omega) (List.mem_map_of_mem hr))
      simp [e]) zr
    rw [List.map_cons, loopF]
    have et : turnF (gN 2) lb1_write_pages (encP p) [a0, .ow (.lst (acc.map .str)), .un, .un, .un] = .nx [a0, .ow (.lst ((acc ++ pageL p).map .str)), .un, .un, .un] := by
      have e3 : (dOp2 gIx (dVar 2) (dC (.int 2))) [a0, .ow (.lst ((acc ++ [headL p]).map .str)), .fz (encP p), .un, .un] = .ok (.fz (.lst (p.2.map encR))) [a0, .ow (.lst ((acc ++ [headL p]).map .str)), .fz (encP p), .un, .un] := by simp [encP]
      simp only [List.map_append, List.map_cons, List.map_nil] at lc e3
      simp [-e_dOp2, -List.map_map, elb1_write_pages, e1, za, e3, lc, pageL, zs, zr]
    rw [et]
    dsimp only
    rw [ih, List.append_assoc]
    rfl
def txt (ls : List (List Nat)) : List Nat := (ls.map fun l => l ++ [10]).flatten
theorem txt_len : ∀ ls : List (List Nat), (txt ls).length = ls.flatten.length + ls.length
  | [] => rfl
  | l :: ls => by
    have := txt_len ls
    unfold txt at *
    rw [List.map_cons, List.flatten_cons, List.length_append, this]; simp; omega
theorem pagesL_le (ps : List Page) : (pagesL ps).length ≤ (pagesL ps).flatten.length := by
  refine ne_flat_len _ fun l hl => ?_
  unfold pagesL at hl
  obtain ⟨x, hx, hl⟩ := List.mem_flatten.mp hl
  obtain ⟨p, hp, rfl⟩ := List.mem_map.mp hx
  rcases List.mem_cons.mp hl with rfl | hl
  · intro z; have := headL_len p; rw [z] at this; simp at this
  · obtain ⟨r, _, rfl⟩ := List.mem_map.mp hl
    exact rowL_ne r
theorem write_pages_ok (ps : List Page) (h : ∀ p ∈ ps, PageOk p) (hl : (pagesL ps).flatten.length ≤ 1000000) : ∃ τ, sem_write_pages [.fz (.lst (ps.map encP))] = .ok (.fz (.str (txt (pagesL ps)))) τ := by
  have e := wp_loop (.fz (.lst (ps.map encP))) ps [] h hl (by rw [List.length_nil]; omega)
  have l1 := pagesL_le ps
  have l2 := txt_len (pagesL ps)
  have hm := fun l hl' => mem_flat_le (l := l) hl hl'
  unfold sem_write_pages runDef d_write_pages
  simp only [List.map_nil, List.nil_append] at e
  generalize pagesL ps = L at *
  have lc := lc_typed1 (vs := [3]) (g := gN 3) (dt := dYes) (de := dOp2 gAdd (dVar 3) (dC (.str [10]))) (τ := [.fz (.lst (ps.map encP)), .fz (.lst (L.map .str)), .un, .un, .un]) PV.str PV.str (fun l => l ++ [10]) (xs := L) (fun l hl => by
    have : l.length ≤ 16777215 := by have := hm l hl; omega
    simp [this]) (by omega)
  have ej : joinP [] (L.map fun l => l ++ [10]) = some (.old (.str (txt L))) := join0 _ (by unfold txt at l2; omega)
  refine ⟨[.un], ?_⟩
  simp [-List.map_map, e, lc, ej, tyP]
end Gx

namespace Gx
open PySem PySem.Spec L2 VL
/-! ### what was written is read back -/
theorem encC_free10 (c : Nat) : 10 ∉ encC c := by
  unfold encC
  by_cases h : c = 10
  · rw [if_pos h]; decide
  · rw [if_neg h]; split <;> simp <;> omega
theorem inn_free10 (g : List Nat) : 10 ∉ inn g := fun z => by
  unfold inn at z
  obtain ⟨l, hl, h⟩ := List.mem_flatten.mp z
  obtain ⟨c, _, rfl⟩ := List.mem_map.mp hl
  exact encC_free10 c h
theorem encG_free10 (g : List Nat) : 10 ∉ encG g := by
  have := inn_free10 g
  unfold encG; split
  · exact this
  · simp [this]
theorem encGs_free10 (G : List (List Nat)) : 10 ∉ encGs G := fun z => by
  unfold encGs at z
  obtain ⟨l, hl, h⟩ := List.mem_flatten.mp z
  obtain ⟨c, _, rfl⟩ := List.mem_map.mp hl
  exact encG_free10 c h
theorem sgn_ge {c : Nat} (h : sgn c = true) : 33 ≤ c ∧ c ≤ 126 := by
  have : ∀ x ∈ sgs, 33 ≤ x ∧ x ≤ 126 := by decide
  exact this c (of_decide_eq_true h)
theorem encC_free32 {c : Nat} (h : c ≠ 32) : 32 ∉ encC c := by
  unfold encC
  by_cases h1 : c = 10
  · rw [if_pos h1]; decide
  · rw [if_neg h1]; split <;> simp <;> omega
theorem gname_free {g : List Nat} (h : gname g = true) : 32 ∉ g := by
  unfold gname at h
  rw [Bool.or_eq_true, Bool.and_eq_true] at h
  rcases h with h | h
  · rw [of_decide_eq_true h]; decide
  · intro z
    have := sgn_ge (List.all_eq_true.mp h.2 32 z); omega
theorem encG_free32 {g : List Nat} (h : 32 ∉ g) : 32 ∉ encG g := by
  have : 32 ∉ inn g := fun z => by
    unfold inn at z
    obtain ⟨l, hl, h2⟩ := List.mem_flatten.mp z
    obtain ⟨c, hc, rfl⟩ := List.mem_map.mp hl
    exact encC_free32 (fun e => h (e ▸ hc)) h2
  unfold encG; split
  · exact this
  · simp [this]
theorem encGs_free32 {G : List (List Nat)} (h : ∀ g ∈ G, gname g = true) : 32 ∉ encGs G := fun z => by
  unfold encGs at z
  obtain ⟨l, hl, h2⟩ := List.mem_flatten.mp z
  obtain ⟨c, hc, rfl⟩ := List.mem_map.mp hl
  exact encG_free32 (gname_free (h c hc)) h2
theorem nm_ge {u : List Nat} (h : nmP u = true) : ∀ c ∈ u, 48 ≤ c := by
  unfold nmP at h
  rw [Bool.and_eq_true, Bool.and_eq_true] at h
  intro c hc
  have := List.all_eq_true.mp h.2.2 c hc
  unfold nch at this
  rw [Bool.or_eq_true] at this
  rcases this with z | z
  · have : ∀ x ∈ lows, 48 ≤ x := by decide
    exact this c (of_decide_eq_true z)
  · have : ∀ x ∈ dgs, 48 ≤ x := by decide
    exact this c (of_decide_eq_true z)
theorem nm_free {u : List Nat} {s : Nat} (h : nmP u = true) (hs : s < 48) : s ∉ u := fun z => by
  have := nm_ge h s z; omega
theorem rowL_free {r : Row} (h : RowOk r) : 10 ∉ rowL r := by
  have h1 := @strI_free r.1 10 (by omega)
  have h2 := @strI_free r.2.1 10 (by omega)
  have h3 := @nm_free r.2.2.1 10 h.u (by omega)
  have h4 := encGs_free10 r.2.2.2
  unfold rowL
  simp [h1, h2, h3, h4]
theorem headL_free (p : Page) : 10 ∉ headL p := by
  have h1 := @strI_free p.1 10 (by omega)
  have h2 := @strI_free (p.2.length : Nat) 10 (by omega)
  unfold headL
  simp [h1, h2]
theorem pagesL_free {ps : List Page} (h : ∀ p ∈ ps, PageOk p) : ∀ l ∈ pagesL ps, 10 ∉ l := fun l hl => by
  unfold pagesL at hl
  obtain ⟨x, hx, hl⟩ := List.mem_flatten.mp hl
  obtain ⟨p, hp, rfl⟩ := List.mem_map.mp hx
  rcases List.mem_cons.mp hl with rfl | hl
  · exact headL_free p
  · obtain ⟨r, hr, rfl⟩ := List.mem_map.mp hl
    exact rowL_free ((h p hp).r r hr)
theorem sp_txt : ∀ {L : List (List Nat)}, (∀ l ∈ L, 10 ∉ l) → sp 10 (txt L) = L ++ [[]]
  | [], _ => sp_free (by simp [txt])
  | l :: L, h => by
    have : txt (l :: L) = l ++ 10 :: txt L := by simp [txt]
    rw [this, sp_cut (h l (List.mem_cons_self ..)), sp_txt fun x hx => h x (List.mem_cons_of_mem _ hx)]
    rfl
theorem count_txt : ∀ {L : List (List Nat)}, (∀ l ∈ L, 10 ∉ l) → (txt L).count 10 = L.length
  | [], _ => rfl
  | l :: L, h => by
    have : txt (l :: L) = l ++ 10 :: txt L := by simp [txt]
    rw [this, List.count_append, List.count_eq_zero.mpr (h l (List.mem_cons_self ..)), List.count_cons_self, count_txt fun x hx => h x (List.mem_cons_of_mem _ hx)]
    simp
theorem linesP_txt {L : List (List Nat)} (h : ∀ l ∈ L, 10 ∉ l) : linesP (txt L) = L := by
  unfold linesP
  rw [sp_txt h, List.getLast?_concat, if_pos rfl, List.dropLast_concat]
theorem rowP_L {r : Row} (h : RowOk r) : rowP (rowL r) = some r := by
  have e : sp 32 (rowL r) = [strI r.1, strI r.2.1, r.2.2.1, encGs r.2.2.2] := by
    unfold rowL
    simp only [List.cons_append, List.nil_append]
    rw [sp_cut (strI_free (by omega)), sp_cut (strI_free (by omega)), sp_cut (nm_free h.u (by omega)), sp_free (encGs_free32 h.g)]
  unfold rowP
  rw [e]
  dsimp only
  unfold row4
  rw [if_pos h.u, numP_str h.x, numP_str h.y, rgP_enc h.ne h.g]
theorem headP_L {p : Page} (h : PageOk p) (hl : p.2.length ≤ 1000000) : headP (headL p) = some (p.1, ((p.2.length : Nat) : Int)) := by
  have e : sp 32 (headL p) = [[112, 97, 103, 101], strI p.1, strI (p.2.length : Nat)] := by
    unfold headL
    simp only [List.cons_append, List.nil_append]
    rw [show (112 :: 97 :: 103 :: 101 :: 32 :: (strI p.1 ++ 32 :: strI (p.2.length : Nat)) : List Nat) = [112, 97, 103, 101] ++ 32 :: (strI p.1 ++ 32 :: strI (p.2.length : Nat)) from rfl,
      sp_cut (by decide), sp_cut (strI_free (by omega)), sp_free (strI_free (by omega))]
  unfold headP
  rw [e]
  dsimp only
  unfold head3
  rw [if_pos rfl, numP_str h.n.2, numP_str (by unfold bigN; omega)]
  dsimp only
  rw [if_neg]
  have := h.n.1
  omega
theorem go_rows (E : Nat) (Q : List Page) (n : Int) (rest : List (List Nat)) : ∀ (rs done : List Row) (k : Nat), (∀ r ∈ rs, RowOk r) → k + rs.length ≤ E →
    goP E (rs.map rowL ++ rest) k (rs.length : Nat) Q (some (n, done)) = goP E rest (k + rs.length) 0 Q (some (n, done ++ rs))
  | [], done, k, _, _ => by simp
  | r :: rs, done, k, h, hk => by
    rw [List.length_cons] at hk
    have ih := go_rows E Q n rest rs (done ++ [r]) (k + 1) (fun x hx => h x (List.mem_cons_of_mem _ hx)) (by omega)
    rw [List.map_cons, List.cons_append, goP, if_pos (by simp), rowP_L (h r (List.mem_cons_self ..))]
    dsimp only
    rw [if_neg (by omega), show ((((r :: rs).length : Nat) : Int) - 1) = (rs.length : Nat) by simp, ih]
    simp [Nat.add_assoc, Nat.add_comm 1]
theorem go_pages (E : Nat) : ∀ (ps : List Page) (k : Nat) (Q : List Page) (cur : Option Page), (∀ p ∈ ps, PageOk p ∧ p.2.length ≤ 1000000) → k + (pagesL ps).length ≤ E →
    goP E (pagesL ps) k 0 Q cur = .inr (0, Q ++ cur.toList ++ ps)
  | [], k, Q, cur, _, _ => by simp [pagesL, goP]
  | p :: ps, k, Q, cur, h, hk => by
    obtain ⟨h1, h2⟩ := h p (List.mem_cons_self ..)
    rw [pagesL_cons, List.length_cons, List.length_append, List.length_map] at hk
    have ih := go_pages E ps (k + 1 + p.2.length) (Q ++ cur.toList) (some (p.1, p.2)) (fun x hx => h x (List.mem_cons_of_mem _ hx)) (by omega)
    rw [pagesL_cons, goP, if_neg (by omega), headP_L h1 h2]
    dsimp only
    rw [if_neg (by omega), go_rows E _ p.1 _ p.2 [] (k + 1) h1.r (by omega), List.nil_append, ih]
    simp
theorem readP_txt {ps : List Page} (h : ∀ p ∈ ps, PageOk p ∧ p.2.length ≤ 1000000) : readP (txt (pagesL ps)) = .inr ps := by
  have hf := pagesL_free fun p hp => (h p hp).1
  have := go_pages (pagesL ps).length ps 0 [] none h (by omega)
  unfold readP
  rw [linesP_txt hf, count_txt hf, this]
  dsimp only
  rw [if_neg (by omega)]
  simp
end Gx

namespace Gx
open PySem PySem.Spec L2 VL
abbrev pkR (fd : List Int) : SV := .ow (.lst (fd.map .int))
abbrev sigs : List Nat := [97, 98, 91, 93, 92, 110, 45, 126, 33, 48, 122, 124, 123]
theorem sig_at (fd : List Int) : ∃ c, sgn c = true ∧ atI sigs (pkV fd 13) = some c := by
  have b1 := pkV_hi fd (m := 13) (by decide)
  have b0 := pkV_lo fd (m := 13) (by decide)
  obtain ⟨k, hk⟩ := Int.eq_ofNat_of_zero_le b0
  rw [hk] at b1 ⊢
  have : k < 13 := by omega
  rcases (show k = 0 ∨ k = 1 ∨ k = 2 ∨ k = 3 ∨ k = 4 ∨ k = 5 ∨ k = 6 ∨ k = 7 ∨ k = 8 ∨ k = 9 ∨ k = 10 ∨ k = 11 ∨ k = 12 by omega) with e | e | e | e | e | e | e | e | e | e | e | e | e <;> subst e <;> exact ⟨_, by decide, rfl⟩
theorem sg_lc (fd : List Int) (n : Int) (h0 : 0 ≤ n) (hn : n ≤ 4) (a2 : SV) : ∃ (cs : List Nat) (fd' : List Int), (∀ c ∈ cs, sgn c = true) ∧ (cs.length : Int) = n ∧
    lcF [3] (gN 3) dYes (dOp2 gIx (dVar 1) (dCallMN 0 sem_law_pick (dCons (dVar 0) (dCons (dC (.int 13)) dNil)))) (rngP 0 n) [] [pkR fd, .fz (.str sigs), a2, .un] = .ok ((cs.map fun c => [c]).map .str) [pkR fd', .fz (.str sigs), a2, .un] := by
  obtain ⟨ps, τ', e, cs, fd', rfl, h1, h2, rfl⟩ := lc_inv (vs := [3]) (g := gN 3) (dt := dYes) (de := dOp2 gIx (dVar 1) (dCallMN 0 sem_law_pick (dCons (dVar 0) (dCons (dC (.int 13)) dNil)))) (items := rngP 0 n) (τ := [pkR fd, .fz (.str sigs), a2, .un])
    (fun i acc τ => ∃ (cs : List Nat) (fd' : List Int), acc = (cs.map fun c => [c]).map PV.str ∧ (∀ c ∈ cs, sgn c = true) ∧ cs.length = i ∧ τ = [pkR fd', .fz (.str sigs), a2, .un]) (by simp; omega)
    ⟨[], fd, rfl, by simp, rfl, rfl⟩ (by
      rintro i p acc τ hi ⟨cs, fd', rfl, h1, h2, rfl⟩
      obtain ⟨rfl, _⟩ := rng_get hi
      obtain ⟨c, hc, ec⟩ := sig_at fd'
      refine ⟨some (.str [c]), [pkR (pkF fd'), .fz (.str sigs), a2, .un], ?_, cs ++ [c], pkF fd', by simp, ?_, by simp [h2], rfl⟩
      · simp [pick_ok, ec]
      · intro x hx
        rcases List.mem_append.mp hx with z | z
        · exact h1 x z
        · rw [List.mem_singleton.mp z]; exact hc)
  exact ⟨cs, fd', h1, by simp at h2; omega, e⟩
theorem flat1 (cs : List Nat) : (cs.map fun c => [c]).flatten = cs := by
  induction cs with
  | nil => rfl
  | cons c cs ih => rw [List.map_cons, List.flatten_cons, ih]; rfl
theorem law_glyph_ok (fd : List Int) : ∃ (g : List Nat) (fd' : List Int), gname g = true ∧ sem_law_glyph [pkR fd] = .ok (.fz (.str g)) [pkR fd'] := by
  unfold sem_law_glyph runDef d_law_glyph
  have p1 := pick_ok fd 7 (by decide)
  by_cases h : pkV fd 7 = 1
  · refine ⟨[45, 10], pkF fd, by decide, ?_⟩
    simp only [pkR] at *
    simp [p1, h]
  · have p2 := pick_ok (pkF fd) 6 (by decide)
    obtain ⟨n, hn1, hn2, en⟩ : ∃ n : Int, 1 ≤ n ∧ n ≤ 4 ∧ atI ([PV.int 1, PV.int 1, PV.int 1, PV.int 2, PV.int 3, PV.int 4] : List PV) (pkV (pkF fd) 6) = some (.int n) := by
      have b1 := pkV_hi (pkF fd) (m := 6) (by decide)
      have b0 := pkV_lo (pkF fd) (m := 6) (by decide)
      obtain ⟨k, hk⟩ := Int.eq_ofNat_of_zero_le b0
      rw [hk] at b1 ⊢
      rcases (show k = 0 ∨ k = 1 ∨ k = 2 ∨ k = 3 ∨ k = 4 ∨ k = 5 by omega) with e | e | e | e | e | e <;> subst e <;> exact ⟨_, by decide, by decide, rfl⟩
    obtain ⟨cs, fd', h1, h2, lc⟩ := sg_lc (pkF (pkF fd)) n (by omega) hn2 (.fz (.int n))
    have ej : joinP [] (cs.map fun c => [c]) = some (.old (.str cs)) := by
      have := join0 (cs.map fun c => [c]) (by rw [flat1]; omega)
      rw [flat1] at this; exact this
    have q : In62 n := In62.of (by omega) (by omega)
    refine ⟨cs, fd', ?_, ?_⟩
    · unfold gname
      rw [List.all_eq_true.mpr h1]
      simp; right; omega
    · simp only [pkR, sigs] at *
      simp [-List.map_map, p1, h, p2, en, q, lc, ej, tyP]
theorem law_whole_ok (fd : List Int) : ∃ (n : Int) (fd' : List Int), n.natAbs < bigN ∧ sem_law_whole [pkR fd] = .ok (.fz (.int n)) [pkR fd'] := by
  unfold sem_law_whole runDef d_law_whole
  have p1 := pick_ok fd 1000 (by decide)
  have p2 := pick_ok (pkF fd) 1000 (by decide)
  have p3 := pick_ok (pkF (pkF fd)) 90 (by decide)
  have p4 := pick_ok (pkF (pkF (pkF fd))) 7 (by decide)
  have a1 := pkV_lo fd (m := 1000) (by decide)
  have a2 := pkV_hi fd (m := 1000) (by decide)
  have b1 := pkV_lo (pkF fd) (m := 1000) (by decide)
  have b2 := pkV_hi (pkF fd) (m := 1000) (by decide)
  have c1 := pkV_lo (pkF (pkF fd)) (m := 90) (by decide)
  have c2 := pkV_hi (pkF (pkF fd)) (m := 90) (by decide)
  have d1 := pkV_lo (pkF (pkF (pkF fd))) (m := 7) (by decide)
  have d2 := pkV_hi (pkF (pkF (pkF fd))) (m := 7) (by decide)
  generalize pkV fd 1000 = a at *
  generalize pkV (pkF fd) 1000 = b at *
  generalize pkV (pkF (pkF fd)) 90 = c at *
  have q1 : IntMulOk a 1000 := mul_r (by decide)
  have q2 : In62 (a * 1000 + b) := In62.of (by omega) (by omega)
  obtain ⟨n, hn, en⟩ : ∃ n : Int, n.natAbs < bigN ∧ atI ([PV.int 0, PV.int 1, PV.int (-1), PV.int (a * 1000 + b), PV.int 999999999999, PV.int (-999999999999), PV.int c] : List PV) (pkV (pkF (pkF (pkF fd))) 7) = some (.int n) := by
    obtain ⟨k, hk⟩ := Int.eq_ofNat_of_zero_le d1
    rw [hk] at d2 ⊢
    rcases (show k = 0 ∨ k = 1 ∨ k = 2 ∨ k = 3 ∨ k = 4 ∨ k = 5 ∨ k = 6 by omega) with e | e | e | e | e | e | e <;> subst e <;> exact ⟨_, by unfold bigN; omega, rfl⟩
  refine ⟨n, pkF (pkF (pkF (pkF fd))), hn, ?_⟩
  simp only [pkR] at *
  simp [p1, p2, p3, p4, q1, q2, en]
end Gx

namespace Gx
open PySem PySem.Spec L2 VL
/-- a drawn row, a drawn page -/
structure RowS (r : Row) : Prop where
  ok : RowOk r
  le : r.2.2.2.length ≤ 5
structure PageS (p : Page) : Prop where
  ok : PageOk p
  le : p.2.length ≤ 5
  rs : ∀ r ∈ p.2, RowS r
theorem use_at (fd : List Int) : ∃ u, nmP u = true ∧ atI ([PV.str [116, 101, 120, 116], PV.str [110, 111, 116, 101], PV.str [104, 101, 97, 100, 49], PV.str [97], PV.str [112, 97, 103, 101], PV.str [122, 49, 50, 51, 52, 53, 54, 55, 56, 57, 48, 49, 50, 51, 52, 53]] : List PV) (pkV fd 6) = some (.str u) := by
  have b1 := pkV_hi fd (m := 6) (by decide)
  have b0 := pkV_lo fd (m := 6) (by decide)
  obtain ⟨k, hk⟩ := Int.eq_ofNat_of_zero_le b0
  rw [hk] at b1 ⊢
  rcases (show k = 0 ∨ k = 1 ∨ k = 2 ∨ k = 3 ∨ k = 4 ∨ k = 5 by omega) with e | e | e | e | e | e <;> subst e <;> exact ⟨_, by decide, rfl⟩
theorem gl_lc (fd : List Int) (n : Int) (h0 : 0 ≤ n) (hn : n ≤ 5) (a1 a2 a3 a4 a5 : SV) : ∃ (G : List (List Nat)) (fd' : List Int), (∀ g ∈ G, gname g = true) ∧ (G.length : Int) = n ∧
    lcF [7] (gN 7) dYes (dCallMN 0 sem_law_glyph (dCons (dVar 0) dNil)) (rngP 0 n) [] [pkR fd, a1, a2, a3, a4, a5, .un, .un] = .ok (G.map .str) [pkR fd', a1, a2, a3, a4, a5, .un, .un] := by
  obtain ⟨ps, τ', e, G, fd', rfl, h1, h2, rfl⟩ := lc_inv (vs := [7]) (g := gN 7) (dt := dYes) (de := dCallMN 0 sem_law_glyph (dCons (dVar 0) dNil)) (items := rngP 0 n) (τ := [pkR fd, a1, a2, a3, a4, a5, .un, .un])
    (fun i acc τ => ∃ (G : List (List Nat)) (fd' : List Int), acc = G.map PV.str ∧ (∀ g ∈ G, gname g = true) ∧ G.length = i ∧ τ = [pkR fd', a1, a2, a3, a4, a5, .un, .un]) (by simp; omega)
    ⟨[], fd, rfl, by simp, rfl, rfl⟩ (by
      rintro i p acc τ hi ⟨G, fd', rfl, h1, h2, rfl⟩
      obtain ⟨rfl, _⟩ := rng_get hi
      obtain ⟨g, fd2, hg, eg⟩ := law_glyph_ok fd'
      refine ⟨some (.str g), [pkR fd2, a1, a2, a3, a4, a5, .un, .un], ?_, G ++ [g], fd2, by simp, ?_, by simp [h2], rfl⟩
      · simp only [pkR] at *
        simp [eg]
      · intro x hx
        rcases List.mem_append.mp hx with z | z
        · exact h1 x z
        · rw [List.mem_singleton.mp z]; exact hg)
  exact ⟨G, fd', h1, by simp at h2; omega, e⟩
theorem rows_in (fd : List Int) (n : Int) (h0 : 0 ≤ n) (hn : n ≤ 5) (a1 a2 : SV) : ∃ (rs : List Row) (fd' : List Int), (∀ r ∈ rs, RowS r) ∧ rs.length ≤ 5 ∧
    loopF (turnF (gN 4) lb1_law_pages) (rngP 0 n) [pkR fd, a1, a2, .ow (.lst []), .un, .un, .un, .un] = .nx [pkR fd', a1, a2, .ow (.lst (rs.map encR)), .un, .un, .un, .un] := by
  obtain ⟨τ', e, rs, fd', h1, h2, rfl⟩ := loop_on (step := turnF (gN 4) lb1_law_pages) (items := rngP 0 n) (τ := [pkR fd, a1, a2, .ow (.lst []), .un, .un, .un, .un])
    (fun i τ => ∃ (rs : List Row) (fd' : List Int), (∀ r ∈ rs, RowS r) ∧ rs.length = i ∧ τ = [pkR fd', a1, a2, .ow (.lst (rs.map encR)), .un, .un, .un, .un])
    ⟨[], fd, by simp, rfl, rfl⟩ (by
      rintro J hJ i p τ hi ⟨rs, fd', h1, h2, rfl⟩
      obtain ⟨rfl, hi2⟩ := rng_get hi
      obtain ⟨u, hu, eu⟩ := use_at fd'
      have p1 := pick_ok fd' 6 (by decide)
      have p2 := pick_ok (pkF fd') 5 (by decide)
      have b0 := pkV_lo (pkF fd') (m := 5) (by decide)
      have b1 := pkV_hi (pkF fd') (m := 5) (by decide)
      obtain ⟨G, f3, g1, g2, lc⟩ := gl_lc (pkF (pkF fd')) (1 + pkV (pkF fd') 5) (by omega) (by omega) a1 a2 (.ow (.lst (rs.map encR))) (.fz (.int (0 + (i : Int)))) (.fz (.str u))
      obtain ⟨x, f4, hx, ex⟩ := law_whole_ok f3
      obtain ⟨y, f5, hy, ey⟩ := law_whole_ok f4
      have q : In62 (1 + pkV (pkF fd') 5) := In62.of (by omega) (by omega)
      have zr : rs.length < 16777216 := by omega
      have nx := hJ (i + 1) [pkR f5, a1, a2, .ow (.lst ((rs ++ [((x, y, u, G) : Row)]).map encR)), .un, .un, .un, .un] ⟨rs ++ [(x, y, u, G)], f5, fun r hr => by
        rcases List.mem_append.mp hr with z | z
        · exact h1 r z
        · rw [List.mem_singleton.mp z]
          exact ⟨⟨hx, hy, hu, g1, by intro z; dsimp only at z; rw [z] at g2; simp at g2; omega⟩, by dsimp only; omega⟩, by simp [h2], rfl⟩
      generalize pkV (pkF fd') 5 = m at *
      simp only [pkR, Int.zero_add] at *
      simp [-List.map_map, elb1_law_pages, p1, eu, p2, q, lc, ex, ey, zr]
      simpa [encR] using nx)
  exact ⟨rs, fd', h1, by simp at h2; omega, e⟩
theorem law_pages_ok (fd : List Int) : ∃ (ps : List Page) (fd' : List Int), (∀ p ∈ ps, PageS p) ∧ ps.length ≤ 4 ∧ sem_law_pages [pkR fd] = .ok (.ow (.lst (ps.map encP))) [pkR fd'] := by
  have b0 := pkV_lo fd (m := 5) (by decide)
  have b1 := pkV_hi fd (m := 5) (by decide)
  have p1 := pick_ok fd 5 (by decide)
  generalize pkV fd 5 = n at *
  obtain ⟨τ', e, ps, fd', h1, h2, rfl⟩ := loop_on (step := turnF (gN 2) lb2_law_pages) (items := rngP 0 n) (τ := [pkR (pkF fd), .ow (.lst []), .un, .un, .un, .un, .un, .un])
    (fun i τ => ∃ (ps : List Page) (fd' : List Int), (∀ p ∈ ps, PageS p) ∧ ps.length = i ∧ τ = [pkR fd', .ow (.lst (ps.map encP)), .un, .un, .un, .un, .un, .un])
    ⟨[], pkF fd, by simp, rfl, rfl⟩ (by
      rintro J hJ i p τ hi ⟨ps, fd', h1, h2, rfl⟩
      obtain ⟨rfl, hi2⟩ := rng_get hi
      have c0 := pkV_lo fd' (m := 6) (by decide)
      have c1 := pkV_hi fd' (m := 6) (by decide)
      have p2 := pick_ok fd' 6 (by decide)
      obtain ⟨rs, f2, g1, g2, lp⟩ := rows_in (pkF fd') (pkV fd' 6) c0 (by omega) (.ow (.lst (ps.map encP))) (.fz (.int (0 + (i : Int))))
      obtain ⟨y, f5, hy, ey⟩ := law_whole_ok f2
      have zr : ps.length < 16777216 := by omega
      have nx := hJ (i + 1) [pkR f5, .ow (.lst ((ps ++ [(((y.natAbs : Nat) : Int), rs)]).map encP)), .un, .un, .un, .un, .un, .un] ⟨ps ++ [(((y.natAbs : Nat) : Int), rs)], f5, fun r hr => by
        rcases List.mem_append.mp hr with z | z
        · exact h1 r z
        · rw [List.mem_singleton.mp z]
          exact ⟨⟨⟨by dsimp only; omega, by simpa using hy⟩, fun r hr => (g1 r hr).ok⟩, g2, g1⟩, by simp [h2], rfl⟩
      have q : In62 (pkV fd' 6) := In62.of (by omega) (by omega)
      generalize pkV fd' 6 = m at *
      simp only [pkR, Int.zero_add] at *
      simp [-List.map_map, elb2_law_pages, p2, q, lp, ey, zr]
      have ea : (if y < 0 then -y else y) = ((y.natAbs : Nat) : Int) := by split <;> omega
      rw [ea]
      simpa [encP, pg] using nx)
  refine ⟨ps, fd', h1, by simp at h2; omega, ?_⟩
  have q : In62 n := In62.of (by omega) (by omega)
  unfold sem_law_pages runDef d_law_pages
  simp only [pkR] at *
  simp [-List.map_map, p1, q, e]
end Gx

namespace Gx
open PySem PySem.Spec L2 VL
/-- plain, of bounded bulk and depth -/
structure PQ (b n : Nat) (p : PV) : Prop where
  pl : plainQ p = true
  bk : bulkQ p ≤ b
  dp : deepQ p ≤ n
theorem PQ.all {α : Type} (enc : α → PV) (b n : Nat) : ∀ xs : List α, (∀ x ∈ xs, PQ b n (enc x)) → plainQs (xs.map enc) = true ∧ bulkQs (xs.map enc) ≤ xs.length * (b + 1) ∧ deepQs (xs.map enc) ≤ n
  | [], _ => ⟨rfl, Nat.zero_le _, Nat.zero_le _⟩
  | x :: xs, h => by
    obtain ⟨h1, h2, h3⟩ := PQ.all enc b n xs fun y hy => h y (List.mem_cons_of_mem _ hy)
    have k := h x (List.mem_cons_self ..)
    have k1 := k.pl
    have k2 := k.bk
    have k3 := k.dp
    have e : (x :: xs).length * (b + 1) = (b + 1) + xs.length * (b + 1) := by rw [List.length_cons, Nat.succ_mul, Nat.add_comm]
    rw [e]
    refine ⟨by simp [plainQs, k1, h1], ?_, ?_⟩
    · simp only [List.map_cons, bulkQs]; omega
    · simp only [List.map_cons, deepQs]; omega
theorem pq_str {l : List Nat} (n : Nat) (h : l.length ≤ n) (h2 : ∀ c ∈ l, c < 1114112) : PQ n 0 (.str l) := ⟨by simpa [plainQ] using h2, by simpa [bulkQ] using h, by simp [deepQ]⟩
theorem gname_lt {g : List Nat} (h : gname g = true) : ∀ c ∈ g, c < 1114112 := by
  unfold gname at h
  rw [Bool.or_eq_true, Bool.and_eq_true] at h
  rcases h with h | h
  · rw [of_decide_eq_true h]; decide
  · intro c hc; have := sgn_ge (List.all_eq_true.mp h.2 c hc); omega
theorem nm_lt {u : List Nat} (h : nmP u = true) : ∀ c ∈ u, c < 1114112 := by
  unfold nmP at h
  rw [Bool.and_eq_true, Bool.and_eq_true] at h
  intro c hc
  have := List.all_eq_true.mp h.2.2 c hc
  unfold nch at this
  rw [Bool.or_eq_true] at this
  rcases this with z | z
  · have : ∀ x ∈ lows, x < 1114112 := by decide
    exact this c (of_decide_eq_true z)
  · have : ∀ x ∈ dgs, x < 1114112 := by decide
    exact this c (of_decide_eq_true z)
theorem row_pq {r : Row} (h : RowS r) : PQ 45 2 (encR r) := by
  have g := PQ.all PV.str 4 0 r.2.2.2 fun g hg => pq_str 4 (gname_len (h.ok.g g hg)).2 (gname_lt (h.ok.g g hg))
  have u := pq_str 16 (nm_len h.ok.u) (nm_lt h.ok.u)
  have l := h.le
  have u1 := u.pl
  have u2 := u.bk
  have x := h.ok.x
  have y := h.ok.y
  unfold bigN at x y
  unfold encR
  refine ⟨?_, ?_, ?_⟩
  · simp only [plainQ, plainQs, Bool.and_true, Bool.and_eq_true, decide_eq_true_eq] at u1 ⊢
    exact ⟨by omega, by omega, u1, g.1⟩
  · simp only [bulkQ, bulkQs] at u2 ⊢; omega
  · simp only [deepQ, deepQs]; omega
theorem page_pq {p : Page} (h : PageS p) : PQ 300 4 (encP p) := by
  have g := PQ.all encR 45 2 p.2 fun r hr => row_pq (h.rs r hr)
  have l := h.le
  have n := h.ok.n.2
  unfold bigN at n
  unfold encP
  refine ⟨?_, ?_, ?_⟩
  · simp only [plainQ, plainQs, Bool.and_true, Bool.and_eq_true, decide_eq_true_eq]
    exact ⟨by decide, by omega, g.1⟩
  · simp only [bulkQ, bulkQs, pg, List.length_cons, List.length_nil]; omega
  · simp only [deepQ, deepQs]; omega
theorem repr_pages {ps : List Page} (h : ∀ p ∈ ps, PageS p) (hl : ps.length ≤ 4) : gReprQ [.lst (ps.map encP)] = some (.old (.str (shownQ (.lst (ps.map encP))))) := by
  have g := PQ.all encP 300 4 ps fun p hp => page_pq (h p hp)
  refine repr_q (by simpa [plainQ] using g.1) rfl ?_ ?_
  · simp only [bulkQ]; omega
  · simp only [deepQ]; omega
theorem sum_le {α : Type} (f : α → Nat) (b : Nat) : ∀ xs : List α, (∀ x ∈ xs, f x ≤ b) → (xs.map f).sum ≤ xs.length * b
  | [], _ => Nat.zero_le _
  | x :: xs, h => by
    have := sum_le f b xs fun y hy => h y (List.mem_cons_of_mem _ hy)
    have h1 := h x (List.mem_cons_self ..)
    rw [List.map_cons, List.sum_cons, List.length_cons, Nat.succ_mul]; omega
theorem row_len {r : Row} (h : RowS r) : (rowL r).length ≤ 100 := by
  have := rowL_len r
  have a := strI_len h.ok.x
  have b := strI_len h.ok.y
  have c := nm_len h.ok.u
  have d := encGs_le _ h.ok.g
  have e := h.le
  omega
theorem flatn (f : List (List Nat)) : f.flatten.length = (f.map (·.length)).sum := (sum_flat f).symm
theorem page_len {p : Page} (h : PageS p) : (pageL p).flatten.length ≤ 600 := by
  have a := strI_len h.ok.n.2
  have l := h.le
  have b := @strI_len ((p.2.length : Nat) : Int) (by unfold bigN; omega)
  have hh := headL_len p
  have s := sum_le (fun r => (rowL r).length) 100 p.2 fun r hr => row_len (h.rs r hr)
  have e : (p.2.map rowL).flatten.length = (p.2.map fun r => (rowL r).length).sum := by rw [flatn, List.map_map]; rfl
  unfold pageL
  rw [List.flatten_cons, List.length_append, e]
  omega
theorem pages_len : ∀ {ps : List Page}, (∀ p ∈ ps, PageS p) → (pagesL ps).flatten.length ≤ ps.length * 600
  | [], _ => Nat.zero_le _
  | p :: ps, h => by
    have := pages_len fun x hx => h x (List.mem_cons_of_mem _ hx)
    have h1 := page_len (h p (List.mem_cons_self ..))
    have e : pagesL (p :: ps) = pageL p ++ pagesL ps := rfl
    rw [e, List.flatten_append, List.length_append, List.length_cons, Nat.succ_mul]; omega
theorem flat_pg {ps : List Page} (h : ∀ p ∈ ps, PageS p) (hl : ps.length ≤ 4) : flat 20 (.lst (ps.map encP)) = true := by
  simp [flat, encP, encR]
  refine ⟨fun a b hb => ?_, by omega⟩
  have hp := h _ hb
  have l := hp.le
  dsimp only at l
  refine ⟨fun x y u G hG => ?_, by omega⟩
  have hr := (hp.rs _ hG).le
  dsimp only at hr
  omega
theorem pure_law (ns : List Int) (hn : ns.length ≤ 63) (hb : ∀ z ∈ ns, Builtin.Int.intBits z ≤ 1048576) : ∃ τ, sem_law [.fz (.scr ns)] = .ok (.fz (.bl true)) τ := by
  obtain ⟨feed, _, e1⟩ := numbers_ok ns
  obtain ⟨ps, fd, ok, hl, e2⟩ := law_pages_ok feed
  have po : ∀ p ∈ ps, PageOk p := fun p hp => (ok p hp).ok
  have sz := pages_len ok
  have sz2 : (pagesL ps).flatten.length ≤ 1000000 := by omega
  obtain ⟨τ3, e3⟩ := law_lines_ok ps po sz2
  obtain ⟨τ4, e4⟩ := write_pages_ok ps po sz2
  have l1 := pagesL_le ps
  have l2 := txt_len (pagesL ps)
  obtain ⟨τ5, e5⟩ := read_pages_ok (txt (pagesL ps)) (by omega)
  rw [readP_txt fun p hp => ⟨po p hp, by have := (ok p hp).le; omega⟩] at e5
  dsimp only at e5
  have eR := repr_pages ok hl
  have fl := flat_pg ok hl
  have hm := fun l hl' => mem_flat_le (l := l) sz2 hl'
  generalize ps.map encP = P at *
  generalize shownQ (.lst P) = S at *
  generalize pagesL ps = L at *
  have lc := lc_typed1 (vs := [5]) (g := gN 5) (dt := dYes) (de := dOp2 gAdd (dVar 5) (dC (.str [10]))) (τ := [.fz (.scr ns), .ow (.lst (fd.map .int)), .fz (.lst P), .fz (.str S), .un, .un]) PV.str PV.str (fun l => l ++ [10]) (xs := L) (fun l hl => by
    have : l.length ≤ 16777215 := by have := hm l hl; omega
    simp [this]) (by omega)
  have ej : joinP [] (L.map fun l => l ++ [10]) = some (.old (.str (txt L))) := join0 _ (by unfold txt at l2; omega)
  have ft : flat 20 (.str (txt L)) = true := rfl
  generalize txt L = T at *
  simp only [pkR] at *
  unfold sem_law runDef d_law
  refine ⟨[.un], ?_⟩
  simp [-List.map_map, est1_law, est2_law, est3_law, est4_law, est5_law, est6_law, e1, e2, e3, e4, e5, eR, fl, ft, lc, ej, tyP]
end Gx

namespace Gx
open PySem PySem.Spec PyProof.Rows L2 VL
def dd_law_numbers : He.DefD := ⟨("_law_numbers", none), "_law_numbers", "_law_numbers", defArgs s_law_numbers, defBody s_law_numbers, defScope s_law_numbers, [], []⟩
def dd_law_pick : He.DefD := ⟨("_law_pick", none), "_law_pick", "_law_pick", defArgs s_law_pick, defBody s_law_pick, defScope s_law_pick, [], []⟩
def dd_law_glyph : He.DefD := ⟨("_law_glyph", none), "_law_glyph", "_law_glyph", defArgs s_law_glyph, defBody s_law_glyph, defScope s_law_glyph, [], []⟩
def dd_law_whole : He.DefD := ⟨("_law_whole", none), "_law_whole", "_law_whole", defArgs s_law_whole, defBody s_law_whole, defScope s_law_whole, [], []⟩
def dd_law_pages : He.DefD := ⟨("_law_pages", none), "_law_pages", "_law_pages", defArgs s_law_pages, defBody s_law_pages, defScope s_law_pages, [], []⟩
def dd_law_glyphs_text : He.DefD := ⟨("_law_glyphs_text", none), "_law_glyphs_text", "_law_glyphs_text", defArgs s_law_glyphs_text, defBody s_law_glyphs_text, defScope s_law_glyphs_text, [], []⟩
def dd_law_lines : He.DefD := ⟨("_law_lines", none), "_law_lines", "_law_lines", defArgs s_law_lines, defBody s_law_lines, defScope s_law_lines, [], []⟩
def dd_char_text : He.DefD := ⟨("char_text", none), "char_text", "char_text", defArgs s_char_text, defBody s_char_text, defScope s_char_text, [], []⟩
def dd_glyphs_text : He.DefD := ⟨("glyphs_text", none), "glyphs_text", "glyphs_text", defArgs s_glyphs_text, defBody s_glyphs_text, defScope s_glyphs_text, [], []⟩
def dd_row_line : He.DefD := ⟨("row_line", none), "row_line", "row_line", defArgs s_row_line, defBody s_row_line, defScope s_row_line, [], []⟩
def dd_write_pages : He.DefD := ⟨("write_pages", none), "write_pages", "write_pages", defArgs s_write_pages, defBody s_write_pages, defScope s_write_pages, [], []⟩
def dd_law_same : He.DefD := ⟨("_law_same", none), "_law_same", "_law_same", defArgs s_law_same, defBody s_law_same, defScope s_law_same, [], []⟩
def dd_is_name : He.DefD := ⟨("is_name", none), "is_name", "is_name", defArgs s_is_name, defBody s_is_name, defScope s_is_name, [], []⟩
def dd_chars_of : He.DefD := ⟨("chars_of", none), "chars_of", "chars_of", defArgs s_chars_of, defBody s_chars_of, defScope s_chars_of, [], []⟩
def dd_plain_char : He.DefD := ⟨("plain_char", none), "plain_char", "plain_char", defArgs s_plain_char, defBody s_plain_char, defScope s_plain_char, [], []⟩
def dd_is_glyph_name : He.DefD := ⟨("is_glyph_name", none), "is_glyph_name", "is_glyph_name", defArgs s_is_glyph_name, defBody s_is_glyph_name, defScope s_is_glyph_name, [], []⟩
def dd_read_glyphs : He.DefD := ⟨("read_glyphs", none), "read_glyphs", "read_glyphs", defArgs s_read_glyphs, defBody s_read_glyphs, defScope s_read_glyphs, [], []⟩
def dd_number_text : He.DefD := ⟨("number_text", none), "number_text", "number_text", defArgs s_number_text, defBody s_number_text, defScope s_number_text, [], []⟩
def dd_read_row : He.DefD := ⟨("read_row", none), "read_row", "read_row", defArgs s_read_row, defBody s_read_row, defScope s_read_row, [], []⟩
def dd_read_head : He.DefD := ⟨("read_head", none), "read_head", "read_head", defArgs s_read_head, defBody s_read_head, defScope s_read_head, [], []⟩
def dd_read_pages : He.DefD := ⟨("read_pages", none), "read_pages", "read_pages", defArgs s_read_pages, defBody s_read_pages, defScope s_read_pages, [], []⟩
def dd_law : He.DefD := ⟨("law", none), "law", "law", defArgs s_law, defBody s_law, defScope s_law, [], []⟩
def dd_i_TextError : He.DefD := ⟨("TextError", some "__init__"), "__init__", "TextError.__init__", defArgs i_TextError, defBody i_TextError, defScope i_TextError, [], []⟩
def fnl : List He.DefD := ([dd_law_numbers, dd_law_pick, dd_law_glyph, dd_law_whole, dd_law_pages, dd_law_glyphs_text, dd_law_lines, dd_char_text, dd_glyphs_text, dd_row_line, dd_write_pages, dd_law_same, dd_is_name, dd_chars_of, dd_plain_char, dd_is_glyph_name, dd_read_glyphs, dd_number_text, dd_read_row, dd_read_head, dd_read_pages, dd_law, dd_i_TextError] : List He.DefD)
def fb0 : PySem.W.Frag → Bool := fun K => exCB K (He.ga K "TextError") (He.ma K (He.ga K "TextError") "__init__") ["line"]
def fb1 : PySem.W.Frag → Bool := fun K => veiB K (He.ga K "GalleyError")
def fb2 : PySem.W.Frag → Bool := sysB
def fbl : List (PySem.W.Frag → Bool) := [fb0, fb1, fb2]
def fal : List He.Fa := ([.glo "_law_numbers", .glo "_law_pick", .glo "_law_glyph", .glo "_law_whole", .glo "_law_pages", .glo "_law_glyphs_text", .glo "_law_lines", .glo "char_text", .glo "glyphs_text", .glo "row_line", .glo "write_pages", .glo "_law_same", .glo "is_name", .glo "chars_of", .glo "plain_char", .glo "is_glyph_name", .glo "read_glyphs", .glo "number_text", .glo "read_row", .glo "read_head", .glo "read_pages", .glo "law", .glo "GalleyError", .glo "TextError", .str "FIGURES_fonts" (sl [48, 49, 50, 51, 52, 53, 54, 55, 56, 57]), .str "FIGURES_pages" (sl [48, 49, 50, 51, 52, 53, 54, 55, 56, 57]), .str "LETTERS" (sl [97, 98, 99, 100, 101, 102, 103, 104, 105, 106, 107, 108, 109, 110, 111, 112, 113, 114, 115, 116, 117, 118, 119, 120, 121, 122]), .int "LONGEST_fonts" (4), .int "LONGEST_pages" (12), .str "MARKS" (sl [91, 93, 92])] : List He.Fa) ++ ([.str "SIGNS" (sl [33, 34, 35, 36, 38, 39, 40, 41, 42, 43, 44, 45, 46, 47, 48, 49, 50, 51, 52, 53, 54, 55, 56, 57, 58, 59, 60, 61, 62, 63, 64, 65, 66, 67, 68, 69, 70, 71, 72, 73, 74, 75, 76, 77, 78, 79, 80, 81, 82, 83, 84, 85, 86, 87, 88, 89, 90, 91, 92, 93, 94, 95, 96, 97, 98, 99, 100, 101, 102, 103, 104, 105, 106, 107, 108, 109, 110, 111, 112, 113, 114, 115, 116, 117, 118, 119, 120, 121, 122, 123, 124, 125, 126]), .str "SOFT" (sl [45, 10]), .free "abs", .free "all", .free "bool", .free "enumerate", .free "int", .free "isinstance", .free "len", .free "list", .free "range", .free "repr", .free "str", .free "tuple"] : List He.Fa)
abbrev RowR : PySem.W.OpenRow := PySem.W.OpenLaw.row PySem.Challenge.rw_galleypapers_k49_pages_written_and_read
abbrev hkk : PySem.W.Hook := hookX 4 (allB fbl) fal fnl
def obb (s : PySem.W.SharedT) : He.AlD := obsXG 4 (allB fbl) fal fnl (HandSHeadRun.getT s)
theorem obb_eq (s : PySem.W.SharedT) : obb s = hkk.obs s.abs := obsXG_eq (HandSHeadRun.getT_eq s)
def looseN : List Str := (["GalleyError", "TextError", "SOFT", "SIGNS", "LETTERS", "FIGURES_fonts", "LONGEST_fonts", "is_name", "is_glyph_name", "FIGURES_pages", "MARKS", "LONGEST_pages", "number_text", "char_text", "glyphs_text", "chars_of", "plain_char", "read_glyphs", "row_line", "read_row", "read_head", "write_pages", "read_pages", "_law_numbers", "_law_pick", "_law_glyph", "_law_whole", "_law_pages", "_law_glyphs_text", "_law_lines"] : List Str) ++ (["_law_same"] : List Str)
theorem run (w : World) : HandSHeadRun.RunEq RowR (PySem.W.view RowR.prog [35]) hkk obb 1840 looseN w := by
  intro os
  kernel_rfl
theorem facts {P : Program} {w : World} {K : PySem.W.Frag} {h : Heap} {mg : Str → Option Value} {f : Addr} (hT : P.given.tree = none) (X : K.In h) (G : h.Ns mainGlobals mg) (hfa : mg ("law" : Str) = some (.ref f)) (c0 : SaysX (allB fbl) fal fnl K) :
    ∃ fd : FuncData, FnP K "law" s_law f fd ∧ (∀ (s : Shared) (v : Value), BindsTo s fd ⟨[v], []⟩ [("_law_script", v)]) ∧ ∀ (base : Heap) (ns : List Int), TopG K mg base → (∃ τ, sem_law [.fz (.scr ns)] = .ok (.fz (.bl true)) τ) → LawBody P w K mg base n_law "law" (defScope s_law) f (defBody s_law) ns := by
  have c := c0.d
  obtain ⟨fd0, F0⟩ := c.def_ 0 (d := dd_law_numbers) rfl
  obtain ⟨fd1, F1⟩ := c.def_ 1 (d := dd_law_pick) rfl
  obtain ⟨fd2, F2⟩ := c.def_ 2 (d := dd_law_glyph) rfl
  obtain ⟨fd3, F3⟩ := c.def_ 3 (d := dd_law_whole) rfl
  obtain ⟨fd4, F4⟩ := c.def_ 4 (d := dd_law_pages) rfl
  obtain ⟨fd5, F5⟩ := c.def_ 5 (d := dd_law_glyphs_text) rfl
  obtain ⟨fd6, F6⟩ := c.def_ 6 (d := dd_law_lines) rfl
  obtain ⟨fd7, F7⟩ := c.def_ 7 (d := dd_char_text) rfl
  obtain ⟨fd8, F8⟩ := c.def_ 8 (d := dd_glyphs_text) rfl
  obtain ⟨fd9, F9⟩ := c.def_ 9 (d := dd_row_line) rfl
  obtain ⟨fd10, F10⟩ := c.def_ 10 (d := dd_write_pages) rfl
  obtain ⟨fd11, F11⟩ := c.def_ 11 (d := dd_law_same) rfl
  obtain ⟨fd12, F12⟩ := c.def_ 12 (d := dd_is_name) rfl
  obtain ⟨fd13, F13⟩ := c.def_ 13 (d := dd_chars_of) rfl
  obtain ⟨fd14, F14⟩ := c.def_ 14 (d := dd_plain_char) rfl
  obtain ⟨fd15, F15⟩ := c.def_ 15 (d := dd_is_glyph_name) rfl
  obtain ⟨fd16, F16⟩ := c.def_ 16 (d := dd_read_glyphs) rfl
  obtain ⟨fd17, F17⟩ := c.def_ 17 (d := dd_number_text) rfl
  obtain ⟨fd18, F18⟩ := c.def_ 18 (d := dd_read_row) rfl
  obtain ⟨fd19, F19⟩ := c.def_ 19 (d := dd_read_head) rfl
  obtain ⟨fd20, F20⟩ := c.def_ 20 (d := dd_read_pages) rfl
  obtain ⟨fd21, F21⟩ := c.def_ 21 (d := dd_law) rfl
  obtain ⟨fi0, Fi0⟩ := c.def_ 22 (d := dd_i_TextError) rfl
  have e := hfa.symm.trans (He.glo_ok X G (c.fact 21 (f := .glo "law") rfl))
  cases e
  have b := FunD.bindsA (ps := ["_law_script"]) F21 fun _ _ _ _ _ _ us hl => match us, hl with | [_], _ => rfl
  have Z : Fac K mg := ⟨(He.glo_ok X G (c.fact 22 (f := .glo "GalleyError") rfl)), (He.glo_ok X G (c.fact 23 (f := .glo "TextError") rfl)), He.str_ok X G (c.fact 24 (f := .str "FIGURES_fonts" (sl [48, 49, 50, 51, 52, 53, 54, 55, 56, 57])) rfl), He.str_ok X G (c.fact 25 (f := .str "FIGURES_pages" (sl [48, 49, 50, 51, 52, 53, 54, 55, 56, 57])) rfl), He.str_ok X G (c.fact 26 (f := .str "LETTERS" (sl [97, 98, 99, 100, 101, 102, 103, 104, 105, 106, 107, 108, 109, 110, 111, 112, 113, 114, 115, 116, 117, 118, 119, 120, 121, 122])) rfl), He.int_ok X G (c.fact 27 (f := .int "LONGEST_fonts" (4)) rfl), He.int_ok X G (c.fact 28 (f := .int "LONGEST_pages" (12)) rfl), He.str_ok X G (c.fact 29 (f := .str "MARKS" (sl [91, 93, 92])) rfl), He.str_ok X G (c.fact 30 (f := .str "SIGNS" (sl [33, 34, 35, 36, 38, 39, 40, 41, 42, 43, 44, 45, 46, 47, 48, 49, 50, 51, 52, 53, 54, 55, 56, 57, 58, 59, 60, 61, 62, 63, 64, 65, 66, 67, 68, 69, 70, 71, 72, 73, 74, 75, 76, 77, 78, 79, 80, 81, 82, 83, 84, 85, 86, 87, 88, 89, 90, 91, 92, 93, 94, 95, 96, 97, 98, 99, 100, 101, 102, 103, 104, 105, 106, 107, 108, 109, 110, 111, 112, 113, 114, 115, 116, 117, 118, 119, 120, 121, 122, 123, 124, 125, 126])) rfl), He.str_ok X G (c.fact 31 (f := .str "SOFT" (sl [45, 10])) rfl), He.free_ok X G (c.fact 32 (f := .free "abs") rfl), He.free_ok X G (c.fact 33 (f := .free "all") rfl), He.free_ok X G (c.fact 34 (f := .free "bool") rfl), He.free_ok X G (c.fact 35 (f := .free "enumerate") rfl), He.free_ok X G (c.fact 36 (f := .free "int") rfl), He.free_ok X G (c.fact 37 (f := .free "isinstance") rfl), He.free_ok X G (c.fact 38 (f := .free "len") rfl), He.free_ok X G (c.fact 39 (f := .free "list") rfl), He.free_ok X G (c.fact 40 (f := .free "range") rfl), He.free_ok X G (c.fact 41 (f := .free "repr") rfl), He.free_ok X G (c.fact 42 (f := .free "str") rfl), He.free_ok X G (c.fact 43 (f := .free "tuple") rfl), sysB_ok (allB_at c0.b 2 (f := fb2) rfl)⟩
  refine ⟨fd21, F21, fun s v => b s [v] rfl, fun base ns T hs => ?_⟩
  have x_TextError := in_TextError (P := P) (w := w) (base := base) Fi0 (exCB_ok (allB_at c0.b 0 (f := fb0) rfl)) (veiB_ok (allB_at c0.b 1 (f := fb1) rfl)) (He.glo_ok X G (c.fact 22 (f := .glo "GalleyError") rfl)) (He.glo_ok X G (c.fact 23 (f := .glo "TextError") rfl))
  have g_law_numbers := fn_law_numbers (P := P) (w := w) (base := base) Z F0 (He.glo_ok X G (c.fact 0 (f := .glo "_law_numbers") rfl))
  have g_law_pick := fn_law_pick (P := P) (w := w) (base := base) Z F1 (He.glo_ok X G (c.fact 1 (f := .glo "_law_pick") rfl))
  have g_law_glyph := fn_law_glyph (P := P) (w := w) (base := base) Z F2 (He.glo_ok X G (c.fact 2 (f := .glo "_law_glyph") rfl)) g_law_pick
  have g_law_whole := fn_law_whole (P := P) (w := w) (base := base) Z F3 (He.glo_ok X G (c.fact 3 (f := .glo "_law_whole") rfl)) g_law_pick
  have g_law_pages := fn_law_pages (P := P) (w := w) (base := base) Z F4 (He.glo_ok X G (c.fact 4 (f := .glo "_law_pages") rfl)) g_law_pick g_law_glyph g_law_whole
  have g_law_glyphs_text := fn_law_glyphs_text (P := P) (w := w) (base := base) Z F5 (He.glo_ok X G (c.fact 5 (f := .glo "_law_glyphs_text") rfl))
  have g_law_lines := fn_law_lines (P := P) (w := w) (base := base) Z F6 (He.glo_ok X G (c.fact 6 (f := .glo "_law_lines") rfl)) g_law_glyphs_text
  have g_char_text := fn_char_text (P := P) (w := w) (base := base) Z F7 (He.glo_ok X G (c.fact 7 (f := .glo "char_text") rfl))
  have g_glyphs_text := fn_glyphs_text (P := P) (w := w) (base := base) Z F8 (He.glo_ok X G (c.fact 8 (f := .glo "glyphs_text") rfl)) g_char_text
  have g_row_line := fn_row_line (P := P) (w := w) (base := base) Z F9 (He.glo_ok X G (c.fact 9 (f := .glo "row_line") rfl)) g_glyphs_text
  have g_write_pages := fn_write_pages (P := P) (w := w) (base := base) Z F10 (He.glo_ok X G (c.fact 10 (f := .glo "write_pages") rfl)) g_row_line
  have g_law_same := fnN_law_same (P := P) (w := w) (base := base) Z F11 (He.glo_ok X G (c.fact 11 (f := .glo "_law_same") rfl))
  have g_is_name := fn_is_name (P := P) (w := w) (base := base) Z F12 (He.glo_ok X G (c.fact 12 (f := .glo "is_name") rfl))
  have g_chars_of := fn_chars_of (P := P) (w := w) (base := base) Z F13 (He.glo_ok X G (c.fact 13 (f := .glo "chars_of") rfl))
  have g_plain_char := fn_plain_char (P := P) (w := w) (base := base) Z F14 (He.glo_ok X G (c.fact 14 (f := .glo "plain_char") rfl))
  have g_is_glyph_name := fn_is_glyph_name (P := P) (w := w) (base := base) Z F15 (He.glo_ok X G (c.fact 15 (f := .glo "is_glyph_name") rfl))
  have g_read_glyphs := fn_read_glyphs (P := P) (w := w) (base := base) Z F16 (He.glo_ok X G (c.fact 16 (f := .glo "read_glyphs") rfl)) g_chars_of g_plain_char g_is_glyph_name g_glyphs_text
  have g_number_text := fn_number_text (P := P) (w := w) (base := base) Z F17 (He.glo_ok X G (c.fact 17 (f := .glo "number_text") rfl))
  have g_read_row := fn_read_row (P := P) (w := w) (base := base) Z F18 (He.glo_ok X G (c.fact 18 (f := .glo "read_row") rfl)) g_is_name g_read_glyphs g_number_text
  have g_read_head := fn_read_head (P := P) (w := w) (base := base) Z F19 (He.glo_ok X G (c.fact 19 (f := .glo "read_head") rfl)) g_number_text
  have g_read_pages := fn_read_pages (P := P) (w := w) (base := base) Z F20 (He.glo_ok X G (c.fact 20 (f := .glo "read_pages") rfl)) g_read_row g_read_head x_TextError
  exact body_law Z g_law_numbers g_law_pages g_law_lines g_write_pages g_law_same g_read_pages hs
theorem whole (pure : ∀ ns : List Int, ns.length ≤ 63 → (∀ z ∈ ns, Builtin.Int.intBits z ≤ 1048576) → ∃ τ, sem_law [.fz (.scr ns)] = .ok (.fz (.bl true)) τ) : PySem.Challenge.rw_galleypapers_k49_pages_written_and_read.Holds := by
  w_on; o_law
  refine HandSHeadRun.head_any (r := PySem.W.OpenLaw.row PySem.Challenge.rw_galleypapers_k49_pages_written_and_read) (q := PySem.W.view (PySem.W.OpenLaw.row PySem.Challenge.rw_galleypapers_k49_pages_written_and_read).prog [35]) (H := hkk) (ob := obb) (M := 1840) (loose := looseN) (d := HandSHeadRun.topDef (PySem.W.OpenLaw.row PySem.Challenge.rw_galleypapers_k49_pages_written_and_read).prog 35) (kwd := []) obb_eq
    (by kernel_rfl) (fun s => by kernel_rfl) run (by kernel_rfl) (by kernel_rfl) (by kernel_rfl) (by rfl) (by first | assumption | decide +kernel) (by decide +kernel) ⟨rfl, rfl, rfl, rfl, rfl, by decide +kernel⟩ ?hw ?hc
  case hw => w_witness2
  case hc =>
    refine law_end (l := PySem.Challenge.rw_galleypapers_k49_pages_written_and_read) (n := 63) (x := "_law_script") (y := "law") rfl (by decide) (by kernel_rfl) (by kernel_rfl) ?F
    intro w mg fa h Y G hmg0
    obtain ⟨K, X, c⟩ := Y
    have hmg : mg ("law" : PySem.Str) = some (.ref fa) := by
      have e : (HandSHeadRun.topDef (PySem.W.OpenLaw.row PySem.Challenge.rw_galleypapers_k49_pages_written_and_read).prog 35).name = ("law" : PySem.Str) := by kernel_rfl
      exact e ▸ hmg0
    obtain ⟨fd, D, hb, hF⟩ := facts (P := (PySem.Challenge.rw_galleypapers_k49_pages_written_and_read).prog) (w := w) (by kernel_rfl) X G hmg c
    exact ⟨K, _, _, _, _, fd, n_law, X, D, sc_law, hb, fun base ns T h1 h2 => hF base ns T (pure ns h1 h2)⟩
end Gx

theorem PySem.Challenge.cw_galleypapers_k49_pages_written_and_read_holds : PySem.Challenge.rw_galleypapers_k49_pages_written_and_read.Holds :=
  Gx.whole Gx.pure_law
