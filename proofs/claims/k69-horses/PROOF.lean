import PyProof.Rows.All
import Wide.All
import OpenK.AllK
import Wide.FinOn
import PyProof.EqAt
import PyProof.EqKinds
import PyProof.TupleCall
import HandS.ForMost
import HandS.ForExc
import HandS.Lambda
import HandS.TryMany
import HandS.Flow
import HandS.Style
import HandS.Wide
import HandS.IsInst
import HandS.ExcIs
import HandS.Conv
import HandS.Zip
import HandS.CallSlots
import HandS.TupAny
import HandS.TupMul
import HandS.TupLe
import HandS.Deep
import KE.DataFind
import HandS.TryOnly
import HandS.ExcBuiltin
import HandS.Small
import HandS.ExcField
import HandS.EndOwn
import KE.KNestM
import PySem.Challenge.RW_fairyard_k69_whole_horses_up_and_down
set_option Elab.async false
set_option linter.all false
set_option maxRecDepth 100000
section
set_option maxRecDepth 100000
/-! Fy1: plain values, worlds, the relation of plain values to the hand layer's values. -/
namespace FY
open PySem PySem.Spec PyProof.Rows L2

/-- a plain value: tuples, lists and dicts that stand still are trees; ref: a shared mutable cell; glo: a def or class of the module -/
inductive D where
  | non | bl (b : Bool) | int (i : Int) | str (x : Str)
  | tup (ds : List D) | lst (ds : List D) | dct (ks vs : List D)
  | ref (l : Nat) | glo (x : Str) | ty (n : String)
  /-- the script -/
  | scr (ds : List D)

/-- a world: the abstract heap, where the cells stand, what no plain tree may reach -/
structure Wd where
  H : Hp
  ρ : Nat → Addr
  n : Nat
  B : Addr → Prop

/-- what is fixed through a law's run -/
structure PC where
  K : PySem.W.Frag
  mg : Str → Option Value
  T : List (Addr × Str)
  /-- the caught exception, its class, its own dict -/
  xa : Option (Addr × Value × Option Addr) := none
  /-- the lambda handed in, the world at the frame's entry -/
  xf : Option (Addr × Wd) := none

def keyD : Key → D
  | .inl i => .int i
  | .inr x => .str x

def TupK (K : PySem.W.Frag) (a : Addr) (xs : List V) : Prop :=
  ∃ (o : Obj) (its : Array Value) (n : Nat), K.lookup a = some o ∧ o.cls = .type "tuple" ∧ o.data = .seq its n ∧ its.size ≤ sizeLine ∧ Vals xs its.toList
def LstK (K : PySem.W.Frag) (a : Addr) (xs : List V) : Prop :=
  ∃ (o : Obj) (its : Array Value) (n : Nat), K.lookup a = some o ∧ o.cls = .type "list" ∧ o.dict = none ∧ o.data = .seq its n ∧ its.size ≤ sizeLine ∧ Vals xs its.toList

mutual
inductive RelD (C : PC) (w : Wd) : D → V → Prop
  | non : RelD C w .non .non
  | bl (b : Bool) : RelD C w (.bl b) (.bl b)
  | int (i : Int) : RelD C w (.int i) (.int i)
  | str (x : Str) : RelD C w (.str x) (.str x)
  | tup {ds : List D} {a : Addr} {vs : List V} : ¬ w.B a → w.H a = some (.tup vs) → RelDs C w ds vs → RelD C w (.tup ds) (.ref a)
  | tupK {ds : List D} {a : Addr} {vs : List V} : TupK C.K a vs → RelDs C w ds vs → RelD C w (.tup ds) (.ref a)
  | lst {ds : List D} {a : Addr} {vs : List V} : ¬ w.B a → w.H a = some (.lst vs) → RelDs C w ds vs → RelD C w (.lst ds) (.ref a)
  | scr {ds : List D} {a : Addr} {vs : List V} : ¬ w.B a → Rd w.H a (.lst vs) → RelDs C w ds vs → RelD C w (.scr ds) (.ref a)
  | scrK {ds : List D} {a : Addr} {vs : List V} : LstK C.K a vs → RelDs C w ds vs → RelD C w (.scr ds) (.ref a)
  | dct {ks vs : List D} {a : Addr} {kvs : List (Key × V)} : ¬ w.B a → w.H a = some (.dK kvs) → ks = kvs.map (fun p => keyD p.1) → RelDs C w vs (kvs.map (·.2)) → RelD C w (.dct ks vs) (.ref a)
  | dctT {ks vs : List D} {a : Addr} {kvs : List (List Key × V)} : ¬ w.B a → w.H a = some (.dT kvs) → ks = kvs.map (fun p => .tup (p.1.map keyD)) → RelDs C w vs (kvs.map (·.2)) → RelD C w (.dct ks vs) (.ref a)
  | ref {l : Nat} : l < w.n → RelD C w (.ref l) (.ref (w.ρ l))
  | glo {x : Str} {a : Addr} : C.mg x = some (.ref a) → RelD C w (.glo x) (.ref a)
  | ty (n : String) : RelD C w (.ty n) (.ty n)
inductive RelDs (C : PC) (w : Wd) : List D → List V → Prop
  | nil : RelDs C w [] []
  | cons {d : D} {v : V} {ds : List D} {vs : List V} : RelD C w d v → RelDs C w ds vs → RelDs C w (d :: ds) (v :: vs)
end

/-- nothing is told of this address, but that it may be a table -/
def Fr (H : Hp) (a : Addr) : Prop := ∀ o, H a = some o → ∃ ps, o = .tbl ps
theorem Fr.none {H : Hp} {a : Addr} (h : H a = Option.none) : Fr H a := fun o e => by rw [h] at e; cases e
theorem Fr.no {H : Hp} {a : Addr} {o : HO} (f : Fr H a) (h : H a = some o) (ho : ∀ ps, o ≠ .tbl ps) : False := by
  obtain ⟨ps, e⟩ := f o h
  exact ho ps e
theorem Fr.mut {H : Hp} {a : Addr} (f : Fr H a) (m : Mut (H a)) : False := by
  cases e : H a with
  | none => rw [e] at m; exact m
  | some o =>
    obtain ⟨ps, rfl⟩ := f o e
    rw [e] at m
    exact m
theorem not_fr {H : Hp} {a : Addr} (h : ¬ Fr H a) : ∃ o, H a = some o ∧ ∀ ps, o ≠ .tbl ps := by
  refine Classical.byContradiction fun z => h fun o e => Classical.byContradiction fun y => z ⟨o, e, fun ps q => y ⟨ps, q⟩⟩
/-- what stands still for plain trees -/
structure Le (w w' : Wd) : Prop where
  keep : ∀ a o, w.H a = some o → ¬ w.B a → (∀ ps, o ≠ .tbl ps) → w'.H a = some o
  ban : ∀ a, w'.B a → w.B a ∨ Fr w.H a
  n : w.n ≤ w'.n
  ρ : ∀ l, l < w.n → w'.ρ l = w.ρ l
  trk : ∀ a, ¬ Fr w.H a → ¬ Fr w'.H a
theorem same_trk {H H' : Hp} (h : ∀ b o, H b = some o → (∀ ps, o ≠ .tbl ps) → H' b = some o) {a : Addr} (q : ¬ Fr H a) : ¬ Fr H' a := by
  obtain ⟨o, e, n⟩ := not_fr q
  exact fun f => f.no (h a o e n) n

theorem ne_tbl_tup {xs : List V} : ∀ ps, HO.tup xs ≠ .tbl ps := fun _ z => by cases z
theorem ne_tbl_lst {xs : List V} : ∀ ps, HO.lst xs ≠ .tbl ps := fun _ z => by cases z
theorem ne_tbl_frz {o u} : ∀ ps, HO.frz o u ≠ .tbl ps := fun _ z => by cases z
theorem ne_tbl_dK {xs} : ∀ ps, HO.dK xs ≠ .tbl ps := fun _ z => by cases z
theorem ne_tbl_dT {xs} : ∀ ps, HO.dT xs ≠ .tbl ps := fun _ z => by cases z

theorem Le.nban {w w' : Wd} (e : Le w w') {a : Addr} {o : HO} (h : w.H a = some o) (hb : ¬ w.B a) (ho : ∀ ps, o ≠ .tbl ps) : ¬ w'.B a := fun z => by
  rcases e.ban a z with q | q
  · exact hb q
  · exact q.no h ho
theorem Le.rd {w w' : Wd} (e : Le w w') {a : Addr} {o : HO} (h : Rd w.H a o) (hb : ¬ w.B a) (ho : ∀ ps, o ≠ .tbl ps) : Rd w'.H a o ∧ ¬ w'.B a := by
  rcases h with h | ⟨ob, h⟩
  · exact ⟨.inl (e.keep a o h hb ho), e.nban h hb ho⟩
  · exact ⟨.inr ⟨ob, e.keep a _ h hb ne_tbl_frz⟩, e.nban h hb ne_tbl_frz⟩

mutual
theorem RelD.le {C : PC} {w w' : Wd} (e : Le w w') : ∀ {d : D} {v : V}, RelD C w d v → RelD C w' d v
  | _, _, .non => .non
  | _, _, .bl b => .bl b
  | _, _, .int i => .int i
  | _, _, .str x => .str x
  | _, _, .tup hb h r => .tup (e.nban h hb ne_tbl_tup) (e.keep _ _ h hb ne_tbl_tup) (RelDs.le e r)
  | _, _, .tupK h r => .tupK h (RelDs.le e r)
  | _, _, .lst hb h r => .lst (e.nban h hb ne_tbl_lst) (e.keep _ _ h hb ne_tbl_lst) (RelDs.le e r)
  | _, _, .scr hb h r => let ⟨h', hb'⟩ := e.rd h hb ne_tbl_lst; .scr hb' h' (RelDs.le e r)
  | _, _, .scrK h r => .scrK h (RelDs.le e r)
  | _, _, .dct hb h hk r => .dct (e.nban h hb ne_tbl_dK) (e.keep _ _ h hb ne_tbl_dK) hk (RelDs.le e r)
  | _, _, .dctT hb h hk r => .dctT (e.nban h hb ne_tbl_dT) (e.keep _ _ h hb ne_tbl_dT) hk (RelDs.le e r)
  | _, _, .ref (l := l) h => by
    have q := RelD.ref (C := C) (w := w') (l := l) (Nat.lt_of_lt_of_le h e.n)
    rw [e.ρ l h] at q
    exact q
  | _, _, .glo h => .glo h
  | _, _, .ty n => .ty n
theorem RelDs.le {C : PC} {w w' : Wd} (e : Le w w') : ∀ {ds : List D} {vs : List V}, RelDs C w ds vs → RelDs C w' ds vs
  | _, _, .nil => .nil
  | _, _, .cons r t => .cons (RelD.le e r) (RelDs.le e t)
end

theorem Le.refl (w : Wd) : Le w w := ⟨fun _ _ h _ _ => h, fun _ h => .inl h, Nat.le_refl _, fun _ _ => rfl, fun _ h => h⟩
/-- a smaller ban -/
theorem Le.of_ban {w : Wd} {B' : Addr → Prop} (h : ∀ a, B' a → w.B a) : Le w { w with B := B' } := ⟨fun _ _ h _ _ => h, fun a z => .inl (h a z), Nat.le_refl _, fun _ _ => rfl, fun _ h => h⟩
theorem Le.trans {a b c : Wd} (e : Le a b) (e' : Le b c) : Le a c where
  keep := fun x o h hb ho => e'.keep x o (e.keep x o h hb ho) (e.nban h hb ho) ho
  ban := fun x h => by
    rcases e'.ban x h with q | q
    · exact e.ban x q
    · exact .inr (Classical.byContradiction fun z => e.trk x z q)
  n := Nat.le_trans e.n e'.n
  ρ := fun l h => (e'.ρ l (Nat.lt_of_lt_of_le h e.n)).trans (e.ρ l h)
  trk := fun x h => e'.trk x (e.trk x h)

namespace RelDs
variable {C : PC} {w : Wd}
theorem length : ∀ {ds : List D} {vs : List V}, RelDs C w ds vs → ds.length = vs.length
  | _, _, .nil => rfl
  | _, _, .cons _ t => congrArg (· + 1) (length t)
theorem get : ∀ {ds : List D} {vs : List V} {i : Nat} {d : D}, RelDs C w ds vs → ds[i]? = some d → ∃ v, vs[i]? = some v ∧ RelD C w d v
  | _, _, _, _, .nil, e => by simp at e
  | _, _, 0, _, .cons r _, e => by simp at e; subst e; exact ⟨_, rfl, r⟩
  | _, _, i + 1, d, .cons _ t, e => by
    obtain ⟨u, h1, h2⟩ := get (i := i) (d := d) t (by simpa using e)
    exact ⟨u, by simpa using h1, h2⟩
theorem get' : ∀ {ds : List D} {vs : List V} {i : Nat} {v : V}, RelDs C w ds vs → vs[i]? = some v → ∃ d, ds[i]? = some d ∧ RelD C w d v
  | _, _, _, _, .nil, e => by simp at e
  | _, _, 0, _, .cons r _, e => by simp at e; subst e; exact ⟨_, rfl, r⟩
  | _, _, i + 1, v, .cons _ t, e => by
    obtain ⟨u, h1, h2⟩ := get' (i := i) (v := v) t (by simpa using e)
    exact ⟨u, by simpa using h1, h2⟩
theorem append : ∀ {ds es : List D} {vs us : List V}, RelDs C w ds vs → RelDs C w es us → RelDs C w (ds ++ es) (vs ++ us)
  | _, _, _, _, .nil, s => s
  | _, _, _, _, .cons r t, s => .cons r (append t s)
theorem take : ∀ {ds : List D} {vs : List V} (k : Nat), RelDs C w ds vs → RelDs C w (ds.take k) (vs.take k)
  | _, _, 0, _ => by simpa using .nil
  | _, _, _ + 1, .nil => .nil
  | _, _, k + 1, .cons r t => .cons r (take k t)
theorem drop : ∀ {ds : List D} {vs : List V} (k : Nat), RelDs C w ds vs → RelDs C w (ds.drop k) (vs.drop k)
  | _, _, 0, r => r
  | _, _, _ + 1, .nil => .nil
  | _, _, k + 1, .cons _ t => drop k t
theorem set {d : D} {v : V} (r : RelD C w d v) : ∀ {ds : List D} {vs : List V} (i : Nat), RelDs C w ds vs → RelDs C w (ds.set i d) (vs.set i v)
  | _, _, _, .nil => .nil
  | _, _, 0, .cons _ t => .cons r t
  | _, _, i + 1, .cons q t => .cons q (set r i t)
theorem erase : ∀ {ds : List D} {vs : List V} (i : Nat), RelDs C w ds vs → RelDs C w (ds.eraseIdx i) (vs.eraseIdx i)
  | _, _, _, .nil => .nil
  | _, _, 0, .cons _ t => t
  | _, _, i + 1, .cons q t => .cons q (erase i t)
theorem nil_l {vs : List V} (r : RelDs C w [] vs) : vs = [] := by cases r; rfl
theorem flat : ∀ {ds : List D} {vs : List V} (k : Nat), RelDs C w ds vs → RelDs C w (List.replicate k ds).flatten (List.replicate k vs).flatten
  | _, _, 0, _ => .nil
  | _, _, k + 1, r => by
    rw [List.replicate_succ, List.replicate_succ, List.flatten_cons, List.flatten_cons]
    exact r.append (flat k r)
theorem reverse {ds : List D} {vs : List V} (r : RelDs C w ds vs) : RelDs C w ds.reverse vs.reverse := by
  induction ds generalizing vs with
  | nil => cases r; exact .nil
  | cons d ds ih =>
    cases r with
    | cons r t =>
      rw [List.reverse_cons, List.reverse_cons]
      exact (ih t).append (.cons r .nil)
theorem insert {d : D} {v : V} (r : RelD C w d v) {ds : List D} {vs : List V} (i : Nat) (t : RelDs C w ds vs) : RelDs C w (ds.take i ++ d :: ds.drop i) (vs.take i ++ v :: vs.drop i) := (t.take i).append (.cons r (t.drop i))
theorem one {d : D} {vs : List V} (r : RelDs C w [d] vs) : ∃ v, vs = [v] ∧ RelD C w d v := by
  cases r with | cons r t => cases t; exact ⟨_, rfl, r⟩
theorem two {d e : D} {vs : List V} (r : RelDs C w [d, e] vs) : ∃ v u, vs = [v, u] ∧ RelD C w d v ∧ RelD C w e u := by
  cases r with | cons r t => cases t with | cons r' t => cases t; exact ⟨_, _, rfl, r, r'⟩
theorem three {d e f : D} {vs : List V} (r : RelDs C w [d, e, f] vs) : ∃ v u x, vs = [v, u, x] ∧ RelD C w d v ∧ RelD C w e u ∧ RelD C w f x := by
  cases r with | cons r t => cases t with | cons r' t => cases t with | cons r'' t => cases t; exact ⟨_, _, _, rfl, r, r', r''⟩
theorem intsD : ∀ {ns : List Int} {vs : List V}, RelDs C w (ns.map D.int) vs → vs = ns.map V.int
  | [], _, .nil => rfl
  | n :: ns, _, .cons r t => by
    cases r
    rw [List.map_cons, intsD t]
theorem blsD : ∀ {ns : List Bool} {vs : List V}, RelDs C w (ns.map D.bl) vs → vs = ns.map V.bl
  | [], _, .nil => rfl
  | n :: ns, _, .cons r t => by
    cases r
    rw [List.map_cons, blsD t]
theorem strsD : ∀ {ns : List Str} {vs : List V}, RelDs C w (ns.map D.str) vs → vs = ns.map V.str
  | [], _, .nil => rfl
  | n :: ns, _, .cons r t => by
    cases r
    rw [List.map_cons, strsD t]
end RelDs

/-- the contents of a mutable object -/
def CRel (C : PC) (w : Wd) (a : Addr) : D → Prop
  | .lst ds => ∃ vs, w.H a = some (.lst vs) ∧ RelDs C w ds vs
  | .dct ks vs => (∃ kvs, w.H a = some (.dK kvs) ∧ ks = kvs.map (fun p => keyD p.1) ∧ RelDs C w vs (kvs.map (·.2))) ∨
      (∃ kvs, w.H a = some (.dT kvs) ∧ ks = kvs.map (fun p => .tup (p.1.map keyD)) ∧ RelDs C w vs (kvs.map (·.2)))
  | _ => False

abbrev Store := List D

structure SRel (C : PC) (w : Wd) (st : Store) : Prop where
  len : w.n = st.length
  cell : ∀ (l : Nat) (d : D), st[l]? = some d → w.B (w.ρ l) ∧ CRel C w (w.ρ l) d
  inj : ∀ l m, l < w.n → m < w.n → w.ρ l = w.ρ m → l = m
  trk : ∀ a, w.B a → Mut (w.H a)
  tabs : LamX.Tabs C.T w.H

/-- a step: all objects but the cells stay -/
structure Ext (w w' : Wd) : Prop where
  keep : ∀ a o, w.H a = some o → (∀ l, l < w.n → w.ρ l ≠ a) → (∀ ps, o ≠ .tbl ps) → w'.H a = some o
  trk : ∀ a, ¬ Fr w.H a → ¬ Fr w'.H a
  up : ∀ a, w.B a → w'.B a
  ban : ∀ a, w'.B a → w.B a ∨ Fr w.H a
  n : w.n ≤ w'.n
  ρ : ∀ l, l < w.n → w'.ρ l = w.ρ l
  new : ∀ l, w.n ≤ l → l < w'.n → Fr w.H (w'.ρ l)

theorem Ext.refl (w : Wd) : Ext w w := ⟨fun _ _ h _ _ => h, fun _ h => h, fun _ h => h, fun _ h => .inl h, Nat.le_refl _, fun _ _ => rfl, fun _ h h' => absurd (Nat.lt_of_lt_of_le h' h) (Nat.lt_irrefl _)⟩
theorem Ext.free {w w' : Wd} (e : Ext w w') {a : Addr} (h : Fr w'.H a) : Fr w.H a := Classical.byContradiction fun z => e.trk a z h
theorem Ext.trans {w w1 w2 : Wd} (a : Ext w w1) (b : Ext w1 w2) : Ext w w2 where
  keep := fun x o h hl ho => b.keep x o (a.keep x o h hl ho) (fun l hl1 e => by
    by_cases q : l < w.n
    · rw [a.ρ l q] at e; exact hl l q e
    · have z := a.new l (by omega) hl1
      rw [e] at z
      exact z.no h ho) ho
  trk := fun x h => b.trk x (a.trk x h)
  up := fun x h => b.up x (a.up x h)
  ban := fun x h => by
    rcases b.ban x h with h | h
    · exact a.ban x h
    · exact .inr (a.free h)
  n := Nat.le_trans a.n b.n
  ρ := fun l h => (b.ρ l (Nat.lt_of_lt_of_le h a.n)).trans (a.ρ l h)
  new := fun l h1 h2 => by
    by_cases q : l < w1.n
    · rw [b.ρ l q]; exact a.new l h1 q
    · exact a.free (b.new l (by omega) h2)
section
variable {C : PC} {w w' : Wd} {st st' : Store}
theorem SRel.bρ (S : SRel C w st) {l : Nat} (h : l < w.n) : w.B (w.ρ l) := by
  rw [S.len] at h
  exact (S.cell l st[l] (by simp [h])).1
theorem Ext.le (e : Ext w w') (S : SRel C w st) : Le w w' :=
  ⟨fun a o h hb ho => e.keep a o h (fun l hl z => hb (z ▸ S.bρ hl)) ho, e.ban, e.n, e.ρ, e.trk⟩
theorem CRel.le {a : Addr} (e : Le w w') (k : ∀ o, w.H a = some o → (∀ ps, o ≠ .tbl ps) → w'.H a = some o) : ∀ {d : D}, CRel C w a d → CRel C w' a d
  | .lst _, ⟨vs, h, r⟩ => ⟨vs, k _ h ne_tbl_lst, r.le e⟩
  | .dct _ _, .inl ⟨kvs, h, hk, r⟩ => .inl ⟨kvs, k _ h ne_tbl_dK, hk, r.le e⟩
  | .dct _ _, .inr ⟨kvs, h, hk, r⟩ => .inr ⟨kvs, k _ h ne_tbl_dT, hk, r.le e⟩
theorem CRel.there {a : Addr} : ∀ {d : D}, CRel C w a d → ¬ Fr w.H a
  | .lst _, ⟨vs, h, r⟩ => fun f => f.no h ne_tbl_lst
  | .dct _ _, .inl ⟨kvs, h, hk, r⟩ => fun f => f.no h ne_tbl_dK
  | .dct _ _, .inr ⟨kvs, h, hk, r⟩ => fun f => f.no h ne_tbl_dT
/-- as a tree, where nobody may write it any more -/
theorem CRel.tree {a : Addr} (hb : ¬ w.B a) : ∀ {d : D}, CRel C w a d → RelD C w d (.ref a)
  | .lst _, ⟨vs, h, r⟩ => .lst hb h r
  | .dct _ _, .inl ⟨kvs, h, hk, r⟩ => .dct hb h hk r
  | .dct _ _, .inr ⟨kvs, h, hk, r⟩ => .dctT hb h hk r
end

/-! ### exceptions -/
structure Xc where
  cls : Str
  fs : List (Str × D)
/-- how an exception lies -/
def XRel (C : PC) (w : Wd) (x : Xc) (cls : Value) (dx : Option Addr) : Prop :=
  ∃ a, cls = .ref a ∧ C.mg x.cls = some (.ref a) ∧
    ((x.fs = [] ∧ dx = none) ∨ ∃ d vs, x.fs ≠ [] ∧ dx = some d ∧ w.H d = some (.xd ((x.fs.map (·.1)).zip vs)) ∧ ¬ w.B d ∧ RelDs C w (x.fs.map (·.2)) vs)
theorem XRel.le {C : PC} {w w' : Wd} (e : Le w w') {x : Xc} {cls : Value} {dx : Option Addr} (h : XRel C w x cls dx) : XRel C w' x cls dx := by
  obtain ⟨a, h1, h2, h3⟩ := h
  refine ⟨a, h1, h2, ?_⟩
  rcases h3 with h3 | ⟨d, vs, hne, h4, h5, h6, h7⟩
  · exact .inl h3
  · exact .inr ⟨d, vs, hne, h4, e.keep d _ h5 h6 (fun _ z => by cases z), e.nban h5 h6 (fun _ z => by cases z), h7.le e⟩
/-! ### slots -/
inductive Slt where
  | none | val (d : D) | own (d : D) | exc (x : Xc) | fnv
abbrev Env := List Slt

def SlotRel (C : PC) (w0 w : Wd) : Slt → Option V → Prop
  | .none, _ => True
  | .val d, some v => RelD C w d v
  | .own d, some (.ref a) => w.B a ∧ CRel C w a d ∧ Fr w0.H a ∧ ∀ l, l < w.n → w.ρ l ≠ a
  | .exc x, some (.ref a) => ∃ cls dx, C.xa = some (a, cls, dx) ∧ XRel C w x cls dx
  | .fnv, some (.ref a) => C.xf = some (a, w0)
  | _, _ => False

/-- a frame's state. w0: the world at its entry -/
structure Rel (C : PC) (w0 w : Wd) (env : Env) (st : Store) (σ : L2.St) : Prop where
  ext : Ext w0 w
  trk0 : ∀ a, w0.B a → Mut (w0.H a)
  store : SRel C w st
  len : env.length = σ.length
  slot : ∀ (i : Nat) (s : Slt), env[i]? = some s → ∃ v : Option V, σ[i]? = some v ∧ SlotRel C w0 w s v
  apart : ∀ (i j : Nat) (d d' : D) (a : Addr), env[i]? = some (.own d) → env[j]? = some (.own d') → σ[i]? = some (some (.ref a)) → σ[j]? = some (some (.ref a)) → i = j

theorem SlotRel.own_ref {C : PC} {w0 w : Wd} {d : D} {v : Option V} (h : SlotRel C w0 w (.own d) v) : ∃ a, v = some (.ref a) ∧ w.B a ∧ CRel C w a d ∧ Fr w0.H a ∧ ∀ l, l < w.n → w.ρ l ≠ a := by
  cases v with
  | none => exact h.elim
  | some v => cases v <;> first | exact h.elim | exact ⟨_, rfl, h⟩
theorem SlotRel.val_some {C : PC} {w0 w : Wd} {d : D} {v : Option V} (h : SlotRel C w0 w (.val d) v) : ∃ x, v = some x ∧ RelD C w d x := by
  cases v with
  | none => exact h.elim
  | some v => exact ⟨_, rfl, h⟩
theorem SlotRel.exc_ref {C : PC} {w0 w : Wd} {x : Xc} {v : Option V} (h : SlotRel C w0 w (.exc x) v) : ∃ a cls dx, v = some (.ref a) ∧ C.xa = some (a, cls, dx) ∧ XRel C w x cls dx := by
  cases v with
  | none => exact h.elim
  | some v => cases v <;> first | exact h.elim | exact ⟨_, h.choose, h.choose_spec.choose, rfl, h.choose_spec.choose_spec⟩
theorem SlotRel.fn_ref {C : PC} {w0 w : Wd} {v : Option V} (h : SlotRel C w0 w .fnv v) : ∃ a, v = some (.ref a) ∧ C.xf = some (a, w0) := by
  cases v with
  | none => exact h.elim
  | some v => cases v <;> first | exact h.elim | exact ⟨_, rfl, h⟩
theorem SlotRel.ext {C : PC} {w0 w w' : Wd} {st : Store} (e : Ext w w') (S : SRel C w st) (h0 : Ext w0 w) : ∀ {s : Slt} {v : Option V}, SlotRel C w0 w s v → SlotRel C w0 w' s v
  | .none, _, _ => trivial
  | .val d, v, h => by
    obtain ⟨x, rfl, r⟩ := h.val_some
    exact r.le (e.le S)
  | .own d, v, h => by
    obtain ⟨a, rfl, hb, hc, hn, hl⟩ := h.own_ref
    refine ⟨e.up a hb, hc.le (e.le S) fun o ho hp => e.keep a o ho hl hp, hn, fun l hl' z => ?_⟩
    by_cases q : l < w.n
    · rw [e.ρ l q] at z; exact hl l q z
    · exact (e.new l (by omega) hl').mut (z ▸ S.trk a hb)
  | .exc x, v, h => by
    obtain ⟨a, cls, dx, rfl, h1, h2⟩ := h.exc_ref
    exact ⟨cls, dx, h1, h2.le (e.le S)⟩
  | .fnv, v, h => by
    obtain ⟨a, rfl, h1⟩ := h.fn_ref
    exact h1
/-- an expression has run -/
theorem Rel.step {C : PC} {w0 w w' : Wd} {env : Env} {st st' : Store} {σ : L2.St} (R : Rel C w0 w env st σ) (e : Ext w w') (S : SRel C w' st') : Rel C w0 w' env st' σ where
  ext := R.ext.trans e
  trk0 := R.trk0
  store := S
  len := R.len
  slot := fun i s h => let ⟨v, h1, h2⟩ := R.slot i s h; ⟨v, h1, h2.ext e R.store R.ext⟩
  apart := R.apart

/-- the ban without the own objects in the slots js -/
def isOwn : Slt → Bool
  | .own _ => true
  | _ => false
def OwnAt (env : Env) (σ : L2.St) (js : List Nat) (a : Addr) : Prop := ∃ j ∈ js, ∃ d, env[j]? = some (.own d) ∧ σ[j]? = some (some (.ref a))
def free (env : Env) (σ : L2.St) (js : List Nat) (w : Wd) : Wd := { w with B := fun a => w.B a ∧ ¬ OwnAt env σ js a }
theorem OwnAt.mono {env : Env} {σ : L2.St} {js ks : List Nat} (h : ∀ j ∈ js, j ∈ ks) {a : Addr} (o : OwnAt env σ js a) : OwnAt env σ ks a :=
  let ⟨j, hj, d, h1, h2⟩ := o; ⟨j, h j hj, d, h1, h2⟩
theorem Rel.own_keep {C : PC} {w0 w w' : Wd} {env : Env} {st : Store} {σ : L2.St} (R : Rel C w0 w env st σ) (e : Ext w w') {js : List Nat} {a : Addr} (h : OwnAt env σ js a) {o : HO} (ha : w.H a = some o) (ho : ∀ ps, o ≠ .tbl ps) : w'.H a = some o := by
  obtain ⟨j, _, d, h1, h2⟩ := h
  obtain ⟨v, h3, h4⟩ := R.slot j _ h1
  obtain ⟨b, rfl, hb, hc, hn, hl⟩ := h4.own_ref
  rw [h2] at h3; cases h3
  exact e.keep a o ha hl ho
theorem Rel.free_le {C : PC} {w0 w w' : Wd} {env : Env} {st : Store} {σ : L2.St} (R : Rel C w0 w env st σ) (e : Ext w w') {js ks : List Nat} (h : ∀ j ∈ js, j ∈ ks) : Le (free env σ js w) (free env σ ks w') := by
  refine ⟨fun a o ha hb ho => ?_, fun a z => ?_, e.n, e.ρ, e.trk⟩
  · by_cases q : w.B a
    · have q2 : OwnAt env σ js a := Classical.byContradiction fun z => hb ⟨q, z⟩
      exact R.own_keep e q2 ha ho
    · exact (e.le R.store).keep a o ha q ho
  · rcases e.ban a z.1 with q | q
    · exact .inl ⟨q, fun o => z.2 (o.mono h)⟩
    · exact .inr q
theorem free_nil {env : Env} {σ : L2.St} {w : Wd} : Le (free env σ [] w) w := ⟨fun a o ha hb ho => ha, fun a z => .inl ⟨z, fun ⟨j, hj, _⟩ => by simp at hj⟩, Nat.le_refl _, fun _ _ => rfl, fun _ h => h⟩
theorem to_free {env : Env} {σ : L2.St} {js : List Nat} {w : Wd} : Le w (free env σ js w) := Le.of_ban fun _ h => h.1
/-! ### another caught exception -/
abbrev PC.wx (C : PC) (q : Option (Addr × Value × Option Addr)) (g : Option (Addr × Wd)) : PC := { C with xa := q, xf := g }
mutual
theorem RelD.cx {C : PC} {w : Wd} {q : Option (Addr × Value × Option Addr)} {g : Option (Addr × Wd)} : ∀ {d : D} {v : V}, RelD C w d v → RelD (C.wx q g) w d v
  | _, _, .non => .non
  | _, _, .bl b => .bl b
  | _, _, .int i => .int i
  | _, _, .str x => .str x
  | _, _, .tup hb h r => .tup hb h (RelDs.cx r)
  | _, _, .tupK h r => .tupK h (RelDs.cx r)
  | _, _, .lst hb h r => .lst hb h (RelDs.cx r)
  | _, _, .scr hb h r => .scr hb h (RelDs.cx r)
  | _, _, .scrK h r => .scrK h (RelDs.cx r)
  | _, _, .dct hb h hk r => .dct hb h hk (RelDs.cx r)
  | _, _, .dctT hb h hk r => .dctT hb h hk (RelDs.cx r)
  | _, _, .ref h => .ref h
  | _, _, .glo h => .glo h
  | _, _, .ty n => .ty n
theorem RelDs.cx {C : PC} {w : Wd} {q : Option (Addr × Value × Option Addr)} {g : Option (Addr × Wd)} : ∀ {ds : List D} {vs : List V}, RelDs C w ds vs → RelDs (C.wx q g) w ds vs
  | _, _, .nil => .nil
  | _, _, .cons r t => .cons (RelD.cx r) (RelDs.cx t)
end
section
variable {C : PC} {w w0 : Wd} {q : Option (Addr × Value × Option Addr)} {g : Option (Addr × Wd)} {st : Store} {env : Env} {σ : L2.St}
theorem CRel.cx {a : Addr} : ∀ {d : D}, CRel C w a d → CRel (C.wx q g) w a d
  | .lst _, ⟨vs, h, r⟩ => ⟨vs, h, r.cx⟩
  | .dct _ _, .inl ⟨kvs, h, hk, r⟩ => .inl ⟨kvs, h, hk, r.cx⟩
  | .dct _ _, .inr ⟨kvs, h, hk, r⟩ => .inr ⟨kvs, h, hk, r.cx⟩
theorem SRel.cx (S : SRel C w st) : SRel (C.wx q g) w st := ⟨S.len, fun l d h => ⟨(S.cell l d h).1, (S.cell l d h).2.cx⟩, S.inj, S.trk, S.tabs⟩
theorem XRel.cx {x : Xc} {cls : Value} {dx : Option Addr} (h : XRel C w x cls dx) : XRel (C.wx q g) w x cls dx := by
  obtain ⟨a, h1, h2, h3⟩ := h
  refine ⟨a, h1, h2, ?_⟩
  rcases h3 with h3 | ⟨d, vs, hne, h4, h5, h6, h7⟩
  · exact .inl h3
  · exact .inr ⟨d, vs, hne, h4, h5, h6, h7.cx⟩
theorem Rel.cx (R : Rel C w0 w env st σ) (hn : q = C.xa ∨ ∀ (i : Nat) (x : Xc), env[i]? ≠ some (.exc x)) (hg : g = C.xf ∨ ∀ (i : Nat), env[i]? ≠ some .fnv) : Rel (C.wx q g) w0 w env st σ where
  ext := R.ext
  trk0 := R.trk0
  store := R.store.cx
  len := R.len
  slot := fun i s h => by
    obtain ⟨v, h1, h2⟩ := R.slot i s h
    refine ⟨v, h1, ?_⟩
    cases s with
    | none => trivial
    | val d =>
      obtain ⟨x, rfl, r⟩ := h2.val_some
      exact r.cx
    | own d =>
      obtain ⟨a, rfl, hb, hc, hn, hl⟩ := h2.own_ref
      exact ⟨hb, hc.cx, hn, hl⟩
    | exc x =>
      rcases hn with hn | hn
      · obtain ⟨a, cls, dx, rfl, q1, q2⟩ := h2.exc_ref
        exact ⟨cls, dx, by rw [← q1]; exact hn, q2.cx⟩
      · exact absurd h (hn i x)
    | fnv =>
      rcases hg with hg | hg
      · obtain ⟨a, rfl, q1⟩ := h2.fn_ref
        show g = some (a, w0)
        rw [hg]; exact q1
      · exact absurd h (hg i)
  apart := R.apart
end
end FY

end

section
set_option maxRecDepth 100000
/-! Fy2: the small language, its meaning. -/
namespace FY
open PySem PySem.Spec PyProof.Rows L2

inductive R (α : Type) where
  | ok (a : α) (st : Store)
  | exc (x : Xc) (st : Store)
  | stuck
def R.bind {α β : Type} : R α → (α → Store → R β) → R β
  | .ok a st, f => f a st
  | .exc x st, _ => .exc x st
  | .stuck, _ => .stuck

abbrev FSem := List D → Store → R D
/-- what the globals mean -/
structure GS where
  fn : Nat → FSem
  con : Nat → D
  hof : Nat → (Store → R D) → List D → Store → R D
  act : Store → R D
  /-- is the class x under the class c? -/
  sub : Str → Str → Option Bool

/-- the built-in classes -/
inductive Cl where
  | non | bl | int | str | tup | lst | dct
  deriving DecidableEq
def Cl.name : Cl → String
  | .non => "NoneType" | .bl => "bool" | .int => "int" | .str => "str" | .tup => "tuple" | .lst => "list" | .dct => "dict"
inductive Op where
  | add | sub | mul | fdiv | mod | pow
  | neg | not_
  | lt | le | gt | ge | eq | ne | isn | notn | isb | notb | in_ | nin
  | tup | lst
  | ix | sl0 | sl1 | sl2
  | abs | int | len | min | max | min2 | max2 | max3 | sum | all | any | sorted | tuple | list
  | count | countT | index
  | isi (c : Cl)

inductive ItK where
  | val | range1 | range2 | range3 | enum | zip

/-- targets -/
inductive Tg where
  | nm (i : Nat)
  | tup (gs : List Tg)

inductive T where
  | var (i : Nat)
  | cst (d : D)
  | con (j : Nat)
  | glo (x : Str)
  | op (o : Op) (as : List T)
  | me (o : Op) (a : T) (as : List T)
  | subc (i : Nat) (j : T)
  | and_ (as : List T)
  | or_ (as : List T)
  | ife (c a b : T)
  | chn (o o' : Op) (a b c : T)
  | call (j : Nat) (as : List T)
  | hof (j : Nat) (b : T) (as : List T)
  | act (i : Nat)
  | comp (g : Tg) (k : ItK) (as : List T) (cs : List T) (e : T)
  | cell (as : List T)
  | isx (i : Nat) (c : Str)
  | fld (i : Nat) (c f : Str)

mutual
inductive S where
  | expr (e : T)
  | set (i : Nat) (e : T)
  | setO (i : Nat) (e : T)
  | unpack (g : List Tg) (e : T)
  | par (is : List (Nat × Bool)) (es : List T)
  | aug (i : Nat) (o : Op) (e : T)
  | app (i : Nat) (e : T)
  | setI (i : Nat) (j e : T)
  | setC (i : Nat) (j e : T)
  | ifs (c : T) (a b : List S)
  | whl (n : Nat) (c : T) (b : List S)
  | for_ (g : Tg) (k : ItK) (as : List T) (b : List S)
  | ret (e : T)
  | retN
  | rais (x : Str) (fs : List Str) (as : List T)
  | tryE (b : List S) (hs : List Hd)
  | pass | brk | cont
/-- except c as i -/
inductive Hd where
  | mk (c : Str) (i : Nat) (b : List S)
end

/-! ### the operations -/
def szL : Nat := 16777216
def mulB (i j : Int) : Bool := decide (i.natAbs < 2 ^ 64) || decide (j.natAbs < 2 ^ 64) || decide (i.natAbs.log2 + j.natAbs.log2 < 1000000)
def divB (j : Int) : Bool := decide (0 < j.natAbs) && (decide (j.natAbs < 1073741824) || (decide (0 < j) && decide (j.natAbs.log2 < 9000)))

def strEq (x y : Str) : Bool := x.cps.toList == y.cps.toList

mutual
/-- data of a depth, for == -/
def isDataN : D → Nat → Bool
  | .non, _ => true
  | .bl _, _ => true
  | .int _, _ => true
  | .str x, _ => PyData.strOk x
  | .tup ds, n + 1 => areDataN ds n
  | .lst ds, n + 1 => areDataN ds n
  | _, _ => false
def areDataN : List D → Nat → Bool
  | [], _ => true
  | d :: ds, n => isDataN d n && areDataN ds n
end
def isData (d : D) : Bool := isDataN d 40
mutual
/-- == of data -/
def pyEq : D → D → Bool
  | .non, .non => true
  | .bl a, .bl b => a == b
  | .bl a, .int j => (if a then 1 else 0) == j
  | .int i, .bl b => i == (if b then 1 else 0)
  | .int i, .int j => i == j
  | .str x, .str y => strEq x y
  | .tup ds, .tup es => pyEqs ds es
  | .lst ds, .lst es => pyEqs ds es
  | _, _ => false
def pyEqs : List D → List D → Bool
  | [], [] => true
  | d :: ds, e :: es => pyEq d e && pyEqs ds es
  | _, _ => false
end

def ixI (n : Nat) (i : Int) : Option Nat := L2.ixN n i
def sIxD (n d : Nat) : Option Int → Nat
  | none => d
  | some i => HT.sIx n d (some i)
def cutD {α : Type} (xs : List α) (lo hi : Option Int) : List α := (xs.drop (HT.sIx xs.length 0 lo)).take (HT.sIx xs.length xs.length hi - HT.sIx xs.length 0 lo)

def intsOf : List D → Option (List Int)
  | [] => some []
  | .int i :: r => (intsOf r).map (i :: ·)
  | _ => none
def blsOf : List D → Option (List Bool)
  | [] => some []
  | .bl i :: r => (blsOf r).map (i :: ·)
  | _ => none
def minI : List Int → Option Int
  | [] => none
  | a :: r => some (r.foldl (fun m x => if x < m then x else m) a)
def maxI : List Int → Option Int
  | [] => none
  | a :: r => some (r.foldl (fun m x => if m < x then x else m) a)
def isFlat : D → Bool
  | .non | .bl _ | .int _ | .str _ => true
  | _ => false
def findIx (d : D) : List D → Nat → Option Nat
  | [], _ => none
  | e :: r, n => if pyEq e d then some n else findIx d r (n + 1)
def clsOf : D → Option Cl
  | .non => some .non
  | .bl _ => some .bl
  | .int _ => some .int
  | .str _ => some .str
  | .tup _ => some .tup
  | .lst _ => some .lst
  | .dct _ _ => some .dct
  | _ => none
def subCl : Cl → Cl → Bool
  | .bl, .int => true
  | .bl, .bl => true
  | .non, .non => true
  | .int, .int => true
  | .str, .str => true
  | .tup, .tup => true
  | .lst, .lst => true
  | .dct, .dct => true
  | _, _ => false
def isiB (d : D) (c : Cl) : Option Bool := (clsOf d).map fun t => subCl t c
def tru : D → Option Bool
  | .non => some false
  | .bl b => some b
  | .int i => some (i != 0)
  | .str x => if x.length ≤ szL then some ((x.length : Int) != 0) else none
  | .tup ds => some (!ds.isEmpty)
  | .lst ds => some (!ds.isEmpty)
  | _ => none
def one (f : D → Option D) : List D → Option D
  | [a] => f a
  | _ => none
def two (f : D → D → Option D) : List D → Option D
  | [a, b] => f a b
  | _ => none
def three (f : D → D → D → Option D) : List D → Option D
  | [a, b, c] => f a b c
  | _ => none
theorem one_some {f : D → Option D} {ds : List D} {d : D} (h : one f ds = some d) : ∃ a, ds = [a] ∧ f a = some d := by
  unfold one at h
  split at h
  · exact ⟨_, rfl, h⟩
  · cases h
theorem two_some {f : D → D → Option D} {ds : List D} {d : D} (h : two f ds = some d) : ∃ a b, ds = [a, b] ∧ f a b = some d := by
  unfold two at h
  split at h
  · exact ⟨_, _, rfl, h⟩
  · cases h
theorem three_some {f : D → D → D → Option D} {ds : List D} {d : D} (h : three f ds = some d) : ∃ a b c, ds = [a, b, c] ∧ f a b c = some d := by
  unfold three at h
  split at h
  · exact ⟨_, _, _, rfl, h⟩
  · cases h
def addD : D → D → Option D
  | .int i, .int j => some (.int (i + j))
  | .str x, .str y => if x.length + y.length ≤ szL then some (.str (x ++ y)) else none
  | .tup xs, .tup ys => if xs.length + ys.length ≤ szL then some (.tup (xs ++ ys)) else none
  | .lst xs, .lst ys => if xs.length + ys.length ≤ szL then some (.lst (xs ++ ys)) else none
  | _, _ => none
def subD : D → D → Option D
  | .int i, .int j => some (.int (i - j))
  | _, _ => none
def mulD : D → D → Option D
  | .int i, .int j => if mulB i j then some (.int (i * j)) else none
  | .lst xs, .int k => if -(2 ^ 63) ≤ k ∧ k < 2 ^ 63 ∧ xs.length * k.toNat ≤ szL then some (.lst (List.replicate k.toNat xs).flatten) else none
  | .tup xs, .int k => if xs ≠ [] ∧ 2 ≤ k ∧ k ≤ 1000 ∧ xs.length ≤ 1000 then some (.tup (List.replicate k.toNat xs).flatten) else none
  | _, _ => none
def fdivD : D → D → Option D
  | .int i, .int j => if divB j then some (.int (i.fdiv j)) else none
  | _, _ => none
def modD : D → D → Option D
  | .int i, .int j => if j = 0 then none else some (.int (i.fmod j))
  | _, _ => none
def powD : D → D → Option D
  | .int i, .int j => if 0 ≤ j ∧ j ≤ 1000000 ∧ i.natAbs < 2 ^ 64 then some (.int (i ^ j.toNat)) else none
  | _, _ => none
def negD : D → Option D
  | .int i => some (.int (-i))
  | _ => none
def notD (d : D) : Option D := (tru d).map fun b => .bl (!b)
def ordD (p : Int → Int → Bool) : D → D → Option D
  | .int i, .int j => some (.bl (p i j))
  | _, _ => none
def eqD (neg : Bool) (d e : D) : Option D := if isData d && isData e then some (.bl (if neg then !pyEq d e else pyEq d e)) else none
def isNone (neg : Bool) : D → Option D
  | .ref _ => none
  | .non => some (.bl (!neg))
  | _ => some (.bl neg)
def isBl (neg : Bool) : D → D → Option D
  | .bl a, .bl b => some (.bl (if neg then !(a == b) else a == b))
  | _, _ => none
def inD (neg : Bool) (d : D) : D → Option D
  | .tup es => if isData d && isData (.tup es) then some (.bl (if neg then !(es.any fun e => pyEq e d) else es.any fun e => pyEq e d)) else none
  | .lst es => if isData d && isData (.lst es) then some (.bl (if neg then !(es.any fun e => pyEq e d) else es.any fun e => pyEq e d)) else none
  | _ => none
def ixD : D → D → Option D
  | .tup ds, .int i => (ixI ds.length i).bind fun k => ds[k]?
  | .lst ds, .int i => (ixI ds.length i).bind fun k => ds[k]?
  | _, _ => none
def slD (lo hi : Option Int) : D → Option D
  | .lst ds => some (.lst (cutD ds lo hi))
  | .scr ds => some (.lst (cutD ds lo hi))
  | .tup ds => some (.tup (cutD ds lo hi))
  | _ => none
def intD : D → Option Int
  | .int i => some i
  | _ => none
def absD : D → Option D
  | .int i => some (.int (if i < 0 then -i else i))
  | _ => none
def toInt : D → Option D
  | .int i => some (.int i)
  | .bl b => some (.int (if b then 1 else 0))
  | _ => none
def lenD : D → Option D
  | .tup ds => some (.int ds.length)
  | .lst ds => some (.int ds.length)
  | .scr ds => some (.int ds.length)
  | .str x => if x.length ≤ szL then some (.int x.length) else none
  | _ => none
def intsF (f : List Int → Option D) : D → Option D
  | .lst ds => (intsOf ds).bind f
  | _ => none
def blsF (f : List Bool → D) : D → Option D
  | .lst ds => (blsOf ds).map f
  | _ => none
def tupleD : D → Option D
  | .lst ds => some (.tup ds)
  | .tup ds => some (.tup ds)
  | _ => none
def listD : D → Option D
  | .lst ds => some (.lst ds)
  | .tup ds => some (.lst ds)
  | _ => none
def countD : D → D → Option D
  | .lst ds, d => if isData d && isData (.lst ds) then some (.int (ds.countP fun e => pyEq e d)) else none
  | .tup ds, d => if isData d && isData (.tup ds) then some (.int (ds.countP fun e => pyEq e d)) else none
  | _, _ => none
def indexD : D → D → Option D
  | .lst ds, d => if isData d && isData (.lst ds) then (findIx d ds 0).map (fun (n : Nat) => D.int (n : Int)) else none
  | _, _ => none

def opSem (o : Op) (ds : List D) : Option D := match o with
  | .add => two addD ds
  | .sub => two subD ds
  | .mul => two mulD ds
  | .fdiv => two fdivD ds
  | .mod => two modD ds
  | .pow => two powD ds
  | .neg => one negD ds
  | .not_ => one notD ds
  | .lt => two (ordD fun i j => decide (i < j)) ds
  | .le => two (ordD fun i j => decide (i ≤ j)) ds
  | .gt => two (ordD fun i j => decide (j < i)) ds
  | .ge => two (ordD fun i j => decide (j ≤ i)) ds
  | .eq => two (eqD false) ds
  | .ne => two (eqD true) ds
  | .isn => one (isNone false) ds
  | .notn => one (isNone true) ds
  | .isb => two (isBl false) ds
  | .notb => two (isBl true) ds
  | .in_ => two (inD false) ds
  | .nin => two (inD true) ds
  | .tup => some (.tup ds)
  | .lst => some (.lst ds)
  | .ix => two ixD ds
  | .sl0 => two (fun a j => (intD j).bind fun j => slD none (some j) a) ds
  | .sl1 => two (fun a i => (intD i).bind fun i => slD (some i) none a) ds
  | .sl2 => three (fun a i j => (intD i).bind fun i => (intD j).bind fun j => slD (some i) (some j) a) ds
  | .abs => one absD ds
  | .int => one toInt ds
  | .len => one lenD ds
  | .min => one (intsF fun ns => (minI ns).map .int) ds
  | .max => one (intsF fun ns => (maxI ns).map .int) ds
  | .min2 => two (fun a b => (intD a).bind fun i => (intD b).bind fun j => some (.int (if j < i then j else i))) ds
  | .max2 => two (fun a b => (intD a).bind fun i => (intD b).bind fun j => some (.int (if j > i then j else i))) ds
  | .max3 => none
  | .sum => one (intsF fun ns => some (.int ns.sum)) ds
  | .all => one (blsF fun bs => .bl (bs.all id)) ds
  | .any => one (blsF fun bs => .bl (bs.any id)) ds
  | .sorted => none
  | .tuple => one tupleD ds
  | .list => one listD ds
  | .count => two countD ds
  | .countT => two countD ds
  | .index => two indexD ds
  | .isi c => one (fun d => (isiB d c).map .bl) ds

/-- the receiver of a method -/
def meOk : Op → D → Bool
  | .count, .lst _ => true
  | .countT, .tup _ => true
  | .index, .lst _ => true
  | _, _ => false
inductive EK where | elem | all
def opEsc : Op → EK
  | .tup | .lst => .all
  | _ => .elem

/-! ### what of the own slots an expression may hand on -/
mutual
def esc : T → List Nat
  | .var i => [i]
  | .op o as => match opEsc o with
    | .elem => escEL as
    | .all => escL as
  | .and_ as => escL as
  | .or_ as => escL as
  | .ife _ a b => esc a ++ esc b
  | .comp _ _ as _ e => escEL as ++ esc e
  | _ => []
def escL : List T → List Nat
  | [] => []
  | a :: as => esc a ++ escL as
def escEL : List T → List Nat
  | [] => []
  | a :: as => (match a with | .var _ => [] | _ => esc a) ++ escEL as
end
def escE (t : T) : List Nat := match t with | .var _ => [] | _ => esc t

/-! ### the meaning of expressions -/
def liftO {α : Type} (o : Option α) (st : Store) : R α := match o with
  | some a => .ok a st
  | none => .stuck
def R.noX {α : Type} : R α → R α
  | .exc _ _ => .stuck
  | r => r

mutual
def tgSlots : Tg → List Nat
  | .nm i => [i]
  | .tup gs => tgsSlots gs
def tgsSlots : List Tg → List Nat
  | [] => []
  | g :: gs => tgSlots g ++ tgsSlots gs
end
mutual
def tgSet : Tg → D → Env → Option Env
  | .nm i, d, env => some (env.set i (.val d))
  | .tup gs, .tup ds, env => tgsSet gs ds env
  | .tup gs, .lst ds, env => tgsSet gs ds env
  | _, _, _ => none
def tgsSet : List Tg → List D → Env → Option Env
  | [], [], env => some env
  | g :: gs, d :: ds, env => (tgSet g d env).bind (tgsSet gs ds)
  | _, _, _ => none
end
def wipeE (env : Env) : List Nat → Env
  | [] => env
  | v :: vs => (wipeE env vs).set v .none

def rangeD (a : Int) : Nat → List D
  | 0 => []
  | n + 1 => .int a :: rangeD (a + 1) n
def rangeC (a c : Int) : Nat → List D
  | 0 => []
  | n + 1 => .int a :: rangeC (a + c) c n
def enumD (a : Int) : List D → List D
  | [] => []
  | d :: ds => .tup [.int a, d] :: enumD (a + 1) ds
def zipD : List D → List D → List D
  | d :: ds, e :: es => .tup [d, e] :: zipD ds es
  | _, _ => []
def b62 (i : Int) : Bool := decide (-(2 ^ 62) ≤ i) && decide (i < 2 ^ 62)
def itSem : ItK → List D → Option (List D)
  | .val, [.lst ds] => some ds
  | .val, [.tup ds] => some ds
  | .range1, [.int j] => if b62 j then some (rangeD 0 j.toNat) else none
  | .range2, [.int i, .int j] => if b62 i && b62 j then some (rangeD i (j - i).toNat) else none
  | .range3, [.int i, .int j, .int (-1)] => if b62 i && b62 j then some (rangeC i (-1) (i - j).toNat) else none
  | .enum, [.lst ds] => some (enumD 0 ds)
  | .zip, [.lst ds, .lst es] => some (zipD ds es)
  | .zip, [.tup ds, .tup es] => some (zipD ds es)
  | _, _ => none

def compLoop (f : D → Store → R (Option D)) : List D → Store → R (List D)
  | [], st => .ok [] st
  | d :: ds, st => (f d st).bind fun o st1 => (compLoop f ds st1).bind fun r st2 => .ok (match o with | some x => x :: r | none => r) st2
def ownFree (env : Env) (js : List Nat) : Bool := js.all fun j => match env[j]? with
  | some (.own _) => false
  | _ => true
def compF (g : Tg) (env : Env) (tst : Env → Store → R Bool) (el : Env → Store → R D) : D → Store → R (Option D) := fun d st => match tgSet g d (wipeE env (tgSlots g)) with
  | none => .stuck
  | some env1 => (tst env1 st).noX.bind fun b st2 => if b then (el env1 st2).noX.bind fun x st3 => .ok (some x) st3 else .ok none st2
def compA (env : Env) (k : ItK) (js : List Nat) (ds : List D) (st : Store) (f : D → Store → R (Option D)) : R D := match itSem k ds with
  | none => .stuck
  | some its => if its.length ≤ szL && ownFree env js then (compLoop f its st).bind fun ys st2 => .ok (.lst ys) st2 else .stuck
def getV (env : Env) (i : Nat) : Option D := match env[i]? with
  | some (.val d) => some d
  | some (.own d) => some d
  | _ => none
def getRef (env : Env) (i : Nat) : Option Nat := match env[i]? with
  | some (.val (.ref l)) => some l
  | _ => none

mutual
def ev (Γ : GS) : T → Env → Store → R D
  | .var i, env, st => liftO (getV env i) st
  | .cst d, _, st => .ok d st
  | .con j, _, st => .ok (Γ.con j) st
  | .glo x, _, st => .ok (.glo x) st
  | .op o as, env, st => (evL Γ as env st).bind fun ds st1 => liftO (opSem o ds) st1
  | .me o a as, env, st => (ev Γ a env st).bind fun d st1 => if meOk o d then (evL Γ as env st1).bind fun ds st2 => liftO (opSem o (d :: ds)) st2 else .stuck
  | .subc i j, env, st => match getRef env i with
    | some l => (ev Γ j env st).bind fun d st1 => liftO ((st1[l]?).bind fun c => opSem .ix [c, d]) st1
    | none => .stuck
  | .and_ as, env, st => evAnd Γ as env st
  | .or_ as, env, st => evOr Γ as env st
  | .ife c a b, env, st => (ev Γ c env st).bind fun d st1 => match tru d with
    | some true => ev Γ a env st1
    | some false => ev Γ b env st1
    | none => .stuck
  | .chn o o' a b c, env, st => (ev Γ a env st).bind fun x st1 => (ev Γ b env st1).bind fun y st2 => match opSem o [x, y] with
    | some (.bl true) => (ev Γ c env st2).bind fun z st3 => liftO (opSem o' [y, z]) st3
    | some (.bl false) => .ok (.bl false) st2
    | _ => .stuck
  | .call j as, env, st => if ownFree env (escL as) then (evL Γ as env st).bind fun ds st1 => Γ.fn j ds st1 else .stuck
  | .hof j b as, env, st => if ownFree env (esc b ++ escL as) then (evL Γ as env st).bind fun ds st1 => (Γ.hof j (ev Γ b env) ds st1).noX else .stuck
  | .act i, env, st => match env[i]? with
    | some .fnv => Γ.act st
    | _ => .stuck
  | .comp g k as cs e, env, st => (evL Γ as env st).bind fun ds st1 => compA env k (escEL as) ds st1 (compF g env (evTests Γ cs) (ev Γ e))
  | .cell as, env, st => if ownFree env (escL as) then (evL Γ as env st).bind fun ds st1 => .ok (.ref st1.length) (st1 ++ [.lst ds]) else .stuck
  | .isx i c, env, st => match env[i]? with
    | some (.exc x) => if x.fs.isEmpty then liftO ((Γ.sub x.cls c).map .bl) st else .stuck
    | _ => .stuck
  | .fld i c f, env, st => match env[i]? with
    | some (.exc x) => if x.cls = c then liftO (x.fs.lookup f) st else .stuck
    | _ => .stuck
def evL (Γ : GS) : List T → Env → Store → R (List D)
  | [], _, st => .ok [] st
  | a :: as, env, st => (ev Γ a env st).bind fun d st1 => (evL Γ as env st1).bind fun ds st2 => .ok (d :: ds) st2
def evAnd (Γ : GS) : List T → Env → Store → R D
  | [], _, _ => .stuck
  | [a], env, st => ev Γ a env st
  | a :: as, env, st => (ev Γ a env st).bind fun d st1 => match tru d with
    | some true => evAnd Γ as env st1
    | some false => .ok d st1
    | none => .stuck
def evOr (Γ : GS) : List T → Env → Store → R D
  | [], _, _ => .stuck
  | [a], env, st => ev Γ a env st
  | a :: as, env, st => (ev Γ a env st).bind fun d st1 => match tru d with
    | some true => .ok d st1
    | some false => evOr Γ as env st1
    | none => .stuck
def evTests (Γ : GS) : List T → Env → Store → R Bool
  | [], _, st => .ok true st
  | a :: as, env, st => (ev Γ a env st).bind fun d st1 => match tru d with
    | some true => evTests Γ as env st1
    | some false => .ok false st1
    | none => .stuck
end

/-! ### the meaning of statements -/
inductive RS where
  | nx (env : Env) (st : Store)
  | rt (d : D) (st : Store)
  | bk (env : Env) (st : Store)
  | ct (env : Env) (st : Store)
  | ex (x : Xc) (env : Env) (st : Store)
  | stuck
def RS.seq : RS → (Env → Store → RS) → RS
  | .nx env st, f => f env st
  | r, _ => r
def noExc (env : Env) : Bool := env.all fun s => match s with
  | .exc _ => false
  | _ => true
/-- an except suite ends: its name goes -/
def RS.leave (i : Nat) : RS → RS
  | .nx env st => if noExc (env.set i .none) then .nx (env.set i .none) st else .stuck
  | .bk env st => if noExc (env.set i .none) then .bk (env.set i .none) st else .stuck
  | .ct env st => if noExc (env.set i .none) then .ct (env.set i .none) st else .stuck
  | .rt d st => .rt d st
  | .ex _ _ _ => .stuck
  | .stuck => .stuck
def R.to {α : Type} (r : R α) (env : Env) (k : α → Store → RS) : RS := match r with
  | .ok a st => k a st
  | .exc x st => .ex x env st
  | .stuck => .stuck
def frzE (env : Env) : List Nat → Env
  | [] => env
  | j :: js => match (frzE env js)[j]? with
    | some (.own d) => (frzE env js).set j (.val d)
    | _ => frzE env js
def setPar (env : Env) : List (Nat × Bool) → List D → Option Env
  | [], [] => some env
  | (i, o) :: is, d :: ds => setPar (env.set i (if o then .own d else .val d)) is ds
  | _, _ => none
def wloop (c : Env → Store → R D) (b : Env → Store → RS) : Nat → Env → Store → RS
  | 0, _, _ => .stuck
  | n + 1, env, st => (c env st).to env fun d st1 => match tru d with
    | some false => .nx env st1
    | some true => (match b env st1 with
      | .nx env2 st2 => wloop c b n env2 st2
      | .ct env2 st2 => wloop c b n env2 st2
      | .bk env2 st2 => .nx env2 st2
      | r => r)
    | none => .stuck
def floop (g : Tg) (b : Env → Store → RS) : List D → Env → Store → RS
  | [], env, st => .nx env st
  | d :: ds, env, st => match tgSet g d env with
    | none => .stuck
    | some env1 => (match b env1 st with
      | .nx env2 st2 => floop g b ds env2 st2
      | .ct env2 st2 => floop g b ds env2 st2
      | .bk env2 st2 => .nx env2 st2
      | r => r)
mutual
def exec (Γ : GS) : S → Env → Store → RS
  | .expr e, env, st => (ev Γ e env st).to env fun _ st1 => .nx env st1
  | .set i e, env, st => (ev Γ e env st).to env fun d st1 => .nx ((frzE env (esc e)).set i (.val d)) st1
  | .setO i e, env, st => (ev Γ e env st).to env fun d st1 => .nx ((frzE env (esc e)).set i (.own d)) st1
  | .unpack gs e, env, st => (ev Γ e env st).to env fun d st1 => match tgSet (.tup gs) d (frzE env (esc e)) with
    | some env1 => .nx env1 st1
    | none => .stuck
  | .par is es, env, st => (evL Γ es env st).to env fun ds st1 => match setPar (frzE env (escL es)) is ds with
    | some env1 => .nx env1 st1
    | none => .stuck
  | .aug i o e, env, st => match getV env i with
    | some (.int a) => (ev Γ e env st).to env fun d st1 => (match opSem o [.int a, d] with
      | some (.int b) => .nx (env.set i (.val (.int b))) st1
      | _ => .stuck)
    | _ => .stuck
  | .app i e, env, st => match env[i]? with
    | some (.own (.lst ds)) => (ev Γ e env st).to env fun d st1 => if !(esc e).contains i && decide (ds.length < szL) then .nx ((frzE env (esc e)).set i (.own (.lst (ds ++ [d])))) st1 else .stuck
    | _ => .stuck
  | .setI i j e, env, st => match env[i]? with
    | some (.own (.lst ds)) => (ev Γ e env st).to env fun d st1 => (ev Γ j env st1).to env fun k st2 => (match k with
      | .int k => if !(esc e).contains i then (match ixI ds.length k with
        | some n => .nx ((frzE env (esc e)).set i (.own (.lst (ds.set n d)))) st2
        | none => .stuck) else .stuck
      | _ => .stuck)
    | _ => .stuck
  | .setC i j e, env, st => match getRef env i with
    | some l => (ev Γ e env st).to env fun d st1 => (ev Γ j env st1).to env fun k st2 => (match k with
      | .int k => (match st2[l]? with
        | some (.lst ds) => (match ixI ds.length k with
          | some n => .nx (frzE env (esc e)) (st2.set l (.lst (ds.set n d)))
          | none => .stuck)
        | _ => .stuck)
      | _ => .stuck)
    | none => .stuck
  | .ifs c a b, env, st => (ev Γ c env st).to env fun d st1 => match tru d with
    | some true => execs Γ a env st1
    | some false => execs Γ b env st1
    | none => .stuck
  | .whl n c b, env, st => wloop (ev Γ c) (execs Γ b) n env st
  | .for_ g k as b, env, st => (evL Γ as env st).to env fun ds st1 => match itSem k ds with
    | some its => floop g (execs Γ b) its (frzE env (escL as)) st1
    | none => .stuck
  | .ret e, env, st => (ev Γ e env st).to env fun d st1 => .rt d st1
  | .retN, _, st => .rt .non st
  | .rais x fs as, env, st => (evL Γ as env st).to env fun ds st1 => .ex ⟨x, fs.zip ds⟩ (frzE env (escL as)) st1
  | .tryE b hs, env, st => match execs Γ b env st with
    | .ex x env1 st1 => hand Γ hs x env1 st1
    | r => r
  | .pass, env, st => .nx env st
  | .brk, env, st => .bk env st
  | .cont, env, st => .ct env st
def execs (Γ : GS) : List S → Env → Store → RS
  | [], env, st => .nx env st
  | s :: ss, env, st => (exec Γ s env st).seq (execs Γ ss)
/-- the clauses, one after the other -/
def hand (Γ : GS) : List Hd → Xc → Env → Store → RS
  | [], x, env, st => .ex x env st
  | .mk c i b :: hs, x, env, st => match Γ.sub x.cls c with
    | some true => if noExc env then (execs Γ b (env.set i (.exc x)) st).leave i else .stuck
    | some false => hand Γ hs x env st
    | none => .stuck
end
/-- a def's meaning by its body -/
def runB (Γ : GS) (n : Nat) (b : List S) : FSem := fun ds st => match execs Γ b (ds.map Slt.val ++ List.replicate (n - ds.length) .none) st with
  | .nx _ st1 => .ok .non st1
  | .rt d st1 => .ok d st1
  | .ex x _ st1 => .exc x st1
  | _ => .stuck
/-- .. of a def that gets a lambda -/
def runF (Γ : GS) (n : Nat) (b : List S) (act : Store → R D) : Store → R D := fun st => match execs { Γ with act := act } b (.fnv :: List.replicate (n - 1) .none) st with
  | .nx _ st1 => .ok .non st1
  | .rt d st1 => .ok d st1
  | .ex x _ st1 => .exc x st1
  | _ => .stuck
end FY

end

section
set_option maxRecDepth 100000
/-! Fy3: what a reading asks, by the small language's meaning. -/
namespace FY
open PySem PySem.Spec PyProof.Rows L2

/-- a plain value whose top may be an own object: the top by the ban of w1, what lies within by that of w -/
def RelN (C : PC) (w w1 : Wd) : D → V → Prop
  | .tup ds, v => ∃ a vs, v = .ref a ∧ ((¬ w1.B a ∧ w.H a = some (.tup vs)) ∨ TupK C.K a vs) ∧ RelDs C w ds vs
  | .lst ds, v => ∃ a vs, v = .ref a ∧ ¬ w1.B a ∧ w.H a = some (.lst vs) ∧ RelDs C w ds vs
  | .dct ks ds, v => ∃ a, v = .ref a ∧ ¬ w1.B a ∧ ((∃ kvs, w.H a = some (.dK kvs) ∧ ks = kvs.map (fun p => keyD p.1) ∧ RelDs C w ds (kvs.map (·.2))) ∨
      (∃ kvs, w.H a = some (.dT kvs) ∧ ks = kvs.map (fun p => .tup (p.1.map keyD)) ∧ RelDs C w ds (kvs.map (·.2))))
  | d, v => RelD C w d v
/-- w1 is w with a smaller ban -/
structure Sub (w w1 : Wd) : Prop where
  H : w1.H = w.H
  ρ : w1.ρ = w.ρ
  n : w1.n = w.n
  B : ∀ a, w1.B a → w.B a
theorem Sub.refl (w : Wd) : Sub w w := ⟨rfl, rfl, rfl, fun _ h => h⟩
theorem Sub.le {w w1 : Wd} (s : Sub w w1) : Le w w1 := ⟨fun a o h _ _ => by rw [s.H]; exact h, fun a h => .inl (s.B a h), by rw [s.n]; exact Nat.le_refl _, fun l _ => by rw [s.ρ], fun a q => by rw [s.H]; exact q⟩
theorem RelD.toN {C : PC} {w : Wd} {d : D} {v : V} (r : RelD C w d v) : RelN C w w d v := by
  cases r with
  | tup hb h r => exact ⟨_, _, rfl, .inl ⟨hb, h⟩, r⟩
  | tupK h r => exact ⟨_, _, rfl, .inr h, r⟩
  | lst hb h r => exact ⟨_, _, rfl, hb, h, r⟩
  | scr hb h r => exact .scr hb h r
  | scrK h r => exact .scrK h r
  | dct hb h hk r => exact ⟨_, rfl, hb, .inl ⟨_, h, hk, r⟩⟩
  | dctT hb h hk r => exact ⟨_, rfl, hb, .inr ⟨_, h, hk, r⟩⟩
  | non => exact .non
  | bl b => exact .bl b
  | int i => exact .int i
  | str x => exact .str x
  | ref h => exact .ref h
  | glo h => exact .glo h
  | ty n => exact .ty n
theorem RelN.toD {C : PC} {w w1 : Wd} (s : Sub w w1) {d : D} {v : V} (r : RelN C w w1 d v) : RelD C w1 d v := by
  cases d with
  | tup ds =>
    obtain ⟨a, vs, rfl, h, r⟩ := r
    rcases h with ⟨hb, h⟩ | h
    · exact .tup hb (by rw [s.H]; exact h) (r.le s.le)
    · exact .tupK h (r.le s.le)
  | lst ds =>
    obtain ⟨a, vs, rfl, hb, h, r⟩ := r
    exact .lst hb (by rw [s.H]; exact h) (r.le s.le)
  | dct ks ds =>
    obtain ⟨a, rfl, hb, h⟩ := r
    rcases h with ⟨kvs, h, hk, r⟩ | ⟨kvs, h, hk, r⟩
    · exact .dct hb (by rw [s.H]; exact h) hk (r.le s.le)
    · exact .dctT hb (by rw [s.H]; exact h) hk (r.le s.le)
  | non => exact RelD.le s.le r
  | bl b => exact RelD.le s.le r
  | int i => exact RelD.le s.le r
  | str x => exact RelD.le s.le r
  | ref l => exact RelD.le s.le r
  | glo x => exact RelD.le s.le r
  | ty n => exact RelD.le s.le r
  | scr ds => exact RelD.le s.le r
theorem RelN.le {C : PC} {w w1 w' w1' : Wd} (e : Le w w') (e1 : Le w1 w1') (s : Sub w w1) (s' : Sub w' w1') {d : D} {v : V} (r : RelN C w w1 d v) : RelN C w' w1' d v := by
  cases d with
  | tup ds =>
    obtain ⟨a, vs, rfl, h, r⟩ := r
    refine ⟨a, vs, rfl, ?_, r.le e⟩
    rcases h with ⟨hb, h⟩ | h
    · rw [← s.H] at h
      have h1 := e1.keep _ _ h hb ne_tbl_tup
      exact .inl ⟨e1.nban h hb ne_tbl_tup, by rw [← s'.H]; exact h1⟩
    · exact .inr h
  | lst ds =>
    obtain ⟨a, vs, rfl, hb, h, r⟩ := r
    rw [← s.H] at h
    have h1 := e1.keep _ _ h hb ne_tbl_lst
    exact ⟨a, vs, rfl, e1.nban h hb ne_tbl_lst, by rw [← s'.H]; exact h1, r.le e⟩
  | dct ks ds =>
    obtain ⟨a, rfl, hb, h⟩ := r
    rcases h with ⟨kvs, h, hk, r⟩ | ⟨kvs, h, hk, r⟩
    · rw [← s.H] at h
      have q := e1.keep _ _ h hb ne_tbl_dK
      rw [s'.H] at q
      exact ⟨a, rfl, e1.nban h hb ne_tbl_dK, .inl ⟨kvs, q, hk, r.le e⟩⟩
    · rw [← s.H] at h
      have q := e1.keep _ _ h hb ne_tbl_dT
      rw [s'.H] at q
      exact ⟨a, rfl, e1.nban h hb ne_tbl_dT, .inr ⟨kvs, q, hk, r.le e⟩⟩
  | non => exact RelD.le e r
  | bl b => exact RelD.le e r
  | int i => exact RelD.le e r
  | str x => exact RelD.le e r
  | ref l => exact RelD.le e r
  | glo x => exact RelD.le e r
  | ty n => exact RelD.le e r
  | scr ds => exact RelD.le e r

inductive RelNs (C : PC) (w w1 : Wd) : List D → List V → Prop
  | nil : RelNs C w w1 [] []
  | cons {d : D} {v : V} {ds : List D} {vs : List V} : RelN C w w1 d v → RelNs C w w1 ds vs → RelNs C w w1 (d :: ds) (v :: vs)
theorem RelNs.toDs {C : PC} {w w1 : Wd} (s : Sub w w1) : ∀ {ds : List D} {vs : List V}, RelNs C w w1 ds vs → RelDs C w1 ds vs
  | _, _, .nil => .nil
  | _, _, .cons r t => .cons (r.toD s) (RelNs.toDs s t)
theorem RelDs.toNs {C : PC} {w : Wd} : ∀ {ds : List D} {vs : List V}, RelDs C w ds vs → RelNs C w w ds vs
  | _, _, .nil => .nil
  | _, _, .cons r t => .cons r.toN (RelDs.toNs t)
theorem RelNs.le {C : PC} {w w1 w' w1' : Wd} (e : Le w w') (e1 : Le w1 w1') (s : Sub w w1) (s' : Sub w' w1') : ∀ {ds : List D} {vs : List V}, RelNs C w w1 ds vs → RelNs C w' w1' ds vs
  | _, _, .nil => .nil
  | _, _, .cons r t => .cons (r.le e e1 s s') (RelNs.le e e1 s s' t)
theorem RelNs.one {C : PC} {w w1 : Wd} {d : D} {vs : List V} (r : RelNs C w w1 [d] vs) : ∃ v, vs = [v] ∧ RelN C w w1 d v := by
  cases r with | cons r t => cases t; exact ⟨_, rfl, r⟩
theorem RelNs.two {C : PC} {w w1 : Wd} {d e : D} {vs : List V} (r : RelNs C w w1 [d, e] vs) : ∃ v u, vs = [v, u] ∧ RelN C w w1 d v ∧ RelN C w w1 e u := by
  cases r with | cons r t => cases t with | cons r' t => cases t; exact ⟨_, _, rfl, r, r'⟩
theorem RelNs.three {C : PC} {w w1 : Wd} {d e f : D} {vs : List V} (r : RelNs C w w1 [d, e, f] vs) : ∃ v u x, vs = [v, u, x] ∧ RelN C w w1 d v ∧ RelN C w w1 e u ∧ RelN C w w1 f x := by
  cases r with | cons r t => cases t with | cons r' t => cases t with | cons r'' t => cases t; exact ⟨_, _, _, rfl, r, r', r''⟩
theorem RelNs.length {C : PC} {w w1 : Wd} : ∀ {ds : List D} {vs : List V}, RelNs C w w1 ds vs → ds.length = vs.length
  | _, _, .nil => rfl
  | _, _, .cons _ t => congrArg (· + 1) (RelNs.length t)

theorem RelN.intE {C : PC} {w w1 : Wd} {i : Int} {v : V} (r : RelN C w w1 (.int i) v) : v = .int i := by cases (show RelD C w _ _ from r); rfl
theorem RelN.blE {C : PC} {w w1 : Wd} {i : Bool} {v : V} (r : RelN C w w1 (.bl i) v) : v = .bl i := by cases (show RelD C w _ _ from r); rfl
theorem RelN.strE {C : PC} {w w1 : Wd} {i : Str} {v : V} (r : RelN C w w1 (.str i) v) : v = .str i := by cases (show RelD C w _ _ from r); rfl
theorem RelN.nonE {C : PC} {w w1 : Wd} {v : V} (r : RelN C w w1 .non v) : v = .non := by cases (show RelD C w _ _ from r); rfl
theorem SqT_of {K : PySem.W.Frag} {H : Hp} {a : Addr} {vs : List V} {B : Prop} (h : (B ∧ H a = some (.tup vs)) ∨ TupK K a vs) : SqT K H a vs := by
  rcases h with ⟨_, h⟩ | h
  · exact .inl (.inl h)
  · exact .inr h

theorem free_sub {env : Env} {σ : L2.St} {js ks : List Nat} (h : ∀ j ∈ js, j ∈ ks) (w : Wd) : Sub (free env σ js w) (free env σ ks w) :=
  ⟨rfl, rfl, rfl, fun a z => ⟨z.1, fun o => z.2 (o.mono h)⟩⟩

/-- what is wanted of a run's end -/
def okP {α : Type} (C : PC) (W : WX) (w : Wd) (σ : L2.St) (r : R α) (k : Wd → α → Store → Prop) : Prop := match r with
  | .ok d st' => ∀ w', Ext w w' → SRel C w' st' → k w' d st'
  | .exc x st' => ∀ w' cls dx, Ext w w' → SRel C w' st' → XRel C w' x cls dx → W cls dx σ w'.H
  | .stuck => False
theorem okP_mono {α : Type} {C : PC} {W : WX} {w : Wd} {σ : L2.St} {r : R α} {k k' : Wd → α → Store → Prop} (h : okP C W w σ r k) (hk : ∀ w' d st', Ext w w' → SRel C w' st' → k w' d st' → k' w' d st') : okP C W w σ r k' := by
  cases r with
  | ok d st' => exact fun w' e S => hk w' d st' e S (h w' e S)
  | exc x st' => exact h
  | stuck => exact h
theorem okP_ext {α : Type} {C : PC} {W : WX} {w w1 : Wd} {σ : L2.St} {r : R α} {k : Wd → α → Store → Prop} (h : okP C W w σ r k) (e : Ext w w1) : okP C W w1 σ r k := by
  cases r with
  | ok d st' => exact fun w' e' S => h w' (e.trans e') S
  | exc x st' => exact fun w' c dx e' S => h w' c dx (e.trans e') S
  | stuck => exact h
/-- the part that runs first: what it hands on -/
theorem okP_bind {α β : Type} {C : PC} {W : WX} {w : Wd} {σ : L2.St} {r : R α} {f : α → Store → R β} {k : Wd → β → Store → Prop} (h : okP C W w σ (r.bind f) k) :
    okP C W w σ r (fun w1 d st1 => okP C W w1 σ (f d st1) k) := by
  cases r with
  | ok d st1 => exact fun w1 e1 S1 => okP_ext (show okP C W w σ (f d st1) k from h) e1
  | exc x st1 => exact h
  | stuck => exact h

/-- the readings -/
def tE (C : PC) (W : WX) (Γ : GS) (t : T) : L2.TE := fun σ H Q => ∃ w0 w env st, w.H = H ∧ Rel C w0 w env st σ ∧
  okP C W w σ (ev Γ t env st) fun w' d _ => ∀ v, RelN C (free env σ (escE t) w') (free env σ (esc t) w') d v → Q v w'.H
def tL (C : PC) (W : WX) (Γ : GS) (ts : List T) : L2.TA := fun σ H Q => ∃ w0 w env st, w.H = H ∧ Rel C w0 w env st σ ∧
  okP C W w σ (evL Γ ts env st) fun w' ds _ => ∀ vs, RelNs C (free env σ (escEL ts) w') (free env σ (escL ts) w') ds vs → Q vs w'.H
/-- .. as a test -/
def tT (C : PC) (W : WX) (Γ : GS) (t : T) : L2.TT := fun σ H Q => ∃ w0 w env st, w.H = H ∧ Rel C w0 w env st σ ∧
  okP C W w σ (ev Γ t env st) fun w' d _ => ∃ b, tru d = some b ∧ Q b w'.H
end FY

end

section
set_option maxRecDepth 100000
/-! Fy4: expressions. -/
namespace FY
open PySem PySem.Spec PyProof.Rows L2

theorem PE_imp {X : Cx} {e : Expr} {t t' : L2.TE} (h : PE X e t) (i : ∀ σ H Q, t' σ H Q → t σ H Q) : PE X e t' := ⟨fun pins s σ H Q I q => h.run pins s σ H Q I (i σ H Q q)⟩
theorem PT_imp {X : Cx} {e : Expr} {t t' : L2.TT} (h : PT X e t) (i : ∀ σ H Q, t' σ H Q → t σ H Q) : PT X e t' := ⟨fun pins s σ H Q I q => h.run pins s σ H Q I (i σ H Q q)⟩
theorem PW_imp {X : Cx} {e : Expr} {t t' : L2.TT} (h : PW X e t) (i : ∀ σ H Q, t' σ H Q → t σ H Q) : PW X e t' := ⟨fun wh pins s σ H Q I q => h.run wh pins s σ H Q I (i σ H Q q)⟩
theorem PA_imp {X : Cx} {e : List Expr} {t t' : L2.TA} (h : PA X e t) (i : ∀ σ H Q, t' σ H Q → t σ H Q) : PA X e t' := ⟨fun pos pins s σ H Q I q => h.run pos pins s σ H Q I (i σ H Q q)⟩

/-! ### names -/
theorem getV_some {env : Env} {i : Nat} {d : D} (h : getV env i = some d) : env[i]? = some (.val d) ∨ env[i]? = some (.own d) := by
  unfold getV at h
  split at h
  · cases h; exact .inl (by assumption)
  · cases h; exact .inr (by assumption)
  · cases h
theorem Rel.var {C : PC} {w0 w : Wd} {env : Env} {st : Store} {σ : L2.St} (R : Rel C w0 w env st σ) {i : Nat} {d : D} (h : getV env i = some d) :
    ∃ v, σ[i]? = some (some v) ∧ RelN C (free env σ [] w) (free env σ [i] w) d v := by
  rcases getV_some h with h | h
  · obtain ⟨v, h1, h2⟩ := R.slot i _ h
    obtain ⟨x, rfl, r⟩ := h2.val_some
    exact ⟨x, h1, r.toN.le to_free to_free (Sub.refl _) (free_sub (fun _ z => by simp at z) _)⟩
  · obtain ⟨v, h1, h2⟩ := R.slot i _ h
    obtain ⟨a, rfl, hb, hc, hn, hl⟩ := h2.own_ref
    refine ⟨.ref a, h1, ?_⟩
    have nb : ¬ (free env σ [i] w).B a := fun z => z.2 ⟨i, by simp, d, h, h1⟩
    cases d with
    | lst ds =>
      obtain ⟨vs, h, r⟩ := hc
      exact ⟨a, vs, rfl, nb, h, r.le to_free⟩
    | dct ks ds =>
      refine ⟨a, rfl, nb, ?_⟩
      rcases hc with ⟨kvs, h, hk, r⟩ | ⟨kvs, h, hk, r⟩
      · exact .inl ⟨kvs, h, hk, r.le to_free⟩
      · exact .inr ⟨kvs, h, hk, r.le to_free⟩
    | _ => exact hc.elim
theorem okP_liftO {α : Type} {C : PC} {W : WX} {w : Wd} {σ : L2.St} {o : Option α} {st : Store} {k : Wd → α → Store → Prop} (h : okP C W w σ (liftO o st) k) : ∃ a, o = some a ∧ ∀ w', Ext w w' → SRel C w' st → k w' a st := by
  cases o with
  | some a => exact ⟨a, rfl, h⟩
  | none => exact h.elim
section
variable {C : PC} {W : WX} {Γ : GS} {X : Cx}
theorem sim_var {i : Nat} {x : Str} {pos : Pos} (hN : X.N[i]? = some x) (hv : Vis X.env.scope x) (hd : (x == ("__debug__" : Str)) = false) (hcd : (x == ("__classdict__" : Str)) = false) : PE X (.Name x pos) (tE C W Γ (.var i)) := by
  refine PE_imp (pe_var hN hv hd hcd) fun σ H Q h => ?_
  obtain ⟨w0, w, env, st, rfl, R, h⟩ := h
  unfold ev at h
  obtain ⟨d, hd, h⟩ := okP_liftO h
  obtain ⟨v, h1, h2⟩ := R.var hd
  exact ⟨v, h1, h w (Ext.refl w) R.store v h2⟩
theorem escE_sub (t : T) : ∀ j ∈ escE t, j ∈ esc t := fun j h => by
  cases t <;> first | exact h | (simp [escE] at h)
theorem escEL_cons (a : T) (as : List T) : escEL (a :: as) = escE a ++ escEL as := by
  cases a <;> (simp only [escEL, escE])
theorem escL_cons (a : T) (as : List T) : escL (a :: as) = esc a ++ escL as := by simp only [escL]
theorem escEL_sub : ∀ (ts : List T), ∀ j ∈ escEL ts, j ∈ escL ts
  | [], j, h => by simp only [escEL] at h; exact absurd h (by simp)
  | t :: ts, j, h => by
    rw [escEL_cons] at h
    rw [escL_cons]
    rcases List.mem_append.mp h with h | h
    · exact List.mem_append_left _ (escE_sub t j h)
    · exact List.mem_append_right _ (escEL_sub ts j h)
theorem RelD.toNf {w : Wd} {env : Env} {σ : L2.St} {js ks : List Nat} {d : D} {v : V} (r : RelD C w d v) (h : ∀ j ∈ js, j ∈ ks) : RelN C (free env σ js w) (free env σ ks w) d v :=
  r.toN.le to_free to_free (Sub.refl _) (free_sub h _)
/-- an expression that has a plain value whatever the world is -/
theorem sim_const {t : T} {e : Expr} {v : V} {d : D} (h : PE X e (tC v)) (he : ∀ env st, ev Γ t env st = .ok d st) (r : ∀ w, RelD C w d v) : PE X e (tE C W Γ t) := by
  refine PE_imp h fun σ H Q h => ?_
  obtain ⟨w0, w, env, st, rfl, R, h⟩ := h
  rw [he] at h
  exact h w (Ext.refl w) R.store v ((r w).toNf (escE_sub t))

/-! ### argument lists -/
theorem tL_cons {t : T} {ts : List T} {σ : L2.St} {H : Hp} {Q : List V → Hp → Prop} (h : tL C W Γ (t :: ts) σ H Q) : tCons (tE C W Γ t) (tL C W Γ ts) σ H Q := by
  obtain ⟨w0, w, env, st, rfl, R, h⟩ := h
  simp only [evL] at h
  refine ⟨w0, w, env, st, rfl, R, okP_mono (okP_bind h) fun w1 d st1 e1 S1 h1 v r => ⟨w0, w1, env, st1, rfl, R.step e1 S1, okP_mono (okP_bind h1) fun w2 ds st2 e2 S2 h2 vs rs => ?_⟩⟩
  refine h2 w2 (Ext.refl _) S2 (v :: vs) (.cons ?_ ?_)
  · rw [escEL_cons, escL_cons]
    exact r.le ((R.step e1 S1).free_le e2 fun j q => List.mem_append_left _ q) ((R.step e1 S1).free_le e2 fun j q => List.mem_append_left _ q) (free_sub (escE_sub t) _)
      (free_sub (fun j q => by
        rcases List.mem_append.mp q with q | q
        · exact List.mem_append_left _ (escE_sub t j q)
        · exact List.mem_append_right _ (escEL_sub ts j q)) _)
  · rw [escEL_cons, escL_cons]
    have R2 := (R.step e1 S1).step e2 S2
    exact rs.le (R2.free_le (Ext.refl _) fun j q => List.mem_append_right _ q) (R2.free_le (Ext.refl _) fun j q => List.mem_append_right _ q) (free_sub (escEL_sub ts) _)
      (free_sub (fun j q => by
        rcases List.mem_append.mp q with q | q
        · exact List.mem_append_left _ (escE_sub t j q)
        · exact List.mem_append_right _ (escEL_sub ts j q)) _)
theorem tL_nil {σ : L2.St} {H : Hp} {Q : List V → Hp → Prop} (h : tL C W Γ [] σ H Q) : tNil σ H Q := by
  obtain ⟨w0, w, env, st, rfl, R, h⟩ := h
  simp only [evL] at h
  exact h w (Ext.refl w) R.store [] .nil
/-- the arguments -/
theorem sim_nil : PA X [] (tL C W Γ []) := PA_imp pa_nil fun σ H Q h => tL_nil h
theorem sim_cons {e : Expr} {es : List Expr} {t : T} {ts : List T} (ha : PE X e (tE C W Γ t)) (hr : PA X es (tL C W Γ ts)) (hs : starEach (e :: es) X.env = (false, eval e X.env) :: starEach es X.env) : PA X (e :: es) (tL C W Γ (t :: ts)) :=
  PA_imp (pa_cons ha hr hs) fun σ H Q h => tL_cons h
theorem tL_one {a : T} {σ : L2.St} {H : Hp} {K : V → Hp → Prop} (h : tL C W Γ [a] σ H (fun vs H1 => ∀ x, vs = [x] → K x H1)) : tE C W Γ a σ H K := by
  have h := tL_cons h
  refine (show ∃ w0 w env st, _ from ?_)
  obtain ⟨w0, w, env, st, rfl, R, h⟩ := (show tE C W Γ a σ H _ from h)
  refine ⟨w0, w, env, st, rfl, R, okP_mono h fun w1 d st1 e1 S1 h1 v r => ?_⟩
  exact tL_nil (h1 v r) v rfl
theorem tL_two {a b : T} {σ : L2.St} {H : Hp} {K : V → V → Hp → Prop} (h : tL C W Γ [a, b] σ H (fun vs H1 => ∀ x y, vs = [x, y] → K x y H1)) : tE C W Γ a σ H (fun x H1 => tE C W Γ b σ H1 (fun y H2 => K x y H2)) := by
  have h := tL_cons h
  obtain ⟨w0, w, env, st, rfl, R, h⟩ := (show tE C W Γ a σ H _ from h)
  refine ⟨w0, w, env, st, rfl, R, okP_mono h fun w1 d st1 e1 S1 h1 v r => ?_⟩
  refine tL_one ?_
  obtain ⟨w0, w, env, st, e, R, h⟩ := h1 v r
  exact ⟨w0, w, env, st, e, R, okP_mono h fun w2 ds st2 e2 S2 h2 vs rs x ex => h2 vs rs v x (by rw [ex])⟩
theorem tL_three {a b c : T} {σ : L2.St} {H : Hp} {K : V → V → V → Hp → Prop} (h : tL C W Γ [a, b, c] σ H (fun vs H1 => ∀ x y z, vs = [x, y, z] → K x y z H1)) :
    tE C W Γ a σ H (fun x H1 => tE C W Γ b σ H1 (fun y H2 => tE C W Γ c σ H2 (fun z H3 => K x y z H3))) := by
  have h := tL_cons h
  obtain ⟨w0, w, env, st, rfl, R, h⟩ := (show tE C W Γ a σ H _ from h)
  refine ⟨w0, w, env, st, rfl, R, okP_mono h fun w1 d st1 e1 S1 h1 v r => ?_⟩
  refine tL_two ?_
  obtain ⟨w0, w, env, st, e, R, h⟩ := h1 v r
  exact ⟨w0, w, env, st, e, R, okP_mono h fun w2 ds st2 e2 S2 h2 vs rs x y ex => h2 vs rs v x y (by rw [ex])⟩

/-! ### operations by values -/
/-- the heap has grown -/
theorem Ext.growN {w : Wd} {H' : Hp} (h : ∀ b o, w.H b = some o → (∀ ps, o ≠ .tbl ps) → H' b = some o) : Ext w { w with H := H' } :=
  ⟨fun a o q _ n => h a o q n, fun a q => same_trk h q, fun _ q => q, fun _ q => .inl q, Nat.le_refl _, fun _ _ => rfl, fun _ a b => absurd (Nat.lt_of_lt_of_le b a) (Nat.lt_irrefl _)⟩
theorem Le.growN {w : Wd} {H' : Hp} (h : ∀ b o, w.H b = some o → (∀ ps, o ≠ .tbl ps) → H' b = some o) : Le w { w with H := H' } := ⟨fun a o q _ n => h a o q n, fun _ q => .inl q, Nat.le_refl _, fun _ _ => rfl, fun _ q => same_trk h q⟩
theorem SRel.growN {w : Wd} {st : Store} {H' : Hp} (S : SRel C w st) (h : ∀ b o, w.H b = some o → (∀ ps, o ≠ .tbl ps) → H' b = some o) (t : LamX.Tabs C.T H') : SRel C { w with H := H' } st where
  len := S.len
  cell := fun l d e => ⟨(S.cell l d e).1, (S.cell l d e).2.le (Le.growN h) fun o q n => h _ _ q n⟩
  inj := S.inj
  trk := fun a q => by
    have z := S.trk a q
    cases e : w.H a with
    | none => rw [e] at z; exact z.elim
    | some o =>
      rw [e] at z
      show Mut (H' a)
      rw [h a o e fun ps n => by rw [n] at z; exact z]
      exact z
  tabs := t
theorem Ext.grow {w : Wd} {H' : Hp} (h : Same w.H H') : Ext w { w with H := H' } := Ext.growN fun b o e _ => h b o e
theorem Le.grow {w : Wd} {H' : Hp} (h : Same w.H H') : Le w { w with H := H' } := Le.growN fun b o e _ => h b o e
theorem SRel.grow {w : Wd} {st : Store} {H' : Hp} (S : SRel C w st) (h : Same w.H H') : SRel C { w with H := H' } st where
  len := S.len
  cell := fun l d e => ⟨(S.cell l d e).1, (S.cell l d e).2.le (Le.grow h) fun o q _ => h _ _ q⟩
  inj := S.inj
  trk := fun a q => by
    have z := S.trk a q
    cases e : w.H a with
    | none => rw [e] at z; exact z.elim
    | some o =>
      rw [e] at z
      show Mut (H' a)
      rw [h a o e]
      exact z
  tabs := S.tabs.ext h
def Sound (C : PC) (o : Op) (rd : List V → Hp → VK → Prop) : Prop := ∀ (w w1 : Wd) (ds : List D) (vs : List V) (d : D) (Q : VK), Sub w w1 → (∀ a, w.B a → Mut (w.H a)) → RelNs C w w1 ds vs → opSem o ds = some d →
  (∀ H' v, Same w.H H' → RelD C { w with H := H' } d v → Q v H') → rd vs w.H Q
theorem free_trk {env : Env} {σ : L2.St} {js : List Nat} {w : Wd} {st : Store} (S : SRel C w st) : ∀ a, (free env σ js w).B a → Mut ((free env σ js w).H a) := fun a h => S.trk a h.1
theorem tE_op {o : Op} {as : List T} {rd : List V → Hp → VK → Prop} (hs : Sound C o rd) {σ : L2.St} {H : Hp} {Q : VK} (h : tE C W Γ (.op o as) σ H Q) : tL C W Γ as σ H (fun vs H1 => rd vs H1 Q) := by
  obtain ⟨w0, w, env, st, rfl, R, h⟩ := h
  simp only [ev] at h
  refine ⟨w0, w, env, st, rfl, R, okP_mono (okP_bind h) fun w1 ds st1 e1 S1 h1 vs rs => ?_⟩
  obtain ⟨d, hd, h1⟩ := okP_liftO h1
  have e0 : escE (.op o as) = esc (.op o as) := rfl
  cases ho : opEsc o with
  | elem =>
    have e2 : esc (.op o as) = escEL as := by simp only [esc, ho]
    refine hs (free env σ (escEL as) w1) (free env σ (escL as) w1) ds vs d Q (free_sub (escEL_sub as) w1) (free_trk S1) rs hd fun H' v sm r => ?_
    refine h1 { w1 with H := H' } (Ext.grow sm) (S1.grow sm) v ?_
    rw [e0, e2]
    exact RelD.toN (w := free env σ (escEL as) { w1 with H := H' }) r
  | all =>
    have e2 : esc (.op o as) = escL as := by simp only [esc, ho]
    refine hs (free env σ (escL as) w1) (free env σ (escL as) w1) ds vs d Q (Sub.refl _) (free_trk S1) (rs.toDs (free_sub (escEL_sub as) w1)).toNs hd fun H' v sm r => ?_
    refine h1 { w1 with H := H' } (Ext.grow sm) (S1.grow sm) v ?_
    rw [e0, e2]
    exact RelD.toN (w := free env σ (escL as) { w1 with H := H' }) r
/-- a op b -/
theorem sim_bin {op : Operator} {r : R2} {o : Op} {a b : Expr} {ta tb : T} {pos : Pos} (ho : OpR X (binaryOp op) r) (hs : Sound C o (fun vs H Q => ∃ x y, vs = [x, y] ∧ r x y H Q)) (ha : PE X a (tE C W Γ ta)) (hb : PE X b (tE C W Γ tb)) :
    PE X (.BinOp a op b pos) (tE C W Γ (.op o [ta, tb])) :=
  PE_imp (pe_op ho ha hb) fun σ H Q h => tL_two (K := fun x y H2 => r x y H2 Q) (by
    obtain ⟨w0, w, env, st, e, R, h⟩ := tE_op hs h
    exact ⟨w0, w, env, st, e, R, okP_mono h fun w2 ds st2 e2 S2 h2 vs rs x y ex => by
      obtain ⟨x', y', e', q⟩ := h2 vs rs
      rw [ex] at e'; cases e'; exact q⟩)
theorem sim_cmp {op : CmpOp} {r : R2} {o : Op} {a b : Expr} {ta tb : T} {pos : Pos} (ho : OpR X (compareOp op) r) (hs : Sound C o (fun vs H Q => ∃ x y, vs = [x, y] ∧ r x y H Q)) (ha : PE X a (tE C W Γ ta)) (hb : PE X b (tE C W Γ tb)) (hm : behindInMarks op b = false) :
    PE X (.Compare a [op] [b] pos) (tE C W Γ (.op o [ta, tb])) :=
  PE_imp (pe_cmpR ho ha hb hm) fun σ H Q h => tL_two (K := fun x y H2 => r x y H2 Q) (by
    obtain ⟨w0, w, env, st, e, R, h⟩ := tE_op hs h
    exact ⟨w0, w, env, st, e, R, okP_mono h fun w2 ds st2 e2 S2 h2 vs rs x y ex => by
      obtain ⟨x', y', e', q⟩ := h2 vs rs
      rw [ex] at e'; cases e'; exact q⟩)
end
end FY

end

section
set_option maxRecDepth 100000
/-! Fy5: the operations' soundness. -/
namespace FY
open PySem PySem.Spec PyProof.Rows L2
section
variable {C : PC} {w w1 : Wd}
theorem same_upd {H : Hp} {p : Addr} {o : HO} (h : H p = none) : Same H (upd H p o) := fun b x e => by
  rw [upd_ne (ne_of_none e h)]
  exact e
theorem tup_ban (trk : ∀ a, w.B a → Mut (w.H a)) {a : Addr} {vs : List V} (h : w.H a = some (.tup vs)) : ¬ w.B a := fun z => by
  have q := trk a z
  rw [h] at q; exact q
theorem none_ban (trk : ∀ a, w.B a → Mut (w.H a)) {a : Addr} (h : w.H a = none) : ¬ w.B a := fun z => by
  have q := trk a z
  rw [h] at q; exact q
theorem szL_eq : szL = sizeLine := by rw [sizeLine_eq]; rfl
/-- a new list -/
theorem new_lst (trk : ∀ a, w.B a → Mut (w.H a)) {ds : List D} {vs : List V} (r : RelDs C w ds vs) {p : Addr} (hp : w.H p = none) : RelD C { w with H := upd w.H p (.lst vs) } (.lst ds) (.ref p) :=
  .lst (none_ban trk hp) upd_same (r.le (Le.grow (same_upd hp)))
theorem new_tup (trk : ∀ a, w.B a → Mut (w.H a)) {ds : List D} {vs : List V} (r : RelDs C w ds vs) {p : Addr} (hp : w.H p = none) : RelD C { w with H := upd w.H p (.tup vs) } (.tup ds) (.ref p) :=
  .tup (none_ban trk hp) upd_same (r.le (Le.grow (same_upd hp)))
theorem RelN.tupD (sb : Sub w w1) (trk : ∀ a, w.B a → Mut (w.H a)) {ds : List D} {v : V} (r : RelN C w w1 (.tup ds) v) : RelD C w (.tup ds) v := by
  obtain ⟨a, vs, rfl, h, r⟩ := r
  rcases h with ⟨_, h⟩ | h
  · exact .tup (tup_ban trk h) h r
  · exact .tupK h r
/-- no new object -/
theorem old {P : Prop} {d : D} {v : V} {Q : VK} (k : ∀ H' v, Same w.H H' → RelD C { w with H := H' } d v → Q v H') (r : RelD C w d v) : Q v w.H := k w.H v (Same.refl _) r

def S2 (r : R2) : List V → Hp → VK → Prop := fun vs H Q => ∃ x y, vs = [x, y] ∧ r x y H Q
def S1 (r : V → Hp → VK → Prop) : List V → Hp → VK → Prop := fun vs H Q => ∃ x, vs = [x] ∧ r x H Q

def rAddU (K : PySem.W.Frag) : R2 := fun x y H Q => rI0 (fun i j => .int (i + j)) x y H Q ∨ (∃ i j, x = .str i ∧ y = .str j ∧ i.length + j.length ≤ sizeLine ∧ Q (.str (i ++ j)) H) ∨ rCatA K x y H Q ∨ rCat x y H Q
theorem op_addU {X : Cx} : OpR X (binaryOp .Add) (rAddU X.K) := op_add.or (op_add_str.or (op_catA.or op_cat))
theorem sound_add : Sound C .add (S2 (rAddU C.K)) := by
  intro w w1 ds vs d Q sb trk rs he k
  obtain ⟨a, b, rfl, h⟩ := two_some (show two addD ds = some d from he)
  obtain ⟨x, y, rfl, r1, r2⟩ := rs.two
  refine ⟨x, y, rfl, ?_⟩
  unfold addD at h
  split at h
  · cases h
    exact .inl ⟨_, _, r1.intE, r2.intE, k w.H _ (Same.refl _) (.int _)⟩
  · split at h
    · rename_i hz
      cases h
      rw [szL_eq] at hz
      exact .inr (.inl ⟨_, _, r1.strE, r2.strE, hz, k w.H _ (Same.refl _) (.str _)⟩)
    · cases h
  · split at h
    · rename_i xs ys hz
      cases h
      have q1 := r1.tupD sb trk
      have q2 := r2.tupD sb trk
      obtain ⟨a, us, rfl, h1, t1⟩ := r1
      obtain ⟨b, zs, rfl, h2, t2⟩ := r2
      refine .inr (.inr (.inl ⟨a, b, us, zs, rfl, rfl, SqT_of h1, SqT_of h2, ?_, fun e => ?_, fun _ e => ?_, fun _ _ p hp => ?_⟩))
      · rw [← t1.length, ← t2.length, ← szL_eq]; exact hz
      · subst e
        cases t1
        exact k w.H _ (Same.refl _) q2
      · subst e
        cases t2
        rw [List.append_nil] at k
        exact k w.H _ (Same.refl _) q1
      · exact k _ _ (same_upd hp) (new_tup trk (t1.append t2) hp)
    · cases h
  · split at h
    · rename_i xs ys hz
      cases h
      obtain ⟨a, us, rfl, _, h1, t1⟩ := r1
      obtain ⟨b, zs, rfl, _, h2, t2⟩ := r2
      refine .inr (.inr (.inr ⟨a, b, us, zs, rfl, rfl, h1, h2, ?_, fun p hp => ?_⟩))
      · rw [← t1.length, ← t2.length, ← szL_eq]; exact hz
      · exact k _ _ (same_upd hp) (new_lst trk (t1.append t2) hp)
    · cases h
  · cases h
theorem sound_sub : Sound C .sub (S2 (rI0 fun i j => .int (i - j))) := by
  intro w w1 ds vs d Q sb trk rs he k
  obtain ⟨a, b, rfl, h⟩ := two_some (show two subD ds = some d from he)
  obtain ⟨x, y, rfl, r1, r2⟩ := rs.two
  refine ⟨x, y, rfl, ?_⟩
  unfold subD at h
  split at h
  · cases h
    exact ⟨_, _, r1.intE, r2.intE, k w.H _ (Same.refl _) (.int _)⟩
  · cases h
def rMulU (K : PySem.W.Frag) : R2 := fun x y H Q => rI CMul (fun i j => .int (i * j)) x y H Q ∨ rI CMulW (fun i j => .int (i * j)) x y H Q ∨ rRep x y H Q ∨ rRepT K x y H Q
theorem op_mulU {X : Cx} : OpR X (binaryOp .Mult) (rMulU X.K) := op_mul.or (op_mulW.or (op_rep.or op_repT))
theorem sound_mul : Sound C .mul (S2 (rMulU C.K)) := by
  intro w w1 ds vs d Q sb trk rs he k
  obtain ⟨a, b, rfl, h⟩ := two_some (show two mulD ds = some d from he)
  obtain ⟨x, y, rfl, r1, r2⟩ := rs.two
  refine ⟨x, y, rfl, ?_⟩
  unfold mulD at h
  split at h
  · split at h
    · rename_i i j hm
      cases h
      unfold mulB at hm
      simp only [Bool.or_eq_true, decide_eq_true_eq] at hm
      have q := k w.H _ (Same.refl _) (.int _)
      rcases hm with (hm | hm) | hm
      · exact .inl ⟨_, _, r1.intE, r2.intE, .inl (by omega), q⟩
      · exact .inl ⟨_, _, r1.intE, r2.intE, .inr (by omega), q⟩
      · exact .inr (.inl ⟨_, _, r1.intE, r2.intE, hm, q⟩)
    · cases h
  · split at h
    · rename_i xs kk hm
      cases h
      obtain ⟨a, us, rfl, _, h1, t1⟩ := r1
      refine .inr (.inr (.inl ⟨a, kk, us, rfl, r2.intE, h1, hm.1, hm.2.1, ?_, fun p hp => ?_⟩))
      · rw [← t1.length, ← szL_eq]; exact hm.2.2
      · exact k _ _ (same_upd hp) (new_lst trk (t1.flat _) hp)
    · cases h
  · split at h
    · rename_i xs kk hm
      cases h
      obtain ⟨a, us, rfl, h1, t1⟩ := r1
      refine .inr (.inr (.inr ⟨a, kk, us, rfl, r2.intE, SqT_of h1, ?_, hm.2.1, hm.2.2.1, ?_, fun p hp => ?_⟩))
      · intro e; subst e; cases t1; exact hm.1 rfl
      · rw [← t1.length]; exact hm.2.2.2
      · exact k _ _ (same_upd hp) (new_tup trk (t1.flat _) hp)
    · cases h
  · cases h
def rDivU : R2 := fun x y H Q => rI CDivN (fun i j => .int (i.fdiv j)) x y H Q ∨ rI CDivW (fun i j => .int (i / j)) x y H Q
theorem op_divU {X : Cx} : OpR X (binaryOp .FloorDiv) rDivU := op_fdivN.or op_fdivW
theorem sound_fdiv : Sound C .fdiv (S2 rDivU) := by
  intro w w1 ds vs d Q sb trk rs he k
  obtain ⟨a, b, rfl, h⟩ := two_some (show two fdivD ds = some d from he)
  obtain ⟨x, y, rfl, r1, r2⟩ := rs.two
  refine ⟨x, y, rfl, ?_⟩
  unfold fdivD at h
  split at h
  · split at h
    · rename_i i j hm
      cases h
      unfold divB at hm
      simp only [Bool.or_eq_true, Bool.and_eq_true, decide_eq_true_eq] at hm
      have q := k w.H _ (Same.refl _) (.int _)
      rcases hm.2 with hm2 | hm2
      · exact .inl ⟨_, _, r1.intE, r2.intE, ⟨by omega, hm2⟩, q⟩
      · refine .inr ⟨_, _, r1.intE, r2.intE, hm2, ?_⟩
        rw [Int.fdiv_eq_ediv_of_nonneg i (by omega)] at q
        exact q
    · cases h
  · cases h
theorem sound_mod : Sound C .mod (S2 (rI (fun _ j => j ≠ 0) fun i j => .int (i.fmod j))) := by
  intro w w1 ds vs d Q sb trk rs he k
  obtain ⟨a, b, rfl, h⟩ := two_some (show two modD ds = some d from he)
  obtain ⟨x, y, rfl, r1, r2⟩ := rs.two
  refine ⟨x, y, rfl, ?_⟩
  unfold modD at h
  split at h
  · split at h
    · cases h
    · rename_i hm
      cases h
      exact ⟨_, _, r1.intE, r2.intE, hm, k w.H _ (Same.refl _) (.int _)⟩
  · cases h
theorem sound_pow : Sound C .pow (S2 (rI CPow fun i j => .int (i ^ j.toNat))) := by
  intro w w1 ds vs d Q sb trk rs he k
  obtain ⟨a, b, rfl, h⟩ := two_some (show two powD ds = some d from he)
  obtain ⟨x, y, rfl, r1, r2⟩ := rs.two
  refine ⟨x, y, rfl, ?_⟩
  unfold powD at h
  split at h
  · split at h
    · rename_i hm
      cases h
      exact ⟨_, _, r1.intE, r2.intE, hm, k w.H _ (Same.refl _) (.int _)⟩
    · cases h
  · cases h
theorem sound_neg : Sound C .neg (S1 (rU fun i => .int (-i))) := by
  intro w w1 ds vs d Q sb trk rs he k
  obtain ⟨a, rfl, h⟩ := one_some (show one negD ds = some d from he)
  obtain ⟨x, rfl, r1⟩ := rs.one
  refine ⟨x, rfl, ?_⟩
  unfold negD at h
  split at h
  · cases h
    exact ⟨_, r1.intE, k w.H _ (Same.refl _) (.int _)⟩
  · cases h
theorem tru_of {w w1 : Wd} {d : D} {v : V} {b : Bool} (r : RelN C w w1 d v) (h : tru d = some b) : TruV C.K v w.H b := by
  unfold tru at h
  split at h
  · cases h; rw [r.nonE]; rfl
  · cases h; rw [r.blE]; rfl
  · cases h; rw [r.intE]; rfl
  · split at h
    · rename_i hz
      cases h; rw [r.strE]; exact ⟨by rw [← szL_eq]; exact hz, rfl⟩
    · cases h
  · cases h
    obtain ⟨a, vs, rfl, h, t⟩ := r
    refine .inr (.inl ⟨vs, SqT_of h, ?_⟩)
    cases t <;> rfl
  · cases h
    obtain ⟨a, vs, rfl, _, h, t⟩ := r
    refine .inl ⟨vs, .inl (.inl h), ?_⟩
    cases t <;> rfl
  · cases h
theorem sound_not : Sound C .not_ (S1 (fun x H Q => ∃ k, TruV C.K x H k ∧ Q (.bl (!k)) H)) := by
  intro w w1 ds vs d Q sb trk rs he k
  obtain ⟨a, rfl, h⟩ := one_some (show one notD ds = some d from he)
  obtain ⟨x, rfl, r1⟩ := rs.one
  refine ⟨x, rfl, ?_⟩
  unfold notD at h
  obtain ⟨b, hb, rfl⟩ := Option.map_eq_some_iff.mp h
  exact ⟨b, tru_of r1 hb, k w.H _ (Same.refl _) (.bl _)⟩
theorem sound_ord {o : Op} {p : Int → Int → Bool} (ho : ∀ ds, opSem o ds = two (ordD p) ds) : Sound C o (S2 (rI0 fun i j => .bl (p i j))) := by
  intro w w1 ds vs d Q sb trk rs he k
  rw [ho] at he
  obtain ⟨a, b, rfl, h⟩ := two_some he
  obtain ⟨x, y, rfl, r1, r2⟩ := rs.two
  refine ⟨x, y, rfl, ?_⟩
  unfold ordD at h
  split at h
  · cases h
    exact ⟨_, _, r1.intE, r2.intE, k w.H _ (Same.refl _) (.bl _)⟩
  · cases h
theorem V_ref_ne {a : Addr} : decide (V.ref a = V.non) = false := by simp
theorem isNone_of {w w1 : Wd} {d : D} {v : V} {neg : Bool} {e : D} (r : RelN C w w1 d v) (h : isNone neg d = some e) : e = .bl (if neg then !decide (v = .non) else decide (v = .non)) := by
  unfold isNone at h
  split at h
  · cases h
  · cases h; rw [r.nonE]; cases neg <;> rfl
  · rename_i h1 h2
    cases h
    have : v ≠ .non := by
      rintro rfl
      cases d with
      | non => exact h2 rfl
      | tup ds => obtain ⟨a, vs, z, _⟩ := r; cases z
      | lst ds => obtain ⟨a, vs, z, _⟩ := r; cases z
      | dct ks ds => obtain ⟨a, z, _⟩ := r; cases z
      | _ => cases (show RelD C w _ _ from r)
    rw [decide_eq_false this]
    cases neg <;> rfl
theorem sound_isn : Sound C .isn (S1 (fun x H Q => Q (.bl (decide (x = .non))) H)) := by
  intro w w1 ds vs d Q sb trk rs he k
  obtain ⟨a, rfl, h⟩ := one_some (show one (isNone false) ds = some d from he)
  obtain ⟨x, rfl, r1⟩ := rs.one
  refine ⟨x, rfl, ?_⟩
  have e := isNone_of r1 h
  subst e
  exact k w.H _ (Same.refl _) (.bl _)
theorem sound_notn : Sound C .notn (S1 (fun x H Q => Q (.bl (!decide (x = .non))) H)) := by
  intro w w1 ds vs d Q sb trk rs he k
  obtain ⟨a, rfl, h⟩ := one_some (show one (isNone true) ds = some d from he)
  obtain ⟨x, rfl, r1⟩ := rs.one
  refine ⟨x, rfl, ?_⟩
  have e := isNone_of r1 h
  subst e
  exact k w.H _ (Same.refl _) (.bl _)
theorem sound_isb {neg : Bool} {o : Op} (ho : ∀ ds, opSem o ds = two (isBl neg) ds) : Sound C o (S2 (fun x y H Q => ∃ a b : Bool, x = .bl a ∧ y = .bl b ∧ Q (.bl (if neg then !decide (a = b) else decide (a = b))) H)) := by
  intro w w1 ds vs d Q sb trk rs he k
  rw [ho] at he
  obtain ⟨a, b, rfl, h⟩ := two_some he
  obtain ⟨x, y, rfl, r1, r2⟩ := rs.two
  refine ⟨x, y, rfl, ?_⟩
  unfold isBl at h
  split at h
  · rename_i a b
    cases h
    refine ⟨_, _, r1.blE, r2.blE, ?_⟩
    have q := k w.H _ (Same.refl _) (.bl _)
    rw [Bool.beq_eq_decide_eq] at q
    exact q
  · cases h
end
end FY

end

section
set_option maxRecDepth 100000
/-! Fy6: data at any depth: ==, in, count, index. -/
namespace FY
open PySem PySem.Spec PyProof.Rows L2
mutual
def toP : D → PyData
  | .non => .none
  | .bl b => .bool b
  | .int i => .int i
  | .str x => .str x
  | .tup ds => .tuple (toPs ds)
  | .lst ds => .list (toPs ds)
  | _ => .none
def toPs : List D → List PyData
  | [] => []
  | d :: ds => toP d :: toPs ds
end
mutual
theorem data_lay : ∀ (d : D) (n : Nat), isDataN d n = true → (toP d).canLay0 = true ∧ (toP d).depth ≤ n
  | .non, _, _ => by simp [toP, PyData.canLay0, PyData.depth]
  | .bl b, _, _ => by simp [toP, PyData.canLay0, PyData.depth]
  | .int i, _, _ => by simp [toP, PyData.canLay0, PyData.depth]
  | .str x, _, h => by
    simp only [isDataN] at h
    simp [toP, PyData.canLay0, PyData.depth, h]
  | .tup ds, 0, h => by simp [isDataN] at h
  | .tup ds, n + 1, h => by
    simp only [isDataN] at h
    have q := datas_lay ds n h
    simp only [toP, PyData.canLay0, PyData.depth]
    exact ⟨q.1, by omega⟩
  | .lst ds, 0, h => by simp [isDataN] at h
  | .lst ds, n + 1, h => by
    simp only [isDataN] at h
    have q := datas_lay ds n h
    simp only [toP, PyData.canLay0, PyData.depth]
    exact ⟨q.1, by omega⟩
  | .dct _ _, n, h => by cases n <;> simp [isDataN] at h
  | .ref _, n, h => by cases n <;> simp [isDataN] at h
  | .glo _, n, h => by cases n <;> simp [isDataN] at h
  | .ty _, n, h => by cases n <;> simp [isDataN] at h
  | .scr _, n, h => by cases n <;> simp [isDataN] at h
theorem datas_lay : ∀ (ds : List D) (n : Nat), areDataN ds n = true → PyData.canLayAll0 (toPs ds) = true ∧ PyData.depthAll (toPs ds) ≤ n
  | [], _, _ => by simp [toPs, PyData.canLayAll0, PyData.depthAll]
  | d :: ds, n, h => by
    simp only [areDataN, Bool.and_eq_true] at h
    have q1 := data_lay d n h.1
    have q2 := datas_lay ds n h.2
    simp only [toPs, PyData.canLayAll0, PyData.depthAll, Bool.and_eq_true]
    exact ⟨⟨q1.1, q2.1⟩, by omega⟩
end
theorem data_shaped {d : D} (h : isData d = true) : SeqAt.shaped (toP d) = true := by
  have q := data_lay d 40 h
  unfold SeqAt.shaped
  rw [Bool.and_eq_true]
  exact ⟨q.1, decide_eq_true (by omega)⟩
theorem toPs_map : ∀ ds : List D, toPs ds = ds.map toP
  | [] => rfl
  | d :: ds => by simp only [toPs, List.map_cons, toPs_map ds]
mutual
theorem pyEq_eqv : ∀ (d e : D) (n m : Nat), isDataN d n = true → isDataN e m = true → pyEq d e = PyData.eqv (toP d) (toP e)
  | .non, e, n, m, _, h => by cases e <;> first | (simp [pyEq, toP, PyData.eqv]; done) | (cases m <;> simp [isDataN] at h)
  | .bl b, e, n, m, _, h => by cases e <;> first | (simp [pyEq, toP, PyData.eqv]; done) | (cases m <;> simp [isDataN] at h)
  | .int b, e, n, m, _, h => by cases e <;> first | (simp [pyEq, toP, PyData.eqv]; done) | (cases m <;> simp [isDataN] at h)
  | .str b, e, n, m, _, h => by
    cases e <;> first | (simp only [pyEq, toP, PyData.eqv, strEq]; exact toList_beq _ _) | (simp [pyEq, toP, PyData.eqv]; done) | (cases m <;> simp [isDataN] at h)
  | .tup ds, e, n, m, h1, h => by
    cases n with
    | zero => simp [isDataN] at h1
    | succ n =>
      cases e with
      | tup es =>
        cases m with
        | zero => simp [isDataN] at h
        | succ m =>
          simp only [isDataN] at h h1
          simp only [pyEq, toP, PyData.eqv]
          exact pyEqs_eqv ds es n m h1 h
      | _ => first | (simp [pyEq, toP, PyData.eqv]; done) | (cases m <;> simp [isDataN] at h)
  | .lst ds, e, n, m, h1, h => by
    cases n with
    | zero => simp [isDataN] at h1
    | succ n =>
      cases e with
      | lst es =>
        cases m with
        | zero => simp [isDataN] at h
        | succ m =>
          simp only [isDataN] at h h1
          simp only [pyEq, toP, PyData.eqv]
          exact pyEqs_eqv ds es n m h1 h
      | _ => first | (simp [pyEq, toP, PyData.eqv]; done) | (cases m <;> simp [isDataN] at h)
  | .dct _ _, _, n, _, h, _ => by cases n <;> simp [isDataN] at h
  | .ref _, _, n, _, h, _ => by cases n <;> simp [isDataN] at h
  | .glo _, _, n, _, h, _ => by cases n <;> simp [isDataN] at h
  | .ty _, _, n, _, h, _ => by cases n <;> simp [isDataN] at h
  | .scr _, _, n, _, h, _ => by cases n <;> simp [isDataN] at h
theorem pyEqs_eqv : ∀ (ds es : List D) (n m : Nat), areDataN ds n = true → areDataN es m = true → pyEqs ds es = PyData.eqvAll (toPs ds) (toPs es)
  | [], [], _, _, _, _ => by simp [pyEqs, toPs, PyData.eqvAll]
  | [], _ :: _, _, _, _, _ => by simp [pyEqs, toPs, PyData.eqvAll]
  | _ :: _, [], _, _, _, _ => by simp [pyEqs, toPs, PyData.eqvAll]
  | d :: ds, e :: es, n, m, h1, h => by
    simp only [areDataN, Bool.and_eq_true] at h h1
    simp only [pyEqs, toPs, PyData.eqvAll]
    rw [pyEq_eqv d e n m h1.1 h.1, pyEqs_eqv ds es n m h1.2 h.2]
end
section
variable {C : PC} {w w1 : Wd}
mutual
theorem RelD.dp : ∀ (d : D) (n : Nat) (v : V), RelD C w d v → isDataN d n = true → Dp C.K w.H v (toP d)
  | .non, _, _, r, _ => by cases r; simp only [toP]; exact .non
  | .bl b, _, _, r, _ => by cases r; simp only [toP]; exact .bl b
  | .int b, _, _, r, _ => by cases r; simp only [toP]; exact .int b
  | .str b, _, _, r, _ => by cases r; simp only [toP]; exact .str b
  | .tup ds, 0, _, _, h => by simp [isDataN] at h
  | .tup ds, n + 1, _, r, h => by
    simp only [isDataN] at h
    simp only [toP]
    cases r with
    | tup hb q r => exact .tup (.inl (.inl q)) (RelDs.dp ds n _ r h)
    | tupK q r => exact .tup (.inr q) (RelDs.dp ds n _ r h)
  | .lst ds, 0, _, _, h => by simp [isDataN] at h
  | .lst ds, n + 1, _, r, h => by
    simp only [isDataN] at h
    simp only [toP]
    cases r with
    | lst hb q r => exact .lst (.inl (.inl q)) (RelDs.dp ds n _ r h)
  | .dct _ _, n, _, _, h => by cases n <;> simp [isDataN] at h
  | .ref _, n, _, _, h => by cases n <;> simp [isDataN] at h
  | .glo _, n, _, _, h => by cases n <;> simp [isDataN] at h
  | .ty _, n, _, _, h => by cases n <;> simp [isDataN] at h
  | .scr _, n, _, _, h => by cases n <;> simp [isDataN] at h
theorem RelDs.dp : ∀ (ds : List D) (n : Nat) (vs : List V), RelDs C w ds vs → areDataN ds n = true → DpAll C.K w.H vs (toPs ds)
  | [], _, _, r, _ => by cases r; simp only [toPs]; exact .nil
  | d :: ds, n, _, r, h => by
    simp only [areDataN, Bool.and_eq_true] at h
    simp only [toPs]
    cases r with
    | cons r t => exact .cons (RelD.dp d n _ r h.1) (RelDs.dp ds n _ t h.2)
end
theorem RelN.dp (sb : Sub w w1) {d : D} {v : V} (r : RelN C w w1 d v) (h : isData d = true) : Dp C.K w.H v (toP d) := by
  have q := RelD.dp d 40 v (r.toD sb) h
  rw [sb.H] at q
  exact q
theorem sound_eq {neg : Bool} {o : Op} (ho : ∀ ds, opSem o ds = two (eqD neg) ds) : Sound C o (S2 (fun x y H Q => ∃ d e, Dp C.K H x d ∧ Dp C.K H y e ∧ SeqAt.shaped d = true ∧ SeqAt.shaped e = true ∧ Q (.bl (if neg then !PyData.eqv d e else PyData.eqv d e)) H)) := by
  intro w w1 ds vs d Q sb trk rs he k
  rw [ho] at he
  obtain ⟨a, b, rfl, h⟩ := two_some he
  obtain ⟨x, y, rfl, r1, r2⟩ := rs.two
  refine ⟨x, y, rfl, ?_⟩
  unfold eqD at h
  split at h
  · rename_i hd
    simp only [Bool.and_eq_true] at hd
    cases h
    refine ⟨toP a, toP b, r1.dp sb hd.1, r2.dp sb hd.2, data_shaped hd.1, data_shaped hd.2, ?_⟩
    rw [← pyEq_eqv a b 40 40 hd.1 hd.2]
    exact k w.H _ (Same.refl _) (.bl _)
  · cases h
theorem any_eqv {d : D} (hd : isData d = true) : ∀ {es : List D} {n : Nat}, areDataN es n = true → (es.any fun e => pyEq e d) = (toPs es).any fun z => PyData.eqv z (toP d)
  | [], _, _ => rfl
  | e :: es, n, h => by
    simp only [areDataN, Bool.and_eq_true] at h
    simp only [toPs, List.any_cons]
    rw [any_eqv hd h.2, pyEq_eqv e d n 40 h.1 hd]
theorem count_eqv {d : D} (hd : isData d = true) : ∀ {es : List D} {n : Nat}, areDataN es n = true → (es.countP fun e => pyEq e d) = (toPs es).countP fun z => PyData.eqv z (toP d)
  | [], _, _ => rfl
  | e :: es, n, h => by
    simp only [areDataN, Bool.and_eq_true] at h
    simp only [toPs, List.countP_cons]
    rw [count_eqv hd h.2, pyEq_eqv e d n 40 h.1 hd]
/-- in, not in, over a list or a tuple of data -/
def rInU (K : PySem.W.Frag) (neg : Bool) : R2 := fun x y H Q => ∃ d ds, Dp K H x d ∧ (Dp K H y (.list ds) ∧ SeqAt.shaped (.list ds) = true ∨ Dp K H y (.tuple ds) ∧ SeqAt.shaped (.tuple ds) = true) ∧ SeqAt.shaped d = true ∧ Q (.bl (if neg then !ds.any fun z => PyData.eqv z d else ds.any fun z => PyData.eqv z d)) H
theorem op_inU {X : Cx} (hu : X.A.units + 65 < cLine) : OpR X (compareOp .In) (rInU X.K false) := by
  intro pins s σ H x y v u Q I rx ry h
  obtain ⟨d, ds, hd, he, sd, q⟩ := h
  obtain ⟨as, r1⟩ := Dp.reads I d x v hd rx
  rcases he with ⟨he, se⟩ | ⟨he, se⟩
  · obtain ⟨bs, r2⟩ := Dp.reads I (.list ds) y u he ry
    exact SeqAt.in_list_reads r2 r1 (SeqAt.canLay_of_shaped se) (SeqAt.canLay_of_shaped sd) (room_in_shaped sd hu) ⟨.bl _, H, I, rfl, q⟩
  · obtain ⟨bs, r2⟩ := Dp.reads I (.tuple ds) y u he ry
    exact SeqAt.in_tuple_reads r2 r1 (SeqAt.canLay_of_shaped se) (SeqAt.canLay_of_shaped sd) (room_in_shaped sd hu) ⟨.bl _, H, I, rfl, q⟩
theorem op_ninU {X : Cx} (hu : X.A.units + 65 < cLine) : OpR X (compareOp .NotIn) (rInU X.K true) := by
  intro pins s σ H x y v u Q I rx ry h
  obtain ⟨d, ds, hd, he, sd, q⟩ := h
  obtain ⟨as, r1⟩ := Dp.reads I d x v hd rx
  rcases he with ⟨he, se⟩ | ⟨he, se⟩
  · obtain ⟨bs, r2⟩ := Dp.reads I (.list ds) y u he ry
    exact SeqAt.notIn_list_reads r2 r1 (SeqAt.canLay_of_shaped se) (SeqAt.canLay_of_shaped sd) (room_in_shaped sd hu) ⟨.bl _, H, I, rfl, q⟩
  · obtain ⟨bs, r2⟩ := Dp.reads I (.tuple ds) y u he ry
    exact SeqAt.notIn_tuple_reads r2 r1 (SeqAt.canLay_of_shaped se) (SeqAt.canLay_of_shaped sd) (room_in_shaped sd hu) ⟨.bl _, H, I, rfl, q⟩
theorem sound_in {neg : Bool} {o : Op} (ho : ∀ ds, opSem o ds = two (inD neg) ds) : Sound C o (S2 (rInU C.K neg)) := by
  intro w w1 ds vs d Q sb trk rs he k
  rw [ho] at he
  obtain ⟨a, b, rfl, h⟩ := two_some he
  obtain ⟨x, y, rfl, r1, r2⟩ := rs.two
  refine ⟨x, y, rfl, ?_⟩
  unfold inD at h
  split at h
  · rename_i es
    split at h
    · rename_i hd
      simp only [Bool.and_eq_true] at hd
      cases h
      have q := r2.dp sb hd.2
      have s := data_shaped hd.2
      have al : areDataN es 39 = true := by have z := hd.2; simp only [isData, isDataN] at z; exact z
      simp only [toP] at q s
      refine ⟨toP a, toPs es, r1.dp sb hd.1, .inr ⟨q, s⟩, data_shaped hd.1, ?_⟩
      rw [← any_eqv hd.1 al]
      exact k w.H _ (Same.refl _) (.bl _)
    · cases h
  · rename_i es
    split at h
    · rename_i hd
      simp only [Bool.and_eq_true] at hd
      cases h
      have q := r2.dp sb hd.2
      have s := data_shaped hd.2
      have al : areDataN es 39 = true := by have z := hd.2; simp only [isData, isDataN] at z; exact z
      simp only [toP] at q s
      refine ⟨toP a, toPs es, r1.dp sb hd.1, .inl ⟨q, s⟩, data_shaped hd.1, ?_⟩
      rw [← any_eqv hd.1 al]
      exact k w.H _ (Same.refl _) (.bl _)
    · cases h
  · cases h

/-! ### the receiver's methods -/
theorem tyV_lst {a : Addr} {vs : List V} {H : Hp} {K : PySem.W.Frag} (h : H a = some (.lst vs)) : tyV K "list" (.ref a) H := .inl ⟨rfl, _, .inl (.inl h)⟩
end
end FY

end

section
set_option maxRecDepth 100000
/-! Fy7: calls of built-ins by values, methods. -/
namespace FY
open PySem PySem.Spec PyProof.Rows L2
section
variable {X : Cx}
def rCountD (K : PySem.W.Frag) : V → List V → Hp → VK → Prop := fun x xs H Q => ∃ (a : Addr) (y : V) (d : PyData) (ds : List PyData), x = .ref a ∧ xs = [y] ∧ Dp K H (.ref a) (.list ds) ∧ Dp K H y d ∧
  SeqAt.shaped (.list ds) = true ∧ SeqAt.shaped d = true ∧ Q (.int (ds.countP fun z => PyData.eqv z d : Nat)) H
theorem mt_countD (hu : X.A.units + 65 < cLine) : MtR X "list.count" (rCountD X.K) := by
  intro pins s σ H x xs v us Q I rx rxs h
  obtain ⟨a, y, d, ds, rfl, rfl, hl, hy, sl, sd, q⟩ := h
  cases rx
  cases rxs with
  | cons ry rt =>
    rename_i uy ut
    cases rt
    obtain ⟨bs, r1⟩ := Dp.reads I d y uy hy ry
    have hxs : PyData.canLayAll0 ds = true := SeqAt.canLay_of_shaped sl
    have hroom : X.A.units + 1 + min (PyData.depthAll ds) d.depth < cLine := room_in_shaped sd hu
    cases hl with
    | lst hs ha =>
      obtain ⟨its, rv, pl, hlen⟩ := I.list hs
      obtain ⟨as, h4⟩ := Dp.readsAll I ds _ its ha rv
      exact SeqAt.count_list_data (vs := its.toArray) pl.isList h4 r1 (PyData.plainAll_of_canLay0 _ hxs) (PyData.plain_of_canLay0 _ (SeqAt.canLay_of_shaped sd)) hroom ⟨.int _, H, I.tok _, ⟨_, rfl⟩, q⟩
end
section
variable {C : PC} {w w1 : Wd}
theorem intsOf_map : ∀ {ds : List D} {ns : List Int}, intsOf ds = some ns → ds = ns.map D.int
  | [], ns, h => by simp only [intsOf] at h; cases h; rfl
  | d :: ds, ns, h => by
    cases d <;> simp only [intsOf] at h <;> try (cases h; done)
    obtain ⟨ms, h1, rfl⟩ := Option.map_eq_some_iff.mp h
    rw [List.map_cons, ← intsOf_map h1]
theorem blsOf_map : ∀ {ds : List D} {ns : List Bool}, blsOf ds = some ns → ds = ns.map D.bl
  | [], ns, h => by simp only [blsOf] at h; cases h; rfl
  | d :: ds, ns, h => by
    cases d <;> simp only [blsOf] at h <;> try (cases h; done)
    obtain ⟨ms, h1, rfl⟩ := Option.map_eq_some_iff.mp h
    rw [List.map_cons, ← blsOf_map h1]
theorem minI_go : ∀ (r : List Int) (a m : Int), (m = a ∨ m ∈ r) → m ≤ a → (∀ y ∈ r, m ≤ y) → r.foldl (fun m x => if x < m then x else m) a = m
  | [], a, m, h, _, _ => by
    rcases h with h | h
    · exact h.symm
    · simp at h
  | x :: r, a, m, h, h1, h2 => by
    have hx := h2 x (by simp)
    rw [List.foldl_cons]
    refine minI_go r _ m ?_ (by split <;> omega) fun y hy => h2 y (by simp [hy])
    rcases h with h | h
    · left; subst h; rw [if_neg (by omega)]
    · rcases List.mem_cons.mp h with h | h
      · left; subst h
        split
        · rfl
        · omega
      · exact .inr h
theorem minI_eq {ns : List Int} {m : Int} (h : m ∈ ns) (h2 : ∀ y ∈ ns, m ≤ y) : minI ns = some m := by
  cases ns with
  | nil => simp at h
  | cons a r =>
    show some (r.foldl (fun m x => if x < m then x else m) a) = some m
    rw [minI_go r a m (by rcases List.mem_cons.mp h with h | h; exact .inl h; exact .inr h) (h2 a (by simp)) fun y hy => h2 y (by simp [hy])]
theorem maxI_go : ∀ (r : List Int) (a m : Int), (m = a ∨ m ∈ r) → a ≤ m → (∀ y ∈ r, y ≤ m) → r.foldl (fun m x => if m < x then x else m) a = m
  | [], a, m, h, _, _ => by
    rcases h with h | h
    · exact h.symm
    · simp at h
  | x :: r, a, m, h, h1, h2 => by
    have hx := h2 x (by simp)
    rw [List.foldl_cons]
    refine maxI_go r _ m ?_ (by split <;> omega) fun y hy => h2 y (by simp [hy])
    rcases h with h | h
    · left; subst h; rw [if_neg (by omega)]
    · rcases List.mem_cons.mp h with h | h
      · left; subst h
        split
        · rfl
        · omega
      · exact .inr h
theorem maxI_eq {ns : List Int} {m : Int} (h : m ∈ ns) (h2 : ∀ y ∈ ns, y ≤ m) : maxI ns = some m := by
  cases ns with
  | nil => simp at h
  | cons a r =>
    show some (r.foldl (fun m x => if m < x then x else m) a) = some m
    rw [maxI_go r a m (by rcases List.mem_cons.mp h with h | h; exact .inl h; exact .inr h) (h2 a (by simp)) fun y hy => h2 y (by simp [hy])]

theorem sound_ix : Sound C .ix (S2 (rIx C.K)) := by
  intro w w1 ds vs d Q sb trk rs he k
  obtain ⟨a, b, rfl, h⟩ := two_some (show two ixD ds = some d from he)
  obtain ⟨x, y, rfl, r1, r2⟩ := rs.two
  refine ⟨x, y, rfl, ?_⟩
  unfold ixD at h
  split at h
  · rename_i es i
    obtain ⟨p, us, rfl, hq, t⟩ := r1
    obtain ⟨j, hj, hd⟩ := Option.bind_eq_some_iff.mp h
    obtain ⟨v, hv, rv⟩ := t.get hd
    refine .inr (.inl ⟨p, us, i, v, rfl, r2.intE, SqT_of hq, ?_, k w.H _ (Same.refl _) rv⟩)
    unfold atI
    rw [← t.length, show ixN es.length i = some j from hj]
    exact hv
  · rename_i es i
    obtain ⟨p, us, rfl, _, hq, t⟩ := r1
    obtain ⟨j, hj, hd⟩ := Option.bind_eq_some_iff.mp h
    obtain ⟨v, hv, rv⟩ := t.get hd
    refine .inl ⟨p, us, i, v, rfl, r2.intE, .inl (.inl hq), ?_, k w.H _ (Same.refl _) rv⟩
    unfold atI
    rw [← t.length, show ixN es.length i = some j from hj]
    exact hv
  · cases h
def rSlU (K : PySem.W.Frag) : V → Option Int → Option Int → Hp → VK → Prop := fun x lo hi H Q => rSlL K x lo hi H Q ∨ rSlA K x lo hi H Q
theorem sl_U {X : Cx} : SlR X (rSlU X.K) := sl_list.or sl_tupA
theorem cut_rel {w : Wd} {ds : List D} {vs : List V} (r : RelDs C w ds vs) (lo hi : Option Int) : RelDs C w (cutD ds lo hi) (cutV vs lo hi) := by
  unfold cutD cutV
  rw [r.length]
  exact (r.drop _).take _
theorem sound_sl {w w1 : Wd} {lo hi : Option Int} {a d : D} {x : V} {Q : VK} (sb : Sub w w1) (trk : ∀ a, w.B a → Mut (w.H a)) (r : RelN C w w1 a x) (h : slD lo hi a = some d) (k : ∀ H' v, Same w.H H' → RelD C { w with H := H' } d v → Q v H') : rSlU C.K x lo hi w.H Q := by
  unfold slD at h
  split at h
  · cases h
    obtain ⟨p, us, rfl, _, hq, t⟩ := r
    exact .inl ⟨p, us, rfl, .inl (.inl hq), fun q hn => k _ _ (same_upd hn) (new_lst trk (cut_rel t lo hi) hn)⟩
  · cases h
    cases (show RelD C w _ _ from r) with
    | scr hb hq t => exact .inl ⟨_, _, rfl, .inl hq, fun q hn => k _ _ (same_upd hn) (new_lst trk (cut_rel t lo hi) hn)⟩
    | scrK hq t => exact .inl ⟨_, _, rfl, .inr hq, fun q hn => k _ _ (same_upd hn) (new_lst trk (cut_rel t lo hi) hn)⟩
  · rename_i es
    cases h
    have q0 := r.tupD sb trk
    obtain ⟨p, us, rfl, hq, t⟩ := r
    refine .inr ⟨p, us, rfl, SqT_of hq, fun e => ?_, fun _ q hn => k _ _ (same_upd hn) (new_tup trk (cut_rel t lo hi) hn)⟩
    have e2 : cutD es lo hi = es := by
      unfold cutD
      rw [t.length, e.1, e.2, ← t.length, Nat.sub_zero, List.drop_zero, List.take_length]
    rw [e2] at k
    exact k w.H _ (Same.refl _) q0
  · cases h
theorem sound_abs : Sound C .abs (fun xs H Q => ∃ i, xs = [.int i] ∧ Q (.int (if i < 0 then -i else i)) H) := by
  intro w w1 ds vs d Q sb trk rs he k
  obtain ⟨a, rfl, h⟩ := one_some (show one absD ds = some d from he)
  obtain ⟨x, rfl, r1⟩ := rs.one
  unfold absD at h
  split at h
  · cases h
    exact ⟨_, by rw [r1.intE], k w.H _ (Same.refl _) (.int _)⟩
  · cases h
theorem sound_int : Sound C .int (fun xs H Q => (∃ i, xs = [.int i] ∧ Q (.int i) H) ∨ ∃ k, xs = [.bl k] ∧ Q (.int (if k then 1 else 0)) H) := by
  intro w w1 ds vs d Q sb trk rs he k
  obtain ⟨a, rfl, h⟩ := one_some (show one toInt ds = some d from he)
  obtain ⟨x, rfl, r1⟩ := rs.one
  unfold toInt at h
  split at h
  · cases h
    exact .inl ⟨_, by rw [r1.intE], k w.H _ (Same.refl _) (.int _)⟩
  · cases h
    exact .inr ⟨_, by rw [r1.blE], k w.H _ (Same.refl _) (.int _)⟩
  · cases h
theorem sound_len : Sound C .len (fun xs H Q => ∃ x n, xs = [x] ∧ LenV C.K x H n ∧ Q (.int n) H) := by
  intro w w1 ds vs d Q sb trk rs he k
  obtain ⟨a, rfl, h⟩ := one_some (show one lenD ds = some d from he)
  obtain ⟨x, rfl, r1⟩ := rs.one
  unfold lenD at h
  split at h
  · cases h
    obtain ⟨p, us, rfl, hq, t⟩ := r1
    exact ⟨_, _, rfl, .inr ⟨us, SqT_of hq, t.length⟩, k w.H _ (Same.refl _) (.int _)⟩
  · cases h
    obtain ⟨p, us, rfl, _, hq, t⟩ := r1
    exact ⟨_, _, rfl, .inl ⟨us, .inl (.inl hq), t.length⟩, k w.H _ (Same.refl _) (.int _)⟩
  · cases h
    cases (show RelD C w _ _ from r1) with
    | scr hb hq t => exact ⟨_, _, rfl, .inl ⟨_, .inl hq, t.length⟩, k w.H _ (Same.refl _) (.int _)⟩
    | scrK hq t => exact ⟨_, _, rfl, .inl ⟨_, .inr hq, t.length⟩, k w.H _ (Same.refl _) (.int _)⟩
  · split at h
    · rename_i z hz
      cases h
      rw [r1.strE]
      exact ⟨_, _, rfl, ⟨by rw [← szL_eq]; exact hz, rfl⟩, k w.H _ (Same.refl _) (.int _)⟩
    · cases h
  · cases h
theorem ints_arg {w w1 : Wd} {ns : List Int} {x : V} (r : RelN C w w1 (.lst (ns.map D.int)) x) : ∃ a, x = .ref a ∧ SqL C.K w.H a (ns.map V.int) := by
  obtain ⟨p, us, rfl, _, hq, t⟩ := r
  rw [t.intsD] at hq
  exact ⟨p, rfl, .inl (.inl hq)⟩
theorem bls_arg {w w1 : Wd} {ns : List Bool} {x : V} (r : RelN C w w1 (.lst (ns.map D.bl)) x) : ∃ a, x = .ref a ∧ SqL C.K w.H a (ns.map V.bl) := by
  obtain ⟨p, us, rfl, _, hq, t⟩ := r
  rw [t.blsD] at hq
  exact ⟨p, rfl, .inl (.inl hq)⟩
theorem sound_min : Sound C .min (rMin C.K) := by
  intro w w1 ds vs d Q sb trk rs he k
  obtain ⟨a, rfl, h⟩ := one_some (show one (intsF fun ns => (minI ns).map .int) ds = some d from he)
  obtain ⟨x, rfl, r1⟩ := rs.one
  unfold intsF at h
  split at h
  · obtain ⟨ns, h1, h2⟩ := Option.bind_eq_some_iff.mp h
    obtain ⟨m, h3, rfl⟩ := Option.map_eq_some_iff.mp h2
    rw [intsOf_map h1] at r1
    obtain ⟨p, rfl, hq⟩ := ints_arg r1
    refine ⟨p, ns, rfl, hq, ?_, fun m' hm hle => ?_⟩
    · cases ns with
      | nil => cases h3
      | cons a r => simp
    · rw [minI_eq hm hle] at h3
      cases h3
      exact k w.H _ (Same.refl _) (.int _)
  · cases h
theorem sound_max : Sound C .max (rMax C.K) := by
  intro w w1 ds vs d Q sb trk rs he k
  obtain ⟨a, rfl, h⟩ := one_some (show one (intsF fun ns => (maxI ns).map .int) ds = some d from he)
  obtain ⟨x, rfl, r1⟩ := rs.one
  unfold intsF at h
  split at h
  · obtain ⟨ns, h1, h2⟩ := Option.bind_eq_some_iff.mp h
    obtain ⟨m, h3, rfl⟩ := Option.map_eq_some_iff.mp h2
    rw [intsOf_map h1] at r1
    obtain ⟨p, rfl, hq⟩ := ints_arg r1
    refine ⟨p, ns, rfl, hq, ?_, fun m' hm hle => ?_⟩
    · cases ns with
      | nil => cases h3
      | cons a r => simp
    · rw [maxI_eq hm hle] at h3
      cases h3
      exact k w.H _ (Same.refl _) (.int _)
  · cases h
theorem intD_some {d : D} {i : Int} (h : intD d = some i) : d = .int i := by
  unfold intD at h
  split at h
  · cases h; rfl
  · cases h
theorem sound_min2 : Sound C .min2 (fun xs H Q => ∃ i j, xs = [.int i, .int j] ∧ Q (.int (if j < i then j else i)) H) := by
  intro w w1 ds vs d Q sb trk rs he k
  obtain ⟨a, b, rfl, h⟩ := two_some (f := fun a b => (intD a).bind fun i => (intD b).bind fun j => some (.int (if j < i then j else i))) he
  obtain ⟨x, y, rfl, r1, r2⟩ := rs.two
  obtain ⟨i, h1, h⟩ := Option.bind_eq_some_iff.mp h
  obtain ⟨j, h2, h⟩ := Option.bind_eq_some_iff.mp h
  cases h
  rw [intD_some h1] at r1
  rw [intD_some h2] at r2
  rw [r1.intE, r2.intE]
  exact ⟨i, j, rfl, k w.H _ (Same.refl _) (.int _)⟩
theorem sound_max2 : Sound C .max2 (fun xs H Q => ∃ i j, xs = [.int i, .int j] ∧ Q (.int (if j > i then j else i)) H) := by
  intro w w1 ds vs d Q sb trk rs he k
  obtain ⟨a, b, rfl, h⟩ := two_some (f := fun a b => (intD a).bind fun i => (intD b).bind fun j => some (.int (if j > i then j else i))) he
  obtain ⟨x, y, rfl, r1, r2⟩ := rs.two
  obtain ⟨i, h1, h⟩ := Option.bind_eq_some_iff.mp h
  obtain ⟨j, h2, h⟩ := Option.bind_eq_some_iff.mp h
  cases h
  rw [intD_some h1] at r1
  rw [intD_some h2] at r2
  rw [r1.intE, r2.intE]
  exact ⟨i, j, rfl, k w.H _ (Same.refl _) (.int _)⟩
theorem sound_sum : Sound C .sum (rSum C.K) := by
  intro w w1 ds vs d Q sb trk rs he k
  obtain ⟨a, rfl, h⟩ := one_some (show one (intsF fun ns => some (.int ns.sum)) ds = some d from he)
  obtain ⟨x, rfl, r1⟩ := rs.one
  unfold intsF at h
  split at h
  · obtain ⟨ns, h1, h2⟩ := Option.bind_eq_some_iff.mp h
    cases h2
    rw [intsOf_map h1] at r1
    obtain ⟨p, rfl, hq⟩ := ints_arg r1
    exact ⟨p, ns, rfl, hq, k w.H _ (Same.refl _) (.int _)⟩
  · cases h
theorem sound_all : Sound C .all (rAll C.K) := by
  intro w w1 ds vs d Q sb trk rs he k
  obtain ⟨a, rfl, h⟩ := one_some (show one (blsF fun bs => .bl (bs.all id)) ds = some d from he)
  obtain ⟨x, rfl, r1⟩ := rs.one
  unfold blsF at h
  split at h
  · obtain ⟨ns, h1, rfl⟩ := Option.map_eq_some_iff.mp h
    rw [blsOf_map h1] at r1
    obtain ⟨p, rfl, hq⟩ := bls_arg r1
    exact ⟨p, ns, rfl, hq, k w.H _ (Same.refl _) (.bl _)⟩
  · cases h
theorem sound_any : Sound C .any (rAny C.K) := by
  intro w w1 ds vs d Q sb trk rs he k
  obtain ⟨a, rfl, h⟩ := one_some (show one (blsF fun bs => .bl (bs.any id)) ds = some d from he)
  obtain ⟨x, rfl, r1⟩ := rs.one
  unfold blsF at h
  split at h
  · obtain ⟨ns, h1, rfl⟩ := Option.map_eq_some_iff.mp h
    rw [blsOf_map h1] at r1
    obtain ⟨p, rfl, hq⟩ := bls_arg r1
    exact ⟨p, ns, rfl, hq, k w.H _ (Same.refl _) (.bl _)⟩
  · cases h
theorem sound_tuple : Sound C .tuple (fun xs H Q => ∃ p ys, xs = [.ref p] ∧ ((SqL C.K H p ys ∧ ∀ l, H l = none → Q (.ref l) (upd H l (.tup ys))) ∨ (SqT C.K H p ys ∧ Q (.ref p) H))) := by
  intro w w1 ds vs d Q sb trk rs he k
  obtain ⟨a, rfl, h⟩ := one_some (show one tupleD ds = some d from he)
  obtain ⟨x, rfl, r1⟩ := rs.one
  unfold tupleD at h
  split at h
  · cases h
    obtain ⟨p, us, rfl, _, hq, t⟩ := r1
    exact ⟨p, us, rfl, .inl ⟨.inl (.inl hq), fun q hn => k _ _ (same_upd hn) (new_tup trk t hn)⟩⟩
  · cases h
    have q0 := r1.tupD sb trk
    obtain ⟨p, us, rfl, hq, t⟩ := r1
    exact ⟨p, us, rfl, .inr ⟨SqT_of hq, k w.H _ (Same.refl _) q0⟩⟩
  · cases h
theorem sound_list : Sound C .list (fun xs H Q => ∃ p ys, xs = [.ref p] ∧ (SqL C.K H p ys ∨ SqT C.K H p ys) ∧ ∀ l, H l = none → Q (.ref l) (upd H l (.lst ys))) := by
  intro w w1 ds vs d Q sb trk rs he k
  obtain ⟨a, rfl, h⟩ := one_some (show one listD ds = some d from he)
  obtain ⟨x, rfl, r1⟩ := rs.one
  unfold listD at h
  split at h
  · cases h
    obtain ⟨p, us, rfl, _, hq, t⟩ := r1
    exact ⟨p, us, rfl, .inl (.inl (.inl hq)), fun q hn => k _ _ (same_upd hn) (new_lst trk t hn)⟩
  · cases h
    obtain ⟨p, us, rfl, hq, t⟩ := r1
    exact ⟨p, us, rfl, .inr (SqT_of hq), fun q hn => k _ _ (same_upd hn) (new_lst trk t hn)⟩
  · cases h
def SoundA (C : PC) (o : Op) (n : Nat) (rd : List V → Hp → VK → Prop) : Prop := ∀ (w : Wd) (ds : List D) (vs : List V) (d : D) (Q : VK), ds.length = n → (∀ a, w.B a → Mut (w.H a)) → RelDs C w ds vs → opSem o ds = some d →
  (∀ H' v, Same w.H H' → RelD C { w with H := H' } d v → Q v H') → rd vs w.H Q
theorem evL_length {Γ : GS} : ∀ {as : List T} {env : Env} {st : Store} {ds : List D} {st' : Store}, evL Γ as env st = .ok ds st' → ds.length = as.length
  | [], env, st, ds, st', h => by simp only [evL] at h; cases h; rfl
  | a :: as, env, st, ds, st', h => by
    simp only [evL] at h
    cases h1 : ev Γ a env st with
    | ok d st1 =>
      rw [h1] at h
      cases h2 : evL Γ as env st1 with
      | ok es st2 =>
        simp only [R.bind, h2] at h
        cases h
        rw [List.length_cons, List.length_cons, evL_length h2]
      | exc x st2 => simp only [R.bind, h2] at h; cases h
      | stuck => simp only [R.bind, h2] at h; cases h
    | exc x st1 => rw [h1] at h; cases h
    | stuck => rw [h1] at h; cases h
theorem okP_eq {α : Type} {C : PC} {W : WX} {w : Wd} {σ : L2.St} {r : R α} {k : Wd → α → Store → Prop} (h : okP C W w σ r k) : okP C W w σ r (fun w' d st' => r = .ok d st' ∧ k w' d st') := by
  cases r with
  | ok d st => exact fun w' e S => ⟨rfl, h w' e S⟩
  | exc x st => exact h
  | stuck => exact h
theorem tE_opA {W : WX} {Γ : GS} {o : Op} {as : List T} {rd : List V → Hp → VK → Prop} (hs : SoundA C o as.length rd) (ho : opEsc o = .all) {σ : L2.St} {H : Hp} {Q : VK} (h : tE C W Γ (.op o as) σ H Q) : tL C W Γ as σ H (fun vs H1 => rd vs H1 Q) := by
  obtain ⟨w0, w, env, st, rfl, R, h⟩ := h
  simp only [ev] at h
  refine ⟨w0, w, env, st, rfl, R, okP_mono (okP_eq (okP_bind h)) fun w1 ds st1 e1 S1 h1 vs rs => ?_⟩
  obtain ⟨he, h1⟩ := h1
  obtain ⟨d, hd, h1⟩ := okP_liftO h1
  have e2 : esc (.op o as) = escL as := by simp only [esc, ho]
  refine hs (free env σ (escL as) w1) ds vs d Q (evL_length he) (free_trk S1) (rs.toDs (free_sub (escEL_sub as) w1)) hd fun H' v sm r => ?_
  refine h1 { w1 with H := H' } (Ext.grow sm) (S1.grow sm) v ?_
  rw [show escE (.op o as) = esc (.op o as) from rfl, e2]
  exact RelD.toN (w := free env σ (escL as) { w1 with H := H' }) r
theorem soundA_tup {n : Nat} (hn : n ≤ szL) : SoundA C .tup n (fun xs H Q => xs.length ≤ sizeLine ∧ ∀ p, H p = none → Q (.ref p) (upd H p (.tup xs))) := by
  intro w ds vs d Q hl trk rs he k
  cases (show some (D.tup ds) = some d from he)
  exact ⟨by rw [← rs.length, hl, ← szL_eq]; exact hn, fun p hp => k _ _ (same_upd hp) (new_tup trk rs hp)⟩
theorem soundA_lst {n : Nat} (hn : n ≤ szL) : SoundA C .lst n (fun xs H Q => xs.length ≤ sizeLine ∧ ∀ p, H p = none → Q (.ref p) (upd H p (.lst xs))) := by
  intro w ds vs d Q hl trk rs he k
  cases (show some (D.lst ds) = some d from he)
  exact ⟨by rw [← rs.length, hl, ← szL_eq]; exact hn, fun p hp => k _ _ (same_upd hp) (new_lst trk rs hp)⟩
/-! ### isinstance of the built-in classes -/
theorem kit_all : ∀ t c : Cl, kitB t.name c.name = some (subCl t c) := by
  intro t c
  cases t <;> cases c <;> decide +kernel
theorem tyx_of {w w1 : Wd} {d : D} {v : V} {t : Cl} (r : RelN C w w1 d v) (h : clsOf d = some t) : TyX C.K w.H v (.type t.name) := by
  unfold clsOf at h
  split at h
  · cases h; rw [r.nonE]; exact .base .non
  · cases h; rw [r.blE]; exact .base (.bl _)
  · cases h; rw [r.intE]; exact .base (.int _)
  · cases h; rw [r.strE]; exact .base (.str _)
  · cases h
    obtain ⟨p, us, rfl, hq, t⟩ := r
    rcases hq with ⟨_, hq⟩ | ⟨o, its, n, h1, h2, _⟩
    · exact .base (.tup hq)
    · exact .kTuple h1 h2
  · cases h
    obtain ⟨p, us, rfl, _, hq, t⟩ := r
    exact .base (.lst hq)
  · cases h
    obtain ⟨p, rfl, _, hq⟩ := r
    rcases hq with ⟨kvs, hq, _⟩ | ⟨kvs, hq, _⟩
    · exact .base (.dK hq)
    · exact .base (.dT hq)
  · cases h
theorem sound_isi {c : Cl} : Sound C (.isi c) (fun xs H Q => ∃ x, xs = [x] ∧ rIsi C.K [x, .ty c.name] H Q) := by
  intro w w1 ds vs d Q sb trk rs he k
  obtain ⟨a, rfl, h⟩ := one_some (f := fun d => (isiB d c).map .bl) he
  obtain ⟨x, rfl, r1⟩ := rs.one
  obtain ⟨b, h1, rfl⟩ := Option.map_eq_some_iff.mp h
  obtain ⟨t, h2, rfl⟩ := Option.map_eq_some_iff.mp h1
  exact ⟨x, rfl, x, .ty c.name, .type t.name, .type c.name, subCl t c, rfl, .ty _, tyx_of r1 h2, kit_ty (kit_all t c), k w.H _ (Same.refl _) (.bl _)⟩
/-! ### methods -/
theorem findIx_spec {d : D} : ∀ {es : List D} {n m : Nat}, findIx d es n = some m → ∃ j e, m = n + j ∧ es[j]? = some e ∧ pyEq e d = true ∧ ∀ i e', i < j → es[i]? = some e' → pyEq e' d = false
  | [], n, m, h => by simp [findIx] at h
  | e :: es, n, m, h => by
    unfold findIx at h
    split at h
    · rename_i he
      cases h
      exact ⟨0, e, rfl, rfl, he, fun i e' hi => absurd hi (Nat.not_lt_zero _)⟩
    · rename_i he
      obtain ⟨j, e2, h1, h2, h3, h4⟩ := findIx_spec h
      refine ⟨j + 1, e2, by omega, by simpa using h2, h3, fun i e' hi hg => ?_⟩
      cases i with
      | zero => simp at hg; subst hg; simpa using he
      | succ i => exact h4 i e' (by omega) (by simpa using hg)
theorem data_at : ∀ {es : List D} {n i : Nat} {e : D}, areDataN es n = true → es[i]? = some e → isDataN e n = true
  | [], _, _, _, _, h => by simp at h
  | e :: es, n, 0, e', h, h2 => by
    simp only [areDataN, Bool.and_eq_true] at h
    simp at h2; subst h2; exact h.1
  | e :: es, n, i + 1, e', h, h2 => by
    simp only [areDataN, Bool.and_eq_true] at h
    exact data_at h.2 (by simpa using h2)
theorem index_D {w w1 : Wd} {es : List D} {d : D} {x y : V} {n : Nat} {Q : VK} (sb : Sub w w1) (r1 : RelN C w w1 (.lst es) x) (r2 : RelN C w w1 d y) (hd : isData d = true) (hes : isData (.lst es) = true) (hf : findIx d es 0 = some n) (q : Q (.int (n : Nat)) w.H) : rIndexD C.K x [y] w.H Q := by
  have q1 := r1.dp sb hes
  have s := data_shaped hes
  have al : areDataN es 39 = true := by have z := hes; simp only [isData, isDataN] at z; exact z
  obtain ⟨p, us, rfl, _, hq, t⟩ := id r1
  simp only [toP] at q1 s
  obtain ⟨j, e, h1, h2, h3, h4⟩ := findIx_spec hf
  have ej : n = j := by omega
  subst ej
  refine ⟨p, y, toP d, toPs es, n, toP e, rfl, rfl, q1, r2.dp sb hd, s, data_shaped hd, ?_, ?_, fun m z' hm hz => ?_, q⟩
  · rw [toPs_map, List.getElem?_map, h2]; rfl
  · rw [← pyEq_eqv e d 39 40 (data_at al h2) hd]; exact h3
  · rw [toPs_map, List.getElem?_map] at hz
    cases hg : es[m]? with
    | none => rw [hg] at hz; cases hz
    | some e' =>
      rw [hg] at hz
      cases hz
      rw [← pyEq_eqv e' d 39 40 (data_at al hg) hd]
      exact h4 m e' hm hg
theorem count_D {w w1 : Wd} {es : List D} {d : D} {x y : V} {Q : VK} (sb : Sub w w1) (r1 : RelN C w w1 (.lst es) x) (r2 : RelN C w w1 d y) (hd : isData d = true) (hes : isData (.lst es) = true) (q : Q (.int (es.countP fun e => pyEq e d : Nat)) w.H) : rCountD C.K x [y] w.H Q := by
  have q1 := r1.dp sb hes
  have s := data_shaped hes
  have al : areDataN es 39 = true := by have z := hes; simp only [isData, isDataN] at z; exact z
  obtain ⟨p, us, rfl, _, hq, t⟩ := id r1
  simp only [toP] at q1 s
  rw [count_eqv hd al] at q
  exact ⟨p, y, toP d, toPs es, rfl, rfl, q1, r2.dp sb hd, s, data_shaped hd, q⟩
end
end FY

end

section
set_option maxRecDepth 100000
/-! Fy8: tests, and, or, chains, calls, methods. -/
namespace FY
open PySem PySem.Spec PyProof.Rows L2
section
variable {C : PC} {W : WX} {Γ : GS} {X : Cx}
theorem tru_ofF {w : Wd} {env : Env} {σ : L2.St} {js ks : List Nat} {d : D} {v : V} {b : Bool} (r : RelN C (free env σ js w) (free env σ ks w) d v) (h : tru d = some b) : TruV C.K v w.H b := by
  have q := tru_of r h
  exact q
/-! ### tests -/
theorem sim_test {e : Expr} {t : T} (hK : X.K = C.K) (h : PE X e (tE C W Γ t)) (he : ∀ whole, isTrue e X.env whole = (do let v ← whole; standAt e.pos; holding [v] (truthy v))) : PT X e (tT C W Γ t) :=
  PT_imp (pt_truth h he) fun σ H Q hq => by
    obtain ⟨w0, w, env, st, rfl, R, hq⟩ := hq
    refine ⟨w0, w, env, st, rfl, R, okP_mono hq fun w1 d st1 e1 S1 h1 v r => ?_⟩
    obtain ⟨b, hb, q⟩ := h1
    refine ⟨b, ?_, q⟩
    rw [hK]
    exact tru_ofF r hb
/-- an expression whose value is a bool, as a test -/
theorem tT_bl {t : T} {σ : L2.St} {H : Hp} {Q : Bool → Hp → Prop} (hb : ∀ env st d st', ev Γ t env st = .ok d st' → ∃ k, d = .bl k) (h : tT C W Γ t σ H Q) : tE C W Γ t σ H (fun x H' => ∃ k, x = .bl k ∧ Q k H') := by
  obtain ⟨w0, w, env, st, rfl, R, hq⟩ := h
  refine ⟨w0, w, env, st, rfl, R, okP_mono (okP_eq hq) fun w1 d st1 e1 S1 h1 v r => ?_⟩
  obtain ⟨he, b, hb', q⟩ := h1
  obtain ⟨k, rfl⟩ := hb _ _ _ _ he
  cases hb'
  exact ⟨_, r.blE, q⟩
theorem bind_ok {α β : Type} {r : FY.R α} {f : α → Store → FY.R β} {b : β} {st : Store} (h : r.bind f = .ok b st) : ∃ a st1, r = .ok a st1 ∧ f a st1 = .ok b st := by
  cases r with
  | ok a st1 => exact ⟨a, st1, rfl, h⟩
  | exc x st1 => cases h
  | stuck => cases h
theorem liftO_ok {α : Type} {o : Option α} {st st' : Store} {a : α} (h : liftO o st = .ok a st') : o = some a ∧ st' = st := by
  cases o with
  | some b => cases h; exact ⟨rfl, rfl⟩
  | none => cases h
theorem ev_op_ok {o : Op} {as : List T} {env : Env} {st : Store} {d : D} {st' : Store} (h : ev Γ (.op o as) env st = .ok d st') : ∃ ds, opSem o ds = some d := by
  simp only [ev] at h
  obtain ⟨ds, st1, h1, h2⟩ := bind_ok h
  exact ⟨ds, (liftO_ok h2).1⟩
def isCmp : Op → Bool
  | .lt | .le | .gt | .ge | .eq | .ne | .isn | .notn | .isb | .notb | .in_ | .nin => true
  | _ => false
theorem ord_bl {p : Int → Int → Bool} {ds : List D} {d : D} (h : two (ordD p) ds = some d) : ∃ k, d = .bl k := by
  obtain ⟨a, b, _, q⟩ := two_some h
  unfold ordD at q
  split at q
  · cases q; exact ⟨_, rfl⟩
  · cases q
theorem eq_bl {p : Bool} {ds : List D} {d : D} (h : two (eqD p) ds = some d) : ∃ k, d = .bl k := by
  obtain ⟨a, b, _, q⟩ := two_some h
  unfold eqD at q
  split at q
  · cases q; exact ⟨_, rfl⟩
  · cases q
theorem nn_bl {p : Bool} {ds : List D} {d : D} (h : one (isNone p) ds = some d) : ∃ k, d = .bl k := by
  obtain ⟨a, _, q⟩ := one_some h
  unfold isNone at q
  split at q
  · cases q
  · cases q; exact ⟨_, rfl⟩
  · cases q; exact ⟨_, rfl⟩
theorem bb_bl {p : Bool} {ds : List D} {d : D} (h : two (isBl p) ds = some d) : ∃ k, d = .bl k := by
  obtain ⟨a, b, _, q⟩ := two_some h
  unfold isBl at q
  split at q
  · cases q; exact ⟨_, rfl⟩
  · cases q
theorem in_bl {p : Bool} {ds : List D} {d : D} (h : two (inD p) ds = some d) : ∃ k, d = .bl k := by
  obtain ⟨a, b, _, q⟩ := two_some h
  unfold inD at q
  split at q
  · split at q
    · cases q; exact ⟨_, rfl⟩
    · cases q
  · split at q
    · cases q; exact ⟨_, rfl⟩
    · cases q
  · cases q
theorem cmp_bl {o : Op} (ho : isCmp o = true) {ds : List D} {d : D} (h : opSem o ds = some d) : ∃ k, d = .bl k := by
  cases o <;> first | exact ord_bl h | exact eq_bl h | exact nn_bl h | exact bb_bl h | exact in_bl h | (cases ho)
/-- a comparison as a test -/
theorem sim_cmpT {op : CmpOp} {r : R2} {o : Op} {a b : Expr} {ta tb : T} {pos : Pos} (hb' : isCmp o = true) (ho : OpR X (compareOp op) r) (hs : Sound C o (S2 r)) (ha : PE X a (tE C W Γ ta)) (hb : PE X b (tE C W Γ tb)) (hm : behindInMarks op b = false) :
    PT X (.Compare a [op] [b] pos) (tT C W Γ (.op o [ta, tb])) :=
  PT_imp (pt_cmpR ho ha hb hm) fun σ H Q h => tL_two (K := fun x y H2 => r x y H2 fun x H' => ∃ k, x = .bl k ∧ Q k H') (by
    have h := tT_bl (fun env st d st' he => by obtain ⟨ds, q⟩ := ev_op_ok he; exact cmp_bl hb' q) h
    obtain ⟨w0, w, env, st, e, R, h⟩ := tE_op hs h
    exact ⟨w0, w, env, st, e, R, okP_mono h fun w2 ds st2 e2 S2 h2 vs rs x y ex => by
      obtain ⟨x', y', e', q⟩ := h2 vs rs
      rw [ex] at e'; cases e'; exact q⟩)
/-- is None, is not None -/
theorem sim_isN {a : Expr} {ta : T} {pos pos' : Pos} {j : Nat} (ha : PE X a (tE C W Γ ta)) : PE X (.Compare a [.Is] [.Constant .none j pos'] pos) (tE C W Γ (.op .isn [ta])) :=
  PE_imp (pe_cmp (pc_isN ha) rfl) fun σ H Q h => tL_one (K := fun x H1 => Q (.bl (decide (x = .non))) H1) (by
    obtain ⟨w0, w, env, st, e, R, h⟩ := tE_op sound_isn h
    exact ⟨w0, w, env, st, e, R, okP_mono h fun w2 ds st2 e2 S2 h2 vs rs x ex => by
      obtain ⟨x', e', q⟩ := h2 vs rs
      rw [ex] at e'; cases e'; exact q⟩)
theorem sim_notN {a : Expr} {ta : T} {pos pos' : Pos} {j : Nat} (ha : PE X a (tE C W Γ ta)) : PE X (.Compare a [.IsNot] [.Constant .none j pos'] pos) (tE C W Γ (.op .notn [ta])) :=
  PE_imp (pe_cmp (pc_notN ha) rfl) fun σ H Q h => tL_one (K := fun x H1 => Q (.bl (!decide (x = .non))) H1) (by
    obtain ⟨w0, w, env, st, e, R, h⟩ := tE_op sound_notn h
    exact ⟨w0, w, env, st, e, R, okP_mono h fun w2 ds st2 e2 S2 h2 vs rs x ex => by
      obtain ⟨x', e', q⟩ := h2 vs rs
      rw [ex] at e'; cases e'; exact q⟩)
theorem sim_isNT {a : Expr} {ta : T} {pos pos' : Pos} {j : Nat} (ha : PE X a (tE C W Γ ta)) : PT X (.Compare a [.Is] [.Constant .none j pos'] pos) (tT C W Γ (.op .isn [ta])) :=
  PT_imp (pt_cmp (pc_isN ha) rfl) fun σ H Q h => by
    have h := tT_bl (fun env st d st' he => by obtain ⟨ds, q⟩ := ev_op_ok he; exact cmp_bl rfl q) h
    exact tL_one (K := fun x H1 => ∃ k, V.bl (decide (x = .non)) = .bl k ∧ Q k H1) (by
      obtain ⟨w0, w, env, st, e, R, h⟩ := tE_op sound_isn h
      exact ⟨w0, w, env, st, e, R, okP_mono h fun w2 ds st2 e2 S2 h2 vs rs x ex => by
        obtain ⟨x', e', q⟩ := h2 vs rs
        rw [ex] at e'; cases e'; exact q⟩)
theorem sim_notNT {a : Expr} {ta : T} {pos pos' : Pos} {j : Nat} (ha : PE X a (tE C W Γ ta)) : PT X (.Compare a [.IsNot] [.Constant .none j pos'] pos) (tT C W Γ (.op .notn [ta])) :=
  PT_imp (pt_cmp (pc_notN ha) rfl) fun σ H Q h => by
    have h := tT_bl (fun env st d st' he => by obtain ⟨ds, q⟩ := ev_op_ok he; exact cmp_bl rfl q) h
    exact tL_one (K := fun x H1 => ∃ k, V.bl (!decide (x = .non)) = .bl k ∧ Q k H1) (by
      obtain ⟨w0, w, env, st, e, R, h⟩ := tE_op sound_notn h
      exact ⟨w0, w, env, st, e, R, okP_mono h fun w2 ds st2 e2 S2 h2 vs rs x ex => by
        obtain ⟨x', e', q⟩ := h2 vs rs
        rw [ex] at e'; cases e'; exact q⟩)
/-- not, as a test and as a value -/
theorem sim_notT {a : Expr} {ta : T} {pos : Pos} (ha : PT X a (tT C W Γ ta)) : PT X (.UnaryOp .Not a pos) (tT C W Γ (.op .not_ [ta])) :=
  PT_imp (pt_not ha) fun σ H Q h => by
    obtain ⟨w0, w, env, st, rfl, R, h⟩ := h
    simp only [ev, evL] at h
    refine ⟨w0, w, env, st, rfl, R, ?_⟩
    cases hr : ev Γ ta env st with
    | ok d st1 =>
      rw [hr] at h
      simp only [FY.R.bind] at h
      obtain ⟨d2, hd, h⟩ := okP_liftO h
      have hd : (tru d).map (fun b => D.bl (!b)) = some d2 := hd
      obtain ⟨b, hb, rfl⟩ := Option.map_eq_some_iff.mp hd
      intro w' e' S'
      obtain ⟨b', hb', q⟩ := h w' e' S'
      cases hb'
      exact ⟨b, hb, q⟩
    | exc x st1 => rw [hr] at h; exact h
    | stuck => rw [hr] at h; exact h
theorem sim_not {a : Expr} {ta : T} {pos : Pos} (hK : X.K = C.K) (ha : PE X a (tE C W Γ ta)) : PE X (.UnaryOp .Not a pos) (tE C W Γ (.op .not_ [ta])) :=
  PE_imp (pe_notT ha) fun σ H Q h => tL_one (K := fun x H1 => ∃ k, TruV X.K x H1 k ∧ Q (.bl (!k)) H1) (by
    obtain ⟨w0, w, env, st, e, R, h⟩ := tE_op sound_not h
    exact ⟨w0, w, env, st, e, R, okP_mono h fun w2 ds st2 e2 S2 h2 vs rs x ex => by
      obtain ⟨x', e', q⟩ := h2 vs rs
      rw [ex] at e'; cases e'
      rw [hK]; exact q⟩)
/-! ### and, or as tests -/
def tTA (C : PC) (W : WX) (Γ : GS) (ts : List T) : L2.TT := fun σ H Q => ∃ w0 w env st, w.H = H ∧ Rel C w0 w env st σ ∧
  okP C W w σ (evAnd Γ ts env st) fun w' d _ => ∃ b, tru d = some b ∧ Q b w'.H
def tTO (C : PC) (W : WX) (Γ : GS) (ts : List T) : L2.TT := fun σ H Q => ∃ w0 w env st, w.H = H ∧ Rel C w0 w env st σ ∧
  okP C W w σ (evOr Γ ts env st) fun w' d _ => ∃ b, tru d = some b ∧ Q b w'.H
theorem sim_and1 {a : Expr} {ta : T} {pos : Pos} (ha : PT X a (tT C W Γ ta)) : PW X (.BoolOp .And [a] pos) (tTA C W Γ [ta]) :=
  PW_imp (pw_and1 ha) fun σ H Q h => by
    obtain ⟨w0, w, env, st, rfl, R, h⟩ := h
    simp only [evAnd] at h
    exact ⟨w0, w, env, st, rfl, R, h⟩
theorem sim_or1 {a : Expr} {ta : T} {pos : Pos} (ha : PT X a (tT C W Γ ta)) : PW X (.BoolOp .Or [a] pos) (tTO C W Γ [ta]) :=
  PW_imp (pw_or1 ha) fun σ H Q h => by
    obtain ⟨w0, w, env, st, rfl, R, h⟩ := h
    simp only [evOr] at h
    exact ⟨w0, w, env, st, rfl, R, h⟩
theorem okP_bind' {α β : Type} {w : Wd} {σ : L2.St} {r : FY.R α} {f : α → Store → FY.R β} {k : Wd → β → Store → Prop} {k' : Wd → α → Store → Prop} (h : okP C W w σ (r.bind f) k)
    (hk : ∀ a st1 w1, r = .ok a st1 → Ext w w1 → SRel C w1 st1 → okP C W w1 σ (f a st1) k → k' w1 a st1) : okP C W w σ r k' :=
  okP_mono (okP_eq (okP_bind h)) fun w1 a st1 e1 S1 h1 => hk a st1 w1 h1.1 e1 S1 h1.2
theorem sim_andC {a b : Expr} {rest : List Expr} {ta tb : T} {tr : List T} {pos : Pos} (ha : PT X a (tT C W Γ ta)) (hb : PW X (.BoolOp .And (b :: rest) pos) (tTA C W Γ (tb :: tr))) : PW X (.BoolOp .And (a :: b :: rest) pos) (tTA C W Γ (ta :: tb :: tr)) :=
  PW_imp (pw_and ha hb) fun σ H Q h => by
    obtain ⟨w0, w, env, st, rfl, R, h⟩ := h
    simp only [evAnd] at h
    refine ⟨w0, w, env, st, rfl, R, okP_bind' h fun d st1 w1 _ e1 S1 h1 => ?_⟩
    split at h1
    · rename_i hd
      refine ⟨true, hd, ?_⟩
      show if true = true then _ else _
      rw [if_pos rfl]
      exact ⟨w0, w1, env, st1, rfl, R.step e1 S1, h1⟩
    · rename_i hd
      refine ⟨false, hd, ?_⟩
      show if false = true then _ else _
      rw [if_neg Bool.false_ne_true]
      obtain ⟨b', hb', q⟩ := h1 w1 (Ext.refl _) S1
      rw [hd] at hb'; cases hb'
      exact q
    · exact h1.elim
theorem sim_orC {a b : Expr} {rest : List Expr} {ta tb : T} {tr : List T} {pos : Pos} (ha : PT X a (tT C W Γ ta)) (hb : PW X (.BoolOp .Or (b :: rest) pos) (tTO C W Γ (tb :: tr))) : PW X (.BoolOp .Or (a :: b :: rest) pos) (tTO C W Γ (ta :: tb :: tr)) :=
  PW_imp (pw_or ha hb) fun σ H Q h => by
    obtain ⟨w0, w, env, st, rfl, R, h⟩ := h
    simp only [evOr] at h
    refine ⟨w0, w, env, st, rfl, R, okP_bind' h fun d st1 w1 _ e1 S1 h1 => ?_⟩
    split at h1
    · rename_i hd
      refine ⟨true, hd, ?_⟩
      show if true = true then _ else _
      rw [if_pos rfl]
      obtain ⟨b', hb', q⟩ := h1 w1 (Ext.refl _) S1
      rw [hd] at hb'; cases hb'
      exact q
    · rename_i hd
      refine ⟨false, hd, ?_⟩
      show if false = true then _ else _
      rw [if_neg Bool.false_ne_true]
      exact ⟨w0, w1, env, st1, rfl, R.step e1 S1, h1⟩
    · exact h1.elim
theorem sim_andT {es : List Expr} {ts : List T} {pos : Pos} (h : PW X (.BoolOp .And es pos) (tTA C W Γ ts)) : PT X (.BoolOp .And es pos) (tT C W Γ (.and_ ts)) :=
  PT_imp h.pt fun σ H Q h => by
    obtain ⟨w0, w, env, st, rfl, R, h⟩ := h
    simp only [ev] at h
    exact ⟨w0, w, env, st, rfl, R, h⟩
theorem sim_orT {es : List Expr} {ts : List T} {pos : Pos} (h : PW X (.BoolOp .Or es pos) (tTO C W Γ ts)) : PT X (.BoolOp .Or es pos) (tT C W Γ (.or_ ts)) :=
  PT_imp h.pt fun σ H Q h => by
    obtain ⟨w0, w, env, st, rfl, R, h⟩ := h
    simp only [ev] at h
    exact ⟨w0, w, env, st, rfl, R, h⟩
/-! ### and, or as values -/
def tEA (C : PC) (W : WX) (Γ : GS) (ts : List T) : L2.TE := fun σ H Q => ∃ w0 w env st, w.H = H ∧ Rel C w0 w env st σ ∧
  okP C W w σ (evAnd Γ ts env st) fun w' d _ => ∀ v, RelN C (free env σ (escL ts) w') (free env σ (escL ts) w') d v → Q v w'.H
def tEO (C : PC) (W : WX) (Γ : GS) (ts : List T) : L2.TE := fun σ H Q => ∃ w0 w env st, w.H = H ∧ Rel C w0 w env st σ ∧
  okP C W w σ (evOr Γ ts env st) fun w' d _ => ∀ v, RelN C (free env σ (escL ts) w') (free env σ (escL ts) w') d v → Q v w'.H
theorem RelN.up {w : Wd} {env : Env} {σ : L2.St} {js ks ls : List Nat} {d : D} {v : V} (r : RelN C (free env σ js w) (free env σ ks w) d v) (h1 : ∀ j ∈ js, j ∈ ks) (h2 : ∀ j ∈ ks, j ∈ ls) : RelN C (free env σ ls w) (free env σ ls w) d v :=
  (RelD.le (free_sub h2 w).le (r.toD (free_sub h1 w))).toN
theorem sim_and1V {a : Expr} {ta : T} {pos : Pos} (ha : PE X a (tE C W Γ ta)) : PE X (.BoolOp .And [a] pos) (tEA C W Γ [ta]) :=
  PE_imp (pe_one ha) fun σ H Q h => by
    obtain ⟨w0, w, env, st, rfl, R, h⟩ := h
    simp only [evAnd] at h
    exact ⟨w0, w, env, st, rfl, R, okP_mono h fun w1 d st1 e1 S1 h1 v r => h1 v (r.up (escE_sub ta) fun j hj => by rw [escL_cons]; exact List.mem_append_left _ hj)⟩
theorem sim_or1V {a : Expr} {ta : T} {pos : Pos} (ha : PE X a (tE C W Γ ta)) : PE X (.BoolOp .Or [a] pos) (tEO C W Γ [ta]) :=
  PE_imp (pe_one ha) fun σ H Q h => by
    obtain ⟨w0, w, env, st, rfl, R, h⟩ := h
    simp only [evOr] at h
    exact ⟨w0, w, env, st, rfl, R, okP_mono h fun w1 d st1 e1 S1 h1 v r => h1 v (r.up (escE_sub ta) fun j hj => by rw [escL_cons]; exact List.mem_append_left _ hj)⟩
theorem sim_andCV {a b : Expr} {rest : List Expr} {ta tb : T} {tr : List T} {pos : Pos} (hK : X.K = C.K) (ha : PE X a (tE C W Γ ta)) (hb : PE X (.BoolOp .And (b :: rest) pos) (tEA C W Γ (tb :: tr))) : PE X (.BoolOp .And (a :: b :: rest) pos) (tEA C W Γ (ta :: tb :: tr)) :=
  PE_imp (pe_andT ha hb) fun σ H Q h => by
    obtain ⟨w0, w, env, st, rfl, R, h⟩ := h
    simp only [evAnd] at h
    refine ⟨w0, w, env, st, rfl, R, okP_bind' h fun d st1 w1 _ e1 S1 h1 v r => ?_⟩
    have sub1 : ∀ j ∈ esc ta, j ∈ escL (ta :: tb :: tr) := fun j hj => by rw [escL_cons]; exact List.mem_append_left _ hj
    have sub2 : ∀ j ∈ escL (tb :: tr), j ∈ escL (ta :: tb :: tr) := fun j hj => by rw [escL_cons ta]; exact List.mem_append_right _ hj
    split at h1
    · rename_i hd
      refine ⟨true, by rw [hK]; exact tru_ofF r hd, ?_⟩
      rw [if_pos rfl]
      exact ⟨w0, w1, env, st1, rfl, R.step e1 S1, okP_mono h1 fun w2 d2 st2 e2 S2 h2 v2 r2 => h2 v2 (r2.up (fun _ z => z) sub2)⟩
    · rename_i hd
      refine ⟨false, by rw [hK]; exact tru_ofF r hd, ?_⟩
      rw [if_neg Bool.false_ne_true]
      exact h1 w1 (Ext.refl _) S1 v (r.up (escE_sub ta) sub1)
    · exact h1.elim
theorem sim_orCV {a b : Expr} {rest : List Expr} {ta tb : T} {tr : List T} {pos : Pos} (hK : X.K = C.K) (ha : PE X a (tE C W Γ ta)) (hb : PE X (.BoolOp .Or (b :: rest) pos) (tEO C W Γ (tb :: tr))) : PE X (.BoolOp .Or (a :: b :: rest) pos) (tEO C W Γ (ta :: tb :: tr)) :=
  PE_imp (pe_orT ha hb) fun σ H Q h => by
    obtain ⟨w0, w, env, st, rfl, R, h⟩ := h
    simp only [evOr] at h
    refine ⟨w0, w, env, st, rfl, R, okP_bind' h fun d st1 w1 _ e1 S1 h1 v r => ?_⟩
    have sub1 : ∀ j ∈ esc ta, j ∈ escL (ta :: tb :: tr) := fun j hj => by rw [escL_cons]; exact List.mem_append_left _ hj
    have sub2 : ∀ j ∈ escL (tb :: tr), j ∈ escL (ta :: tb :: tr) := fun j hj => by rw [escL_cons ta]; exact List.mem_append_right _ hj
    split at h1
    · rename_i hd
      refine ⟨true, by rw [hK]; exact tru_ofF r hd, ?_⟩
      rw [if_pos rfl]
      exact h1 w1 (Ext.refl _) S1 v (r.up (escE_sub ta) sub1)
    · rename_i hd
      refine ⟨false, by rw [hK]; exact tru_ofF r hd, ?_⟩
      rw [if_neg Bool.false_ne_true]
      exact ⟨w0, w1, env, st1, rfl, R.step e1 S1, okP_mono h1 fun w2 d2 st2 e2 S2 h2 v2 r2 => h2 v2 (r2.up (fun _ z => z) sub2)⟩
    · exact h1.elim
theorem sim_andV {es : List Expr} {ts : List T} {pos : Pos} (h : PE X (.BoolOp .And es pos) (tEA C W Γ ts)) : PE X (.BoolOp .And es pos) (tE C W Γ (.and_ ts)) :=
  PE_imp h fun σ H Q h => by
    obtain ⟨w0, w, env, st, rfl, R, h⟩ := h
    simp only [ev] at h
    exact ⟨w0, w, env, st, rfl, R, h⟩
theorem sim_orV {es : List Expr} {ts : List T} {pos : Pos} (h : PE X (.BoolOp .Or es pos) (tEO C W Γ ts)) : PE X (.BoolOp .Or es pos) (tE C W Γ (.or_ ts)) :=
  PE_imp h fun σ H Q h => by
    obtain ⟨w0, w, env, st, rfl, R, h⟩ := h
    simp only [ev] at h
    exact ⟨w0, w, env, st, rfl, R, h⟩
/-! ### a if c else b -/
theorem sim_ife {c a b : Expr} {tc ta tb : T} {pos : Pos} (hc : PT X c (tT C W Γ tc)) (ha : PE X a (tE C W Γ ta)) (hb : PE X b (tE C W Γ tb)) : PE X (.IfExp c a b pos) (tE C W Γ (.ife tc ta tb)) :=
  PE_imp (pe_ifExp hc ha hb) fun σ H Q h => by
    obtain ⟨w0, w, env, st, rfl, R, h⟩ := h
    simp only [ev] at h
    refine ⟨w0, w, env, st, rfl, R, okP_bind' h fun d st1 w1 _ e1 S1 h1 => ?_⟩
    have e0 : escE (.ife tc ta tb) = esc ta ++ esc tb := by unfold escE; simp only [esc]
    have e1' : esc (.ife tc ta tb) = esc ta ++ esc tb := by simp only [esc]
    split at h1
    · rename_i hd
      refine ⟨true, hd, ?_⟩
      show if true = true then _ else _
      rw [if_pos rfl]
      refine ⟨w0, w1, env, st1, rfl, R.step e1 S1, okP_mono h1 fun w2 d2 st2 e2 S2 h2 v2 r2 => h2 v2 ?_⟩
      rw [e0, e1']
      exact r2.up (escE_sub ta) fun j hj => List.mem_append_left _ hj
    · rename_i hd
      refine ⟨false, hd, ?_⟩
      show if false = true then _ else _
      rw [if_neg Bool.false_ne_true]
      refine ⟨w0, w1, env, st1, rfl, R.step e1 S1, okP_mono h1 fun w2 d2 st2 e2 S2 h2 v2 r2 => h2 v2 ?_⟩
      rw [e0, e1']
      exact r2.up (escE_sub tb) fun j hj => List.mem_append_right _ hj
    · exact h1.elim
end
end FY

end

section
set_option maxRecDepth 100000
/-! Fy9: slices, chains, methods, calls, cells. -/
namespace FY
open PySem PySem.Spec PyProof.Rows L2
theorem bind_assoc {α β γ : Type} (r : FY.R α) (f : α → Store → FY.R β) (g : β → Store → FY.R γ) : (r.bind f).bind g = r.bind fun a st => (f a st).bind g := by cases r <;> rfl
theorem evL_one {Γ : GS} {a : T} {env : Env} {st : Store} : evL Γ [a] env st = (ev Γ a env st).bind fun d st1 => .ok [d] st1 := by simp only [evL]; rfl
theorem evL_two {Γ : GS} {a b : T} {env : Env} {st : Store} {β : Type} {f : List D → Store → FY.R β} : (evL Γ [a, b] env st).bind f = (ev Γ a env st).bind fun d st1 => (ev Γ b env st1).bind fun e st2 => f [d, e] st2 := by
  simp only [evL, bind_assoc]; rfl
section
variable {C : PC} {W : WX} {Γ : GS} {X : Cx}
/-- x[:j], x[i:], x[i:j] -/
theorem sim_sl0 {a j : Expr} {ta tj : T} {p2 pos : Pos} (hK : X.K = C.K) (ha : PE X a (tE C W Γ ta)) (hj : PE X j (tE C W Γ tj)) : PE X (.Subscript a (.Slice none (some j) none p2) pos) (tE C W Γ (.op .sl0 [ta, tj])) :=
  PE_imp (pe_slice sl_U ha po_none (po_some hj)) fun σ H Q h => tL_two (K := fun x y H2 => ∃ i, y = .int i ∧ rSlU X.K x none (some i) H2 Q) (by
    obtain ⟨w0, w, env, st, e, R, h⟩ := tE_op (C := C) (rd := fun vs H Q => ∃ x y, vs = [x, y] ∧ ∃ i, y = .int i ∧ rSlU X.K x none (some i) H Q) (fun w w1 ds vs d Q sb trk rs he k => by
      obtain ⟨a, b, rfl, h⟩ := two_some (f := fun a j => (intD j).bind fun j => slD none (some j) a) he
      obtain ⟨x, y, rfl, r1, r2⟩ := rs.two
      obtain ⟨i, h1, h2⟩ := Option.bind_eq_some_iff.mp h
      rw [intD_some h1] at r2
      exact ⟨x, y, rfl, i, r2.intE, by rw [hK]; exact sound_sl sb trk r1 h2 k⟩) h
    exact ⟨w0, w, env, st, e, R, okP_mono h fun w2 ds st2 e2 S2 h2 vs rs x y ex => by
      obtain ⟨x', y', e', q⟩ := h2 vs rs
      rw [ex] at e'; cases e'; exact q⟩)
theorem sim_sl1 {a j : Expr} {ta tj : T} {p2 pos : Pos} (hK : X.K = C.K) (ha : PE X a (tE C W Γ ta)) (hj : PE X j (tE C W Γ tj)) : PE X (.Subscript a (.Slice (some j) none none p2) pos) (tE C W Γ (.op .sl1 [ta, tj])) :=
  PE_imp (pe_slice sl_U ha (po_some hj) po_none) fun σ H Q h => tL_two (K := fun x y H2 => ∃ i, y = .int i ∧ rSlU X.K x (some i) none H2 Q) (by
    obtain ⟨w0, w, env, st, e, R, h⟩ := tE_op (C := C) (rd := fun vs H Q => ∃ x y, vs = [x, y] ∧ ∃ i, y = .int i ∧ rSlU X.K x (some i) none H Q) (fun w w1 ds vs d Q sb trk rs he k => by
      obtain ⟨a, b, rfl, h⟩ := two_some (f := fun a j => (intD j).bind fun j => slD (some j) none a) he
      obtain ⟨x, y, rfl, r1, r2⟩ := rs.two
      obtain ⟨i, h1, h2⟩ := Option.bind_eq_some_iff.mp h
      rw [intD_some h1] at r2
      exact ⟨x, y, rfl, i, r2.intE, by rw [hK]; exact sound_sl sb trk r1 h2 k⟩) h
    exact ⟨w0, w, env, st, e, R, okP_mono h fun w2 ds st2 e2 S2 h2 vs rs x y ex => by
      obtain ⟨x', y', e', q⟩ := h2 vs rs
      rw [ex] at e'; cases e'; exact q⟩)
theorem sim_ix {a b : Expr} {ta tb : T} {pos : Pos} (hK : X.K = C.K) (ha : PE X a (tE C W Γ ta)) (hb : PE X b (tE C W Γ tb)) (hs : PlainIx b) : PE X (.Subscript a b pos) (tE C W Γ (.op .ix [ta, tb])) :=
  PE_imp (pe_ix ix_seq ha hb hs) fun σ H Q h => tL_two (K := fun x y H2 => rIx X.K x y H2 Q) (by
    obtain ⟨w0, w, env, st, e, R, h⟩ := tE_op sound_ix h
    exact ⟨w0, w, env, st, e, R, okP_mono h fun w2 ds st2 e2 S2 h2 vs rs x y ex => by
      obtain ⟨x', y', e', q⟩ := h2 vs rs
      rw [ex] at e'; cases e'
      rw [hK]; exact q⟩)
/-- a op b op' c -/
theorem sim_chnR {r r' : R2} {o o' : Op} {ta tb tc : T} (hs : Sound C o (S2 r)) (hs' : Sound C o' (S2 r')) (hc1 : isCmp o = true) (hc2 : isCmp o' = true) {σ : L2.St} {H : Hp} {Q : VK} (h : tE C W Γ (.chn o o' ta tb tc) σ H Q) : tChain r r' (tE C W Γ ta) (tE C W Γ tb) (tE C W Γ tc) σ H Q := by
  obtain ⟨w0, w, env, st, rfl, R, h⟩ := h
  simp only [ev] at h
  refine tL_two (K := fun x y H2 => r x y H2 fun z H3 => ∃ k, z = .bl k ∧ (if k = true then tE C W Γ tc σ H3 fun w' H4 => r' y w' H4 Q else Q (.bl false) H3)) ⟨w0, w, env, st, rfl, R, ?_⟩
  have h' : okP C W w σ ((evL Γ [ta, tb] env st).bind (fun ds st2 => match ds with
    | [x, y] => (match opSem o [x, y] with
      | some (.bl true) => (ev Γ tc env st2).bind fun z st3 => liftO (opSem o' [y, z]) st3
      | some (.bl false) => .ok (.bl false) st2
      | _ => .stuck)
    | _ => .stuck)) (fun w' d x => ∀ (v : V), RelN C (free env σ (escE (T.chn o o' ta tb tc)) w') (free env σ (esc (T.chn o o' ta tb tc)) w') d v → Q v w'.H) := by
    rw [evL_two]
    exact h
  refine okP_bind' h' fun ds st2 w2 hev e2 S2 h2 vs rs x y ex => ?_
  subst ex
  obtain ⟨dx, dy, rfl⟩ : ∃ dx dy, ds = [dx, dy] := by
    cases rs with | cons _ t => cases t with | cons _ t => cases t; exact ⟨_, _, rfl⟩
  have h2 : okP C W w2 σ (match opSem o [dx, dy] with
      | some (.bl true) => (ev Γ tc env st2).bind fun z st3 => liftO (opSem o' [dy, z]) st3
      | some (.bl false) => .ok (.bl false) st2
      | _ => .stuck) _ := h2
  cases ho : opSem o [dx, dy] with
  | none => rw [ho] at h2; exact h2.elim
  | some d =>
    obtain ⟨k, rfl⟩ := cmp_bl hc1 ho
    rw [ho] at h2
    have q := hs (free env σ (escEL [ta, tb]) w2) (free env σ (escL [ta, tb]) w2) [dx, dy] [x, y] _ (fun z H3 => ∃ k, z = .bl k ∧ (if k = true then tE C W Γ tc σ H3 fun w' H4 => r' y w' H4 Q else Q (.bl false) H3)) (free_sub (escEL_sub _) w2) (free_trk S2) rs ho (fun H3 v sm rv => ?_)
    · obtain ⟨x', y', e', q⟩ := q
      cases e'
      exact q
    · cases rv
      refine ⟨k, rfl, ?_⟩
      have R2 : Rel C w0 w2 env st2 σ := R.step e2 S2
      have g : Ext w2 { w2 with H := H3 } := Ext.grow sm
      cases k with
      | false =>
        rw [if_neg Bool.false_ne_true]
        exact h2 { w2 with H := H3 } g (S2.grow sm) _ (RelD.bl false)
      | true =>
        rw [if_pos rfl]
        refine ⟨w0, { w2 with H := H3 }, env, st2, rfl, R2.step g (S2.grow sm), okP_bind' (okP_ext h2 g) fun dz st4 w4 hz e4 S4 h4 z rz => ?_⟩
        obtain ⟨d', hd', h4⟩ := okP_liftO h4
        have R4 := (R2.step g (S2.grow sm)).step e4 S4
        obtain ⟨_, _, e9, rx, ry⟩ := rs.two
        cases e9
        have ry4 : RelN C (free env σ (escEL [ta, tb] ++ esc tc) w4) (free env σ (escL [ta, tb] ++ esc tc) w4) dy y :=
          ry.le (R2.free_le (g.trans e4) fun j hj => List.mem_append_left _ hj) (R2.free_le (g.trans e4) fun j hj => List.mem_append_left _ hj) (free_sub (escEL_sub _) w2) (free_sub (fun j hj => by
            rcases List.mem_append.mp hj with hj | hj
            · exact List.mem_append_left _ (escEL_sub _ j hj)
            · exact List.mem_append_right _ hj) w4)
        have rz4 : RelN C (free env σ (escEL [ta, tb] ++ esc tc) w4) (free env σ (escL [ta, tb] ++ esc tc) w4) dz z :=
          rz.le (R4.free_le (Ext.refl _) fun j hj => List.mem_append_right _ (escE_sub tc j hj)) (R4.free_le (Ext.refl _) fun j hj => List.mem_append_right _ hj) (free_sub (escE_sub tc) w4) (free_sub (fun j hj => by
            rcases List.mem_append.mp hj with hj | hj
            · exact List.mem_append_left _ (escEL_sub _ j hj)
            · exact List.mem_append_right _ hj) w4)
        have q2 := hs' (free env σ (escEL [ta, tb] ++ esc tc) w4) (free env σ (escL [ta, tb] ++ esc tc) w4) [dy, dz] [y, z] d' Q (free_sub (fun j hj => by
            rcases List.mem_append.mp hj with hj | hj
            · exact List.mem_append_left _ (escEL_sub _ j hj)
            · exact List.mem_append_right _ hj) w4) (free_trk S4) (.cons ry4 (.cons rz4 .nil)) hd' (fun H5 v5 sm5 rv5 => ?_)
        · obtain ⟨_, _, e', q2⟩ := q2
          cases e'
          exact q2
        · refine h4 { w4 with H := H5 } (Ext.grow sm5) (S4.grow sm5) v5 ?_
          obtain ⟨k5, rfl⟩ := cmp_bl hc2 hd'
          cases rv5
          exact RelD.bl k5
theorem chn_bl {o o' : Op} {ta tb tc : T} (hc2 : isCmp o' = true) {env : Env} {st : Store} {d : D} {st' : Store} (h : ev Γ (.chn o o' ta tb tc) env st = .ok d st') : ∃ k, d = .bl k := by
  simp only [ev] at h
  obtain ⟨x, st1, _, h⟩ := bind_ok h
  obtain ⟨y, st2, _, h⟩ := bind_ok h
  split at h
  · obtain ⟨z, st3, _, h⟩ := bind_ok h
    exact cmp_bl hc2 (liftO_ok h).1
  · cases h; exact ⟨_, rfl⟩
  · cases h
theorem sim_chn {op op' : CmpOp} {r r' : R2} {o o' : Op} {a b c : Expr} {ta tb tc : T} {pos : Pos} (ho : OpR X (compareOp op) r) (ho' : OpR X (compareOp op') r') (hs : Sound C o (S2 r)) (hs' : Sound C o' (S2 r')) (hc1 : isCmp o = true) (hc2 : isCmp o' = true)
    (ha : PE X a (tE C W Γ ta)) (hb : PE X b (tE C W Γ tb)) (hc : PE X c (tE C W Γ tc)) (hm : lastMarks [op, op'] [b, c] = false) : PE X (.Compare a [op, op'] [b, c] pos) (tE C W Γ (.chn o o' ta tb tc)) :=
  PE_imp (pe_chain ho ho' ha hb hc hm) fun σ H Q h => sim_chnR hs hs' hc1 hc2 h
theorem sim_chnT {op op' : CmpOp} {r r' : R2} {o o' : Op} {a b c : Expr} {ta tb tc : T} {pos : Pos} (ho : OpR X (compareOp op) r) (ho' : OpR X (compareOp op') r') (hs : Sound C o (S2 r)) (hs' : Sound C o' (S2 r')) (hc1 : isCmp o = true) (hc2 : isCmp o' = true)
    (ha : PE X a (tE C W Γ ta)) (hb : PE X b (tE C W Γ tb)) (hc : PE X c (tE C W Γ tc)) (hm : lastMarks [op, op'] [b, c] = false) : PT X (.Compare a [op, op'] [b, c] pos) (tT C W Γ (.chn o o' ta tb tc)) :=
  PT_imp (pt_chain ho ho' ha hb hc hm) fun σ H Q h => sim_chnR hs hs' hc1 hc2 (tT_bl (fun env st d st' he => chn_bl hc2 he) h)
/-! ### methods with a flat answer -/
theorem RelD.flat {w w' : Wd} {d : D} {v : V} (r : RelD C w d v) (h : isFlat d = true) : RelD C w' d v := by
  cases d <;> first | (cases h; done) | (cases r; first | exact .non | exact .bl _ | exact .int _ | exact .str _)
theorem sim_me {o : Op} {Ty id : String} {name : Str} {r : V → List V → Hp → VK → Prop} {ea e : Expr} {es : List Expr} {ta : T} {ts : List T} {apos cpos : Pos} (hK : X.K = C.K)
    (pa : PlainAttrs Ty) (slot : Slot Ty name id) (hty : typeOf (.builtin id) = pure (.type "method_descriptor")) (hm : MtR X id r)
    (ty : ∀ (w w1 : Wd) (d : D) (v : V), meOk o d = true → RelN C w w1 d v → tyV C.K Ty v w.H) (hf : ∀ ds d, opSem o ds = some d → isFlat d = true)
    (hs : ∀ (w : Wd) (d : D) (ds : List D) (v : V) (vs : List V) (e : D) (Q : VK), RelN C w w d v → RelNs C w w ds vs → meOk o d = true → opSem o (d :: ds) = some e → (∀ u, RelD C w e u → Q u w.H) → r v vs w.H Q)
    (ha : PE X ea (tE C W Γ ta)) (hes : PA X (e :: es) (tL C W Γ ts))
    (hbase : attributeBase ea name X.env (eval ea X.env) = eval ea X.env)
    (hfew : ((backTo cpos (starEach (e :: es) X.env)).all (fun x => !x.1) && (backToKw cpos (keywordEach [] X.env)).all (fun x => x.1.isSome)
      && decide ((e :: es).length + ([] : List Keyword).length + (if ([] : List Keyword).isEmpty then 0 else 1) < 30)) = true)
    (hline : (apos.endLine == cpos.line) = true) (hst : starEach (e :: es) X.env = (false, eval e X.env) :: starEach es X.env) (hpl : (backTo cpos (starEach es X.env)).any (·.1) = false) :
    PE X (.Call (.Attribute ea name apos) (e :: es) [] cpos) (tE C W Γ (.me o ta ts)) :=
  PE_imp (pe_bm pa slot hty hm ha hes hbase hfew hline hst hpl) fun σ H Q h => by
    obtain ⟨w0, w, env, st, rfl, R, h⟩ := h
    simp only [ev] at h
    refine ⟨w0, w, env, st, rfl, R, okP_bind' h fun d st1 w1 _ e1 S1 h1 x rx => ?_⟩
    split at h1
    · rename_i hd
      refine ⟨?_, w0, w1, env, st1, rfl, R.step e1 S1, okP_bind' h1 fun ds st2 w2 _ e2 S2 h2 vs rs => ?_⟩
      · have q := ty _ _ _ _ hd rx
        rw [hK]
        exact q
      · obtain ⟨d', hd', h2⟩ := okP_liftO h2
        have R1 := R.step e1 S1
        have rx2 : RelN C (free env σ (esc ta ++ escL ts) w2) (free env σ (esc ta ++ escL ts) w2) d x := by
          have q : RelN C (free env σ (escE ta) w2) (free env σ (esc ta) w2) d x := rx.le (R1.free_le e2 fun _ z => z) (R1.free_le e2 fun _ z => z) (free_sub (escE_sub ta) _) (free_sub (escE_sub ta) _)
          exact q.up (escE_sub ta) fun j hj => List.mem_append_left _ hj
        have rs2 : RelNs C (free env σ (esc ta ++ escL ts) w2) (free env σ (esc ta ++ escL ts) w2) ds vs :=
          (RelDs.le (free_sub (fun j hj => List.mem_append_right _ hj) w2).le (rs.toDs (free_sub (escEL_sub ts) w2))).toNs
        exact hs (free env σ (esc ta ++ escL ts) w2) d ds x vs d' Q rx2 rs2 hd hd' fun u ru => h2 w2 (Ext.refl _) S2 u ((ru.flat (hf _ _ hd') : RelD C w2 d' u).toNf (escE_sub _))
    · exact h1.elim
/-! ### calls of the module's defs -/
/-- a def's promise by its meaning -/
def spOf (C : PC) (np : Nat) (F : FSem) : Sp := fun vs H Q E => ∃ w ds st, w.H = H ∧ SRel C w st ∧ RelDs C w ds vs ∧ ds.length = np ∧ okP C (fun cls d _ H' => E cls d H') w [] (F ds st) fun w' d _ => ∀ v, RelD C w' d v → Q v w'.H
theorem ownFree_le {env : Env} {σ : L2.St} {js : List Nat} (h : ownFree env js = true) (w : Wd) : Le (free env σ js w) w := by
  refine ⟨fun _ _ h _ _ => h, fun a z => .inl ⟨z, fun o => ?_⟩, Nat.le_refl _, fun _ _ => rfl, fun _ h => h⟩
  obtain ⟨j, hj, d, h1, _⟩ := o
  unfold ownFree at h
  have q := List.all_eq_true.mp h j hj
  rw [h1] at q
  cases q
theorem okP_W {α : Type} {W' : WX} {w : Wd} {σ σ' : L2.St} {r : FY.R α} {k : Wd → α → Store → Prop} (h : okP C W w σ r k) (hW : ∀ cls d H, W cls d σ H → W' cls d σ' H) : okP C W' w σ' r k := by
  cases r with
  | ok d st' => exact h
  | exc x st' => exact fun w' c dx e S X => hW _ _ _ (h w' c dx e S X)
  | stuck => exact h
theorem sim_call {x : Str} {f : Addr} {fd : FuncData} {ps : List Str} {k np j : Nat} {e : Expr} {es : List Expr} {ts : List T} {p pos : Pos} (F : FnOk X.prog X.w X.K X.mg X.base (L2.CX X.prog X.w) k f fd ps (spOf C np (Γ.fn j))) (hr : Room k X.A) (hg : Gl X x) (hm : X.mg x = some (.ref f))
    (hk : PySem.W.keepIn X.K (.ref f) = true) (hb : Binds X.K fd ps []) (tk : Takes X W) (hn : ts.length = np) (ha : PA X (e :: es) (tL C W Γ ts)) (hdb : (x == ("__debug__" : Str)) = false)
    (he : starEach (e :: es) X.env = (false, eval e X.env) :: starEach es X.env) (hpl : (backTo pos (starEach es X.env)).any (·.1) = false) : PE X (.Call (.Name x p) (e :: es) [] pos) (tE C W Γ (.call j ts)) :=
  PE_imp (pe_callS (E := WE W) F hr hg hm hk hb (fun σ => passAt tk σ) ha hdb he hpl) fun σ H Q h => by
    obtain ⟨w0, w, env, st, rfl, R, h⟩ := h
    simp only [ev] at h
    split at h
    · rename_i ho
      refine ⟨w0, w, env, st, rfl, R, okP_bind' h fun ds st1 w1 hev e1 S1 h1 vs rs => ?_⟩
      refine ⟨w1, ds, st1, rfl, S1, (rs.toDs (free_sub (escEL_sub ts) w1)).le (ownFree_le ho w1), (evL_length hev).trans hn, ?_⟩
      exact okP_W (okP_mono h1 fun w2 d st2 e2 S2 h2 v r => h2 v (r.toNf (escE_sub _))) fun _ _ _ q => q
    · exact h.elim
/-! ### shared cells -/
theorem sim_cell {es : List Expr} {ts : List T} {pos : Pos} (hn : ts.length ≤ szL) (ha : PA X es (tL C W Γ ts)) : PE X (.List es pos) (tE C W Γ (.cell ts)) :=
  PE_imp (pe_lst ha) fun σ H Q h => by
    obtain ⟨w0, w, env, st, rfl, R, h⟩ := h
    simp only [ev] at h
    split at h
    · rename_i ho
      refine ⟨w0, w, env, st, rfl, R, okP_bind' h fun ds st1 w1 hev e1 S1 h1 vs rs => ?_⟩
      have r := (rs.toDs (free_sub (escEL_sub ts) w1)).le (ownFree_le ho w1)
      refine ⟨?_, fun p hp => ?_⟩
      · rw [← r.length, evL_length hev, ← szL_eq]; exact hn
      · have sm : Same w1.H (upd w1.H p (.lst vs)) := same_upd hp
        have np : ∀ l, l < w1.n → w1.ρ l ≠ p := fun l hl z => by
          have q := S1.trk _ (S1.bρ hl)
          rw [z, hp] at q
          exact q
        have np' : ¬ w1.B p := none_ban S1.trk hp
        refine h1 { H := upd w1.H p (.lst vs), ρ := fun l => if l = w1.n then p else w1.ρ l, n := w1.n + 1, B := fun a => w1.B a ∨ a = p } ?_ ?_ _ ?_
        · refine ⟨fun a o q _ _ => sm a o q, fun a q => ?_, fun a q => .inl q, fun a q => ?_, Nat.le_succ _, fun l hl => if_neg (Nat.ne_of_lt hl), fun l h1 h2 => ?_⟩
          · exact same_trk (fun b o e _ => sm b o e) q
          · rcases q with q | q
            · exact .inl q
            · rw [q]; exact .inr (Fr.none hp)
          · have e : l = w1.n := by have h2 : l < w1.n + 1 := h2; omega
            show Fr w1.H (if l = w1.n then p else w1.ρ l)
            rw [if_pos e]; exact Fr.none hp
        · have le : Le w1 { H := upd w1.H p (.lst vs), ρ := fun l => if l = w1.n then p else w1.ρ l, n := w1.n + 1, B := fun a => w1.B a ∨ a = p } :=
            ⟨fun a o q _ _ => sm a o q, fun a q => by
              rcases q with q | q
              · exact .inl q
              · rw [q]; exact .inr (Fr.none hp), Nat.le_succ _, fun l hl => if_neg (Nat.ne_of_lt hl), fun _ q => same_trk (fun b o e _ => sm b o e) q⟩
          refine ⟨?_, fun l d hd => ?_, fun l m hl hm e => ?_, fun a q => ?_, S1.tabs.ext sm⟩
          · show w1.n + 1 = (st1 ++ [D.lst ds]).length
            rw [List.length_append, S1.len]; rfl
          · show (w1.B (if l = w1.n then p else w1.ρ l) ∨ (if l = w1.n then p else w1.ρ l) = p) ∧ CRel C _ (if l = w1.n then p else w1.ρ l) d
            by_cases hl : l = w1.n
            · rw [if_pos hl]
              rw [hl, S1.len, List.getElem?_append_right (Nat.le_refl _), Nat.sub_self] at hd
              cases hd
              exact ⟨.inr rfl, vs, upd_same, r.le le⟩
            · rw [if_neg hl]
              have hlt : l < st1.length := by
                have q := (List.getElem?_eq_some_iff.mp hd).1
                rw [List.length_append] at q
                have q2 := S1.len
                simp at q
                omega
              rw [List.getElem?_append_left hlt] at hd
              obtain ⟨c1, c2⟩ := S1.cell l d hd
              exact ⟨.inl c1, c2.le le fun o q _ => sm _ _ q⟩
          · have e : (if l = w1.n then p else w1.ρ l) = (if m = w1.n then p else w1.ρ m) := e
            have hl : l < w1.n + 1 := hl
            have hm : m < w1.n + 1 := hm
            by_cases h1 : l = w1.n
            · by_cases h2 : m = w1.n
              · omega
              · rw [if_pos h1, if_neg h2] at e
                exact absurd e.symm (np m (by omega))
            · by_cases h2 : m = w1.n
              · rw [if_neg h1, if_pos h2] at e
                exact absurd e (np l (by omega))
              · rw [if_neg h1, if_neg h2] at e
                exact S1.inj l m (by omega) (by omega) e
          · show Mut (upd w1.H p (.lst vs) a)
            rcases q with q | q
            · have z := S1.trk a q
              cases e : w1.H a with
              | none => rw [e] at z; exact z.elim
              | some o => rw [e] at z; rw [sm a o e]; exact z
            · rw [q, upd_same]; trivial
        · have q : RelD C { H := upd w1.H p (.lst vs), ρ := fun l => if l = w1.n then p else w1.ρ l, n := w1.n + 1, B := fun a => w1.B a ∨ a = p } (.ref w1.n) (.ref (if w1.n = w1.n then p else w1.ρ w1.n)) := RelD.ref (C := C) (w := { H := upd w1.H p (.lst vs), ρ := fun l => if l = w1.n then p else w1.ρ l, n := w1.n + 1, B := fun a => w1.B a ∨ a = p }) (l := w1.n) (Nat.lt_succ_self _)
          rw [if_pos rfl] at q
          rw [← S1.len]
          exact q.toNf (escE_sub _)
    · exact h.elim
theorem getRef_some {env : Env} {i l : Nat} (h : getRef env i = some l) : env[i]? = some (.val (.ref l)) := by
  unfold getRef at h
  split at h
  · cases h; assumption
  · cases h
theorem sim_subc {i : Nat} {x : Str} {b : Expr} {tb : T} {pos p : Pos} (hK : X.K = C.K) (hN : X.N[i]? = some x) (hv : Vis X.env.scope x) (hd : (x == ("__debug__" : Str)) = false) (hcd : (x == ("__classdict__" : Str)) = false) (hb : PE X b (tE C W Γ tb)) (hs : PlainIx b) :
    PE X (.Subscript (.Name x p) b pos) (tE C W Γ (.subc i tb)) :=
  PE_imp (pe_ix ix_list (pe_var hN hv hd hcd) hb hs) fun σ H Q h => by
    obtain ⟨w0, w, env, st, rfl, R, h⟩ := h
    simp only [ev] at h
    split at h
    · rename_i l hl
      obtain ⟨v, h1, h2⟩ := R.slot i _ (getRef_some hl)
      obtain ⟨a, rfl, ra⟩ := h2.val_some
      cases ra with
      | ref hln =>
      refine ⟨.ref (w.ρ l), h1, w0, w, env, st, rfl, R, okP_bind' h fun d st1 w1 hev e1 S1 h3 y ry => ?_⟩
      obtain ⟨d', hd', h4⟩ := okP_liftO h3
      obtain ⟨c, hc, hop⟩ := Option.bind_eq_some_iff.mp hd'
      obtain ⟨c1, c2⟩ := S1.cell l c hc
      rw [e1.ρ l hln] at c2
      obtain ⟨_, _, e9, hop2⟩ := two_some (show two ixD [c, d] = some d' from hop)
      cases e9
      clear hop
      cases c with
      | lst es =>
        obtain ⟨vs, hH, rvs⟩ := c2
        obtain ⟨k, rfl, hop3⟩ : ∃ k, d = .int k ∧ ((ixI es.length k).bind fun k => es[k]?) = some d' := by
          cases d <;> first | exact ⟨_, rfl, hop2⟩ | cases hop2
        obtain ⟨j, hj, hd⟩ := Option.bind_eq_some_iff.mp hop3
        obtain ⟨v, hv, rv⟩ := rvs.get hd
        refine ⟨_, vs, k, v, rfl, ry.intE, .inl (.inl hH), ?_, h4 w1 (Ext.refl _) S1 v (rv.toNf (escE_sub _))⟩
        unfold atI
        rw [← rvs.length, show ixN es.length k = some j from hj]
        exact hv
      | dct ks vs => cases d <;> cases hop2
      | _ => exact c2.elim
    · exact h.elim
end
end FY

end

section
set_option maxRecDepth 100000
/-! Fy10: the frame's state is changed. -/
namespace FY
open PySem PySem.Spec PyProof.Rows L2
section
variable {C : PC} {w0 w w' : Wd} {env : Env} {st : Store} {σ : L2.St}
theorem set_get {α : Type} {l : List α} {i j : Nat} {x y : α} (h : (l.set i x)[j]? = some y) : (j = i ∧ y = x ∧ i < l.length) ∨ (j ≠ i ∧ l[j]? = some y) := by
  by_cases e : j = i
  · subst e
    by_cases hl : j < l.length
    · rw [List.getElem?_set_self hl] at h
      cases h
      exact .inl ⟨rfl, rfl, hl⟩
    · rw [List.getElem?_eq_none (by simpa using hl)] at h
      cases h
  · rw [List.getElem?_set_ne (Ne.symm e)] at h
    exact .inr ⟨e, h⟩
theorem set_at {α : Type} {l : List α} {i : Nat} {x : α} (h : i < l.length) : (l.set i x)[i]? = some x := List.getElem?_set_self h
theorem set_off {α : Type} {l : List α} {i j : Nat} {x : α} (h : j ≠ i) : (l.set i x)[j]? = l[j]? := List.getElem?_set_ne (Ne.symm h)
/-- a name gets a tree -/
theorem Rel.setV (R : Rel C w0 w env st σ) {i : Nat} {d : D} {v : V} (r : RelD C w d v) : Rel C w0 w (env.set i (.val d)) st (σ.set i (some v)) where
  ext := R.ext
  trk0 := R.trk0
  store := R.store
  len := by rw [List.length_set, List.length_set]; exact R.len
  slot := fun j s h => by
    rcases set_get h with ⟨rfl, rfl, hl⟩ | ⟨hj, h⟩
    · exact ⟨some v, set_at (by rw [← R.len]; exact hl), r⟩
    · rw [set_off hj]; exact R.slot j s h
  apart := fun j k d1 d2 a h1 h2 h3 h4 => by
    rcases set_get h1 with ⟨rfl, e, _⟩ | ⟨hj, h1⟩
    · cases e
    · rcases set_get h2 with ⟨rfl, e, _⟩ | ⟨hk, h2⟩
      · cases e
      · rw [set_off hj] at h3
        rw [set_off hk] at h4
        exact R.apart j k d1 d2 a h1 h2 h3 h4
/-- a name gets an object of its own -/
theorem Rel.setO (R : Rel C w0 w env st σ) {i : Nat} {d : D} {a : Addr} (hb : w.B a) (hc : CRel C w a d) (hn : Fr w0.H a) (hl : ∀ l, l < w.n → w.ρ l ≠ a) (ha : ∀ j d', j ≠ i → env[j]? = some (.own d') → σ[j]? ≠ some (some (.ref a))) :
    Rel C w0 w (env.set i (.own d)) st (σ.set i (some (.ref a))) where
  ext := R.ext
  trk0 := R.trk0
  store := R.store
  len := by rw [List.length_set, List.length_set]; exact R.len
  slot := fun j s h => by
    rcases set_get h with ⟨rfl, rfl, hl'⟩ | ⟨hj, h⟩
    · exact ⟨some (.ref a), set_at (by rw [← R.len]; exact hl'), hb, hc, hn, hl⟩
    · rw [set_off hj]; exact R.slot j s h
  apart := fun j k d1 d2 b h1 h2 h3 h4 => by
    rcases set_get h1 with ⟨ej, e, hl1⟩ | ⟨hj, g1⟩
    · subst ej
      rcases set_get h2 with ⟨ek, e2, _⟩ | ⟨hk, g2⟩
      · exact ek.symm
      · rw [set_at (by rw [← R.len]; exact hl1)] at h3
        cases h3
        rw [set_off hk] at h4
        exact absurd h4 (ha k d2 hk g2)
    · rcases set_get h2 with ⟨ek, e2, hl2⟩ | ⟨hk, g2⟩
      · subst ek
        rw [set_at (by rw [← R.len]; exact hl2)] at h4
        cases h4
        rw [set_off hj] at h3
        exact absurd h3 (ha j d1 hj g1)
      · rw [set_off hj] at h3
        rw [set_off hk] at h4
        exact R.apart j k d1 d2 b g1 g2 h3 h4
/-- a name's value is forgotten -/
theorem Rel.setN (R : Rel C w0 w env st σ) {i : Nat} {v : Option V} : Rel C w0 w (env.set i .none) st (σ.set i v) where
  ext := R.ext
  trk0 := R.trk0
  store := R.store
  len := by rw [List.length_set, List.length_set]; exact R.len
  slot := fun j s h => by
    rcases set_get h with ⟨rfl, rfl, hl⟩ | ⟨hj, h⟩
    · exact ⟨v, set_at (by rw [← R.len]; exact hl), trivial⟩
    · rw [set_off hj]; exact R.slot j s h
  apart := fun j k d1 d2 a h1 h2 h3 h4 => by
    rcases set_get h1 with ⟨rfl, e, _⟩ | ⟨hj, h1⟩
    · cases e
    · rcases set_get h2 with ⟨rfl, e, _⟩ | ⟨hk, h2⟩
      · cases e
      · rw [set_off hj] at h3
        rw [set_off hk] at h4
        exact R.apart j k d1 d2 a h1 h2 h3 h4
theorem Rel.wipe (R : Rel C w0 w env st σ) : ∀ vs : List Nat, Rel C w0 w (wipeE env vs) st (L2.wipe σ vs)
  | [] => R
  | v :: vs => (Rel.wipe R vs).setN
/-- the store's cells under a smaller ban -/
theorem Rel.store_free (R : Rel C w0 w env st σ) (js : List Nat) : SRel C (free env σ js w) st where
  len := R.store.len
  cell := fun l d h => by
    obtain ⟨c1, c2⟩ := R.store.cell l d h
    refine ⟨⟨c1, fun ⟨j, _, d', h1, h2⟩ => ?_⟩, c2.le to_free fun o q _ => q⟩
    obtain ⟨v, h3, h4⟩ := R.slot j _ h1
    obtain ⟨a, rfl, hb, hc, hn, hl⟩ := h4.own_ref
    rw [h2] at h3
    cases h3
    have hlt : l < w.n := by rw [R.store.len]; exact (List.getElem?_eq_some_iff.mp h).1
    exact hl l hlt rfl
  inj := R.store.inj
  trk := fun a h => R.store.trk a h.1
  tabs := R.store.tabs
theorem Rel.ext_free (R : Rel C w0 w env st σ) (js : List Nat) : Ext w0 (free env σ js w) where
  keep := R.ext.keep
  trk := R.ext.trk
  up := fun a h => ⟨R.ext.up a h, fun ⟨j, _, d', h1, h2⟩ => by
    obtain ⟨v, h3, h4⟩ := R.slot j _ h1
    obtain ⟨b, rfl, hb, hc, hn, hl⟩ := h4.own_ref
    rw [h2] at h3
    cases h3
    exact hn.mut (R.trk0 _ h)⟩
  ban := fun a h => R.ext.ban a h.1
  n := R.ext.n
  ρ := R.ext.ρ
  new := R.ext.new
theorem Rel.frz1 (R : Rel C w0 w env st σ) {j : Nat} {d : D} (hj : env[j]? = some (.own d)) : Rel C w0 (free env σ [j] w) (env.set j (.val d)) st σ where
  ext := R.ext_free [j]
  trk0 := R.trk0
  store := R.store_free [j]
  len := by rw [List.length_set]; exact R.len
  slot := fun i s h => by
    rcases set_get h with ⟨rfl, rfl, hl⟩ | ⟨hi, g⟩
    · obtain ⟨v, h1, h2⟩ := R.slot i _ hj
      obtain ⟨a, rfl, hb, hc, hn, hl⟩ := h2.own_ref
      refine ⟨_, h1, ?_⟩
      have nb : ¬ (free env σ [i] w).B a := fun z => z.2 ⟨i, by simp, d, hj, h1⟩
      exact (hc.le (to_free (env := env) (σ := σ) (js := [i])) fun o q _ => q).tree nb
    · obtain ⟨v, h1, h2⟩ := R.slot i _ g
      refine ⟨v, h1, ?_⟩
      cases s with
      | none => trivial
      | val d' =>
        obtain ⟨x, rfl, r⟩ := h2.val_some
        exact r.le to_free
      | own d' =>
        obtain ⟨a, rfl, hb, hc, hn, hl⟩ := h2.own_ref
        refine ⟨⟨hb, fun ⟨k, hk, d2, h3, h4⟩ => ?_⟩, hc.le to_free fun o q _ => q, hn, hl⟩
        have e : k = j := by simpa using hk
        subst e
        exact hi (R.apart i k d' d2 a g h3 h1 h4)
      | exc x =>
        obtain ⟨a, cls, dx, rfl, h1, h2⟩ := h2.exc_ref
        exact ⟨cls, dx, h1, h2.le to_free⟩
      | fnv =>
        obtain ⟨a, rfl, q1⟩ := h2.fn_ref
        exact q1
  apart := fun i k d1 d2 a h1 h2 h3 h4 => by
    rcases set_get h1 with ⟨rfl, e, _⟩ | ⟨hi, h1⟩
    · cases e
    · rcases set_get h2 with ⟨rfl, e, _⟩ | ⟨hk, h2⟩
      · cases e
      · exact R.apart i k d1 d2 a h1 h2 h3 h4
theorem Sub.trans {a b c : Wd} (h : Sub a b) (h' : Sub b c) : Sub a c := ⟨h'.H.trans h.H, h'.ρ.trans h.ρ, h'.n.trans h.n, fun x q => h.B x (h'.B x q)⟩
theorem frzE_own {j i : Nat} {d : D} : ∀ {js : List Nat}, (frzE env js)[i]? = some (.own d) → env[i]? = some (.own d) ∧ i ∉ js
  | [], h => ⟨h, by simp⟩
  | k :: js, h => by
    unfold frzE at h
    split at h
    · rename_i d' hd
      rcases set_get h with ⟨rfl, e, _⟩ | ⟨hi, h⟩
      · cases e
      · obtain ⟨h1, h2⟩ := frzE_own (j := j) h
        exact ⟨h1, by simp only [List.mem_cons, not_or]; exact ⟨hi, h2⟩⟩
    · rename_i hd
      obtain ⟨h1, h2⟩ := frzE_own (j := j) h
      refine ⟨h1, ?_⟩
      simp only [List.mem_cons, not_or]
      refine ⟨fun e => ?_, h2⟩
      subst e
      exact hd d h
/-- own objects become trees -/
theorem Rel.frzK (R : Rel C w0 w env st σ) : ∀ js : List Nat, ∃ w', Sub w w' ∧ Rel C w0 w' (frzE env js) st σ ∧ (∀ a, w'.B a → ¬ OwnAt env σ js a) ∧ ∀ a, w.B a → ¬ OwnAt env σ js a → w'.B a
  | [] => ⟨w, Sub.refl w, R, fun a _ ⟨j, hj, _⟩ => by simp at hj, fun a q _ => q⟩
  | j :: js => by
    obtain ⟨w', s, R', hb, hk⟩ := Rel.frzK R js
    unfold frzE
    split
    · rename_i d hd
      refine ⟨free (frzE env js) σ [j] w', s.trans ⟨rfl, rfl, rfl, fun a q => q.1⟩, R'.frz1 hd, fun a q => ?_, fun a q n => ⟨hk a q fun o => n (o.mono fun _ z => List.mem_cons_of_mem _ z), ?_⟩⟩
      · rintro ⟨k, hk, d', h1, h2⟩
        rcases List.mem_cons.mp hk with rfl | hk
        · exact q.2 ⟨k, by simp, d, hd, by
            obtain ⟨h3, _⟩ := frzE_own (j := k) hd
            rw [h3] at h1
            exact h2⟩
        · exact hb a q.1 ⟨k, hk, d', h1, h2⟩
      · rintro ⟨k, hk, d', h1, h2⟩
        have e : k = j := by simpa using hk
        subst e
        exact n ⟨k, by simp, d', (frzE_own (j := k) h1).1, h2⟩
    · rename_i hd
      refine ⟨w', s, R', fun a q => ?_, fun a q n => hk a q fun o => n (o.mono fun _ z => List.mem_cons_of_mem _ z)⟩
      rintro ⟨k, hk, d', h1, h2⟩
      rcases List.mem_cons.mp hk with rfl | hk
      · by_cases hm : k ∈ js
        · exact hb a q ⟨k, hm, d', h1, h2⟩
        · exfalso
          have z : ∀ {js : List Nat}, k ∉ js → (frzE env js)[k]? = some (.own d') := by
            intro js
            induction js with
            | nil => intro _; exact h1
            | cons i is ih =>
              intro hn
              simp only [List.mem_cons, not_or] at hn
              unfold frzE
              split
              · rw [set_off hn.1]; exact ih hn.2
              · exact ih hn.2
          exact hd d' (z hm)
      · exact hb a q ⟨k, hk, d', h1, h2⟩
theorem Rel.frz (R : Rel C w0 w env st σ) (js : List Nat) : ∃ w', Sub w w' ∧ Rel C w0 w' (frzE env js) st σ ∧ ∀ a, w'.B a → ¬ OwnAt env σ js a :=
  let ⟨w', s, R', h, _⟩ := R.frzK js; ⟨w', s, R', h⟩
/-- a value that was read ahead of it -/
theorem frz_le {js : List Nat} {w' : Wd} (s : Sub w w') (h : ∀ a, w'.B a → ¬ OwnAt env σ js a) : Le (free env σ js w) w' :=
  ⟨fun a o q _ _ => by rw [s.H]; exact q, fun a q => .inl ⟨s.B a q, h a q⟩, by rw [s.n]; exact Nat.le_refl _, fun l _ => by show w'.ρ l = w.ρ l; rw [s.ρ], fun a q => by rw [s.H]; exact q⟩
end
end FY

end

section
set_option maxRecDepth 100000
/-! Fy11: targets, what is walked. -/
namespace FY
open PySem PySem.Spec PyProof.Rows L2
theorem PG_imp {X : Cx} {e : Expr} {t t' : L2.TG} (h : PG X e t) (i : ∀ v σ H Q, t' v σ H Q → t v σ H Q) : PG X e t' := ⟨fun pins s σ H v u Q I r q => h.run pins s σ H v u Q I r (i v σ H Q q)⟩
theorem PGs_imp {X : Cx} {e : List Expr} {t t' : L2.TGs} (h : PGs X e t) (i : ∀ v σ H Q, t' v σ H Q → t v σ H Q) : PGs X e t' := ⟨fun pins s σ H v u Q I r q => h.run pins s σ H v u Q I r (i v σ H Q q)⟩
theorem PG_or {X : Cx} {e : Expr} {t t' : L2.TG} (h : PG X e t) (h' : PG X e t') : PG X e (fun v σ H Q => t v σ H Q ∨ t' v σ H Q) := ⟨fun pins s σ H v u Q I r q => by
  rcases q with q | q
  · exact h.run pins s σ H v u Q I r q
  · exact h'.run pins s σ H v u Q I r q⟩
theorem PI_imp {X : Cx} {tg e : Expr} {t t' : L2.TI} (h : PI X tg e t) (i : ∀ σ H R, t' σ H R → t σ H R) : PI X tg e t' := ⟨fun pins s σ H R I q => h.run pins s σ H R I (i σ H R q)⟩
theorem PS_imp {X : Cx} {e : Stmt} {t t' : L2.TS} (h : PS X e t) (i : ∀ D σ H, t' D σ H → t D σ H) : PS X e t' := ⟨fun pins s σ H D I q => h.run pins s σ H D I (i D σ H q)⟩
theorem PSs_imp {X : Cx} {e : List Stmt} {t t' : L2.TS} (h : PSs X e t) (i : ∀ D σ H, t' D σ H → t D σ H) : PSs X e t' := ⟨fun pins s σ H D I q => h.run pins s σ H D I (i D σ H q)⟩
/-- where two frames agree -/
def Off (js : List Nat) (σ σ' : L2.St) : Prop := σ'.length = σ.length ∧ ∀ j, j ∉ js → σ'[j]? = σ[j]?
theorem Off.refl (js : List Nat) (σ : L2.St) : Off js σ σ := ⟨rfl, fun _ _ => rfl⟩
theorem Off.trans {js ks : List Nat} {σ σ' σ'' : L2.St} (h : Off js σ σ') (h' : Off ks σ' σ'') : Off (js ++ ks) σ σ'' :=
  ⟨h'.1.trans h.1, fun j hj => (h'.2 j fun z => hj (List.mem_append_right _ z)).trans (h.2 j fun z => hj (List.mem_append_left _ z))⟩
theorem wipe_at : ∀ (vs : List Nat) (σ : L2.St) (j : Nat), j < σ.length → (L2.wipe σ vs)[j]? = if j ∈ vs then some none else σ[j]?
  | [], σ, j, h => by simp [L2.wipe]
  | v :: vs, σ, j, h => by
    show ((L2.wipe σ vs).set v none)[j]? = _
    by_cases e : j = v
    · subst e
      rw [set_at (by rw [wipe_length]; exact h), if_pos (by simp)]
    · rw [set_off e, wipe_at vs σ j h]
      by_cases q : j ∈ vs
      · rw [if_pos q, if_pos (by simp [q])]
      · rw [if_neg q, if_neg (by simp [e, q])]
theorem Off.wipe {js : List Nat} {σ σ' : L2.St} (h : Off js (L2.wipe σ js) σ') : L2.wipe σ' js = L2.wipe σ js := by
  have hl := h.1
  rw [wipe_length] at hl
  refine List.ext_getElem? fun j => ?_
  by_cases q : j < σ.length
  · rw [wipe_at js σ' j (by omega), wipe_at js σ j q]
    by_cases m : j ∈ js
    · rw [if_pos m, if_pos m]
    · rw [if_neg m, if_neg m, h.2 j m, wipe_at js σ j q, if_neg m]
  · rw [List.getElem?_eq_none (by rw [wipe_length]; omega), List.getElem?_eq_none (by rw [wipe_length]; omega)]
section
variable {C : PC} {W : WX} {Γ : GS} {X : Cx}
def tG (C : PC) (g : Tg) : L2.TG := fun v σ H Q => ∃ w0 w env st d env1, w.H = H ∧ Rel C w0 w env st σ ∧ RelD C w d v ∧ tgSet g d env = some env1 ∧ ∀ σ', Rel C w0 w env1 st σ' → Off (tgSlots g) σ σ' → Q σ' H
def tGs (C : PC) (gs : List Tg) : L2.TGs := fun vs σ H Q => ∃ w0 w env st ds env1, w.H = H ∧ Rel C w0 w env st σ ∧ RelDs C w ds vs ∧ tgsSet gs ds env = some env1 ∧ ∀ σ', Rel C w0 w env1 st σ' → Off (tgsSlots gs) σ σ' → Q σ' H
theorem sim_nm {i : Nat} {x : Str} {pos : Pos} (hN : X.N.Nodup) (hi : X.N[i]? = some x) (hx : Loc X.env.scope x) (hf : X.fn x = true ∨ X.env.scope.names.lookup x = some .local) : PG X (.Name x pos) (tG C (.nm i)) :=
  PG_imp (pg_name hN hi hx hf) fun v σ H Q h => by
    obtain ⟨w0, w, env, st, d, env1, rfl, R, r, e, k⟩ := h
    simp only [tgSet, Option.some.injEq] at e
    subst e
    refine k _ (R.setV r) ⟨by rw [List.length_set], fun j hj => ?_⟩
    simp only [tgSlots, List.mem_singleton] at hj
    exact set_off hj
theorem sim_gnil : PGs X [] (tGs C []) := PGs_imp pgs_nil fun vs σ H Q h => by
  obtain ⟨w0, w, env, st, ds, env1, rfl, R, r, e, k⟩ := h
  cases ds with
  | nil =>
    simp only [tgsSet, Option.some.injEq] at e
    subst e
    exact ⟨r.nil_l, k _ R (Off.refl _ _)⟩
  | cons d ds => simp [tgsSet] at e
theorem sim_gcons {e : Expr} {es : List Expr} {g : Tg} {gs : List Tg} (h1 : PG X e (tG C g)) (h2 : PGs X es (tGs C gs)) (hs : (assignEach (e :: es) X.env).map (·.2) = assign e X.env :: (assignEach es X.env).map (·.2)) : PGs X (e :: es) (tGs C (g :: gs)) :=
  PGs_imp (pgs_cons h1 h2 hs) fun vs σ H Q h => by
    obtain ⟨w0, w, env, st, ds, env1, rfl, R, r, e, k⟩ := h
    cases r with
    | nil => simp [tgsSet] at e
    | cons r rs =>
      simp only [tgsSet] at e
      obtain ⟨env2, e1, e2⟩ := Option.bind_eq_some_iff.mp e
      refine ⟨_, _, rfl, w0, w, env, st, _, env2, rfl, R, r, e1, fun σ' R' o' => ?_⟩
      refine ⟨w0, w, env2, st, _, env1, rfl, R', rs, e2, fun σ'' R'' o'' => k σ'' R'' ?_⟩
      simp only [tgsSlots]
      exact o'.trans o''
theorem tgsSet_length : ∀ {gs : List Tg} {ds : List D} {env env1 : Env}, tgsSet gs ds env = some env1 → ds.length = gs.length
  | [], [], _, _, _ => rfl
  | [], _ :: _, _, _, h => by simp [tgsSet] at h
  | _ :: _, [], _, _, h => by simp [tgsSet] at h
  | g :: gs, d :: ds, env, env1, h => by
    simp only [tgsSet] at h
    obtain ⟨env2, e1, e2⟩ := Option.bind_eq_some_iff.mp h
    rw [List.length_cons, List.length_cons, tgsSet_length e2]
theorem sim_gtup {es : List Expr} {k : Nat} {gs : List Tg} {pos : Pos} (hK : X.K = C.K) (hc : X.calm = true) (h : PGs X es (tGs C gs)) (hn : (assignEach es X.env).length = gs.length) (hst : (assignEach es X.env).findIdx? (·.1) = none) : PG X (.Tuple es k pos) (tG C (.tup gs)) :=
  PG_imp (PG_or (pg_tup hc h hn hst) (pg_lst hc h hn hst)) fun v σ H Q h => by
    obtain ⟨w0, w, env, st, d, env1, rfl, R, r, e, kk⟩ := h
    cases d with
    | tup ds =>
      simp only [tgSet] at e
      obtain ⟨a, vs, rfl, hh, rs⟩ := r.toN
      refine .inl ⟨a, vs, rfl, ?_, ?_, w0, w, env, st, ds, env1, rfl, R, rs, e, fun σ' R' o => kk σ' R' (by simpa only [tgSlots] using o)⟩
      · rw [hK]; exact SqT_of hh
      · rw [← rs.length, tgsSet_length e]
    | lst ds =>
      simp only [tgSet] at e
      obtain ⟨a, vs, rfl, hb, hh, rs⟩ := r.toN
      refine .inr ⟨a, vs, rfl, .inl (.inl hh), ?_, w0, w, env, st, ds, env1, rfl, R, rs, e, fun σ' R' o => kk σ' R' (by simpa only [tgSlots] using o)⟩
      rw [← rs.length, tgsSet_length e]
    | _ => simp [tgSet] at e

/-! ### what is walked -/
structure ItOk (C : PC) (we wt : Wd) (its : List D) (J : It) : Prop where
  run : ∀ we' wt', Le we we' → Le wt wt' → Sub we' wt' → (∀ a, we'.B a → Mut (we'.H a)) → J.stop its.length we'.H ∧ ∀ i d, its[i]? = some d → J.go i we'.H ∧ ∀ x H', J.yld i we'.H x H' → Same we'.H H' ∧ RelD C { we' with H := H' } d x
def tI (C : PC) (W : WX) (Γ : GS) (k : ItK) (as : List T) : L2.TI := fun σ H R => ∃ w0 w env st, w.H = H ∧ Rel C w0 w env st σ ∧
  okP C W w σ (evL Γ as env st) fun w' ds _ => ∃ its, itSem k ds = some its ∧ ∀ J, ItOk C (free env σ (escEL as) w') (free env σ (escL as) w') its J → R J w'.H
/-- a list or a tuple -/
def iSeq (K : PySem.W.Frag) (tl : TE) : L2.TI := fun σ H R => tl σ H fun x H1 => ∃ a, x = .ref a ∧ (((∃ xs, SqL K H1 a xs) ∧ R (Itl K a) H1) ∨ ((∃ xs, SqT K H1 a xs) ∧ R (Itt K a) H1))
theorem pi_seq {tg l : Expr} {tl : TE} (hl : PE X l tl) : PI X tg l (iSeq X.K tl) := by
  refine ⟨fun pins s σ H R I h => ?_⟩
  refine thn (hl.run pins s σ H _ I h) fun v s1 ⟨x, H1, I1, r1, q1⟩ => ?_
  obtain ⟨a, e, q1⟩ := q1
  subst e
  cases r1
  rcases q1 with ⟨⟨xs, hq⟩, q⟩ | ⟨⟨xs, hq⟩, q⟩
  · obtain ⟨its, rv, p, hz⟩ := I1.list hq
    refine wpAny_pyIter_list p.isList ?_
    refine ⟨s1.heap.objs.size, [s1.heap.objs.size], _, _, H1, rfl, I1.kept (t' := s1.toks) fun b o e => Heap.get?_push_of_some _ e, turn_list a _, ⟨_, Heap.get?_push_size _ rfl, rfl, rfl⟩, fun b hb => ?_, q⟩
    have e : b = s1.heap.objs.size := by simpa using hb
    subst e
    exact I1.fpOk (Nat.le_refl _) (I1.hok.fresh (Nat.le_refl _))
  · obtain ⟨its, rv, p, hz⟩ := I1.tuple hq
    refine wpAny_pyIter_tuple (show s1.heap.IsTuple a its.toArray from p) ?_
    refine ⟨s1.heap.objs.size, [s1.heap.objs.size], _, _, H1, rfl, I1.kept (t' := s1.toks) fun b o e => Heap.get?_push_of_some _ e, turn_tuple a _, ⟨_, Heap.get?_push_size _ rfl, rfl, rfl⟩, fun b hb => ?_, q⟩
    have e : b = s1.heap.objs.size := by simpa using hb
    subst e
    exact I1.fpOk (Nat.le_refl _) (I1.hok.fresh (Nat.le_refl _))
theorem itl_ok {we wt : Wd} {ds : List D} {vs : List V} {a : Addr} (s : Sub we wt) (hb : ¬ wt.B a) (hh : we.H a = some (.lst vs)) (rs : RelDs C we ds vs) : ItOk C we wt ds (Itl C.K a) := by
  refine ⟨fun we' wt' le lt sb tr => ?_⟩
  have h1 : we'.H a = some (.lst vs) := by
    rw [← sb.H]
    exact lt.keep a _ (by rw [s.H]; exact hh) hb ne_tbl_lst
  have q : SqL C.K we'.H a vs := .inl (.inl h1)
  refine ⟨⟨vs, q, by rw [rs.length]; exact Nat.le_refl _⟩, fun i d hd => ?_⟩
  obtain ⟨v, hv, rv⟩ := rs.get hd
  refine ⟨⟨vs, v, q, hv⟩, fun x H' ⟨e, k⟩ => ?_⟩
  subst e
  have := k vs q
  rw [hv] at this
  cases this
  exact ⟨fun _ _ z => z, rv.le le⟩
theorem itt_ok {we wt : Wd} {ds : List D} {vs : List V} {a : Addr} (s : Sub we wt) (hh : (¬ wt.B a ∧ we.H a = some (.tup vs)) ∨ TupK C.K a vs) (rs : RelDs C we ds vs) : ItOk C we wt ds (Itt C.K a) := by
  refine ⟨fun we' wt' le lt sb tr => ?_⟩
  have q : SqT C.K we'.H a vs := by
    rcases hh with ⟨hb, hh⟩ | hh
    · refine .inl (.inl ?_)
      rw [← sb.H]
      exact lt.keep a _ (by rw [s.H]; exact hh) hb ne_tbl_tup
    · exact .inr hh
  refine ⟨⟨vs, q, by rw [rs.length]; exact Nat.le_refl _⟩, fun i d hd => ?_⟩
  obtain ⟨v, hv, rv⟩ := rs.get hd
  refine ⟨⟨vs, v, q, hv⟩, fun x H' ⟨e, k⟩ => ?_⟩
  subst e
  have := k vs q
  rw [hv] at this
  cases this
  exact ⟨fun _ _ z => z, rv.le le⟩
theorem sim_itval {tg l : Expr} {t : T} (hK : X.K = C.K) (h : PE X l (tE C W Γ t)) : PI X tg l (tI C W Γ .val [t]) :=
  PI_imp (pi_seq h) fun σ H R h => by
    refine tL_one ?_
    obtain ⟨w0, w, env, st, rfl, Rr, h⟩ := h
    refine ⟨w0, w, env, st, rfl, Rr, okP_mono h fun w1 ds st1 e1 S1 h1 vs rs x ex => ?_⟩
    subst ex
    obtain ⟨its, hi, k⟩ := h1
    have sb := free_sub (env := env) (σ := σ) (escEL_sub [t]) w1
    rw [hK]
    cases rs with
    | cons r t =>
      cases t
      cases ‹D› with
      | lst es =>
        simp only [itSem, Option.some.injEq] at hi
        subst hi
        obtain ⟨a, vs, rfl, hb, hh, rs⟩ := r
        exact ⟨a, rfl, .inl ⟨⟨vs, .inl (.inl hh)⟩, k _ (itl_ok sb hb hh rs)⟩⟩
      | tup es =>
        simp only [itSem, Option.some.injEq] at hi
        subst hi
        obtain ⟨a, vs, rfl, hh, rs⟩ := r
        exact ⟨a, rfl, .inr ⟨⟨vs, SqT_of hh⟩, k _ (itt_ok sb hh rs)⟩⟩
      | _ => simp [itSem] at hi
theorem rangeD_length : ∀ (n : Nat) (a : Int), (rangeD a n).length = n
  | 0, _ => rfl
  | n + 1, a => by rw [rangeD, List.length_cons, rangeD_length n]
theorem rangeD_get : ∀ (n : Nat) (a : Int) (i : Nat), (rangeD a n)[i]? = if i < n then some (.int (a + i)) else none
  | 0, _, _ => by simp [rangeD]
  | n + 1, a, 0 => by simp [rangeD]
  | n + 1, a, i + 1 => by
    rw [rangeD, List.getElem?_cons_succ, rangeD_get n]
    by_cases h : i < n
    · rw [if_pos h, if_pos (by omega)]
      have e : a + 1 + (i : Int) = a + ((i + 1 : Nat) : Int) := by omega
      rw [e]
    · rw [if_neg h, if_neg (by omega)]
theorem rangeC_length : ∀ (n : Nat) (a c : Int), (rangeC a c n).length = n
  | 0, _, _ => rfl
  | n + 1, a, c => by rw [rangeC, List.length_cons, rangeC_length n]
theorem rangeC_get : ∀ (n : Nat) (a c : Int) (i : Nat), (rangeC a c n)[i]? = if i < n then some (.int (a + (i : Nat) * c)) else none
  | 0, _, _, _ => by simp [rangeC]
  | n + 1, a, c, 0 => by simp [rangeC]
  | n + 1, a, c, i + 1 => by
    rw [rangeC, List.getElem?_cons_succ, rangeC_get n]
    by_cases h : i < n
    · rw [if_pos h, if_pos (by omega)]
      have e : a + c + (i : Int) * c = a + ((i + 1 : Nat) : Int) * c := by
        have e2 : ((i + 1 : Nat) : Int) = (i : Int) + 1 := by omega
        rw [e2, Int.add_mul, Int.one_mul]; omega
      rw [e]
    · rw [if_neg h, if_neg (by omega)]
theorem itr_ok {we wt : Wd} (lo : Int) (n : Nat) : ItOk C we wt (rangeD lo n) (Itr lo n) := by
  refine ⟨fun we' wt' le lt sb tr => ⟨?_, fun i d hd => ?_⟩⟩
  · show n ≤ _
    rw [rangeD_length]; exact Nat.le_refl _
  · rw [rangeD_get] at hd
    split at hd
    · rename_i h
      cases hd
      refine ⟨h, fun x H' ⟨e, e2⟩ => ?_⟩
      subst e e2
      exact ⟨fun _ _ z => z, .int _⟩
    · cases hd
theorem itc_ok {we wt : Wd} (lo c : Int) (n : Nat) : ItOk C we wt (rangeC lo c n) (Itc lo c n) := by
  refine ⟨fun we' wt' le lt sb tr => ⟨?_, fun i d hd => ?_⟩⟩
  · show n ≤ _
    rw [rangeC_length]; exact Nat.le_refl _
  · rw [rangeC_get] at hd
    split at hd
    · rename_i h
      cases hd
      refine ⟨h, fun x H' ⟨e, e2⟩ => ?_⟩
      subst e e2
      exact ⟨fun _ _ z => z, .int _⟩
    · cases hd
theorem b62_iff {i : Int} (h : b62 i = true) : -(2 ^ 62) ≤ i ∧ i < 2 ^ 62 := by
  unfold b62 at h
  simpa using h
theorem sim_range1 {tg a : Expr} {t : T} {p pos : Pos} (hg : Gl X "range") (hm : X.mg "range" = none) (ha : PA X [a] (tL C W Γ [t])) (hs : starEach [a] X.env = [(false, eval a X.env)]) : PI X tg (.Call (.Name "range" p) [a] [] pos) (tI C W Γ .range1 [t]) :=
  PI_imp (pi_range1 hg hm ha hs) fun σ H R h => by
    obtain ⟨w0, w, env, st, rfl, Rr, h⟩ := h
    refine ⟨w0, w, env, st, rfl, Rr, okP_mono h fun w1 ds st1 e1 S1 h1 vs rs => ?_⟩
    obtain ⟨its, hi, k⟩ := h1
    unfold itSem at hi
    split at hi
    any_goals cases hi
    all_goals (first | (exfalso; contradiction) | skip)
    split at hi
    · rename_i hj
      cases hi
      obtain ⟨v, rfl, r⟩ := rs.one
      rw [r.intE]
      obtain ⟨q1, q2⟩ := b62_iff hj
      exact ⟨_, rfl, q1, q2, k _ (itr_ok 0 _)⟩
    · cases hi
theorem sim_range2 {tg a b : Expr} {ts : List T} {p pos : Pos} (hg : Gl X "range") (hm : X.mg "range" = none) (ha : PA X [a, b] (tL C W Γ ts)) (hs : starEach [a, b] X.env = [(false, eval a X.env), (false, eval b X.env)]) (hs2 : starEach [b] X.env = [(false, eval b X.env)]) :
    PI X tg (.Call (.Name "range" p) [a, b] [] pos) (tI C W Γ .range2 ts) :=
  PI_imp (pi_range2 hg hm ha hs hs2) fun σ H R h => by
    obtain ⟨w0, w, env, st, rfl, Rr, h⟩ := h
    refine ⟨w0, w, env, st, rfl, Rr, okP_mono h fun w1 ds st1 e1 S1 h1 vs rs => ?_⟩
    obtain ⟨its, hi, k⟩ := h1
    unfold itSem at hi
    split at hi
    any_goals cases hi
    all_goals (first | (exfalso; contradiction) | skip)
    split at hi
    · rename_i hj
      cases hi
      obtain ⟨v, u, rfl, r, r2⟩ := rs.two
      rw [r.intE, r2.intE]
      rw [Bool.and_eq_true] at hj
      obtain ⟨q1, q2⟩ := b62_iff hj.1
      obtain ⟨q3, q4⟩ := b62_iff hj.2
      exact ⟨_, _, rfl, ⟨q1, q2, q3, q4⟩, k _ (itr_ok _ _)⟩
    · cases hi
theorem sim_range3 {tg a b c : Expr} {ts : List T} {p pos : Pos} (hg : Gl X "range") (hm : X.mg "range" = none) (ha : PA X [a, b, c] (tL C W Γ ts)) (hs : starEach [a, b, c] X.env = (false, eval a X.env) :: starEach [b, c] X.env) (hpl : (backTo pos (starEach [b, c] X.env)).any (·.1) = false) :
    PI X tg (.Call (.Name "range" p) [a, b, c] [] pos) (tI C W Γ .range3 ts) :=
  PI_imp (pi_range3 hg hm ha hs hpl) fun σ H R h => by
    obtain ⟨w0, w, env, st, rfl, Rr, h⟩ := h
    refine ⟨w0, w, env, st, rfl, Rr, okP_mono h fun w1 ds st1 e1 S1 h1 vs rs => ?_⟩
    obtain ⟨its, hi, k⟩ := h1
    unfold itSem at hi
    split at hi
    any_goals cases hi
    all_goals (first | (exfalso; contradiction) | skip)
    split at hi
    · rename_i hj
      cases hi
      obtain ⟨v, u, z, rfl, r, r2, r3⟩ := rs.three
      rw [r.intE, r2.intE, r3.intE]
      rw [Bool.and_eq_true] at hj
      obtain ⟨q1, q2⟩ := b62_iff hj.1
      obtain ⟨q3, q4⟩ := b62_iff hj.2
      exact ⟨_, _, -1, _, rfl, RgC.neg q1 q2 q3 q4, k _ (itc_ok _ (-1) _)⟩
    · cases hi
theorem enumD_length : ∀ (ds : List D) (a : Int), (enumD a ds).length = ds.length
  | [], _ => rfl
  | d :: ds, a => by rw [enumD, List.length_cons, List.length_cons, enumD_length ds]
theorem enumD_get : ∀ (ds : List D) (a : Int) (i : Nat), (enumD a ds)[i]? = (ds[i]?).map fun d => .tup [.int (a + i), d]
  | [], _, _ => by simp [enumD]
  | d :: ds, a, 0 => by simp [enumD]
  | d :: ds, a, i + 1 => by
    rw [enumD, List.getElem?_cons_succ, List.getElem?_cons_succ, enumD_get ds]
    have e : a + 1 + (i : Int) = a + ((i + 1 : Nat) : Int) := by omega
    rw [e]
theorem zipD_length : ∀ (ds es : List D), (zipD ds es).length = min ds.length es.length
  | [], es => by simp [zipD]
  | d :: ds, [] => by simp [zipD]
  | d :: ds, e :: es => by rw [zipD, List.length_cons, zipD_length, List.length_cons, List.length_cons]; omega
theorem zipD_get : ∀ (ds es : List D) (i : Nat) (x : D), (zipD ds es)[i]? = some x → ∃ d e, ds[i]? = some d ∧ es[i]? = some e ∧ x = .tup [d, e]
  | [], es, i, x, h => by simp [zipD] at h
  | d :: ds, [], i, x, h => by simp [zipD] at h
  | d :: ds, e :: es, 0, x, h => by
    simp [zipD] at h
    exact ⟨d, e, rfl, rfl, h.symm⟩
  | d :: ds, e :: es, i + 1, x, h => by
    rw [zipD, List.getElem?_cons_succ] at h
    exact zipD_get ds es i x h
theorem ite_ok {we wt : Wd} {ds : List D} {vs : List V} {a : Addr} (s : Sub we wt) (hb : ¬ wt.B a) (hh : we.H a = some (.lst vs)) (rs : RelDs C we ds vs) : ItOk C we wt (enumD 0 ds) (Ite C.K a) := by
  refine ⟨fun we' wt' le lt sb tr => ?_⟩
  have h1 : we'.H a = some (.lst vs) := by
    rw [← sb.H]
    exact lt.keep a _ (by rw [s.H]; exact hh) hb ne_tbl_lst
  have q : SqL C.K we'.H a vs := .inl (.inl h1)
  refine ⟨⟨vs, q, by rw [enumD_length, rs.length]; exact Nat.le_refl _⟩, fun i d hd => ?_⟩
  rw [enumD_get] at hd
  obtain ⟨d', hd', e⟩ := Option.map_eq_some_iff.mp hd
  subst e
  obtain ⟨v, hv, rv⟩ := rs.get hd'
  refine ⟨⟨vs, v, q, hv⟩, fun x H' ⟨T, y, ex, hT, eH, k⟩ => ?_⟩
  subst ex eH
  have := k vs q
  rw [hv] at this
  cases this
  have sm : Same we'.H (upd we'.H T (.tup [.int (i : Nat), v])) := same_upd hT
  refine ⟨sm, .tup (none_ban tr hT) upd_same (.cons ?_ (.cons ((rv.le le).le (Le.grow sm)) .nil))⟩
  rw [Int.zero_add]
  exact .int _
theorem sim_enum {elts : List Expr} {kk : Nat} {tpos : Pos} {a : Expr} {t : T} {p pos : Pos} (hK : X.K = C.K) (hg : Gl X "enumerate") (hm : X.mg "enumerate" = none) (ha : PA X [a] (tL C W Γ [t])) (hs : starEach [a] X.env = [(false, eval a X.env)]) :
    PI X (.Tuple elts kk tpos) (.Call (.Name "enumerate" p) [a] [] pos) (tI C W Γ .enum [t]) :=
  PI_imp (pi_enum hg hm ha hs) fun σ H R h => by
    obtain ⟨w0, w, env, st, rfl, Rr, h⟩ := h
    refine ⟨w0, w, env, st, rfl, Rr, okP_mono h fun w1 ds st1 e1 S1 h1 vs rs => ?_⟩
    obtain ⟨its, hi, k⟩ := h1
    have sb := free_sub (env := env) (σ := σ) (escEL_sub [t]) w1
    unfold itSem at hi
    split at hi
    any_goals cases hi
    all_goals (first | (exfalso; contradiction) | skip)
    obtain ⟨v, rfl, r⟩ := rs.one
    obtain ⟨a, xs, rfl, hb, hh, rr⟩ := r
    rw [hK]
    exact ⟨a, xs, rfl, .inl (.inl hh), k _ (ite_ok sb hb hh rr)⟩
theorem itz_ok {we wt : Wd} {ds es : List D} {vs us : List V} {a b : Addr} (s : Sub we wt) (hb : ¬ wt.B a) (hh : we.H a = some (.lst vs)) (rs : RelDs C we ds vs) (hb2 : ¬ wt.B b) (hh2 : we.H b = some (.lst us)) (rs2 : RelDs C we es us) : ItOk C we wt (zipD ds es) (Itz C.K a b) := by
  refine ⟨fun we' wt' le lt sb tr => ?_⟩
  have q : SqL C.K we'.H a vs := .inl (.inl (by
    rw [← sb.H]
    exact lt.keep a _ (by rw [s.H]; exact hh) hb ne_tbl_lst))
  have q2 : SqL C.K we'.H b us := .inl (.inl (by
    rw [← sb.H]
    exact lt.keep b _ (by rw [s.H]; exact hh2) hb2 ne_tbl_lst))
  refine ⟨⟨vs, us, q, q2, ?_⟩, fun i d hd => ?_⟩
  · rw [zipD_length, rs.length, rs2.length]; omega
  · obtain ⟨d1, d2, h1, h2, rfl⟩ := zipD_get _ _ _ _ hd
    obtain ⟨v, hv, rv⟩ := rs.get h1
    obtain ⟨u, hu, ru⟩ := rs2.get h2
    refine ⟨⟨vs, us, v, u, q, q2, hv, hu⟩, fun x H' ⟨T, y, z, ex, hT, eH, k, k2⟩ => ?_⟩
    subst ex eH
    have := k vs q
    rw [hv] at this
    cases this
    have := k2 us q2
    rw [hu] at this
    cases this
    have sm : Same we'.H (upd we'.H T (.tup [v, u])) := same_upd hT
    exact ⟨sm, .tup (none_ban tr hT) upd_same (.cons ((rv.le le).le (Le.grow sm)) (.cons ((ru.le le).le (Le.grow sm)) .nil))⟩
theorem itzT_ok {we wt : Wd} {ds es : List D} {vs us : List V} {a b : Addr} (s : Sub we wt) (hh : (¬ wt.B a ∧ we.H a = some (.tup vs)) ∨ TupK C.K a vs) (rs : RelDs C we ds vs) (hh2 : (¬ wt.B b ∧ we.H b = some (.tup us)) ∨ TupK C.K b us) (rs2 : RelDs C we es us) : ItOk C we wt (zipD ds es) (RZ.ItzT C.K a b) := by
  refine ⟨fun we' wt' le lt sb tr => ?_⟩
  have q : SqT C.K we'.H a vs := by
    rcases hh with ⟨hb, hh⟩ | hh
    · refine .inl (.inl ?_)
      rw [← sb.H]
      exact lt.keep a _ (by rw [s.H]; exact hh) hb ne_tbl_tup
    · exact .inr hh
  have q2 : SqT C.K we'.H b us := by
    rcases hh2 with ⟨hb, hh⟩ | hh
    · refine .inl (.inl ?_)
      rw [← sb.H]
      exact lt.keep b _ (by rw [s.H]; exact hh) hb ne_tbl_tup
    · exact .inr hh
  refine ⟨⟨vs, us, q, q2, ?_⟩, fun i d hd => ?_⟩
  · rw [zipD_length, rs.length, rs2.length]; omega
  · obtain ⟨d1, d2, h1, h2, rfl⟩ := zipD_get _ _ _ _ hd
    obtain ⟨v, hv, rv⟩ := rs.get h1
    obtain ⟨u, hu, ru⟩ := rs2.get h2
    refine ⟨⟨vs, us, v, u, q, q2, hv, hu⟩, fun x H' ⟨T, y, z, ex, hT, eH, k, k2⟩ => ?_⟩
    subst ex eH
    have := k vs q
    rw [hv] at this
    cases this
    have := k2 us q2
    rw [hu] at this
    cases this
    have sm : Same we'.H (upd we'.H T (.tup [v, u])) := same_upd hT
    exact ⟨sm, .tup (none_ban tr hT) upd_same (.cons ((rv.le le).le (Le.grow sm)) (.cons ((ru.le le).le (Le.grow sm)) .nil))⟩
theorem sim_zip {elts : List Expr} {kk : Nat} {tpos : Pos} {a b : Expr} {ts : List T} {p pos : Pos} (hK : X.K = C.K) (hg : Gl X "zip") (hm : X.mg "zip" = none) (ha : PA X [a, b] (tL C W Γ ts)) (hs : starEach [a, b] X.env = (false, eval a X.env) :: starEach [b] X.env) (hpl : (backTo pos (starEach [b] X.env)).any (·.1) = false) :
    PI X (.Tuple elts kk tpos) (.Call (.Name "zip" p) [a, b] [] pos) (tI C W Γ .zip ts) :=
  PI_imp (RZ.pi_zipA hg hm ha hs hpl) fun σ H R h => by
    obtain ⟨w0, w, env, st, rfl, Rr, h⟩ := h
    refine ⟨w0, w, env, st, rfl, Rr, okP_mono h fun w1 ds st1 e1 S1 h1 vs rs => ?_⟩
    obtain ⟨its, hi, k⟩ := h1
    have sb := free_sub (env := env) (σ := σ) (escEL_sub ts) w1
    rw [hK]
    unfold itSem at hi
    split at hi
    any_goals cases hi
    all_goals (first | (exfalso; contradiction) | skip)
    · obtain ⟨v, u, rfl, r, r2⟩ := rs.two
      obtain ⟨a, xs, rfl, hb, hh, rr⟩ := r
      obtain ⟨b, ys, rfl, hb2, hh2, rr2⟩ := r2
      exact ⟨a, b, xs, ys, rfl, .inl ⟨.inl (.inl hh), .inl (.inl hh2), k _ (itz_ok sb hb hh rr hb2 hh2 rr2)⟩⟩
    · obtain ⟨v, u, rfl, r, r2⟩ := rs.two
      obtain ⟨a, xs, rfl, hh, rr⟩ := r
      obtain ⟨b, ys, rfl, hh2, rr2⟩ := r2
      exact ⟨a, b, xs, ys, rfl, .inr ⟨SqT_of hh, SqT_of hh2, k _ (itzT_ok sb hh rr hh2 rr2)⟩⟩
end
end FY

end

section
set_option maxRecDepth 100000
/-! Fy12: own objects made and written; comprehensions. -/
namespace FY
open PySem PySem.Spec PyProof.Rows L2
def noW : WX := fun _ _ _ _ => False
section
variable {C : PC}
def ownW (w : Wd) (H' : Hp) (a : Addr) : Wd := { w with H := H', B := fun b => w.B b ∨ b = a }
def updW (w : Wd) (a : Addr) (o : HO) : Wd := { w with H := upd w.H a o }
def unW (w : Wd) (a : Addr) : Wd := { w with B := fun b => w.B b ∧ b ≠ a }
theorem tabs_upd {T : List (Addr × Str)} {H : Hp} {a : Addr} {o : HO} (t : LamX.Tabs T H) (h : H a = none ∨ (∃ xs, H a = some (.lst xs)) ∨ (∃ xs, H a = some (.dK xs)) ∨ ∃ xs, H a = some (.dT xs)) : LamX.Tabs T (upd H a o) := fun p hp => by
  obtain ⟨ps, h1, h2, h3⟩ := t p hp
  have ne : ∀ b o', H b = some o' → (∀ xs, o' ≠ .lst xs) → (∀ xs, o' ≠ .dK xs) → (∀ xs, o' ≠ .dT xs) → b ≠ a := fun b o' e k1 k2 k3 z => by
    subst z
    rcases h with h | ⟨xs, h⟩ | ⟨xs, h⟩ | ⟨xs, h⟩
    · rw [h] at e; cases e
    · rw [h] at e; cases e; exact k1 _ rfl
    · rw [h] at e; cases e; exact k2 _ rfl
    · rw [h] at e; cases e; exact k3 _ rfl
  refine ⟨ps, ?_, h2, fun pos cv hc => ?_⟩
  · rw [upd_ne (ne _ _ h1 (fun _ z => by cases z) (fun _ z => by cases z) (fun _ z => by cases z))]; exact h1
  · obtain ⟨c, e1, e2⟩ := h3 pos cv hc
    refine ⟨c, e1, ?_⟩
    rw [upd_ne (ne _ _ e2 (fun _ z => by cases z) (fun _ z => by cases z) (fun _ z => by cases z))]; exact e2
section
variable {w w' w0 w1 : Wd} {st : Store} {H' : Hp} {a : Addr}
theorem le_own (sm : Same w.H H') (h : w.H a = none) : Le w (ownW w H' a) := ⟨fun b o q _ _ => sm b o q, fun b q => by
  rcases q with q | q
  · exact .inl q
  · exact .inr (q ▸ Fr.none h), Nat.le_refl _, fun _ _ => rfl, fun _ q => same_trk (fun b o e _ => sm b o e) q⟩
theorem ext_own (sm : Same w.H H') (h : w.H a = none) : Ext w (ownW w H' a) where
  keep := fun b o q _ _ => sm b o q
  trk := fun b q => same_trk (fun b o e _ => sm b o e) q
  up := fun b q => .inl q
  ban := fun b q => by
    rcases q with q | q
    · exact .inl q
    · exact .inr (q ▸ Fr.none h)
  n := Nat.le_refl _
  ρ := fun _ _ => rfl
  new := fun l h1 h2 => absurd (Nat.lt_of_lt_of_le h2 h1) (Nat.lt_irrefl _)
theorem cell_ne (S : SRel C w st) (h : w.H a = none) : ∀ l, l < w.n → w.ρ l ≠ a := fun l hl z => by
  have q := S.trk _ (S.bρ hl)
  rw [z, h] at q
  exact q
theorem srel_own (S : SRel C w st) (sm : Same w.H H') (h : w.H a = none) (m : Mut (H' a)) : SRel C (ownW w H' a) st where
  len := S.len
  cell := fun l d e => ⟨.inl (S.cell l d e).1, (S.cell l d e).2.le (le_own sm h) fun o q _ => sm _ _ q⟩
  inj := S.inj
  trk := fun b q => by
    rcases q with q | q
    · have z := S.trk b q
      cases e : w.H b with
      | none => rw [e] at z; exact z.elim
      | some o => rw [e] at z; show Mut (H' b); rw [sm b o e]; exact z
    · rw [q]; exact m
  tabs := S.tabs.ext sm
theorem le_upd {o : HO} (hb : w.B a) (ho : ∀ ps, o ≠ .tbl ps) : Le w (updW w a o) := ⟨fun b x q nb _ => by
  have e : b ≠ a := fun z => nb (z ▸ hb)
  show upd w.H a o b = some x
  rw [upd_ne e]; exact q, fun b q => .inl q, Nat.le_refl _, fun _ _ => rfl, fun b q => by
  obtain ⟨x, e, n⟩ := not_fr q
  by_cases z : b = a
  · exact fun f => f.no (show upd w.H a o b = some o by rw [z, upd_same]) ho
  · exact fun f => f.no (show upd w.H a o b = some x by rw [upd_ne z]; exact e) n⟩
theorem srel_upd {xs ys : List V} (S : SRel C w st) (hb : w.B a) (hl : ∀ l, l < w.n → w.ρ l ≠ a) (h : w.H a = some (.lst xs)) : SRel C (updW w a (.lst ys)) st where
  len := S.len
  cell := fun l d e => by
    refine ⟨(S.cell l d e).1, (S.cell l d e).2.le (le_upd hb ne_tbl_lst) fun o q _ => ?_⟩
    have ne : w.ρ l ≠ a := hl l (by rw [S.len]; exact (List.getElem?_eq_some_iff.mp e).1)
    show upd w.H a _ (w.ρ l) = some o
    rw [upd_ne ne]; exact q
  inj := S.inj
  trk := fun b q => by
    show Mut (upd w.H a _ b)
    by_cases e : b = a
    · rw [e, upd_same]; trivial
    · rw [upd_ne e]; exact S.trk b q
  tabs := tabs_upd S.tabs (.inr (.inl ⟨xs, h⟩))
theorem ext_upd {o : HO} (e : Ext w0 w) (h : Fr w0.H a) : Ext w0 (updW w a o) where
  keep := fun b x q hl ho => by
    have ne : b ≠ a := fun z => h.no (z ▸ q) ho
    show upd w.H a o b = some x
    rw [upd_ne ne]; exact e.keep b x q hl ho
  trk := fun b q => by
    have ne : b ≠ a := fun z => q (z ▸ h)
    obtain ⟨x, h1, h2⟩ := not_fr (e.trk b q)
    exact fun f => f.no (show upd w.H a o b = some x by rw [upd_ne ne]; exact h1) h2
  up := e.up
  ban := e.ban
  n := e.n
  ρ := e.ρ
  new := e.new
theorem le_un : Le w (unW w a) := Le.of_ban fun _ q => q.1
theorem ext_un (e : Ext w0 w) (h : Fr w0.H a) (t : ∀ b, w0.B b → Mut (w0.H b)) : Ext w0 (unW w a) where
  keep := e.keep
  trk := e.trk
  up := fun b q => ⟨e.up b q, fun z => h.mut (z ▸ t b q)⟩
  ban := fun b q => e.ban b q.1
  n := e.n
  ρ := e.ρ
  new := e.new
theorem srel_un (S : SRel C w st) (hl : ∀ l, l < w.n → w.ρ l ≠ a) : SRel C (unW w a) st where
  len := S.len
  cell := fun l d e => ⟨⟨(S.cell l d e).1, hl l (by rw [S.len]; exact (List.getElem?_eq_some_iff.mp e).1)⟩, (S.cell l d e).2.le le_un fun o q _ => q⟩
  inj := S.inj
  trk := fun b q => S.trk b q.1
  tabs := S.tabs
end
/-! ### the tests of a comprehension -/
def tTs (C : PC) (W : WX) (Γ : GS) (ts : List T) : L2.TT := fun σ H Q => ∃ w0 w env st, w.H = H ∧ Rel C w0 w env st σ ∧ okP C W w σ (evTests Γ ts env st) fun w' b _ => Q b w'.H
theorem PTs_imp {X : Cx} {e : List Expr} {t t' : L2.TT} (h : PTs X e t) (i : ∀ σ H Q, t' σ H Q → t σ H Q) : PTs X e t' := ⟨fun pins s σ H Q I q => h.run pins s σ H Q I (i σ H Q q)⟩
variable {W : WX} {Γ : GS} {X : Cx}
theorem sim_tests0 : PTs X [] (tTs C W Γ []) := PTs_imp pts_nil fun σ H Q h => by
  obtain ⟨w0, w, env, st, rfl, R, h⟩ := h
  simp only [evTests] at h
  exact h w (Ext.refl w) R.store
theorem sim_tests1 {c : Expr} {t : T} (hc : PT X c (tT C W Γ t)) : PTs X [c] (tTs C W Γ [t]) := PTs_imp (pts_one hc) fun σ H Q h => by
  obtain ⟨w0, w, env, st, rfl, R, h⟩ := h
  simp only [evTests] at h
  refine ⟨w0, w, env, st, rfl, R, okP_bind' h fun d st1 w1 _ e1 S1 h1 => ?_⟩
  split at h1
  · rename_i hd
    exact ⟨true, hd, h1 w1 (Ext.refl _) S1⟩
  · rename_i hd
    exact ⟨false, hd, h1 w1 (Ext.refl _) S1⟩
  · exact h1.elim
/-! ### the loop of a comprehension -/
def cOk (r : FY.R (List D)) (P : List D → Store → Prop) : Prop := match r with
  | .ok ys st => P ys st
  | _ => False
theorem cOk_noX {α : Type} {w : Wd} {σ : L2.St} {r : FY.R α} {f : α → Store → FY.R (List D)} {P : List D → Store → Prop} (h : cOk (r.noX.bind f) P) : okP C noW w σ r (fun _ a st => cOk (f a st) P) := by
  cases r with
  | ok a st => exact fun w' e S => h
  | exc x st => exact h.elim
  | stuck => exact h.elim
mutual
theorem tgSet_own : ∀ {g : Tg} {d : D} {env env1 : Env}, tgSet g d env = some env1 → ∀ (j : Nat) (d' : D), env1[j]? = some (.own d') → env[j]? = some (.own d')
  | .nm i, d, env, env1, h, j, d', hj => by
    simp only [tgSet, Option.some.injEq] at h
    subst h
    rcases set_get hj with ⟨_, e, _⟩ | ⟨_, q⟩
    · cases e
    · exact q
  | .tup gs, .tup ds, env, env1, h, j, d', hj => by simp only [tgSet] at h; exact tgsSet_own h j d' hj
  | .tup gs, .lst ds, env, env1, h, j, d', hj => by simp only [tgSet] at h; exact tgsSet_own h j d' hj
  | .tup gs, .non, env, env1, h, j, d', hj => by simp [tgSet] at h
  | .tup gs, .bl _, env, env1, h, j, d', hj => by simp [tgSet] at h
  | .tup gs, .int _, env, env1, h, j, d', hj => by simp [tgSet] at h
  | .tup gs, .str _, env, env1, h, j, d', hj => by simp [tgSet] at h
  | .tup gs, .dct _ _, env, env1, h, j, d', hj => by simp [tgSet] at h
  | .tup gs, .ref _, env, env1, h, j, d', hj => by simp [tgSet] at h
  | .tup gs, .glo _, env, env1, h, j, d', hj => by simp [tgSet] at h
  | .tup gs, .ty _, env, env1, h, j, d', hj => by simp [tgSet] at h
  | .tup gs, .scr _, env, env1, h, j, d', hj => by simp [tgSet] at h
theorem tgsSet_own : ∀ {gs : List Tg} {ds : List D} {env env1 : Env}, tgsSet gs ds env = some env1 → ∀ (j : Nat) (d' : D), env1[j]? = some (.own d') → env[j]? = some (.own d')
  | [], [], env, env1, h, j, d', hj => by
    simp only [tgsSet, Option.some.injEq] at h
    subst h; exact hj
  | [], _ :: _, _, _, h, _, _, _ => by simp [tgsSet] at h
  | _ :: _, [], _, _, h, _, _, _ => by simp [tgsSet] at h
  | g :: gs, d :: ds, env, env1, h, j, d', hj => by
    simp only [tgsSet] at h
    obtain ⟨env2, e1, e2⟩ := Option.bind_eq_some_iff.mp h
    exact tgSet_own e1 j d' (tgsSet_own e2 j d' hj)
end
theorem wipe_own : ∀ {vs : List Nat} {env : Env} {j : Nat} {d : D}, (wipeE env vs)[j]? = some (.own d) → env[j]? = some (.own d) ∧ j ∉ vs
  | [], _, _, _, h => ⟨h, by simp⟩
  | v :: vs, env, j, d, h => by
    simp only [wipeE] at h
    rcases set_get h with ⟨_, e, _⟩ | ⟨ne, q⟩
    · cases e
    · obtain ⟨h1, h2⟩ := wipe_own q
      exact ⟨h1, by simp [ne, h2]⟩
theorem compLoop_cons {f : D → Store → FY.R (Option D)} {d : D} {ds : List D} {st : Store} : compLoop f (d :: ds) st = (f d st).bind fun o st1 => (compLoop f ds st1).bind fun r st2 => .ok (match o with | some x => x :: r | none => r) st2 := rfl
theorem cOk_bind {r : FY.R (List D)} {f : List D → List D} {P : List D → Store → Prop} (h : cOk (r.bind fun ys st => .ok (f ys) st) P) : cOk r (fun ys st => P (f ys) st) := by
  cases r with
  | ok a st => exact h
  | exc x st => exact h.elim
  | stuck => exact h.elim
theorem cOk_mono {r : FY.R (List D)} {P P' : List D → Store → Prop} (h : cOk r P) (k : ∀ ys st, P ys st → P' ys st) : cOk r P' := by
  cases r with
  | ok a st => exact k _ _ h
  | exc x st => exact h.elim
  | stuck => exact h.elim
theorem lc_walk {w0 w1 : Wd} {env : Env} {st1 : Store} {σ : L2.St} {its : List D} {J : L2.It} {as cs : List T} {e : T} {g : Tg} {Q : VK} {Pf : List D → Store → Prop} (R1 : Rel C w0 w1 env st1 σ) (hJ : ItOk C (free env σ (escEL as) w1) (free env σ (escL as) w1) its J)
    (ho : ownFree env (escEL as) = true) (hsz : its.length ≤ szL) (hrem : cOk (compLoop (compF g env (evTests Γ cs) (ev Γ e)) its st1) Pf)
    (hf : ∀ w' Da ds vs st', Ext w1 w' → SRel C w' st' → w1.H Da = none → w'.B Da → (∀ l, l < w'.n → w'.ρ l ≠ Da) → w'.H Da = some (.lst vs) → RelDs C (free env σ (escEL as ++ esc e) w') ds vs → Pf ds st' → Q (.ref Da) w'.H) :
    ∀ Da, w1.H Da = none → ∃ W : Nat → Nat → Hp → Prop, (∃ m, W 0 m (upd w1.H Da (.lst []))) ∧ ∀ i m H, W i m H →
      (J.stop i H ∧ Q (.ref Da) H) ∨ (J.go i H ∧ ∃ Nx : Hp → Prop, (∀ H', Nx H' → ∃ m', m' < m ∧ W (i + 1) m' H') ∧ ∀ x H', J.yld i H x H' → tG C g x (L2.wipe σ (tgSlots g)) H' fun σ2 H2 => L2.wipe σ2 (tgSlots g) = L2.wipe σ (tgSlots g) ∧ tTs C noW Γ cs σ2 H2 fun b H3 =>
        if b = true then tE C noW Γ e σ2 H3 fun y H4 => ∃ acc, H4 Da = some (.lst acc) ∧ acc.length < sizeLine ∧ Nx (upd H4 Da (.lst (acc ++ [y]))) else Nx H3) := by
  intro Da hDa
  let Inv : Nat → Hp → Prop := fun i H => i ≤ its.length ∧ ∃ w' st' ds acc, w'.H = H ∧ Ext w1 w' ∧ SRel C w' st' ∧ w'.B Da ∧ (∀ l, l < w'.n → w'.ρ l ≠ Da) ∧ H Da = some (.lst acc) ∧ acc.length ≤ i ∧ RelDs C (free env σ (escEL as ++ esc e) w') ds acc ∧
    cOk (compLoop (compF g env (evTests Γ cs) (ev Γ e)) (its.drop i) st') (fun ys st2 => Pf (ds ++ ys) st2)
  have sm0 : Same w1.H (upd w1.H Da (.lst [])) := same_upd hDa
  refine ⟨fun i m H => m = its.length - i ∧ Inv i H, ⟨its.length, by simp, Nat.zero_le _, ownW w1 (upd w1.H Da (.lst [])) Da, st1, [], [], rfl, ext_own sm0 hDa, srel_own R1.store sm0 hDa (by rw [upd_same]; trivial), .inr rfl, (fun l hl => cell_ne R1.store hDa l hl), upd_same, Nat.le_refl _, .nil, ?_⟩, ?_⟩
  · rw [List.drop_zero]; exact hrem
  rintro i m H ⟨rfl, hi, w', st', ds, acc, rfl, ew, S', hB, hρ, hD, hal, hacc, hr⟩
  have R' : Rel C w0 w' env st' σ := R1.step ew S'
  obtain ⟨hstop, hgo⟩ := hJ.run (free env σ (escEL as) w') (free env σ (escL as) w') (R1.free_le ew fun _ z => z) (R1.free_le ew fun _ z => z) (free_sub (escEL_sub as) w') (free_trk S')
  by_cases hlt : i < its.length
  · refine .inr ?_
    obtain ⟨d, hd⟩ : ∃ d, its[i]? = some d := ⟨_, List.getElem?_eq_getElem hlt⟩
    obtain ⟨go, hy⟩ := hgo i d hd
    refine ⟨go, fun H' => Inv (i + 1) H', fun H' hI => ⟨its.length - (i + 1), by omega, rfl, hI⟩, fun x H' hx => ?_⟩
    obtain ⟨sm, rx⟩ := hy x H' hx
    have sm : Same w'.H H' := sm
    -- the world with the item
    have eg : Ext w' { w' with H := H' } := Ext.grow sm
    have Sg : SRel C { w' with H := H' } st' := S'.grow sm
    have Rg : Rel C w0 { w' with H := H' } env st' σ := R'.step eg Sg
    have rx' : RelD C { w' with H := H' } d x := RelD.le (ownFree_le ho { w' with H := H' }) rx
    have hdrop : its.drop i = d :: its.drop (i + 1) := by
      rw [List.drop_eq_getElem_cons hlt]
      rw [List.getElem?_eq_getElem hlt] at hd
      cases hd; rfl
    rw [hdrop, compLoop_cons] at hr
    unfold compF at hr
    cases htg : tgSet g d (wipeE env (tgSlots g)) with
    | none =>
      simp only [htg] at hr
      exact hr.elim
    | some env1 =>
      simp only [htg] at hr
      refine ⟨w0, { w' with H := H' }, wipeE env (tgSlots g), st', d, env1, rfl, Rg.wipe _, rx', htg, fun σ2 R2 off => ⟨off.wipe, ?_⟩⟩
      rw [bind_assoc] at hr
      refine ⟨w0, { w' with H := H' }, env1, st', rfl, R2, okP_mono (cOk_noX hr) fun w3 b st3 e3 S3 h3 => ?_⟩
      have own_sub : ∀ js a, OwnAt env1 σ2 js a → OwnAt env σ js a := fun js a ⟨j, hj, d', h1, h2⟩ => by
        obtain ⟨h4, h5⟩ := wipe_own (tgSet_own htg j d' h1)
        refine ⟨j, hj, d', h4, ?_⟩
        rw [off.2 j h5] at h2
        have hlt : j < (L2.wipe σ (tgSlots g)).length := (List.getElem?_eq_some_iff.mp h2).1
        rw [wipe_length] at hlt
        rw [wipe_at _ _ _ hlt, if_neg h5] at h2
        exact h2
      have notOwn : ∀ js, ¬ OwnAt env σ js Da := fun js ⟨j, _, d', h1, h2⟩ => by
        obtain ⟨v, h3, h4⟩ := R1.slot j _ h1
        obtain ⟨a, rfl, hb, hc, hn, hl⟩ := h4.own_ref
        rw [h2] at h3
        cases h3
        exact hc.there (Fr.none hDa)
      cases b with
      | false =>
        simp only [Bool.false_eq_true, if_false] at h3 ⊢
        have e13 : Ext w1 w3 := (ew.trans eg).trans e3
        have e'3 : Ext w' w3 := eg.trans e3
        have h3 : cOk (compLoop (compF g env (evTests Γ cs) (ev Γ e)) (its.drop (i + 1)) st3) (fun ys st2 => Pf (ds ++ ys) st2) := cOk_bind (f := fun ys => ys) h3
        refine ⟨hlt, w3, st3, ds, acc, rfl, e13, S3, e'3.up _ hB, fun l hl z => ?_, e'3.keep _ _ hD hρ ne_tbl_lst, by omega, hacc.le (R'.free_le e'3 fun _ z => z), h3⟩
        by_cases q : l < w'.n
        · rw [e'3.ρ l q] at z; exact hρ l q z
        · exact (e'3.new l (by omega) hl).no (z ▸ hD) ne_tbl_lst
      | true =>
        simp only [if_true] at h3 ⊢
        rw [bind_assoc] at h3
        refine ⟨w0, w3, env1, st3, rfl, R2.step e3 S3, okP_mono (cOk_noX h3) fun w4 dy st4 e4 S4 h4 y ry => ?_⟩
        have e'4 : Ext w' w4 := (eg.trans e3).trans e4
        have e14 : Ext w1 w4 := ew.trans e'4
        have hD4 : w4.H Da = some (.lst acc) := e'4.keep _ _ hD hρ ne_tbl_lst
        have hB4 : w4.B Da := e'4.up _ hB
        have hρ4 : ∀ l, l < w4.n → w4.ρ l ≠ Da := fun l hl z => by
          by_cases q : l < w'.n
          · rw [e'4.ρ l q] at z; exact hρ l q z
          · exact (e'4.new l (by omega) hl).no (z ▸ hD) ne_tbl_lst
        have h4 : cOk (compLoop (compF g env (evTests Γ cs) (ev Γ e)) (its.drop (i + 1)) st4) (fun ys st2 => Pf (ds ++ dy :: ys) st2) := cOk_bind (f := fun ys => dy :: ys) h4
        refine ⟨acc, hD4, by rw [← szL_eq]; omega, hlt, updW w4 Da (.lst (acc ++ [y])), st4, ds ++ [dy], acc ++ [y], rfl, ext_upd e14 (Fr.none hDa), srel_upd S4 hB4 hρ4 hD4, hB4, hρ4, upd_same, by rw [List.length_append, List.length_singleton]; omega, ?_, ?_⟩
        · have le5 : Le (free env σ (escEL as ++ esc e) w4) (free env σ (escEL as ++ esc e) (updW w4 Da (.lst (acc ++ [y])))) := le_upd (w := free env σ (escEL as ++ esc e) w4) ⟨hB4, notOwn _⟩ ne_tbl_lst
          refine ((hacc.le (R'.free_le e'4 fun _ z => z)).append (.cons ?_ .nil)).le le5
          refine RelD.le ?_ (ry.toD (free_sub (escE_sub e) w4))
          exact Le.of_ban (w := free env1 σ2 (esc e) w4) (B' := (free env σ (escEL as ++ esc e) w4).B) fun a ⟨q1, q2⟩ => ⟨q1, fun z => q2 ((own_sub _ _ z).mono fun j hj => List.mem_append_right _ hj)⟩
        · exact cOk_mono h4 fun ys st q => by rw [List.append_assoc]; exact q
  · have ei : i = its.length := by omega
    subst ei
    refine .inl ⟨hstop, ?_⟩
    rw [List.drop_length] at hr
    simp only [compLoop, cOk, List.append_nil] at hr
    exact hf w' Da ds acc st' ew S' hDa hB hρ hD hacc hr
theorem compA_ok {W : WX} {w : Wd} {σ : L2.St} {env : Env} {k : ItK} {js : List Nat} {ds : List D} {st : Store} {f : D → Store → FY.R (Option D)} {K : Wd → D → Store → Prop} (h : okP C W w σ (compA env k js ds st f) K) (hx : ∀ its, itSem k ds = some its → ∀ x st1, compLoop f its st ≠ .exc x st1) :
    ∃ its, itSem k ds = some its ∧ its.length ≤ szL ∧ ownFree env js = true ∧ cOk (compLoop f its st) (fun ys st2 => ∀ w', Ext w w' → SRel C w' st2 → K w' (.lst ys) st2) := by
  unfold compA at h
  split at h
  · exact h.elim
  · rename_i its hi
    split at h
    · rename_i hc
      rw [Bool.and_eq_true] at hc
      refine ⟨its, hi, by simpa using hc.1, hc.2, ?_⟩
      cases hcl : compLoop f its st with
      | ok ys st2 => rw [hcl] at h; exact h
      | exc x st1 => exact absurd hcl (hx its hi x st1)
      | stuck => rw [hcl] at h; exact h.elim
    · exact h.elim
theorem compLoop_noexc {g : Tg} {env : Env} {tst : Env → Store → FY.R Bool} {el : Env → Store → FY.R D} : ∀ (its : List D) (st : Store) (x : Xc) (st1 : Store), compLoop (compF g env tst el) its st ≠ .exc x st1
  | [], st, x, st1 => by simp [compLoop]
  | d :: ds, st, x, st1 => by
    rw [compLoop_cons]
    have hf : ∀ x st1, compF g env tst el d st ≠ .exc x st1 := fun x st1 => by
      unfold compF
      split
      · simp
      · cases ht : tst _ st with
        | exc x st1 => simp [R.noX, R.bind]
        | stuck => simp [R.noX, R.bind]
        | ok b st2 =>
          cases b with
          | false => simp [R.noX, R.bind]
          | true =>
            simp only [R.noX, R.bind, if_true]
            cases el _ st2 <;> simp [R.noX, R.bind]
    cases hh : compF g env tst el d st with
    | exc x st1 => exact absurd hh (hf x st1)
    | stuck => simp [R.bind]
    | ok o st2 =>
      simp only [R.bind]
      have ih := compLoop_noexc (g := g) (env := env) (tst := tst) (el := el) ds st2
      cases hc : compLoop (compF g env tst el) ds st2 with
      | exc x st1 => exact absurd hc (ih x st1)
      | stuck => simp
      | ok ys st3 => simp
/-- the comprehension by its walk -/
theorem tLc_of {as cs : List T} {e : T} {g : Tg} {k : ItK} {σ : L2.St} {H : Hp} {Q : VK} {w0 w : Wd} {env : Env} {st : Store} (hw : w.H = H) (R : Rel C w0 w env st σ) {K : Wd → D → Store → Prop} (h : okP C W w σ (ev Γ (.comp g k as cs e) env st) K)
    (hf : ∀ w1 w' Da ds vs st1 st', Rel C w0 w1 env st1 σ → Ext w1 w' → SRel C w' st' → w1.H Da = none → w'.B Da → (∀ l, l < w'.n → w'.ρ l ≠ Da) → w'.H Da = some (.lst vs) → RelDs C (free env σ (escEL as ++ esc e) w') ds vs → (∀ w', Ext w1 w' → SRel C w' st' → K w' (.lst ds) st') → Q (.ref Da) w'.H) :
    L2.tLc (tI C W Γ k as) (tG C g) (tTs C noW Γ cs) (tE C noW Γ e) (tgSlots g) σ H Q := by
  subst hw
  simp only [ev] at h
  refine ⟨w0, w, env, st, rfl, R, okP_bind' h fun ds st1 w1 _ e1 S1 h1 => ?_⟩
  obtain ⟨its, hi, hsz, ho, hc⟩ := compA_ok h1 fun its _ x st1 => compLoop_noexc its _ x st1
  refine ⟨its, hi, fun J hJ => ?_⟩
  exact lc_walk (R.step e1 S1) hJ ho hsz hc fun w' Da ds vs st' ew S' hn hB hρ hD hr hP => hf w1 w' Da ds vs st1 st' (R.step e1 S1) ew S' hn hB hρ hD hr hP
theorem sim_lc {elt tg iter : Expr} {ifs : List Expr} {scope : Scope} {own : List (Str × Nat)} {pos : Pos} {g : Tg} {k : ItK} {as cs : List T} {e : T}
    (hc : X.calm = true) (hN : X.N.Nodup) (hi : PI X tg iter (tI C W Γ k as)) (ok : BlkOk X.N X.env.scope scope own) (hv : own.map (·.2) = tgSlots g)
    (hg : ∀ (s : Shared) (H : Hp) (C' : Addr) (cl : List (Str × Addr)) (fp : List Addr), PG (X.blk s H scope (compEnvC scope cl C' X.env) fp) tg (tG C g))
    (ht : ∀ (s : Shared) (H : Hp) (C' : Addr) (cl : List (Str × Addr)) (fp : List Addr), PTs (X.blk s H scope (compEnvC scope cl C' X.env) fp) ifs (tTs C noW Γ cs))
    (he : ∀ (s : Shared) (H : Hp) (C' : Addr) (cl : List (Str × Addr)) (fp : List Addr), PE (X.blk s H scope (compEnvC scope cl C' X.env) fp) elt (tE C noW Γ e))
    (hs : ∀ x, foldedSetIterable iter X.env x = pure x) : PE X (.ListComp elt [⟨tg, iter, ifs, 0⟩] scope pos) (tE C W Γ (.comp g k as cs e)) :=
  PE_imp (pe_lc hc hN hi ok hg ht he hs) fun σ H Q h => by
    obtain ⟨w0, w, env, st, hw, R, h⟩ := h
    rw [hv]
    refine tLc_of hw R h fun w1 w' Da ds vs st1 st' R1 ew S' hn hB hρ hD hr hP => ?_
    refine hP (unW w' Da) (ext_un ew (Fr.none hn) R1.store.trk) (srel_un S' hρ) (.ref Da) ?_
    have e0 : escE (.comp g k as cs e) = escEL as ++ esc e := by unfold escE; simp only [esc]
    have e1 : esc (.comp g k as cs e) = escEL as ++ esc e := by simp only [esc]
    rw [e0, e1]
    refine ⟨Da, vs, rfl, fun z => z.1.2 rfl, hD, hr.le ?_⟩
    exact Le.of_ban (w := free env σ (escEL as ++ esc e) w') (B' := (free env σ (escEL as ++ esc e) (unW w' Da)).B) fun a q => ⟨q.1.1, q.2⟩
end
end FY

end

section
set_option maxRecDepth 100000
/-! Fy13: statements. -/
namespace FY
open PySem PySem.Spec PyProof.Rows L2
/-- what is wanted of a block's end -/
def okS (C : PC) (W : WX) (w0 w : Wd) (D : Ends) (r : RS) : Prop := match r with
  | .nx env st => ∀ w' σ', Le w w' → Rel C w0 w' env st σ' → D.nx σ' w'.H
  | .bk env st => ∀ w' σ', Le w w' → Rel C w0 w' env st σ' → D.bk σ' w'.H
  | .ct env st => ∀ w' σ', Le w w' → Rel C w0 w' env st σ' → D.ct σ' w'.H
  | .rt d st => ∀ w' v, Le w w' → Ext w0 w' → SRel C w' st → RelD C w' d v → D.rt v w'.H
  | .ex x env st => ∀ w' σ' cls dx, Le w w' → Rel C w0 w' env st σ' → XRel C w' x cls dx → W cls dx σ' w'.H
  | .stuck => False
theorem okS_le {C : PC} {W : WX} {w0 w w1 : Wd} {D : Ends} {r : RS} (h : okS C W w0 w D r) (e : Le w w1) : okS C W w0 w1 D r := by
  cases r with
  | nx env st => exact fun w' σ' l R => h w' σ' (e.trans l) R
  | bk env st => exact fun w' σ' l R => h w' σ' (e.trans l) R
  | ct env st => exact fun w' σ' l R => h w' σ' (e.trans l) R
  | rt d st => exact fun w' v l x S r => h w' v (e.trans l) x S r
  | ex x env st => exact fun w' σ' c d l R x => h w' σ' c d (e.trans l) R x
  | stuck => exact h
def tS (C : PC) (W : WX) (Γ : GS) (w0 : Wd) (s : S) : L2.TS := fun D σ H => ∃ w env st, w.H = H ∧ Rel C w0 w env st σ ∧ okS C W w0 w D (exec Γ s env st)
def tSs (C : PC) (W : WX) (Γ : GS) (w0 : Wd) (s : List S) : L2.TS := fun D σ H => ∃ w env st, w.H = H ∧ Rel C w0 w env st σ ∧ okS C W w0 w D (execs Γ s env st)
section
variable {C : PC} {W : WX} {Γ : GS} {X : Cx} {w0 : Wd}
/-- a value comes first -/
theorem okP_to {α : Type} {w : Wd} {D : Ends} {env : Env} {st : Store} {σ : L2.St} {r : FY.R α} {k : α → Store → RS} (R : Rel C w0 w env st σ) (h : okS C W w0 w D (r.to env k)) :
    okP C W w σ r (fun w1 a st1 => okS C W w0 w1 D (k a st1) ∧ Ext w w1 ∧ Rel C w0 w1 env st1 σ) := by
  cases r with
  | ok a st1 => exact fun w1 e S => ⟨okS_le (show okS C W w0 w D (k a st1) from h) (e.le R.store), e, R.step e S⟩
  | exc x st1 => exact fun w1 c dx e S X => h w1 σ c dx (e.le R.store) (R.step e S) X
  | stuck => exact h
theorem okS_seq {w : Wd} {D : Ends} {r : RS} {f : Env → Store → RS} (h : okS C W w0 w D (r.seq f)) : okS C W w0 w { D with nx := fun σ' H' => ∃ w' env st, w'.H = H' ∧ Rel C w0 w' env st σ' ∧ okS C W w0 w' D (f env st) } r := by
  cases r with
  | nx env st => exact fun w' σ' l R => ⟨w', env, st, rfl, R, okS_le (show okS C W w0 w D (f env st) from h) l⟩
  | bk env st => exact h
  | ct env st => exact h
  | rt d st => exact h
  | ex x env st => exact h
  | stuck => exact h
theorem sims_nil : PSs X [] (tSs C W Γ w0 []) := PSs_imp pss_nil fun D σ H h => by
  obtain ⟨w, env, st, rfl, R, h⟩ := h
  exact h w σ (Le.refl w) R
theorem sims_cons {s : Stmt} {ss : List Stmt} {t : S} {ts : List S} (h1 : PS X s (tS C W Γ w0 t)) (h2 : PSs X ss (tSs C W Γ w0 ts)) : PSs X (s :: ss) (tSs C W Γ w0 (t :: ts)) :=
  PSs_imp (pss_cons h1 h2) fun D σ H h => by
    obtain ⟨w, env, st, rfl, R, h⟩ := h
    exact ⟨w, env, st, rfl, R, okS_seq h⟩
theorem sims_one {s : Stmt} {t : S} (h1 : PS X s (tS C W Γ w0 t)) : PSs X [s] (tSs C W Γ w0 [t]) := sims_cons h1 sims_nil
theorem sim_pass {pos : Pos} : PS X (.Pass pos) (tS C W Γ w0 .pass) := PS_imp ps_pass fun D σ H h => by
  obtain ⟨w, env, st, rfl, R, h⟩ := h
  exact h w σ (Le.refl w) R
theorem sim_doc {x j pos pos'} : PS X (.Expr (.Constant (.str x) j pos) pos') (tS C W Γ w0 .pass) := PS_imp ps_doc fun D σ H h => by
  obtain ⟨w, env, st, rfl, R, h⟩ := h
  exact h w σ (Le.refl w) R
theorem sim_brk {pos : Pos} : PS X (.Break pos) (tS C W Γ w0 .brk) := PS_imp ps_break fun D σ H h => by
  obtain ⟨w, env, st, rfl, R, h⟩ := h
  exact h w σ (Le.refl w) R
theorem sim_cont {pos : Pos} : PS X (.Continue pos) (tS C W Γ w0 .cont) := PS_imp ps_continue fun D σ H h => by
  obtain ⟨w, env, st, rfl, R, h⟩ := h
  exact h w σ (Le.refl w) R
theorem sim_retN {pos : Pos} : PS X (.Return none pos) (tS C W Γ w0 .retN) := PS_imp ps_retN fun D σ H h => by
  obtain ⟨w, env, st, rfl, R, h⟩ := h
  exact h w .non (Le.refl w) R.ext R.store .non
/-- what was read is a tree once the own objects stand still -/
theorem Rel.frzR {w : Wd} {env : Env} {st : Store} {σ : L2.St} (R : Rel C w0 w env st σ) (js : List Nat) : ∃ w', Sub w w' ∧ Rel C w0 w' (frzE env js) st σ ∧ Le (free env σ js w) w' := by
  obtain ⟨w', s, R', hb⟩ := R.frz js
  exact ⟨w', s, R', frz_le s hb⟩
theorem sim_expr {e : Expr} {t : T} {pos : Pos} (he : PE X e (tE C W Γ t)) (hs : swapsWith e none pos.line X.env = pure false) : PS X (.Expr e pos) (tS C W Γ w0 (.expr t)) :=
  PS_imp (ps_expr he hs) fun D σ H h => by
    obtain ⟨w, env, st, rfl, R, h⟩ := h
    simp only [exec] at h
    exact ⟨w0, w, env, st, rfl, R, okP_mono (okP_to R h) fun w1 d st1 e1 S1 h1 v r => h1.1 w1 σ (Le.refl _) h1.2.2⟩
theorem sim_ret {e : Expr} {t : T} {pos : Pos} (he : PE X e (tE C W Γ t)) : PS X (.Return (some e) pos) (tS C W Γ w0 (.ret t)) :=
  PS_imp (ps_ret he) fun D σ H h => by
    obtain ⟨w, env, st, rfl, R, h⟩ := h
    simp only [exec] at h
    refine ⟨w0, w, env, st, rfl, R, okP_mono (okP_to R h) fun w1 d st1 e1 S1 h1 v r => ?_⟩
    obtain ⟨w2, s, R2, l⟩ := h1.2.2.frzR (esc t)
    have q := h1.1 w2 v s.le R2.ext R2.store ((r.toD (free_sub (escE_sub t) w1)).le l)
    rw [s.H] at q
    exact q
theorem set_law {w : Wd} {env : Env} {σ : L2.St} {De : Ends} {t : T} {i : Nat} {d : D} {v : V} {st1 : Store} (R : Rel C w0 w env st1 σ) (r : RelN C (free env σ (escE t) w) (free env σ (esc t) w) d v) (h : okS C W w0 w De (.nx ((frzE env (esc t)).set i (.val d)) st1)) : De.nx (σ.set i (some v)) w.H := by
  obtain ⟨w2, s, R2, l⟩ := R.frzR (esc t)
  have q := h w2 _ s.le (R2.setV (i := i) ((r.toD (free_sub (escE_sub t) w)).le l))
  rw [s.H] at q
  exact q
theorem sim_set {i : Nat} {x : Str} {e : Expr} {t : T} {pos pos' : Pos} (hN : X.N.Nodup) (hi : X.N[i]? = some x) (hx : Loc X.env.scope x) (he : PE X e (tE C W Γ t)) (hs : swapsWith e (some (.Name x pos')) pos.line X.env = pure false) (hf : X.fn x = true ∨ X.env.scope.names.lookup x = some .local) :
    PS X (.Assign [.Name x pos'] e pos) (tS C W Γ w0 (.set i t)) :=
  PS_imp (ps_set hN hi hx he hs hf) fun D σ H h => by
    obtain ⟨w, env, st, rfl, R, h⟩ := h
    simp only [exec] at h
    exact ⟨w0, w, env, st, rfl, R, okP_mono (okP_to R h) fun w1 d st1 e1 S1 h1 v r => set_law h1.2.2 r h1.1⟩
theorem sim_unpack {tg e : Expr} {t : T} {gs : List Tg} {pos : Pos} (he : PE X e (tE C W Γ t)) (hg : PG X tg (tG C (.tup gs))) (hs : swapsWithSole [tg] e pos.line X.env = pure false) (hw : swappedStores [tg] e X.env = pure none) (h1 : (assignEach [tg] X.env).map (·.2) = [assign tg X.env]) :
    PS X (.Assign [tg] e pos) (tS C W Γ w0 (.unpack gs t)) :=
  PS_imp (ps_asg he hg hs hw h1) fun D σ H h => by
    obtain ⟨w, env, st, rfl, R, h⟩ := h
    simp only [exec] at h
    refine ⟨w0, w, env, st, rfl, R, okP_mono (okP_to R h) fun w1 d st1 e1 S1 h1 v r => ?_⟩
    obtain ⟨h1, _, R1⟩ := h1
    obtain ⟨w2, s, R2, l⟩ := R1.frzR (esc t)
    cases hg' : tgSet (.tup gs) d (frzE env (esc t)) with
    | none => rw [hg'] at h1; exact h1.elim
    | some env1 =>
      rw [hg'] at h1
      refine ⟨w0, w2, _, st1, d, env1, s.H, R2, (r.toD (free_sub (escE_sub t) w1)).le l, hg', fun σ' R' off => ?_⟩
      have q := h1 w2 σ' s.le R'
      rw [s.H] at q
      exact q
theorem sim_par2 {i j : Nat} {x y : Str} {a b : Expr} {ts : List T} {px py pt pos : Pos} {kt k2 pt2} (hc : X.calm = true) (hN : X.N.Nodup) (hi : X.N[i]? = some x) (hj : X.N[j]? = some y) (hij : i ≠ j)
    (hx : X.env.scope.names.lookup x = some .local) (hy : X.env.scope.names.lookup y = some .local) (ha : PA X [a, b] (tL C W Γ ts))
    (hw : swappedStores [.Tuple [.Name x px, .Name y py] kt pt] (.Tuple [a, b] k2 pt2) X.env = pure (some [x, y]))
    (hs : swapsWithSole [.Tuple [.Name x px, .Name y py] kt pt] (.Tuple [a, b] k2 pt2) pos.line X.env = pure false) :
    PS X (.Assign [.Tuple [.Name x px, .Name y py] kt pt] (.Tuple [a, b] k2 pt2) pos) (tS C W Γ w0 (.par [(i, false), (j, false)] ts)) :=
  PS_imp (ps_par hc hN hi hj hij hx hy ha hw hs) fun D σ H h => by
    obtain ⟨w, env, st, rfl, R, h⟩ := h
    simp only [exec] at h
    refine ⟨w0, w, env, st, rfl, R, okP_mono (okP_to R h) fun w1 ds st1 e1 S1 h1 vs r => ?_⟩
    obtain ⟨h1, _, R1⟩ := h1
    obtain ⟨w2, s, R2, l⟩ := R1.frzR (escL ts)
    cases hg' : setPar (frzE env (escL ts)) [(i, false), (j, false)] ds with
    | none => rw [hg'] at h1; exact h1.elim
    | some env1 =>
      rw [hg'] at h1
      obtain ⟨d1, d2, rfl⟩ : ∃ d1 d2, ds = [d1, d2] := by
        match ds, hg' with
        | [], h => simp [setPar] at h
        | [_], h => simp [setPar] at h
        | [d1, d2], _ => exact ⟨d1, d2, rfl⟩
        | _ :: _ :: _ :: _, h => simp [setPar] at h
      simp only [setPar, Bool.false_eq_true, if_false, Option.some.injEq] at hg'
      subst hg'
      obtain ⟨v, u, rfl, r1, r2⟩ := ((r.toDs (free_sub (escEL_sub ts) w1)).le l).two
      refine ⟨v, u, rfl, ?_⟩
      have q := h1 w2 _ s.le ((R2.setV (i := i) r1).setV (i := j) r2)
      rw [s.H] at q
      exact q
theorem sim_par3 {i j k : Nat} {x y z : Str} {a b c : Expr} {ts : List T} {px py pz pt pos : Pos} {kt k2 pt2} (hc : X.calm = true) (hN : X.N.Nodup) (hi : X.N[i]? = some x) (hj : X.N[j]? = some y) (hk : X.N[k]? = some z) (hij : i ≠ j) (hik : i ≠ k) (hjk : j ≠ k)
    (hx : X.env.scope.names.lookup x = some .local) (hy : X.env.scope.names.lookup y = some .local) (hz : X.env.scope.names.lookup z = some .local) (ha : PA X [a, b, c] (tL C W Γ ts))
    (hw : swappedStores [.Tuple [.Name x px, .Name y py, .Name z pz] kt pt] (.Tuple [a, b, c] k2 pt2) X.env = pure (some [x, y, z]))
    (hs : swapsWithSole [.Tuple [.Name x px, .Name y py, .Name z pz] kt pt] (.Tuple [a, b, c] k2 pt2) pos.line X.env = pure false) :
    PS X (.Assign [.Tuple [.Name x px, .Name y py, .Name z pz] kt pt] (.Tuple [a, b, c] k2 pt2) pos) (tS C W Γ w0 (.par [(i, false), (j, false), (k, false)] ts)) :=
  PS_imp (ps_par3 hc hN hi hj hk hij hik hjk hx hy hz ha hw hs) fun D σ H h => by
    obtain ⟨w, env, st, rfl, R, h⟩ := h
    simp only [exec] at h
    refine ⟨w0, w, env, st, rfl, R, okP_mono (okP_to R h) fun w1 ds st1 e1 S1 h1 vs r => ?_⟩
    obtain ⟨h1, _, R1⟩ := h1
    obtain ⟨w2, s, R2, l⟩ := R1.frzR (escL ts)
    cases hg' : setPar (frzE env (escL ts)) [(i, false), (j, false), (k, false)] ds with
    | none => rw [hg'] at h1; exact h1.elim
    | some env1 =>
      rw [hg'] at h1
      obtain ⟨d1, d2, d3, rfl⟩ : ∃ d1 d2 d3, ds = [d1, d2, d3] := by
        match ds, hg' with
        | [], h => simp [setPar] at h
        | [_], h => simp [setPar] at h
        | [_, _], h => simp [setPar] at h
        | [d1, d2, d3], _ => exact ⟨d1, d2, d3, rfl⟩
        | _ :: _ :: _ :: _ :: _, h => simp [setPar] at h
      simp only [setPar, Bool.false_eq_true, if_false, Option.some.injEq] at hg'
      subst hg'
      obtain ⟨v, u, x', rfl, r1, r2, r3⟩ := ((r.toDs (free_sub (escEL_sub ts) w1)).le l).three
      refine ⟨v, u, x', rfl, ?_⟩
      have q := h1 w2 _ s.le (((R2.setV (i := i) r1).setV (i := j) r2).setV (i := k) r3)
      rw [s.H] at q
      exact q
theorem sim_if {c : Expr} {a b : List Stmt} {tc : T} {ta tb : List S} {pos : Pos} (hc : PT X c (tT C W Γ tc)) (ha : PSs X a (tSs C W Γ w0 ta)) (hb : PSs X b (tSs C W Γ w0 tb)) : PS X (.If c a b pos) (tS C W Γ w0 (.ifs tc ta tb)) :=
  PS_imp (ps_if hc ha hb) fun D σ H h => by
    obtain ⟨w, env, st, rfl, R, h⟩ := h
    simp only [exec] at h
    refine ⟨w0, w, env, st, rfl, R, okP_mono (okP_to R h) fun w1 d st1 e1 S1 h1 => ?_⟩
    obtain ⟨h1, _, R1⟩ := h1
    split at h1
    · rename_i hd
      refine ⟨true, hd, ?_⟩
      show if true = true then _ else _
      rw [if_pos rfl]
      exact ⟨w1, env, st1, rfl, R1, h1⟩
    · rename_i hd
      refine ⟨false, hd, ?_⟩
      show if false = true then _ else _
      rw [if_neg Bool.false_ne_true]
      exact ⟨w1, env, st1, rfl, R1, h1⟩
    · exact h1.elim
theorem okS_loop {w : Wd} {D : Ends} {r : RS} {f : Env → Store → RS} (h : okS C W w0 w D (match r with
      | .nx env2 st2 => f env2 st2
      | .ct env2 st2 => f env2 st2
      | .bk env2 st2 => .nx env2 st2
      | r => r)) : okS C W w0 w { D with nx := fun σ' H' => ∃ w' env st, w'.H = H' ∧ Rel C w0 w' env st σ' ∧ Le w w' ∧ okS C W w0 w' D (f env st), ct := fun σ' H' => ∃ w' env st, w'.H = H' ∧ Rel C w0 w' env st σ' ∧ Le w w' ∧ okS C W w0 w' D (f env st), bk := D.nx } r := by
  cases r with
  | nx env st => exact fun w' σ' l R => ⟨w', env, st, rfl, R, l, okS_le (show okS C W w0 w D (f env st) from h) l⟩
  | ct env st => exact fun w' σ' l R => ⟨w', env, st, rfl, R, l, okS_le (show okS C W w0 w D (f env st) from h) l⟩
  | bk env st => exact h
  | rt d st => exact h
  | ex x env st => exact h
  | stuck => exact h
theorem okS_mono {w : Wd} {D D' : Ends} {r : RS} (h : okS C W w0 w D r) (h1 : ∀ σ H, D.nx σ H → D'.nx σ H) (h2 : ∀ v H, D.rt v H → D'.rt v H) (h3 : ∀ σ H, D.bk σ H → D'.bk σ H) (h4 : ∀ σ H, D.ct σ H → D'.ct σ H) : okS C W w0 w D' r := by
  cases r with
  | nx env st => exact fun w' σ' l R => h1 _ _ (h w' σ' l R)
  | bk env st => exact fun w' σ' l R => h3 _ _ (h w' σ' l R)
  | ct env st => exact fun w' σ' l R => h4 _ _ (h w' σ' l R)
  | rt d st => exact fun w' v l x S r => h2 _ _ (h w' v l x S r)
  | ex x env st => exact h
  | stuck => exact h
theorem sim_while {c : Expr} {body : List Stmt} {tc : T} {tb : List S} {n : Nat} {pos : Pos} (hp : PassesOwn (model X.prog X.w) X.A X.env X.xe) (hc : PT X c (tT C W Γ tc)) (hb : PSs X body (tSs C W Γ w0 tb)) : PS X (.While c body [] pos) (tS C W Γ w0 (.whl n tc tb)) :=
  PS_imp (ps_while hp hc hb) fun D σ H h => by
    obtain ⟨w, env, st, rfl, R, h⟩ := h
    simp only [exec] at h
    refine ⟨fun m σ H => ∃ w env st, w.H = H ∧ Rel C w0 w env st σ ∧ okS C W w0 w D (wloop (ev Γ tc) (execs Γ tb) m env st), ⟨n, w, env, st, rfl, R, h⟩, ?_⟩
    rintro m σ H ⟨w, env, st, rfl, R, h⟩
    cases m with
    | zero => exact h.elim
    | succ m =>
      simp only [wloop] at h
      refine ⟨w0, w, env, st, rfl, R, okP_mono (okP_to R h) fun w1 d st1 e1 S1 h1 => ?_⟩
      obtain ⟨h1, _, R1⟩ := h1
      split at h1
      · rename_i hd
        refine ⟨false, hd, ?_⟩
        show if false = true then _ else _
        rw [if_neg Bool.false_ne_true]
        exact h1 w1 σ (Le.refl _) R1
      · rename_i hd
        refine ⟨true, hd, ?_⟩
        show if true = true then _ else _
        rw [if_pos rfl]
        refine ⟨_, ?_, w1, env, st1, rfl, R1, okS_loop h1⟩
        rintro σ' H' ⟨w', env', st', e, R', l, h'⟩
        exact ⟨m, Nat.lt_succ_self m, w', env', st', e, R', h'⟩
      · exact h1.elim
theorem sim_for {tg iter : Expr} {body : List Stmt} {g : Tg} {k : ItK} {as : List T} {tb : List S} {pos : Pos} (hp : PassesOwn (model X.prog X.w) X.A X.env X.xe) (hc : X.calm = true) (hi : PI X tg iter (tI C W Γ k as)) (hg : PG X tg (tG C g)) (hb : PSs X body (tSs C W Γ w0 tb))
    (hs : ∀ x, foldedSetIterable iter X.env x = pure x) : PS X (.For tg iter body [] pos) (tS C W Γ w0 (.for_ g k as tb)) :=
  PS_imp (ps_for hp hc hi hg hb hs) fun D σ H h => by
    obtain ⟨w, env, st, rfl, R, h⟩ := h
    simp only [exec] at h
    refine ⟨w0, w, env, st, rfl, R, okP_mono (okP_to R h) fun w1 ds st1 e1 S1 h1 => ?_⟩
    obtain ⟨h1, _, R1⟩ := h1
    cases hit : itSem k ds with
    | none => rw [hit] at h1; exact h1.elim
    | some its =>
      rw [hit] at h1
      refine ⟨its, rfl, fun J hJ => ?_⟩
      obtain ⟨w2, s, R2, l2⟩ := R1.frzR (escL as)
      refine ⟨fun i m σ H => m = its.length - i ∧ i ≤ its.length ∧ ∃ w' env' st', w'.H = H ∧ Rel C w0 w' env' st' σ ∧ Le w2 w' ∧ okS C W w0 w' D (floop g (execs Γ tb) (its.drop i) env' st'),
        ⟨its.length, by simp, Nat.zero_le _, w2, _, st1, s.H, R2, Le.refl _, by rw [List.drop_zero]; exact okS_le h1 s.le⟩, ?_⟩
      rintro i m σ9 H ⟨rfl, hi, w', env', st', rfl, R', l', h'⟩
      have le_t : Le (free env σ (escL as) w1) w' := l2.trans l'
      have le_e := (free_sub (env := env) (σ := σ) (escEL_sub as) w1).le.trans le_t
      obtain ⟨hstop, hgo⟩ := hJ.run w' w' le_e le_t (Sub.refl _) R'.store.trk
      by_cases hlt : i < its.length
      · refine .inr ?_
        obtain ⟨d, hd⟩ : ∃ d, its[i]? = some d := ⟨_, List.getElem?_eq_getElem hlt⟩
        obtain ⟨go, hy⟩ := hgo i d hd
        have hdrop : its.drop i = d :: its.drop (i + 1) := by
          rw [List.drop_eq_getElem_cons hlt]
          rw [List.getElem?_eq_getElem hlt] at hd
          cases hd; rfl
        rw [hdrop] at h'
        simp only [floop] at h'
        cases htg : tgSet g d env' with
        | none => rw [htg] at h'; exact h'.elim
        | some env1 =>
          rw [htg] at h'
          have h' : okS C W w0 w' D (match execs Γ tb env1 st' with
            | .nx env2 st2 => floop g (execs Γ tb) (its.drop (i + 1)) env2 st2
            | .ct env2 st2 => floop g (execs Γ tb) (its.drop (i + 1)) env2 st2
            | .bk env2 st2 => .nx env2 st2
            | r => r) := h'
          refine ⟨go, fun σ3 H3 => ∃ w3 env3 st3, w3.H = H3 ∧ Rel C w0 w3 env3 st3 σ3 ∧ Le w2 w3 ∧ okS C W w0 w3 D (floop g (execs Γ tb) (its.drop (i + 1)) env3 st3), ?_, fun x H' hx => ?_⟩
          · rintro σ3 H3 ⟨w3, env3, st3, e3, R3, l3, h3⟩
            exact ⟨its.length - (i + 1), by omega, rfl, hlt, w3, env3, st3, e3, R3, l3, h3⟩
          · obtain ⟨sm, rx⟩ := hy x H' hx
            have eg : Ext w' { w' with H := H' } := Ext.grow sm
            have Rg := R'.step eg (R'.store.grow sm)
            refine ⟨w0, { w' with H := H' }, env', st', d, env1, rfl, Rg, rx, htg, fun σ2 R2' off => ?_⟩
            refine ⟨{ w' with H := H' }, env1, st', rfl, R2', okS_mono (okS_loop (f := fun env2 st2 => floop g (execs Γ tb) (its.drop (i + 1)) env2 st2) (okS_le h' (Le.grow sm))) (fun σ3 H3 q => ?_) (fun _ _ q => q) (fun _ _ q => q) (fun σ3 H3 q => ?_)⟩
            · obtain ⟨w3, env3, st3, e3, R3, l3, h3⟩ := q
              exact ⟨w3, env3, st3, e3, R3, l'.trans ((Le.grow sm).trans l3), h3⟩
            · obtain ⟨w3, env3, st3, e3, R3, l3, h3⟩ := q
              exact ⟨w3, env3, st3, e3, R3, l'.trans ((Le.grow sm).trans l3), h3⟩
      · have ei : i = its.length := by omega
        subst ei
        refine .inl ⟨hstop, ?_⟩
        rw [List.drop_length] at h'
        exact h' w' _ (Le.refl _) R'
end
end FY

end

section
set_option maxRecDepth 100000
/-! Fy14: own objects made, written; shared cells written. -/
namespace FY
open PySem PySem.Spec PyProof.Rows L2
section
variable {C : PC} {W : WX} {Γ : GS} {X : Cx} {w0 : Wd}
theorem frzE_off {env : Env} {j : Nat} : ∀ {js : List Nat}, j ∉ js → (frzE env js)[j]? = env[j]?
  | [], _ => rfl
  | k :: js, h => by
    simp only [List.mem_cons, not_or] at h
    unfold frzE
    split
    · rw [set_off h.1]; exact frzE_off h.2
    · exact frzE_off h.2
/-- a slot gets a new list of its own -/
theorem setO_law {w : Wd} {env : Env} {σ : L2.St} {De : Ends} {js : List Nat} {i : Nat} {ds : List D} {vs : List V} {st1 : Store} {H' : Hp} {a : Addr} (R : Rel C w0 w env st1 σ) (sm : Same w.H H') (ha : w.H a = none) (hH : H' a = some (.lst vs)) (r : RelDs C (free env σ js w) ds vs)
    (h : okS C W w0 w De (.nx ((frzE env js).set i (.own (.lst ds))) st1)) : De.nx (σ.set i (some (.ref a))) H' := by
  obtain ⟨w2, s, R2, l⟩ := R.frzR js
  have sm2 : Same w2.H H' := by rw [s.H]; exact sm
  have ha2 : w2.H a = none := by rw [s.H]; exact ha
  have R3 : Rel C w0 (ownW w2 H' a) (frzE env js) st1 σ := R2.step (ext_own sm2 ha2) (srel_own R2.store sm2 ha2 (by rw [hH]; trivial))
  refine h (ownW w2 H' a) _ (s.le.trans (le_own sm2 ha2)) (R3.setO (a := a) (.inr rfl) ⟨vs, hH, (r.le l).le (le_own sm2 ha2)⟩ (R2.ext.free (Fr.none ha2)) (fun l hl => cell_ne R2.store ha2 l hl) fun j d' hj he hs => ?_)
  obtain ⟨v, h1, h2⟩ := R2.slot j _ he
  obtain ⟨b, rfl, hb, hc, hn, hl⟩ := h2.own_ref
  rw [hs] at h1
  cases h1
  exact hc.there (Fr.none ha2)
theorem sim_setO_lst {i : Nat} {x : Str} {es : List Expr} {ts : List T} {pos pos' p2 : Pos} (hN : X.N.Nodup) (hi : X.N[i]? = some x) (hx : Loc X.env.scope x) (hn : ts.length ≤ szL) (ha : PA X es (tL C W Γ ts)) (hs : swapsWith (.List es p2) (some (.Name x pos')) pos.line X.env = pure false) (hf : X.fn x = true ∨ X.env.scope.names.lookup x = some .local) :
    PS X (.Assign [.Name x pos'] (.List es p2) pos) (tS C W Γ w0 (.setO i (.op .lst ts))) :=
  PS_imp (ps_set hN hi hx (pe_lst ha) hs hf) fun De σ H h => by
    obtain ⟨w, env, st, rfl, R, h⟩ := h
    simp only [exec, ev] at h
    refine ⟨w0, w, env, st, rfl, R, okP_mono (okP_eq (okP_bind (okP_to R h))) fun w1 ds st1 e1 S1 h1 vs rs => ?_⟩
    obtain ⟨he, h1⟩ := h1
    obtain ⟨d, hd, h1⟩ := okP_liftO h1
    cases (show some (D.lst ds) = some d from hd)
    refine ⟨by rw [← rs.length, evL_length he, ← szL_eq]; exact hn, fun p hp => ?_⟩
    obtain ⟨h2, _, R1⟩ := h1 w1 (Ext.refl _) S1
    have e2 : esc (.op .lst ts) = escL ts := by simp only [esc, opEsc]
    rw [e2] at h2
    exact setO_law R1 (same_upd hp) hp upd_same (rs.toDs (free_sub (escEL_sub ts) w1)) h2
theorem esc_comp {g : Tg} {k : ItK} {as cs : List T} {e : T} : esc (.comp g k as cs e) = escEL as ++ esc e := by simp only [esc]
/-- the walk of a comprehension whose value goes to a name, as a tree -/
theorem lc_set {own : List (Str × Nat)} {g : Tg} {k : ItK} {as cs : List T} {e : T} {i : Nat} (hv : own.map (·.2) = tgSlots g) {D : Ends} {σ : L2.St} {H : Hp} (h : tS C W Γ w0 (.set i (.comp g k as cs e)) D σ H) :
    L2.tAsg (L2.tLc (tI C W Γ k as) (tG C g) (tTs C noW Γ cs) (tE C noW Γ e) (own.map (·.2))) (gName i) D σ H := by
  obtain ⟨w, env, st, hw, R, h⟩ := h
  simp only [exec] at h
  rw [hv]
  refine tLc_of hw R (okP_to R h) fun w1 w' Da ds vs st1 st' R1 ew S' hn hB hρ hD hr hP => ?_
  obtain ⟨h1, _, R2⟩ := hP (unW w' Da) (ext_un ew (Fr.none hn) R1.store.trk) (srel_un S' hρ)
  have e0 : escE (.comp g k as cs e) = esc (.comp g k as cs e) := rfl
  refine set_law (t := .comp g k as cs e) (w := unW w' Da) R2 ?_ h1
  rw [e0, esc_comp]
  refine ⟨Da, vs, rfl, fun z => z.1.2 rfl, hD, hr.le ?_⟩
  exact Le.of_ban (w := free env σ (escEL as ++ esc e) w') (B' := (free env σ (escEL as ++ esc e) (unW w' Da)).B) fun a q => ⟨q.1.1, q.2⟩
/-- .. as an own object -/
theorem lc_setO {own : List (Str × Nat)} {g : Tg} {k : ItK} {as cs : List T} {e : T} {i : Nat} (hv : own.map (·.2) = tgSlots g) {D : Ends} {σ : L2.St} {H : Hp} (h : tS C W Γ w0 (.setO i (.comp g k as cs e)) D σ H) :
    L2.tAsg (L2.tLc (tI C W Γ k as) (tG C g) (tTs C noW Γ cs) (tE C noW Γ e) (own.map (·.2))) (gName i) D σ H := by
  obtain ⟨w, env, st, hw, R, h⟩ := h
  simp only [exec] at h
  rw [hv]
  refine tLc_of hw R (okP_to R h) fun w1 w' Da ds vs st1 st' R1 ew S' hn hB hρ hD hr hP => ?_
  obtain ⟨h1, _, R2⟩ := hP w' ew S'
  rw [esc_comp] at h1
  obtain ⟨w2, s, R3, hb3, hk⟩ := R2.frzK (escEL as ++ esc e)
  have l : Le (free env σ (escEL as ++ esc e) w') w2 := frz_le s hb3
  have hb2 : w2.B Da := hk Da hB (by
    rintro ⟨j, _, d', h1, h2⟩
    obtain ⟨v, h5, h6⟩ := R1.slot j _ h1
    obtain ⟨c, rfl, hb, hc, hn', hl⟩ := h6.own_ref
    rw [h2] at h5
    cases h5
    exact hc.there (Fr.none hn))
  have q := h1 w2 _ s.le (R3.setO (i := i) (d := .lst ds) (a := Da) hb2 ⟨vs, by rw [s.H]; exact hD, hr.le l⟩ (R1.ext.free (Fr.none hn)) (fun l hl => by
      rw [s.n] at hl; rw [s.ρ]; exact hρ l hl) fun j d' hj he hs => by
    obtain ⟨h4, _⟩ := frzE_own (j := j) he
    obtain ⟨v, h5, h6⟩ := R1.slot j _ h4
    obtain ⟨b, rfl, hb, hc, hn', hl⟩ := h6.own_ref
    rw [hs] at h5
    cases h5
    exact hc.there (Fr.none hn))
  rw [s.H] at q
  exact q
theorem sim_setLc {own : List (Str × Nat)} {i : Nat} {y : Str} {py : Pos} {elt tg iter : Expr} {ifs : List Expr} {scope : Scope} {pos spos : Pos} {g : Tg} {k : ItK} {as cs : List T} {e : T} {o : Bool}
    (hc : X.calm = true) (hN : X.N.Nodup) (hy : X.N[i]? = some y) (hyl : X.env.scope.names.lookup y = some .local) (hsw : swapsWith (.ListComp elt [⟨tg, iter, ifs, 0⟩] scope pos) (some (.Name y py)) spos.line X.env = pure true)
    (hi : PI X tg iter (tI C W Γ k as)) (ok : BlkOk X.N X.env.scope scope own) (hv : own.map (·.2) = tgSlots g)
    (hg : ∀ (s : Shared) (H : Hp) (C' : Addr) (cl : List (Str × Addr)) (fp : List Addr), PG (X.blk s H scope (compEnvC scope cl C' X.env) fp) tg (tG C g))
    (ht : ∀ (s : Shared) (H : Hp) (C' : Addr) (cl : List (Str × Addr)) (fp : List Addr), PTs (X.blk s H scope (compEnvC scope cl C' X.env) fp) ifs (tTs C noW Γ cs))
    (he : ∀ (s : Shared) (H : Hp) (C' : Addr) (cl : List (Str × Addr)) (fp : List Addr), PE (X.blk s H scope (compEnvC scope cl C' X.env) fp) elt (tE C noW Γ e))
    (hs : ∀ x, foldedSetIterable iter X.env x = pure x) :
    PS X (.Assign [.Name y py] (.ListComp elt [⟨tg, iter, ifs, 0⟩] scope pos) spos) (tS C W Γ w0 (if o then .setO i (.comp g k as cs e) else .set i (.comp g k as cs e))) :=
  PS_imp (ps_setLc hc hN hy hyl hsw hi ok hg ht he hs) fun D σ H h => by
    cases o with
    | true => exact lc_setO hv h
    | false => exact lc_set hv h
/-- .. where the name is no local of the def or stands on another line -/
theorem sim_setLcN {own : List (Str × Nat)} {i : Nat} {y : Str} {py : Pos} {elt tg iter : Expr} {ifs : List Expr} {scope : Scope} {pos spos : Pos} {g : Tg} {k : ItK} {as cs : List T} {e : T} {o : Bool}
    (hc : X.calm = true) (hN : X.N.Nodup) (hy : X.N[i]? = some y) (hx : Loc X.env.scope y) (hsw : swapsWith (.ListComp elt [⟨tg, iter, ifs, 0⟩] scope pos) (some (.Name y py)) spos.line X.env = pure false) (hf : X.fn y = true ∨ X.env.scope.names.lookup y = some .local)
    (hi : PI X tg iter (tI C W Γ k as)) (ok : BlkOk X.N X.env.scope scope own) (hv : own.map (·.2) = tgSlots g)
    (hg : ∀ (s : Shared) (H : Hp) (C' : Addr) (cl : List (Str × Addr)) (fp : List Addr), PG (X.blk s H scope (compEnvC scope cl C' X.env) fp) tg (tG C g))
    (ht : ∀ (s : Shared) (H : Hp) (C' : Addr) (cl : List (Str × Addr)) (fp : List Addr), PTs (X.blk s H scope (compEnvC scope cl C' X.env) fp) ifs (tTs C noW Γ cs))
    (he : ∀ (s : Shared) (H : Hp) (C' : Addr) (cl : List (Str × Addr)) (fp : List Addr), PE (X.blk s H scope (compEnvC scope cl C' X.env) fp) elt (tE C noW Γ e))
    (hs : ∀ x, foldedSetIterable iter X.env x = pure x) :
    PS X (.Assign [.Name y py] (.ListComp elt [⟨tg, iter, ifs, 0⟩] scope pos) spos) (tS C W Γ w0 (if o then .setO i (.comp g k as cs e) else .set i (.comp g k as cs e))) :=
  PS_imp (ps_set hN hy hx (pe_lc hc hN hi ok hg ht he hs) hsw hf) fun D σ H h => by
    cases o with
    | true => exact lc_setO hv h
    | false => exact lc_set hv h
/-! ### own lists written -/
theorem Rel.updO {w : Wd} {env : Env} {st : Store} {σ : L2.St} (R : Rel C w0 w env st σ) {i : Nat} {ds ds' : List D} {a : Addr} {vs vs' : List V} (he : env[i]? = some (.own (.lst ds))) (hs : σ[i]? = some (some (.ref a))) (hH : w.H a = some (.lst vs)) (r : RelDs C w ds' vs') :
    Rel C w0 (updW w a (.lst vs')) (env.set i (.own (.lst ds'))) st σ := by
  obtain ⟨v, h1, h2⟩ := R.slot i _ he
  obtain ⟨b, rfl, hb, hc, hn, hl⟩ := h2.own_ref
  rw [hs] at h1
  cases h1
  exact
  { ext := ext_upd R.ext hn
    trk0 := R.trk0
    store := srel_upd R.store hb hl hH
    len := by rw [List.length_set]; exact R.len
    slot := fun j s h => by
      rcases set_get h with ⟨rfl, rfl, hl'⟩ | ⟨hj, h⟩
      · exact ⟨_, hs, hb, ⟨vs', upd_same, r.le (le_upd hb ne_tbl_lst)⟩, hn, hl⟩
      · obtain ⟨v, h3, h4⟩ := R.slot j s h
        refine ⟨v, h3, ?_⟩
        cases s with
        | none => trivial
        | val d =>
          obtain ⟨x, rfl, q⟩ := h4.val_some
          exact q.le (le_upd hb ne_tbl_lst)
        | own d =>
          obtain ⟨c, rfl, hb', hc', hn', hl'⟩ := h4.own_ref
          refine ⟨hb', hc'.le (le_upd hb ne_tbl_lst) fun o q _ => ?_, hn', hl'⟩
          have ne : c ≠ a := fun z => hj (R.apart j i d _ a h he (z ▸ h3) hs)
          show upd w.H a _ c = some o
          rw [upd_ne ne]; exact q
        | exc x =>
          obtain ⟨c, cls, dx, rfl, q1, q2⟩ := h4.exc_ref
          exact ⟨cls, dx, q1, q2.le (le_upd hb ne_tbl_lst)⟩
        | fnv =>
          obtain ⟨f, rfl, q1⟩ := h4.fn_ref
          exact q1
    apart := fun j k d1 d2 b h1 h2 h3 h4 => by
      have back : ∀ {j : Nat} {d1 : D}, (env.set i (.own (.lst ds')))[j]? = some (.own d1) → ∃ d, env[j]? = some (.own d) := fun {j d1} h => by
        rcases set_get h with ⟨rfl, _, _⟩ | ⟨_, h⟩
        · exact ⟨_, he⟩
        · exact ⟨_, h⟩
      obtain ⟨d1', q1⟩ := back h1
      obtain ⟨d2', q2⟩ := back h2
      exact R.apart j k d1' d2' b q1 q2 h3 h4 }
theorem sim_app {i : Nat} {x : Str} {e : Expr} {t : T} {p apos cpos pos : Pos} (hK : X.K = C.K) (hN : X.N[i]? = some x) (hv : Vis X.env.scope x) (hd : (x == ("__debug__" : Str)) = false) (hcd : (x == ("__classdict__" : Str)) = false) (he : PE X e (tE C W Γ t)) (hst : starEach [e] X.env = (false, eval e X.env) :: starEach [] X.env)
    (hbase : attributeBase (.Name x p) "append" X.env (eval (.Name x p) X.env) = eval (.Name x p) X.env)
    (hfew : ((backTo cpos (starEach [e] X.env)).all (fun x => !x.1) && (backToKw cpos (keywordEach [] X.env)).all (fun x => x.1.isSome)
      && decide (([e] : List Expr).length + ([] : List Keyword).length + (if ([] : List Keyword).isEmpty then 0 else 1) < 30)) = true)
    (hline : (apos.endLine == cpos.line) = true) (hpl : (backTo cpos (starEach [] X.env)).any (·.1) = false)
    (hsw : swapsWith (.Call (.Attribute (.Name x p) "append" apos) [e] [] cpos) none pos.line X.env = pure false) :
    PS X (.Expr (.Call (.Attribute (.Name x p) "append" apos) [e] [] cpos) pos) (tS C W Γ w0 (.app i t)) :=
  PS_imp (ps_expr (pe_bm PySem.F.plainAttrs_list PySem.F.slot_list_append PySem.F.type_list_append mt_append (pe_var hN hv hd hcd) (pa_cons he pa_nil hst) hbase hfew hline hst hpl) hsw) fun D σ H h => by
    obtain ⟨w, env, st, rfl, R, h⟩ := h
    simp only [exec] at h
    split at h
    · rename_i ds hds
      obtain ⟨v, h1, h2⟩ := R.slot i _ hds
      obtain ⟨a, rfl, hb, hc, hn, hl⟩ := h2.own_ref
      obtain ⟨vs, hH, rvs⟩ := id hc
      refine ⟨.ref a, h1, .inl ⟨rfl, _, .inl (.inl hH)⟩, ?_⟩
      refine ⟨w0, w, env, st, rfl, R, okP_mono (okP_to R h) fun w1 d st1 e1 S1 h3 y ry => ?_⟩
      obtain ⟨h3, _, R1⟩ := h3
      split at h3
      · rename_i hcnd
        rw [Bool.and_eq_true] at hcnd
        have hni : i ∉ esc t := by simpa using hcnd.1
        have hlt : ds.length < szL := by simpa using hcnd.2
        obtain ⟨w2, s, R2, l⟩ := R1.frzR (esc t)
        have hH1 : w1.H a = some (.lst vs) := e1.keep a _ hH hl ne_tbl_lst
        have hH2 : w2.H a = some (.lst vs) := by rw [s.H]; exact hH1
        have he2 : (frzE env (esc t))[i]? = some (.own (.lst ds)) := by rw [frzE_off hni]; exact hds
        obtain ⟨v', g1, g2⟩ := R2.slot i _ he2
        obtain ⟨b, rfl, gb, gc, gn, gl⟩ := g2.own_ref
        rw [h1] at g1
        cases g1
        obtain ⟨vs2, gH, gr⟩ := id gc
        rw [hH2] at gH
        cases gH
        have ry2 : RelD C w2 d y := (ry.toD (free_sub (escE_sub t) w1)).le l
        refine ⟨a, vs, y, rfl, rfl, hH1, by rw [← gr.length, ← szL_eq]; exact hlt, ?_⟩
        have q := h3 _ _ (s.le.trans (le_upd gb ne_tbl_lst)) (R2.updO he2 h1 hH2 (gr.append (.cons ry2 .nil)))
        have e9 : (updW w2 a (.lst (vs ++ [y]))).H = upd w1.H a (.lst (vs ++ [y])) := by show upd w2.H a _ = _; rw [s.H]
        rw [e9] at q
        exact q
      · exact h3.elim
    · exact h.elim
/-- x[j] = e, the list the frame's own -/
theorem sim_setI {i : Nat} {x : Str} {e j : Expr} {t tj : T} {p pos spos : Pos} (hN : X.N[i]? = some x) (hv : Vis X.env.scope x) (hd : (x == ("__debug__" : Str)) = false) (hcd : (x == ("__classdict__" : Str)) = false) (he : PE X e (tE C W Γ t)) (hj : PE X j (tE C W Γ tj))
    (hs : swapsWithSole [.Subscript (.Name x p) j pos] e spos.line X.env = pure false) (hw : swappedStores [.Subscript (.Name x p) j pos] e X.env = pure none) (h1 : (assignEach [.Subscript (.Name x p) j pos] X.env).map (·.2) = [assign (.Subscript (.Name x p) j pos) X.env])
    (ha : ∀ v, assign (.Subscript (.Name x p) j pos) X.env v = (do
      let ov ← holding [v] (eval (.Name x p) X.env)
      let iv ← holding [v, ov] (eval j X.env)
      standAt pos
      holding [v, ov, iv] (setItem ov iv v)
      release [v, ov, iv] [])) :
    PS X (.Assign [.Subscript (.Name x p) j pos] e spos) (tS C W Γ w0 (.setI i tj t)) :=
  PS_imp (ps_asg he (pg_sub (pe_var hN hv hd hcd) hj set_list ha) hs hw h1) fun D σ H h => by
    obtain ⟨w, env, st, rfl, R, h⟩ := h
    simp only [exec] at h
    split at h
    · rename_i ds hds
      obtain ⟨v, h1, h2⟩ := R.slot i _ hds
      obtain ⟨a, rfl, hb, hc, hn, hl⟩ := h2.own_ref
      obtain ⟨vs, hH, rvs⟩ := id hc
      refine ⟨w0, w, env, st, rfl, R, okP_mono (okP_to R h) fun w1 d st1 e1 S1 h3 y ry => ?_⟩
      obtain ⟨h3, _, R1⟩ := h3
      refine ⟨.ref a, h1, w0, w1, env, st1, rfl, R1, okP_mono (okP_to R1 h3) fun w3 dk st3 e3 S3 h4 z rz => ?_⟩
      obtain ⟨h4, _, R3⟩ := h4
      split at h4
      · rename_i k
        split at h4
        · rename_i hcnd
          split at h4
          · rename_i n hn
            have hni : i ∉ esc t := by simpa using hcnd
            obtain ⟨w2, s, R2, l⟩ := R3.frzR (esc t)
            have hH3 : w3.H a = some (.lst vs) := (e1.trans e3).keep a _ hH hl ne_tbl_lst
            have hH2 : w2.H a = some (.lst vs) := by rw [s.H]; exact hH3
            have he2 : (frzE env (esc t))[i]? = some (.own (.lst ds)) := by rw [frzE_off hni]; exact hds
            obtain ⟨v', g1, g2⟩ := R2.slot i _ he2
            obtain ⟨b, rfl, gb, gc, gn, gl⟩ := g2.own_ref
            rw [h1] at g1
            cases g1
            obtain ⟨vs2, gH, gr⟩ := id gc
            rw [hH2] at gH
            cases gH
            have ry2 : RelD C w2 d y := (RelD.le (R1.free_le e3 fun _ z => z) (ry.toD (free_sub (escE_sub t) w1))).le l
            refine ⟨a, vs, k, n, rfl, rz.intE, hH3, by rw [← gr.length]; exact hn, ?_⟩
            have q := h4 _ _ (s.le.trans (le_upd gb ne_tbl_lst)) (R2.updO he2 h1 hH2 (gr.set ry2 n))
            have e9 : (updW w2 a (.lst (vs.set n y))).H = upd w3.H a (.lst (vs.set n y)) := by show upd w2.H a _ = _; rw [s.H]
            rw [e9] at q
            exact q
          · exact h4.elim
        · exact h4.elim
      · exact h4.elim
    · exact h.elim
/-- a shared cell is written -/
theorem cell_upd {w : Wd} {st : Store} (S : SRel C w st) {l : Nat} {ds ds' : List D} {vs vs' : List V} (hl : st[l]? = some (.lst ds)) (hH : w.H (w.ρ l) = some (.lst vs)) (r : RelDs C w ds' vs') : Ext w (updW w (w.ρ l) (.lst vs')) ∧ SRel C (updW w (w.ρ l) (.lst vs')) (st.set l (.lst ds')) := by
  have hlt : l < w.n := by rw [S.len]; exact (List.getElem?_eq_some_iff.mp hl).1
  have hb : w.B (w.ρ l) := S.bρ hlt
  refine ⟨⟨fun b o q ho _ => ?_, fun b q => (le_upd (o := .lst vs') hb ne_tbl_lst).trk b q, fun b q => q, fun b q => .inl q, Nat.le_refl _, fun _ _ => rfl, fun m h1 h2 => absurd (Nat.lt_of_lt_of_le h2 h1) (Nat.lt_irrefl _)⟩, ⟨by rw [List.length_set]; exact S.len, fun m d hm => ?_, S.inj, fun b q => ?_, tabs_upd S.tabs (.inr (.inl ⟨vs, hH⟩))⟩⟩
  · show upd w.H _ _ b = some o
    rw [upd_ne (fun z => ho l hlt z.symm)]; exact q
  · rcases set_get hm with ⟨rfl, rfl, _⟩ | ⟨ne, hm⟩
    · exact ⟨hb, vs', upd_same, r.le (le_upd hb ne_tbl_lst)⟩
    · obtain ⟨c1, c2⟩ := S.cell m d hm
      have hm' : m < w.n := by rw [S.len]; exact (List.getElem?_eq_some_iff.mp hm).1
      refine ⟨c1, c2.le (le_upd hb ne_tbl_lst) fun o q _ => ?_⟩
      show upd w.H _ _ (w.ρ m) = some o
      rw [upd_ne fun z => ne (S.inj m l hm' hlt z)]; exact q
  · show Mut (upd w.H _ _ b)
    by_cases z : b = w.ρ l
    · rw [z, upd_same]; trivial
    · rw [upd_ne z]; exact S.trk b q
theorem sim_setC {i : Nat} {x : Str} {e j : Expr} {t tj : T} {p pos spos : Pos} (hN : X.N[i]? = some x) (hv : Vis X.env.scope x) (hd : (x == ("__debug__" : Str)) = false) (hcd : (x == ("__classdict__" : Str)) = false) (he : PE X e (tE C W Γ t)) (hj : PE X j (tE C W Γ tj))
    (hs : swapsWithSole [.Subscript (.Name x p) j pos] e spos.line X.env = pure false) (hw : swappedStores [.Subscript (.Name x p) j pos] e X.env = pure none) (h1 : (assignEach [.Subscript (.Name x p) j pos] X.env).map (·.2) = [assign (.Subscript (.Name x p) j pos) X.env])
    (ha : ∀ v, assign (.Subscript (.Name x p) j pos) X.env v = (do
      let ov ← holding [v] (eval (.Name x p) X.env)
      let iv ← holding [v, ov] (eval j X.env)
      standAt pos
      holding [v, ov, iv] (setItem ov iv v)
      release [v, ov, iv] [])) :
    PS X (.Assign [.Subscript (.Name x p) j pos] e spos) (tS C W Γ w0 (.setC i tj t)) :=
  PS_imp (ps_asg he (pg_sub (pe_var hN hv hd hcd) hj set_list ha) hs hw h1) fun D σ H h => by
    obtain ⟨w, env, st, rfl, R, h⟩ := h
    simp only [exec] at h
    split at h
    · rename_i l hl
      have hsl := getRef_some hl
      obtain ⟨v, h1, h2⟩ := R.slot i _ hsl
      obtain ⟨a, rfl, ra⟩ := h2.val_some
      cases ra with
      | ref hln =>
      refine ⟨w0, w, env, st, rfl, R, okP_mono (okP_to R h) fun w1 d st1 e1 S1 h3 y ry => ?_⟩
      obtain ⟨h3, _, R1⟩ := h3
      refine ⟨.ref (w.ρ l), h1, w0, w1, env, st1, rfl, R1, okP_mono (okP_to R1 h3) fun w3 dk st3 e3 S3 h4 z rz => ?_⟩
      obtain ⟨h4, _, R3⟩ := h4
      split at h4
      · rename_i k
        split at h4
        · rename_i ds hds
          split at h4
          · rename_i n hn
            obtain ⟨w2, s, R2, l2⟩ := R3.frzR (esc t)
            have eρ : w3.ρ l = w.ρ l := (e1.trans e3).ρ l hln
            have eρ2 : w2.ρ l = w.ρ l := by rw [s.ρ]; exact eρ
            obtain ⟨c1, c2⟩ := R2.store.cell l _ hds
            obtain ⟨vs, hH, rvs⟩ := c2
            have hH' : w2.H (w2.ρ l) = some (.lst vs) := hH
            have ry2 : RelD C w2 d y := (RelD.le (R1.free_le e3 fun _ z => z) (ry.toD (free_sub (escE_sub t) w1))).le l2
            obtain ⟨ex, sx⟩ := cell_upd R2.store hds hH' (rvs.set ry2 n)
            have hH3 : w3.H (w.ρ l) = some (.lst vs) := by rw [← eρ2, ← s.H]; exact hH
            refine ⟨w.ρ l, vs, k, n, rfl, rz.intE, hH3, by rw [← rvs.length]; exact hn, ?_⟩
            have q := h4 _ _ (s.le.trans (ex.le R2.store)) (R2.step ex sx)
            have e9 : (updW w2 (w2.ρ l) (.lst (vs.set n y))).H = upd w3.H (w.ρ l) (.lst (vs.set n y)) := by show upd w2.H _ _ = _; rw [s.H, eρ2]
            rw [e9] at q
            exact q
          · exact h4.elim
        · exact h4.elim
      · exact h4.elim
    · exact h.elim
end
end FY

end

section
set_option maxRecDepth 100000
/-! Fy15: exceptions. -/
namespace FY
open PySem PySem.Spec PyProof.Rows L2
section
variable {C : PC} {W : WX} {Γ : GS} {X : Cx} {w0 : Wd}
/-! ### raise -/
/-- an own class without own __init__, called without arguments -/
theorem mk_bare {A : Addr} {bm : List Value} {B nI iI : String} {x : Str} {p pos : Pos} (F : ExcBaseFacts B nI iI bm) (q : PySem.W.excIn X.K A bm nI = true) (gC : X.mg x = some (.ref A)) (kC : PySem.W.keepIn X.K (.ref A) = true) (r : Raises X (.ref A)) (hg : Gl X x) (hdb : (x == ("__debug__" : Str)) = false) :
    PMk X (.Call (.Name x p) [] [] pos) (fun _ H Q => Q (.ref A) none H) := fun pins s σ H Q J h => by
  refine wpAny_Call_Name_kw (ld_glob J hg gC (PySem.W.callWith_K0 J.kIn kC ?_) hdb)
  obtain ⟨_, _, _, _, _, _, _, _, _, _, _, _, _, _, _, _, _, e1, e2, e3, e4⟩ := exc_obj J.kIn q
  show wpAny _ _ (call (.ref A) []) _ _ _
  exact wpAny_call_exc_subT F e4 e1 e2 e3 (fun _ _ made => mk_of J made r h (J.hok.gone made.new)) (Nat.zero_le _)
theorem sim_raise0 {A : Addr} {bm : List Value} {B nI iI : String} {x : Str} {p pos pos2 : Pos} (F : ExcBaseFacts B nI iI bm) (q : PySem.W.excIn X.K A bm nI = true) (gX : X.mg = C.mg) (gC : X.mg x = some (.ref A)) (kC : PySem.W.keepIn X.K (.ref A) = true) (r : Raises X (.ref A)) (hg : Gl X x) (hdb : (x == ("__debug__" : Str)) = false) (hc : X.calm = true) (tk : Takes X W) :
    PS X (.Raise (some (.Call (.Name x p) [] [] pos)) none pos2) (tS C W Γ w0 (.rais x [] [])) :=
  PS_imp (ps_raise hc tk (mk_bare F q gC kC r hg hdb)) fun De σ H h => by
    obtain ⟨w, env, st, rfl, R, h⟩ := h
    simp only [exec, evL, FY.R.to, escL, frzE] at h
    exact h w σ _ _ (Le.refl _) R ⟨A, rfl, by rw [← gX]; exact gC, .inl ⟨rfl, rfl⟩⟩
/-! ### several named clauses -/
/-- one clause: class, slot, suite -/
structure Cls1 where
  c : Value
  i : Nat
  ts : Addr → Value → Option Addr → L2.TS
/-- a suite's ends: the clause's name goes -/
def Ends.out (D : Ends) (i : Nat) : Ends := { nx := fun σ H => D.nx (σ.set i none) H, rt := D.rt, bk := fun σ H => D.bk (σ.set i none) H, ct := fun σ H => D.ct (σ.set i none) H }
def wClauses (K : PySem.W.Frag) (Wo : WX) (D : Ends) : List Cls1 → WX
  | [] => Wo
  | k :: r => fun cls d σ H => ∃ b, PySem.W.exmOne K cls k.c = some b ∧ (b = true → ∀ a, H a = none → k.ts a cls d (Ends.out D k.i) (σ.set k.i (some (.ref a))) H) ∧ (b = false → wClauses K Wo D r cls d σ H)
inductive Clauses (X : Cx) : List ExceptHandler → List Cls1 → Prop
  | nil : Clauses X [] []
  | cons {x n : Str} {k : Cls1} {b : Stmt} {bs : List Stmt} {np hp : Pos} {hds : List ExceptHandler} {l : List Cls1} (nm : Names X x k.c) (at_ : X.N[k.i]? = some n) (loc : X.env.kindOf n = some .local)
      (su : ∀ (a : Addr) (o : Obj) (cls : Value) (d : Option Addr) (pn : List (Addr × Obj)), Zc cls d o → (∃ vs, o.data = .fields vs) → PSs (X.suite a ((a, o) :: pn)) (b :: bs) (k.ts a cls d)) (r : Clauses X hds l) :
      Clauses X (.ExceptHandler (some (.Name x np)) (some n) (b :: bs) hp :: hds) (k :: l)
section
variable {De : Ends} {pins : List (Addr × Obj)} {a : Addr} {B : Heap} {sI s' : Shared} {σ' : L2.St} {H' : Hp} {cls : Value} {d : Option Addr}
/-- where the exception stands when the clauses are asked -/
structure Landed (X : Cx) (pins : List (Addr × Obj)) (a : Addr) (B : Heap) (sI s' : Shared) (σ' : L2.St) (H' : Hp) (cls : Value) (d : Option Addr) : Prop where
  ok : X.Ok
  inv : Inv X pins σ' H' sI
  nb : ∀ b o, sI.heap.get? b = some o → b ∉ frs X.stack → B.get? b = some o
  up : sI.heap.UpToSlots s'.heap
  fl : HandSPX.FlyingZ B (X.env :: X.outer) a (Zc cls d) s'.heap
  na : H' a = none
  os : s'.os = sI.os
  ag : AllBare s'.gens
theorem Landed.here (L : Landed X pins a B sI s' σ' H' cls d) : Inv X pins σ' H' { s' with heap := s'.heap } := L.inv.landed L.nb L.fl.1 L.up L.os L.ag
theorem Landed.off (L : Landed X pins a B sI s' σ' H' cls d) (hf : X.env.frame = some X.env.locals) : a ≠ X.env.locals ∧ a ∉ X.fs := by
  obtain ⟨o, vs, h1, _, h2⟩ := L.fl.there
  have nf : a ∉ frs (X.env :: X.outer) := fun m => by
    obtain ⟨_, o', e, k⟩ := L.fl.2.2.1.mem m
    rw [h1] at e
    cases e
    exact k _ h2
  refine ⟨fun z => nf (List.mem_filterMap.mpr ⟨X.env, List.mem_cons_self, by rw [hf, z]⟩), fun m => ?_⟩
  obtain ⟨e, he, q⟩ := List.mem_filterMap.mp m
  exact nf (List.mem_filterMap.mpr ⟨e, List.mem_cons_of_mem _ he, q⟩)
/-- no clause was for it: it goes on -/
theorem Landed.leave (L : Landed X pins a B sI s' σ' H' cls d) (hs : X.stack = X.env :: X.outer) (hf : X.env.frame = some X.env.locals) (tk : Takes X W) (w : W cls d σ' H') : wpAny (model X.prog X.w) X.A (handleBy (.ref a) X.env []) (SP X pins De) X.xe s' := by
  refine wpAny_handleBy_nil ?_
  obtain ⟨_, _, _, _, _, _, _, _, h1, _, h2, h3, _⟩ := id L.fl
  have go : wpAny (model X.prog X.w) X.A (setFlight (.ref a) X.env.frame) (fun _ s4 => wpAny (model X.prog X.w) X.A (throw (.ref a) : Sem Flow) (SP X pins De) X.xe s4) X.xe s' := by
    rw [hf]
    exact HandSPX.setFlight_upZ L.fl fun h4 held up4 => wpAny_throw (tk _ _ ⟨a, B, sI, pins, σ', H', cls, d, rfl, L.inv, L.nb, L.up.trans up4, .inr (.inr (by rw [hs]; exact held)), L.na, L.os, L.ag, w⟩)
  unfold PySem.passOn
  refine wpAny_bind (wpAny_field h1 h2 h3 ?_)
  rw [if_neg (by simp)]
  first
    | exact wpAny_bind (wpAny_pure (wpAny_bind go))
    | exact wpAny_bind go
theorem Clauses.run (hs : X.stack = X.env :: X.outer) (hf : X.env.frame = some X.env.locals) (nd : X.N.Nodup) (tk : Takes X W) (L : Landed X pins a B sI s' σ' H' cls d) {hds : List ExceptHandler} {l : List Cls1} (hk : Clauses X hds l) :
    wClauses X.K W De l cls d σ' H' → wpAny (model X.prog X.w) X.A (handleBy (.ref a) X.env hds) (SP X pins De) X.xe s' := by
  induction hk with
  | nil => exact fun w => L.leave hs hf tk w
  | @cons x n k b bs np hp hds l nm at_ loc su r ih =>
    rintro ⟨t, ht, yes, no⟩
    obtain ⟨nL, nF⟩ := L.off hf
    obtain ⟨o, vs, h1, h2, h3⟩ := L.fl.there
    have S := L.here.suite (vs := vs) h1 h3 L.na nL nF
    have is_ : PySem.W.Looks (model X.prog X.w) s'.heap (typeOf (.ref a)) cls := fun A Q E s j q => wpAny_typeOf_ref (j _ _ h1) (by rw [h2.1]; exact q)
    have asked := PySem.W.exm_one (M := model X.prog X.w) L.here.kIn is_ ht
    have test : ∀ {Q : Value → Shared → Prop} {E : Value → Shared → Prop}, Q k.c s' → wpAny (model X.prog X.w) (X.A.mark (some (.ref a))) (eval (.Name x np) X.env) Q E s' := fun q => by
      obtain ⟨g1, g2, g3 | ⟨g3, g4, g5⟩⟩ := nm
      · exact ld_glob (X := X.suite a ((a, o) :: (X.pn ++ pins))) S g1 g3 q g2
      · exact ld_blt (X := X.suite a ((a, o) :: (X.pn ++ pins))) S g1 g3 g4 q g5 g2
    refine wpAny_handleBy_cons (codeAny_handlers_test (test (asked.here ?_))) (by intro q; cases q)
    cases t with
    | false => exact ih (no rfl)
    | true =>
      refine codeAny_handlers_suite_as (HandSPX.lands_againZ L.fl fun h4 fl4 up4 => ?_)
      have L4 : Landed X pins a B sI { s' with heap := h4 } σ' H' cls d := ⟨L.ok, L.inv, L.nb, L.up.trans up4, fl4, L.na, L.os, L.ag⟩
      obtain ⟨o4, vs4, q1, q2, q3⟩ := L4.fl.there
      have S4 := L4.here.suite (vs := vs4) q1 q3 L.na nL nF
      refine store_ok (X := X.suite a ((a, o4) :: (X.pn ++ pins))) (v := .ref a) S4 nd at_ (.inl loc) rfl (fun s5 S5 => ?_) (.inr loc)
      refine wpAny_mono ((su a o4 cls d (X.pn ++ pins) q2 ⟨_, q3⟩).run [] s5 _ H' _ S5 (yes rfl a L.na)) (fun f s6 e6 => ?_) (fun _ _ z => z.elim)
      cases f with
      | next =>
        obtain ⟨σ6, H6, S6, q6⟩ := e6
        exact gone_ok (S6.unsuite L.ok) nd at_ loc fun s7 J7 => ⟨_, _, J7, q6⟩
      | brk =>
        obtain ⟨σ6, H6, S6, q6⟩ := e6
        exact gone_ok (S6.unsuite L.ok) nd at_ loc fun s7 J7 => ⟨_, _, J7, q6⟩
      | cont =>
        obtain ⟨σ6, H6, S6, q6⟩ := e6
        exact gone_ok (S6.unsuite L.ok) nd at_ loc fun s7 J7 => ⟨_, _, J7, q6⟩
      | ret u =>
        obtain ⟨v6, σ6, H6, S6, r6, q6⟩ := e6
        exact gone_ok (S6.unsuite L.ok) nd at_ loc fun s7 J7 => ⟨_, _, _, J7, r6, q6⟩
end
/-- try with named clauses -/
theorem ps_try_named {body : List Stmt} {h₀ : ExceptHandler} {hds : List ExceptHandler} {l : List Cls1} {pos : Pos} {tb : WX → L2.TS} (hs : X.stack = X.env :: X.outer) (hf : X.env.frame = some X.env.locals) (nd : X.N.Nodup) (tk : Takes X W)
    (hb : ∀ (W : WX) (pn : List (Addr × Obj)) (xe : Value → Shared → Prop), Takes (X.tr pn xe) W → PassesOwn (model X.prog X.w) X.A X.env xe → PSs (X.tr pn xe) body (tb W))
    (hh : Clauses X (h₀ :: hds) l) : PS X (.Try body (h₀ :: hds) [] [] pos) (fun D σ H => tb (wClauses X.K W D l) D σ H) := by
  refine ⟨fun pins s σ H De I h => wpAny_Try_except ?_⟩
  let caught : Value → Shared → Prop := fun e s₁ => wpAny (model X.prog X.w) X.A (noteFrame e X.env) (fun _ s₂ => wpAny (model X.prog X.w) X.A (setFlight e none) (fun _ s₃ => wpAny (model X.prog X.w) X.A (handleBy e X.env (h₀ :: hds)) (SP X pins De) X.xe s₃) X.xe s₂) X.xe s₁
  have takes : Takes (X.tr (X.pn ++ pins) caught) (wClauses X.K W De l) := fun u s' xx => by
    obtain ⟨a, B, sI, pins', σ', H', cls, d, rfl, J, nb, up, sky, na, os, ag, w⟩ := xx
    refine Sky.land Zc.steady (by rw [I.ok.frames, hs]) hf (by rw [← hs]; exact sky) fun h3 fl3 up3 => ?_
    exact Clauses.run (s' := { s' with heap := h3 }) hs hf nd tk ⟨I.ok, J.ofTry I.ok, nb, up.trans up3, fl3, na, os, ag⟩ hh w
  refine wpAny_mono ((hb _ _ caught takes PassesOwn.looking).run [] s σ H De (I.toTry _) h) (fun f s1 e1 => ?_) fun _ _ he => he
  cases f with
  | next =>
    obtain ⟨σ1, H1, J, q⟩ := e1
    exact wpAny_execs_nil ⟨σ1, H1, J.ofTry I.ok, q⟩
  | brk =>
    obtain ⟨σ1, H1, J, q⟩ := e1
    exact ⟨σ1, H1, J.ofTry I.ok, q⟩
  | cont =>
    obtain ⟨σ1, H1, J, q⟩ := e1
    exact ⟨σ1, H1, J.ofTry I.ok, q⟩
  | ret u =>
    obtain ⟨v, σ1, H1, J, r, q⟩ := e1
    exact ⟨v, σ1, H1, J.ofTry I.ok, r, q⟩
/-! ### try -/
/-- the table of classes tells what except asks -/
def SubT (K : PySem.W.Frag) (mg : Str → Option Value) (sub : Str → Str → Option Bool) : Prop := ∀ x c b, sub x c = some b → ∀ a k, mg x = some (.ref a) → mg c = some (.ref k) → PySem.W.exmOne K (.ref a) (.ref k) = some b ∧ PySem.W.kitOne K (.ref a) (.ref k) = some b ∧ ExcC K a
abbrev SubOk (C : PC) (Γ : GS) : Prop := SubT C.K C.mg Γ.sub
/-- the clauses of the small language -/
inductive HdRel (C : PC) (Γ : GS) : List Hd → List Cls1 → Prop
  | nil : HdRel C Γ [] []
  | cons {c : Str} {i : Nat} {b : List S} {k : Addr} {hs : List Hd} {l : List Cls1} (g : C.mg c = some (.ref k)) (r : HdRel C Γ hs l) :
      HdRel C Γ (.mk c i b :: hs) (⟨.ref k, i, fun a cls d D σ H => ∃ w0, tSs (C.wx (some (a, cls, d)) C.xf) noW Γ w0 b D σ H⟩ :: l)
theorem noExc_iff {env : Env} (h : noExc env = true) : ∀ (i : Nat) (x : Xc), env[i]? ≠ some (.exc x) := fun i x e => by
  have q := List.all_eq_true.mp h (.exc x) (List.mem_of_getElem? e)
  cases q
theorem Rel.setX {w : Wd} {env : Env} {st : Store} {σ : L2.St} (R : Rel C w0 w env st σ) {i : Nat} {x : Xc} {a : Addr} {cls : Value} {dx : Option Addr} (h : C.xa = some (a, cls, dx)) (r : XRel C w x cls dx) : Rel C w0 w (env.set i (.exc x)) st (σ.set i (some (.ref a))) where
  ext := R.ext
  trk0 := R.trk0
  store := R.store
  len := by rw [List.length_set, List.length_set]; exact R.len
  slot := fun j s hh => by
    rcases set_get hh with ⟨rfl, rfl, hl⟩ | ⟨hj, g⟩
    · exact ⟨some (.ref a), set_at (by rw [← R.len]; exact hl), cls, dx, h, r⟩
    · rw [set_off hj]; exact R.slot j s g
  apart := fun j k d1 d2 b h1 h2 h3 h4 => by
    rcases set_get h1 with ⟨_, e, _⟩ | ⟨hj, h1⟩
    · cases e
    · rcases set_get h2 with ⟨_, e, _⟩ | ⟨hk, h2⟩
      · cases e
      · rw [set_off hj] at h3
        rw [set_off hk] at h4
        exact R.apart j k d1 d2 b h1 h2 h3 h4
theorem leave_ok {w : Wd} {De : Ends} {i : Nat} {r : RS} {q : Option (Addr × Value × Option Addr)} (hq : C.xa = none) (h : okS C W w0 w De (r.leave i))   : okS (C.wx q C.xf) noW w0 w (Ends.out De i) r := by
  have back : ∀ {w' : Wd} {env : Env} {st : Store} {σ : L2.St}, Rel (C.wx q C.xf) w0 w' env st σ → noExc (env.set i .none) = true → Rel C w0 w' (env.set i .none) st (σ.set i none) := fun {w' env st σ} R n => by
    have z := (R.setN (i := i) (v := none)).cx (q := C.xa) (g := C.xf) (.inr (noExc_iff n)) (.inl rfl)
    exact z
  cases r with
  | nx env st =>
    simp only [RS.leave] at h
    split at h
    · rename_i n
      exact fun w' σ' l R => h w' _ l (back R n)
    · exact h.elim
  | bk env st =>
    simp only [RS.leave] at h
    split at h
    · rename_i n
      exact fun w' σ' l R => h w' _ l (back R n)
    · exact h.elim
  | ct env st =>
    simp only [RS.leave] at h
    split at h
    · rename_i n
      exact fun w' σ' l R => h w' _ l (back R n)
    · exact h.elim
  | rt d st => exact fun w' v l e S r => h w' v l e (S.cx (q := C.xa) (g := C.xf)) (r.cx (q := C.xa) (g := C.xf))
  | ex x env st => exact h.elim
  | stuck => exact h
theorem hand_ok {De : Ends} (hq : C.xa = none) (sub : SubOk C Γ) {hs : List Hd} {l : List Cls1} (hr : HdRel C Γ hs l) {w : Wd} {x : Xc} {env : Env} {st : Store} (h : okS C W w0 w De (hand Γ hs x env st)) {w' : Wd} {σ' : L2.St} {cls : Value} {dx : Option Addr} (le : Le w w') (R : Rel C w0 w' env st σ') (xr : XRel C w' x cls dx) :
    wClauses C.K W De l cls dx σ' w'.H := by
  induction hr with
  | nil => exact h w' σ' cls dx le R xr
  | @cons c i b k hs l g r ih =>
    simp only [hand] at h
    obtain ⟨ax, rfl, gx, _⟩ := id xr
    cases hsb : Γ.sub x.cls c with
    | none => rw [hsb] at h; exact h.elim
    | some t =>
      obtain ⟨e1, _, _⟩ := sub x.cls c t hsb ax k gx g
      rw [hsb] at h
      refine ⟨t, e1, fun ht a na => ?_, fun ht => ?_⟩
      · subst ht
        have h : okS C W w0 w De (if noExc env then (execs Γ b (env.set i (.exc x)) st).leave i else .stuck) := h
        split at h
        · rename_i n
          exact ⟨w0, w', _, st, rfl, (R.cx (q := some (a, _, dx)) (g := C.xf) (.inr (noExc_iff n)) (.inl rfl)).setX rfl xr.cx, okS_le (leave_ok hq h) le⟩
        · exact h.elim
      · subst ht
        exact ih h
theorem sim_try {body : List Stmt} {h₀ : ExceptHandler} {hds : List ExceptHandler} {l : List Cls1} {tb : List S} {ths : List Hd} {pos : Pos} (hK : X.K = C.K) (hq : C.xa = none) (sub : SubOk C Γ) (hs : X.stack = X.env :: X.outer) (hf : X.env.frame = some X.env.locals) (nd : X.N.Nodup) (tk : Takes X W) (hr : HdRel C Γ ths l)
    (hb : ∀ (W : WX) (pn : List (Addr × Obj)) (xe : Value → Shared → Prop), Takes (X.tr pn xe) W → PassesOwn (model X.prog X.w) X.A X.env xe → PSs (X.tr pn xe) body (tSs C W Γ w0 tb))
    (hh : Clauses X (h₀ :: hds) l) : PS X (.Try body (h₀ :: hds) [] [] pos) (tS C W Γ w0 (.tryE tb ths)) :=
  PS_imp (ps_try_named (tb := fun W => tSs C W Γ w0 tb) hs hf nd tk hb hh) fun De σ H h => by
    obtain ⟨w, env, st, rfl, R, h⟩ := h
    simp only [exec] at h
    refine ⟨w, env, st, rfl, R, ?_⟩
    rw [hK]
    cases hb : execs Γ tb env st with
    | nx env1 st1 => rw [hb] at h; exact h
    | bk env1 st1 => rw [hb] at h; exact h
    | ct env1 st1 => rw [hb] at h; exact h
    | rt d st1 => rw [hb] at h; exact h
    | stuck => rw [hb] at h; exact h
    | ex x env1 st1 =>
      rw [hb] at h
      exact fun w' σ' cls dx le R' xr => hand_ok hq sub hr h le R' xr
theorem PSs_ex {e : List Stmt} {t : Wd → L2.TS} (h : ∀ w0, PSs X e (t w0)) : PSs X e (fun D σ H => ∃ w0, t w0 D σ H) := ⟨fun pins s σ H D I ⟨w0, q⟩ => (h w0).run pins s σ H D I q⟩
/-! ### isinstance of the caught exception, its fields -/
theorem sim_isx {a : Addr} {o : Obj} {cls : Value} {d : Option Addr} {pn : List (Addr × Obj)} {i : Nat} {x c : Str} {p p1 p2 pos : Pos} (hK : X.K = C.K) (gX : X.mg = C.mg) (hxa : C.xa = some (a, cls, d)) (sub : SubOk C Γ) (hz : Zc cls d o) (hf : ∃ vs, o.data = .fields vs)
    (hg : Gl X "isinstance") (hm : X.mg "isinstance" = none) (hN : X.N[i]? = some x) (hv : Vis X.env.scope x) (hd : (x == ("__debug__" : Str)) = false) (hcd : (x == ("__classdict__" : Str)) = false) (hgc : Gl X c) {k : Addr} (hmc : X.mg c = some (.ref k)) (hdc : (c == ("__debug__" : Str)) = false)
    (h1 : starEach [.Name x p1, .Name c p2] (X.suite a ((a, o) :: pn)).env = (false, eval (.Name x p1) (X.suite a ((a, o) :: pn)).env) :: starEach [.Name c p2] (X.suite a ((a, o) :: pn)).env) (h2 : starEach [.Name c p2] (X.suite a ((a, o) :: pn)).env = (false, eval (.Name c p2) (X.suite a ((a, o) :: pn)).env) :: starEach [] (X.suite a ((a, o) :: pn)).env) (hpl : (backTo pos (starEach [.Name c p2] (X.suite a ((a, o) :: pn)).env)).any (·.1) = false) :
    PE (X.suite a ((a, o) :: pn)) (.Call (.Name "isinstance" p) [.Name x p1, .Name c p2] [] pos) (tE C W Γ (.isx i c)) := by
  by_cases hD : ∃ D, cls = .ref D ∧ d = none ∧ ExcC X.K D
  · obtain ⟨D, rfl, rfl, T⟩ := hD
    refine PE_imp (pe_callB (call_isE T hz hf) hg hm boot_isinstance (pa_cons (pe_var hN hv hd hcd) (pa_cons (pe_glob (v := .ref k) hgc hmc rfl hdc) pa_nil h2) h1) (by decide) (by decide) h1 hpl) fun σ H Q h => ?_
    obtain ⟨w0, w, env, st, rfl, R, h⟩ := h
    simp only [ev] at h
    split at h
    · rename_i y hy
      split at h
      rotate_left
      · exact h.elim
      obtain ⟨b, hb, h⟩ := okP_liftO h
      obtain ⟨t, ht, rfl⟩ := Option.map_eq_some_iff.mp hb
      obtain ⟨v, q1, q2⟩ := R.slot i _ hy
      obtain ⟨a', cls', dx', rfl, e1, e2⟩ := q2.exc_ref
      rw [hxa] at e1
      cases e1
      obtain ⟨ax, e3, gx, _⟩ := id e2
      cases e3
      obtain ⟨_, kit, _⟩ := sub y.cls c t ht D k gx (by rw [← gX]; exact hmc)
      refine ⟨_, q1, .ref k, .ref k, t, rfl, fun u ru => ru, by show PySem.W.kitOne X.K _ _ = _; rw [hK]; exact kit, h w (Ext.refl _) R.store _ ?_⟩
      exact RelD.bl t
    · exact h.elim
  · refine ⟨fun pins s σ H Q I h => ?_⟩
    exfalso
    obtain ⟨w0, w, env, st, rfl, R, h⟩ := h
    simp only [ev] at h
    split at h
    · rename_i y hy
      split at h
      rotate_left
      · exact h.elim
      rename_i hemp
      obtain ⟨b, hb, h⟩ := okP_liftO h
      obtain ⟨t, ht, rfl⟩ := Option.map_eq_some_iff.mp hb
      obtain ⟨v, q1, q2⟩ := R.slot i _ hy
      obtain ⟨a', cls', dx', rfl, e1, e2⟩ := q2.exc_ref
      rw [hxa] at e1
      cases e1
      obtain ⟨ax, rfl, gx, fld⟩ := id e2
      obtain ⟨_, kit, ec⟩ := sub y.cls c t ht ax k gx (by rw [← gX]; exact hmc)
      rcases fld with ⟨_, e⟩ | ⟨dd, vs, hne, e, _⟩
      · exact hD ⟨ax, rfl, e, by rw [hK]; exact ec⟩
      · exact hne (List.isEmpty_iff.mp hemp)
    · exact h.elim
end
end FY

end

section
set_option maxRecDepth 100000
set_option maxHeartbeats 1000000
/-! Fy16: a lambda handed to a def. -/
namespace FY
open PySem PySem.Spec PyProof.Rows L2 LamX
section
variable {C : PC} {W : WX} {Γ : GS} {X : Cx} {w0 : Wd}
/-- the context of the def that got the lambda -/
abbrev giveCx (X : Cx) (N : List Str) (q : Str) (sc : Scope) (g : Addr) (cd : Value) (s : Shared) (H : Hp) : Cx := cxOf C8.CX0 X.prog X.w X.K X.mg X.base N q sc g cd X.A X.stack s H C8.E0
/-- the lambda, called there -/
theorem act_at {pins : List (Addr × Obj)} {σ : L2.St} {H : Hp} {s : Shared} {Ng : List Str} {qg : Str} {sg : Scope} {g f c' : Addr} {cdg pm ctv : Value} {params : Arguments} {body : Expr} {scope : Scope} {k i : Nat} {a : Str} {pn : List (Addr × Obj)} {xe : Value → Shared → Prop} {tb : XK → TE} {p1 p2 : Pos}
    (I : Inv X pins σ H s) (L : LamS X.env.scope scope) (lam : s.heap.get? f = some (PySem.W.kla_obj "<lambda>" (X.env.qual ++ "<lambda>") params body scope (cloFrom X.env.cells scope.names []) pm c' ctv)) (hfn : H f = none) (hfr : f ∉ frs X.stack)
    (hbind : bindArgs (PySem.W.kla_fn "<lambda>" (X.env.qual ++ "<lambda>") params body scope (cloFrom X.env.cells scope.names []) pm (.ref c') ctv) ⟨[], []⟩ = pure [])
    (tk : Takes ((giveCx X Ng qg sg g cdg s H).tr pn xe) W) (hr : Room (k + 1) (X.A.deeper (envOfC qg sg s.heap.objs.size g cdg)))
    (hbody : ∀ (A : Around) (outer : List PySem.Env) (s : Shared) (H : Hp) (E : XK), Room k (A.deeper (lamEnv X scope s.heap.objs.size f c')) → PE (lamCx X A outer s H E scope f c') body (tb E))
    (hN : Ng[i]? = some a) (hv : Vis sg a) (hd : (a == ("__debug__" : Str)) = false) (hcd : (a == ("__classdict__" : Str)) = false) :
    PE ((giveCx X Ng qg sg g cdg s H).tr pn xe) (.Call (.Name a p1) [] [] p2) (fun σZ HZ Q => σZ[i]? = some (some (.ref f)) ∧ HZ c' = some (CodeO c' (X.env.qual ++ "<lambda>")) ∧ tb (WE W σZ) σ HZ Q) := by
  refine ⟨fun pinsZ sZ σZ HZ Q IZ ⟨at_, code, ht⟩ => ?_⟩
  refine wpAny_Call_Name_kw (thn ((pe_var (pos := p1) (i := i) hN hv hd hcd).run pinsZ sZ σZ HZ (fun v H1 => v = .ref f ∧ H1 = HZ) IZ ⟨.ref f, at_, rfl, rfl⟩) fun u s1 ⟨v, H1, J, ru, ev, eH⟩ => ?_)
  subst ev eH
  obtain rfl : u = Value.ref f := ru
  have there := J.base.keep f _ lam hfn hfr (fun z => nomatch (show f ∈ ([] : List Addr) from z))
  have un : Un (frs X.stack) [] H H1 s.heap s1.heap := J.base
  obtain ⟨⟨oc, vs, t, c1, c2, c3⟩, _⟩ := J.hok c' _ code
  refine PySem.W.callWith_F0 ⟨_, _, _, _, there⟩ (wpAny_call (codeAny_mono (R := CR (L2.CX X.prog X.w) (envOfC qg sg s.heap.objs.size g cdg :: X.stack) X.prog X.w H1 s1 Q (WE W σZ)) ?_ fun r s' e => ?_))
  · show codeAny _ _ (.call (.ref f) ⟨[], []⟩) _ _
    refine PySem.W.kla_callFunE hr.depth there rfl L.co L.gen rfl ⟨c', oc, vs, t, rfl, c1, c2, c3⟩ ?_
    rw [hbind]
    refine wpAny_pure (wpAny_newFunctionEnv (fun y hy => (L.own y hy).2) (fun y hy => nomatch hy) (fun h₁ ns sb => ⟨J.nolimit.fresh _ sb, ?_⟩) L.kind)
    have up : ∀ b o, s1.heap.get? b = some o → h₁.get? b = some o := fun b o q => sb.extBut b o (Nat.ne_of_lt (Heap.lt_size q)) (Heap.get?_push_of_some _ q)
    have J2 := lam_start2 (X := X) (E := WE W σZ) (tk := s1.toks + 0) (A := X.A.deeper (envOfC qg sg s.heap.objs.size g cdg)) (outer := envOfC qg sg s.heap.objs.size g cdg :: X.stack) (f := f) (c' := c') I L J.env0 hr.hd un ns up
    refine PySem.W.kla_codeExpr (wpAny_mono ((hbody _ _ s1 H1 (WE W σZ) (hr.deeper _)).run [] _ _ H1 Q J2 ht) (fun v s2 ⟨x, H2, J3, rv, q⟩ => ?_) fun _ _ z => z)
    exact ⟨x, H2, J3.os, J3.bare, J3.base, J3.hok, rv, q⟩
  · have pa := passAt tk σZ
    match r, e with
    | .error e, h => exact pa pinsZ H1 s1 e s' J h
    | .ok (.ret u), h => exact J.after h
    | .ok .next, h => exact h.elim
    | .ok .brk, h => exact h.elim
    | .ok .cont, h => exact h.elim
/-- what the def makes of the lambda's reading -/
def Gives (X : Cx) (N : List Str) (x : Str) (sc : Scope) (g : Addr) (cd : Value) (bg : List Stmt) (a q : Str) (i : Nat) (TT : (XK → Hp → VK → Prop) → Hp → VK → Prop) : Prop :=
  ∀ (f c' : Addr) (s : Shared) (H : Hp) (Q : VK) (tl : XK → Hp → VK → Prop),
    (∀ (W : WX) (pn : List (Addr × Obj)) (xe : Value → Shared → Prop) (p1 p2 : Pos), Takes ((giveCx X N x sc g cd s H).tr pn xe) W →
      PE ((giveCx X N x sc g cd s H).tr pn xe) (.Call (.Name a p1) [] [] p2) (fun σZ HZ Q => σZ[i]? = some (some (.ref f)) ∧ HZ c' = some (CodeO c' q) ∧ tl (WE W σZ) HZ Q)) →
    H c' = some (CodeO c' q) → TT tl H Q → ∃ t, PSs (giveCx X N x sc g cd s H).nox bg t ∧ t { nx := fun _ H' => Q .non H', rt := Q } (L2.start N [.ref f]) H
/-- x(lambda: body) -/
theorem pe_give {T : List (Addr × Str)} {TT : (XK → Hp → VK → Prop) → Hp → VK → Prop} {x a : Str} {g c P : Addr} {k : Nat} {pg : Arguments} {bg : List Stmt} {sg : Scope} {dV kV doc pm cdv ct oc : Value} {an od : Option Addr} {osl : Array (Option Value)} {Ng : List Str}
    {params : Arguments} {body : Expr} {scope : Scope} {t : XK → TE} {p lpos pos : Pos} (hg : Gl X x) (hm : X.mg x = some (.ref g)) (hk : PySem.W.keepIn X.K (.ref g) = true)
    (lk : X.K.lookup g = some ⟨oc, od, .func (PySem.W.fnOf x x pg bg sg dV kV doc pm an cdv ct), osl⟩) (hcg : PySem.W.codeIn X.K cdv x = true) (hb : L2.Binds X.K (PySem.W.fnOf x x pg bg sg dV kV doc pm an cdv ct) [a] []) (Sg : FnScope Ng [a] sg) (hNg : Ng[0]? = some a) (hva : Vis sg a)
    (hG : Gives X Ng x sg g cdv bg a (X.env.qual ++ "<lambda>") 0 TT)
    (TB : TabB X.base X.mg c P) (hcode : X.env.code = .ref c) (hmT : (P, X.env.qual ++ "<lambda>") ∈ T) (hu : ∀ p ∈ T, p.1 = P → p.2 = X.env.qual ++ "<lambda>") (hr : Room (k + 2) X.A) (L : LamS X.env.scope scope) (hdef : defaultsOf params X.env = ([], []))
    (hbind : ∀ (q : Str) (cl : List (Str × Addr)) (pm cv ctv : Value), bindArgs (PySem.W.kla_fn "<lambda>" q params body scope cl pm cv ctv) ⟨[], []⟩ = pure [])
    (hbody : ∀ (A : Around) (outer : List PySem.Env) (s : Shared) (H : Hp) (E : XK) (f c' : Addr), Room k (A.deeper (lamEnv X scope s.heap.objs.size f c')) → PE (lamCx X A outer s H E scope f c') body (t E))
    (hdb : (x == ("__debug__" : Str)) = false) (hd : (a == ("__debug__" : Str)) = false) (hcd : (a == ("__classdict__" : Str)) = false) :
    PE X (.Call (.Name x p) [.Lambda params body scope lpos] [] pos) (tLam T TT t) := by
  refine ⟨fun pins s σ H Q I ⟨hT, h⟩ => wpAny_Call_Name_kw (ld_glob I hg hm ?_ hdb)⟩
  refine PySem.W.callWith_K (h₀ := X.base) I.ok.mod.kin hk ?_ (by rfl) (by rfl)
  show wpAny _ _ (spliced ((false, eval (.Lambda params body scope lpos) X.env) :: backTo pos (starEach [] X.env))) _ _ s
  refine Calls.spliced_cons (lam_make2 I TB hcode hmT hu hT hdef (L.has I.ok) fun f c' pm' ctv H1 s' J grown T1 lam hfn hfr hco => Calls.spliced_nil ⟨J.kIn, ?_⟩)
  refine wpAny_call (codeAny_mono (R := CR C8.CX0 X.stack X.prog X.w H1 s' Q C8.E0) ?_ fun r s2 e => ?_)
  · refine run_ofS (N := Ng) (ps := [a]) (us := [.ref f]) (vs := [.ref f]) lk hcg Sg hr J.env0 (hb s' [.ref f] J.kIn rfl) (.cons rfl .nil) rfl fun room => ?_
    obtain ⟨t', h1, h2⟩ := hG f c' s' H1 Q (fun E H' Q' => t E σ H' Q') (fun W pn xe p1 p2 tk => act_at J L lam hfn hfr (hbind _ _ _ _ _) tk room (fun A outer s H E hr2 => hbody A outer s H E f c' hr2) hNg hva hd hcd) hco (h H1 grown T1)
    exact ⟨t', h1.nox, h2⟩
  · match r, e with
    | .error e, h => exact (show False from h).elim
    | .ok (.ret u), h => exact J.after h
    | .ok .next, h => exact h.elim
    | .ok .brk, h => exact h.elim
    | .ok .cont, h => exact h.elim
/-! ### as the small language has it -/
/-- the def's promise: F is its meaning by that of the lambda -/
def TTf (C : PC) (F : (Store → FY.R D) → Store → FY.R D) : (XK → Hp → VK → Prop) → Hp → VK → Prop := fun tl H Q => ∃ w st act, w.H = H ∧ SRel C w st ∧
  (∀ w' st' (E : XK) (Q' : VK), Ext w w' → SRel C w' st' → okP C (fun cls d _ H => E cls d H) w' [] (act st') (fun w'' d _ => ∀ v, RelD C w'' d v → Q' v w''.H) → tl E w'.H Q') ∧
  okP C noW w [] (F act st) (fun w' d _ => ∀ v, RelD C w' d v → Q v w'.H)
theorem sim_hof {x : Str} {e : Expr} {b : T} {j : Nat} {p lpos pos : Pos} {params : Arguments} {scope : Scope}
    (hpe : PE X (.Call (.Name x p) [.Lambda params e scope lpos] [] pos) (tLam C.T (TTf C fun act st => Γ.hof j act [] st) (fun E => tE C (fun cls d _ H => E cls d H) Γ b))) :
    PE X (.Call (.Name x p) [.Lambda params e scope lpos] [] pos) (tE C W Γ (.hof j b [])) :=
  PE_imp hpe fun σ H Q h => by
    obtain ⟨w0, w, env, st, rfl, R, h⟩ := h
    simp only [ev, evL] at h
    split at h
    · rename_i ho
      refine ⟨R.store.tabs, fun H1 grown T1 => ?_⟩
      have eg : Ext w { w with H := H1 } := Ext.growN grown
      have S1 : SRel C { w with H := H1 } st := R.store.growN grown T1
      have h : okP C W w σ (Γ.hof j (ev Γ b env) [] st).noX (fun w' d x => ∀ (v : V), RelN C (free env σ (escE (T.hof j b [])) w') (free env σ (esc (T.hof j b [])) w') d v → Q v w'.H) := h
      refine ⟨{ w with H := H1 }, st, ev Γ b env, rfl, S1, fun w' st' E Q' e' S' hact => ?_, ?_⟩
      · have R' := (R.step eg S1).step e' S'
        refine ⟨w0, w', env, st', rfl, R', okP_W (okP_mono hact fun w2 d st2 e2 S2 h2 v r => ?_) fun _ _ _ q => q⟩
        refine h2 v ?_
        have z : ownFree env (esc b) = true := by
          unfold ownFree at ho ⊢
          rw [List.all_append, Bool.and_eq_true] at ho
          exact ho.1
        exact (r.toD (free_sub (escE_sub b) w2)).le (ownFree_le z w2)
      · cases hr : Γ.hof j (ev Γ b env) [] st with
        | ok d st2 =>
          rw [hr] at h
          show okP C noW _ [] (Γ.hof j (ev Γ b env) [] st) _
          rw [hr]
          exact fun w2 e2 S2 v (r : RelD C w2 d v) => h w2 (eg.trans e2) S2 v (r.toNf (escE_sub _))
        | exc x st2 => rw [hr] at h; exact h.elim
        | stuck => rw [hr] at h; exact h.elim
    · exact h.elim
theorem okP_cx {α : Type} {w : Wd} {σ : L2.St} {r : FY.R α} {k : Wd → α → Store → Prop} {q : Option (Addr × Value × Option Addr)} {g : Option (Addr × Wd)} (h : okP (C.wx q g) W w σ r k) : okP C W w σ r k := by
  cases r with
  | ok d st' => exact fun w' e S => h w' e S.cx
  | exc x st' => exact fun w' c dx e S X => h w' c dx e S.cx X.cx
  | stuck => exact h
theorem okP_cx' {α : Type} {w : Wd} {σ : L2.St} {r : FY.R α} {k : Wd → α → Store → Prop} {q : Option (Addr × Value × Option Addr)} {g : Option (Addr × Wd)} (h : okP C W w σ r k) : okP (C.wx q g) W w σ r k := by
  cases r with
  | ok d st' => exact fun w' e S => h w' e (S.cx (q := C.xa) (g := C.xf))
  | exc x st' => exact fun w' c dx e S X => h w' c dx e (S.cx (q := C.xa) (g := C.xf)) (X.cx (q := C.xa) (g := C.xf))
  | stuck => exact h
theorem runF_ok {w : Wd} {n : Nat} {b : List S} {act : Store → FY.R D} {st : Store} {k : Wd → D → Store → Prop} {De : Ends} (h : okP C noW w [] (runF Γ n b act st) k) (hk : ∀ w' d st', SRel C w' st' → k w' d st' → ∀ v, RelD C w' d v → De.rt v w'.H) (hn : ∀ v σ H, De.rt v H → v = .non → De.nx σ H) :
    okS C noW w w De (execs { Γ with act := act } b (.fnv :: List.replicate (n - 1) .none) st) := by
  unfold runF at h
  cases hr : execs { Γ with act := act } b (.fnv :: List.replicate (n - 1) .none) st with
  | nx env st1 =>
    rw [hr] at h
    exact fun w' σ' l R => hn .non σ' _ (hk w' .non st1 R.store (h w' R.ext R.store) .non .non) rfl
  | rt d st1 =>
    rw [hr] at h
    exact fun w' v l e S r => hk w' d st1 S (h w' e S) v r
  | ex x env st1 =>
    rw [hr] at h
    exact fun w' σ' cls dx l R xr => h w' cls dx R.ext R.store xr
  | bk env st1 => rw [hr] at h; exact h.elim
  | ct env st1 => rw [hr] at h; exact h.elim
  | stuck => rw [hr] at h; exact h.elim
theorem gives_of {N : List Str} {x a q : Str} {sc : Scope} {g : Addr} {cd : Value} {bg : List Stmt} {b : List S} (h0 : ∃ r, N = a :: r)
    (hbody : ∀ (act : Store → FY.R D) (f : Addr) (s : Shared) (H : Hp) (wT w0 : Wd), (∀ (W : WX) (pn : List (Addr × Obj)) (xe : Value → Shared → Prop) (p1 p2 : Pos), Takes ((giveCx X N x sc g cd s H).tr pn xe) W →
      PE ((giveCx X N x sc g cd s H).tr pn xe) (.Call (.Name a p1) [] [] p2) (tE (C.wx none (some (f, wT))) W { Γ with act := act } (.act 0))) → PSs (giveCx X N x sc g cd s H).nox bg (tSs (C.wx none (some (f, wT))) noW { Γ with act := act } w0 b)) :
    Gives X N x sc g cd bg a q 0 (TTf C (runF Γ N.length b)) := by
  intro f c' s H Q tl hact hco hT
  obtain ⟨w, st, act, rfl, S, link, hF⟩ := hT
  have S' : SRel (C.wx none (some (f, w))) w st := S.cx
  refine ⟨tSs (C.wx none (some (f, w))) noW { Γ with act := act } w b, hbody act f s w.H w w fun W pn xe p1 p2 tk => ?_, ?_⟩
  · refine PE_imp (hact W pn xe p1 p2 tk) fun σ H Q h => ?_
    obtain ⟨w0, w', env, st', rfl, R, h⟩ := h
    simp only [ev] at h
    split at h
    · rename_i hs
      obtain ⟨v, h1, h2⟩ := R.slot 0 _ hs
      obtain ⟨f', rfl, h3⟩ := h2.fn_ref
      cases h3
      refine ⟨h1, ?_, ?_⟩
      · refine R.ext.keep c' _ hco (fun l hl z => ?_) (fun ps z => by cases z)
        obtain ⟨d, hd⟩ : ∃ d, st[l]? = some d := ⟨_, List.getElem?_eq_getElem (by rw [← S.len]; exact hl)⟩
        obtain ⟨_, c2⟩ := S.cell l d hd
        rw [z] at c2
        cases d with
        | lst ds => obtain ⟨vs, e, _⟩ := c2; rw [hco] at e; cases e
        | dct ks vs => rcases c2 with ⟨kvs, e, _⟩ | ⟨kvs, e, _⟩ <;> (rw [hco] at e; cases e)
        | _ => exact c2.elim
      · refine link w' st' (WE W σ) Q R.ext (R.store.cx (q := C.xa) (g := C.xf)) (okP_cx (q := none) (g := some (f, w)) (okP_W (okP_mono h fun w2 d st2 e2 S2 h2 v r => h2 v ((RelD.cx r : RelD (C.wx none (some (f, w))) w2 d v).toNf (escE_sub _))) fun _ _ _ q => q))
    · exact h.elim
  · obtain ⟨r, rfl⟩ := h0
    refine ⟨w, _, st, rfl, ?_, runF_ok (C := C.wx none (some (f, w))) (okP_cx' hF) (fun w' d st' _ h v rv => h v (rv.cx (q := C.xa) (g := C.xf))) fun v σ H q e => by subst e; exact q⟩
    refine ⟨Ext.refl w, S'.trk, S', ?_, fun i s hs => ?_, fun i j d1 d2 a1 h1 => ?_⟩
    · show (Slt.fnv :: List.replicate (r.length + 1 - 1) .none).length = (L2.start (a :: r) [.ref f]).length
      simp [L2.start]
    · cases i with
      | zero =>
        simp at hs
        subst hs
        exact ⟨some (.ref f), rfl, rfl⟩
      | succ i =>
        have e : s = .none := by
          simp only [List.length_cons, Nat.add_sub_cancel, List.getElem?_cons_succ, List.getElem?_replicate] at hs
          split at hs
          · exact (Option.some.inj hs).symm
          · cases hs
        subst e
        have hi : i < r.length := by
          simp only [List.length_cons, Nat.add_sub_cancel, List.getElem?_cons_succ, List.getElem?_replicate] at hs
          split at hs
          · assumption
          · cases hs
        refine ⟨none, ?_, trivial⟩
        simp [L2.start, List.getElem?_replicate, hi]
    · exfalso
      cases i with
      | zero => simp at h1
      | succ i =>
        simp only [List.length_cons, Nat.add_sub_cancel, List.getElem?_cons_succ, List.getElem?_replicate] at h1
        split at h1 <;> cases h1
end
end FY

end

section
set_option maxRecDepth 100000
set_option maxHeartbeats 1000000
/-! Fy17: the forms as they stand in a def. -/
namespace FY
open PySem PySem.Spec PyProof.Rows L2
/-- what every context of a def gives -/
structure GX (C : PC) (X : Cx) : Prop where
  K : X.K = C.K
  mg : X.mg = C.mg
  un : X.A.units + 65 < cLine
theorem GX.wx {C : PC} {X : Cx} (g : GX C X) (q : Option (Addr × Value × Option Addr)) (f : Option (Addr × Wd)) : GX (C.wx q f) X := ⟨g.K, g.mg, g.un⟩
section
variable {C : PC} {W : WX} {Γ : GS} {X : Cx} {w0 : Wd} {a b c : Expr} {ta tb tc : T} {pos : Pos}
theorem SK {o : Op} {r : PySem.W.Frag → R2} (g : GX C X) (h : Sound C o (S2 (r C.K))) : Sound C o (S2 (r X.K)) := by rw [g.K]; exact h
theorem e_add (g : GX C X) (ha : PE X a (tE C W Γ ta)) (hb : PE X b (tE C W Γ tb)) : PE X (.BinOp a .Add b pos) (tE C W Γ (.op .add [ta, tb])) := sim_bin op_addU (SK g sound_add) ha hb
theorem e_sub (ha : PE X a (tE C W Γ ta)) (hb : PE X b (tE C W Γ tb)) : PE X (.BinOp a .Sub b pos) (tE C W Γ (.op .sub [ta, tb])) := sim_bin op_sub sound_sub ha hb
theorem e_mul (g : GX C X) (ha : PE X a (tE C W Γ ta)) (hb : PE X b (tE C W Γ tb)) : PE X (.BinOp a .Mult b pos) (tE C W Γ (.op .mul [ta, tb])) := sim_bin op_mulU (SK g sound_mul) ha hb
theorem e_fdiv (ha : PE X a (tE C W Γ ta)) (hb : PE X b (tE C W Γ tb)) : PE X (.BinOp a .FloorDiv b pos) (tE C W Γ (.op .fdiv [ta, tb])) := sim_bin op_divU sound_fdiv ha hb
theorem e_mod (ha : PE X a (tE C W Γ ta)) (hb : PE X b (tE C W Γ tb)) : PE X (.BinOp a .Mod b pos) (tE C W Γ (.op .mod [ta, tb])) := sim_bin op_modN sound_mod ha hb
theorem e_pow (ha : PE X a (tE C W Γ ta)) (hb : PE X b (tE C W Γ tb)) : PE X (.BinOp a .Pow b pos) (tE C W Γ (.op .pow [ta, tb])) := sim_bin op_pow sound_pow ha hb
theorem e_neg (ha : PE X a (tE C W Γ ta)) : PE X (.UnaryOp .USub a pos) (tE C W Γ (.op .neg [ta])) :=
  PE_imp (pe_un un_neg ha) fun σ H Q h => tL_one (K := fun x H1 => rU (fun i => .int (-i)) x H1 Q) (by
    obtain ⟨w0, w, env, st, e, R, h⟩ := tE_op sound_neg h
    exact ⟨w0, w, env, st, e, R, okP_mono h fun w2 ds st2 e2 S2 h2 vs rs x ex => by
      obtain ⟨x', e', q⟩ := h2 vs rs
      rw [ex] at e'; cases e'; exact q⟩)
/-- the comparisons: operator, its name -/
inductive CmpIs (C : PC) (X : Cx) : CmpOp → Op → Prop
  | lt : CmpIs C X .Lt .lt
  | le : CmpIs C X .LtE .le
  | gt : CmpIs C X .Gt .gt
  | ge : CmpIs C X .GtE .ge
  | eq : CmpIs C X .Eq .eq
  | ne : CmpIs C X .NotEq .ne
  | isb : CmpIs C X .Is .isb
  | notb : CmpIs C X .IsNot .notb
  | in_ : CmpIs C X .In .in_
  | nin : CmpIs C X .NotIn .nin
theorem CmpIs.rule (g : GX C X) {op : CmpOp} {o : Op} (h : CmpIs C X op o) : ∃ r, OpR X (compareOp op) r ∧ Sound C o (S2 r) ∧ isCmp o = true := by
  have hu := g.un
  cases h with
  | lt => exact ⟨_, op_lt, sound_ord (o := .lt) (p := fun i j => decide (i < j)) fun _ => rfl, rfl⟩
  | le => exact ⟨_, op_le, sound_ord (o := .le) (p := fun i j => decide (i ≤ j)) fun _ => rfl, rfl⟩
  | gt => exact ⟨_, op_gt, sound_ord (o := .gt) (p := fun i j => decide (j < i)) fun _ => rfl, rfl⟩
  | ge => exact ⟨_, op_ge, sound_ord (o := .ge) (p := fun i j => decide (j ≤ i)) fun _ => rfl, rfl⟩
  | eq => exact ⟨_, op_eqD (by omega), by rw [g.K]; exact sound_eq (neg := false) (o := .eq) fun _ => rfl, rfl⟩
  | ne => exact ⟨_, op_neD (by omega), by rw [g.K]; exact sound_eq (neg := true) (o := .ne) fun _ => rfl, rfl⟩
  | isb => exact ⟨_, op_isBl, sound_isb (neg := false) (o := .isb) fun _ => rfl, rfl⟩
  | notb => exact ⟨_, op_notBl, sound_isb (neg := true) (o := .notb) fun _ => rfl, rfl⟩
  | in_ => exact ⟨_, op_inU hu, by rw [g.K]; exact sound_in (neg := false) (o := .in_) fun _ => rfl, rfl⟩
  | nin => exact ⟨_, op_ninU hu, by rw [g.K]; exact sound_in (neg := true) (o := .nin) fun _ => rfl, rfl⟩
theorem e_cmp (g : GX C X) {op : CmpOp} {o : Op} (h : CmpIs C X op o) (ha : PE X a (tE C W Γ ta)) (hb : PE X b (tE C W Γ tb)) (hm : behindInMarks op b = false) : PE X (.Compare a [op] [b] pos) (tE C W Γ (.op o [ta, tb])) := by
  obtain ⟨r, h1, h2, h3⟩ := h.rule g
  exact sim_cmp h1 h2 ha hb hm
theorem t_cmp (g : GX C X) {op : CmpOp} {o : Op} (h : CmpIs C X op o) (ha : PE X a (tE C W Γ ta)) (hb : PE X b (tE C W Γ tb)) (hm : behindInMarks op b = false) : PT X (.Compare a [op] [b] pos) (tT C W Γ (.op o [ta, tb])) := by
  obtain ⟨r, h1, h2, h3⟩ := h.rule g
  exact sim_cmpT h3 h1 h2 ha hb hm
theorem e_chn (g : GX C X) {op op' : CmpOp} {o o' : Op} (h : CmpIs C X op o) (h' : CmpIs C X op' o') (ha : PE X a (tE C W Γ ta)) (hb : PE X b (tE C W Γ tb)) (hc : PE X c (tE C W Γ tc)) (hm : lastMarks [op, op'] [b, c] = false) : PE X (.Compare a [op, op'] [b, c] pos) (tE C W Γ (.chn o o' ta tb tc)) := by
  obtain ⟨r, h1, h2, h3⟩ := h.rule g
  obtain ⟨r', h4, h5, h6⟩ := h'.rule g
  exact sim_chn h1 h4 h2 h5 h3 h6 ha hb hc hm
theorem t_chn (g : GX C X) {op op' : CmpOp} {o o' : Op} (h : CmpIs C X op o) (h' : CmpIs C X op' o') (ha : PE X a (tE C W Γ ta)) (hb : PE X b (tE C W Γ tb)) (hc : PE X c (tE C W Γ tc)) (hm : lastMarks [op, op'] [b, c] = false) : PT X (.Compare a [op, op'] [b, c] pos) (tT C W Γ (.chn o o' ta tb tc)) := by
  obtain ⟨r, h1, h2, h3⟩ := h.rule g
  obtain ⟨r', h4, h5, h6⟩ := h'.rule g
  exact sim_chnT h1 h4 h2 h5 h3 h6 ha hb hc hm
/-! ### constants, globals -/
theorem e_int {i : Int} {j : Nat} : PE X (.Constant (.int i) j pos) (tE C W Γ (.cst (.int i))) := sim_const pe_int (fun _ _ => rfl) fun _ => .int _
theorem e_bl {i : Bool} {j : Nat} : PE X (.Constant (.bool i) j pos) (tE C W Γ (.cst (.bl i))) := sim_const pe_bl (fun _ _ => rfl) fun _ => .bl _
theorem e_non {j : Nat} : PE X (.Constant .none j pos) (tE C W Γ (.cst .non)) := sim_const pe_non (fun _ _ => rfl) fun _ => .non
theorem e_str {i : Str} {j : Nat} : PE X (.Constant (.str i) j pos) (tE C W Γ (.cst (.str i))) := sim_const pe_str (fun _ _ => rfl) fun _ => .str _
/-- a constant of the module -/
def IsCon (C : PC) (x : Str) (d : D) : Prop := ∃ u v, C.mg x = some u ∧ RelV v u ∧ ∀ w, RelD C w d v
theorem e_con (g : GX C X) {x : Str} {d : D} (h : IsCon C x d) (hg : Gl X x) (hd : (x == ("__debug__" : Str)) = false) : PE X (.Name x pos) (tE C W Γ (.cst d)) := by
  obtain ⟨u, v, h1, h2, h3⟩ := h
  exact sim_const (pe_glob hg (by rw [g.mg]; exact h1) h2 hd) (fun _ _ => rfl) h3
theorem IsCon.int {x : Str} {i : Int} {k : Tok} (h : C.mg x = some (.int i k)) : IsCon C x (.int i) := ⟨_, .int i, h, ⟨k, rfl⟩, fun _ => .int i⟩
theorem IsCon.cx {x : Str} {d : D} {q : Option (Addr × Value × Option Addr)} {f : Option (Addr × Wd)} (h : IsCon C x d) : IsCon (C.wx q f) x d := by
  obtain ⟨u, v, h1, h2, h3⟩ := h
  exact ⟨u, v, h1, h2, fun w => (h3 w).cx⟩
theorem e_tup {es : List Expr} {ts : List T} {k : Nat} (hn : ts.length ≤ szL) (h : PA X es (tL C W Γ ts)) : PE X (.Tuple es k pos) (tE C W Γ (.op .tup ts)) := PE_imp (pe_tup h) fun σ H Q q => tE_opA (soundA_tup hn) rfl q
theorem e_lst {es : List Expr} {ts : List T} (hn : ts.length ≤ szL) (h : PA X es (tL C W Γ ts)) : PE X (.List es pos) (tE C W Γ (.op .lst ts)) := PE_imp (pe_lst h) fun σ H Q q => tE_opA (soundA_lst hn) rfl q
/-! ### built-in functions and types -/
theorem e_callB {x : Str} {id : String} {o : Op} {r : List V → Hp → VK → Prop} {e : Expr} {es : List Expr} {ts : List T} {p : Pos} (hc : CallR X (.builtin id) r) (hs : Sound C o r) (hg : Gl X x) (hm : X.mg x = none) (hv : bootBuiltins x = some (.builtin id)) (ha : PA X (e :: es) (tL C W Γ ts)) (hn : x ≠ "__name__") (hdb : (x == ("__debug__" : Str)) = false)
    (he : starEach (e :: es) X.env = (false, eval e X.env) :: starEach es X.env) (hpl : (backTo pos (starEach es X.env)).any (·.1) = false) : PE X (.Call (.Name x p) (e :: es) [] pos) (tE C W Γ (.op o ts)) := PE_imp (pe_callB hc hg hm hv ha hn hdb he hpl) fun σ H Q q => tE_op hs q
theorem e_callT {x : Str} {id : String} {o : Op} {r : List V → Hp → VK → Prop} {e : Expr} {es : List Expr} {ts : List T} {p : Pos} (hc : CallR X (.type id) r) (hs : Sound C o r) (hg : Gl X x) (hm : X.mg x = none) (hv : bootBuiltins x = some (.type id)) (ha : PA X (e :: es) (tL C W Γ ts)) (hn : x ≠ "__name__") (hdb : (x == ("__debug__" : Str)) = false)
    (he : starEach (e :: es) X.env = (false, eval e X.env) :: starEach es X.env) (hpl : (backTo pos (starEach es X.env)).any (·.1) = false) : PE X (.Call (.Name x p) (e :: es) [] pos) (tE C W Γ (.op o ts)) := PE_imp (pe_callTy hc hg hm hv ha hn hdb he hpl) fun σ H Q q => tE_op hs q
/-- the built-in names that are called so -/
inductive BltIs (C : PC) (X : Cx) : Str → Op → Prop
  | abs : BltIs C X "abs" .abs
  | len : BltIs C X "len" .len
  | int : BltIs C X "int" .int
  | tuple : BltIs C X "tuple" .tuple
  | list : BltIs C X "list" .list
  | min (h : X.calm = true) : BltIs C X "min" .min
  | max (h : X.calm = true) : BltIs C X "max" .max
  | min2 (h : X.calm = true) : BltIs C X "min" .min2
  | max2 (h : X.calm = true) : BltIs C X "max" .max2
  | sum (h : X.calm = true) : BltIs C X "sum" .sum
  | all (h : X.calm = true) : BltIs C X "all" .all
  | any (h : X.calm = true) : BltIs C X "any" .any
theorem e_blt (g : GX C X) {x : Str} {o : Op} {e : Expr} {es : List Expr} {ts : List T} {p : Pos} (h : BltIs C X x o) (hg : Gl X x) (hm : C.mg x = none) (ha : PA X (e :: es) (tL C W Γ ts))
    (he : starEach (e :: es) X.env = (false, eval e X.env) :: starEach es X.env) (hpl : (backTo pos (starEach es X.env)).any (·.1) = false) : PE X (.Call (.Name x p) (e :: es) [] pos) (tE C W Γ (.op o ts)) := by
  have hm : X.mg x = none := by rw [g.mg]; exact hm
  cases h with
  | abs => exact e_callB call_abs sound_abs hg hm boot_abs ha (by decide) (by decide) he hpl
  | len => exact e_callB call_len (by rw [g.K]; exact sound_len) hg hm boot_len ha (by decide) (by decide) he hpl
  | int => exact e_callT call_int1 sound_int hg hm (by decide +kernel) ha (by decide) (by decide) he hpl
  | tuple => exact e_callT call_tuple_of (by rw [g.K]; exact sound_tuple) hg hm (by decide +kernel) ha (by decide) (by decide) he hpl
  | list => exact e_callT call_list_of (by rw [g.K]; exact sound_list) hg hm (by decide +kernel) ha (by decide) (by decide) he hpl
  | min h => exact e_callB (cr_min h) (by rw [g.K]; exact sound_min) hg hm (by decide +kernel) ha (by decide) (by decide) he hpl
  | max h => exact e_callB (cr_max h) (by rw [g.K]; exact sound_max) hg hm (by decide +kernel) ha (by decide) (by decide) he hpl
  | min2 h => exact e_callB (call_min2 h) sound_min2 hg hm (by decide +kernel) ha (by decide) (by decide) he hpl
  | max2 h => exact e_callB (call_max2 h) sound_max2 hg hm (by decide +kernel) ha (by decide) (by decide) he hpl
  | sum h => exact e_callB (cr_sum h) (by rw [g.K]; exact sound_sum) hg hm (by decide +kernel) ha (by decide) (by decide) he hpl
  | all h => exact e_callB (cr_all h) (by rw [g.K]; exact sound_all) hg hm (by decide +kernel) ha (by decide) (by decide) he hpl
  | any h => exact e_callB (cr_any h) (by rw [g.K]; exact sound_any) hg hm (by decide +kernel) ha (by decide) (by decide) he hpl
/-- isinstance(x, T), T a built-in class -/
theorem e_isi (g : GX C X) {c : Cl} {y : Str} {p p2 : Pos} (hg : Gl X "isinstance") (hm : C.mg "isinstance" = none) (hgy : Gl X y) (hmy : C.mg y = none) (hv : bootBuiltins y = some (.type c.name)) (hn : y ≠ "__name__") (hdb : (y == ("__debug__" : Str)) = false) (ha : PE X a (tE C W Γ ta))
    (h1 : starEach [a, .Name y p2] X.env = (false, eval a X.env) :: starEach [.Name y p2] X.env) (h2 : starEach [.Name y p2] X.env = (false, eval (.Name y p2) X.env) :: starEach [] X.env) (hpl : (backTo pos (starEach [.Name y p2] X.env)).any (·.1) = false) :
    PE X (.Call (.Name "isinstance" p) [a, .Name y p2] [] pos) (tE C W Γ (.op (.isi c) [ta])) :=
  PE_imp (pe_callB call_isi hg (by rw [g.mg]; exact hm) boot_isinstance (pa_cons ha (pa_cons (pe_bltn (v := .ty c.name) hgy (by rw [g.mg]; exact hmy) hv rfl hn hdb) pa_nil h2) h1) (by decide) (by decide) h1 hpl) fun σ H Q h =>
    tL_one (K := fun x H1 => rIsi X.K [x, .ty c.name] H1 Q) (by
      obtain ⟨w0, w, env, st, e, R, h⟩ := tE_op sound_isi h
      exact ⟨w0, w, env, st, e, R, okP_mono h fun w2 ds st2 e2 S2 h2 vs rs x ex => by
        obtain ⟨x', e', q⟩ := h2 vs rs
        rw [ex] at e'; cases e'
        rw [g.K]; exact q⟩)
/-- e.f, a field of the caught exception -/
theorem e_fld {a' : Addr} {o : Obj} {cls : Value} {d : Option Addr} {pn : List (Addr × Obj)} {i : Nat} {x n : Str} {p : Pos} (g : GX C X) (hxa : C.xa = some (a', cls, d)) (hz : Zc cls d o) (hf : ∃ vs, o.data = .fields vs) {k : Addr} {cn : Str} (hk : C.mg cn = some (.ref k)) (hno : PySem.W.findIn C.K (.ref k) n = some none) (T0 : XfC C.K k)
    (hN : X.N[i]? = some x) (hv : Vis X.env.scope x) (hd : (x == ("__debug__" : Str)) = false) (hcd : (x == ("__classdict__" : Str)) = false) (hb : attributeBase (.Name x p) n X.env (eval (.Name x p) X.env) = eval (.Name x p) X.env) :
    PE (X.suite a' ((a', o) :: pn)) (.Attribute (.Name x p) n pos) (tE C W Γ (.fld i cn n)) := by
  refine PE_imp (pe_xf (by rw [g.K]; exact T0) (by rw [g.K]; exact hno) hz hf (pe_var hN hv hd hcd) hb) fun σ H Q h => ?_
  obtain ⟨w0, w, env, st, rfl, R, h⟩ := h
  simp only [ev] at h
  split at h
  · rename_i y hy
    split at h
    rotate_left
    · exact h.elim
    rename_i ey
    obtain ⟨e, he, h⟩ := okP_liftO h
    obtain ⟨v, q1, q2⟩ := R.slot i _ hy
    obtain ⟨a'', cls', dx', rfl, e1, e2⟩ := q2.exc_ref
    rw [hxa] at e1
    cases e1
    obtain ⟨ax, rfl, gx, fld⟩ := id e2
    rw [ey, hk] at gx
    cases gx
    rcases fld with ⟨hfs, _⟩ | ⟨dd, vs, hne, rfl, hH, hB, hrs⟩
    · rw [hfs] at he; cases he
    · have key : ∀ (fs : List (Str × D)) (vs : List V), RelDs C w (fs.map (·.2)) vs → fs.lookup n = some e → ∃ v, (((fs.map (·.1)).zip vs).lookup n = some v ∧ RelD C w e v) := by
        intro fs
        induction fs with
        | nil => intro vs _ h; cases h
        | cons f fs ih =>
          intro vs hr hl
          obtain ⟨fn, fd⟩ := f
          cases hr with
          | cons r rs =>
            simp only [List.map_cons, List.zip_cons_cons, List.lookup_cons] at hl ⊢
            split at hl
            · cases hl
              exact ⟨_, rfl, r⟩
            · exact ih _ rs hl
      obtain ⟨v, hv1, hv2⟩ := key _ _ hrs he
      exact ⟨_, q1, rfl, rfl, dd, _, v, rfl, hH, hv1, h w (Ext.refl _) R.store v (hv2.toNf (escE_sub _))⟩
  · exact h.elim
end
/-! ### defs -/
/-- the module has a def of this meaning -/
def HasFn (P : Program) (w : World) (K : PySem.W.Frag) (mg : Str → Option Value) (base : Heap) (C : PC) (x : Str) (k np : Nat) (F : FSem) : Prop :=
  ∃ (f : Addr) (fd : FuncData) (ps : List Str), mg x = some (.ref f) ∧ PySem.W.keepIn K (.ref f) = true ∧ Binds K fd ps [] ∧ FnOk P w K mg base (L2.CX P w) k f fd ps (spOf C np F)
theorem e_call {C : PC} {W : WX} {Γ : GS} {X : Cx} {x : Str} {k n np j : Nat} {e : Expr} {es : List Expr} {ts : List T} {p pos : Pos} (F : HasFn X.prog X.w X.K X.mg X.base C x k np (Γ.fn j)) (hr : Room n X.A) (hk : k ≤ n) (hg : Gl X x) (tk : Takes X W) (hn : ts.length = np) (ha : PA X (e :: es) (tL C W Γ ts)) (hdb : (x == ("__debug__" : Str)) = false)
    (he : starEach (e :: es) X.env = (false, eval e X.env) :: starEach es X.env) (hpl : (backTo pos (starEach es X.env)).any (·.1) = false) : PE X (.Call (.Name x p) (e :: es) [] pos) (tE C W Γ (.call j ts)) := by
  obtain ⟨f, fd, ps, h1, h2, h3, h4⟩ := F
  exact sim_call h4 (hr.mono hk) hg h1 h2 h3 tk hn ha hdb he hpl
theorem spOf_imp {C : PC} {np : Nat} {F G : FSem} (h : ∀ ds st, ds.length = np → F ds st ≠ .stuck → G ds st = F ds st) : ∀ vs H Q E, spOf C np F vs H Q E → spOf C np G vs H Q E := by
  rintro vs H Q E ⟨w, ds, st, e, S, r, l, q⟩
  refine ⟨w, ds, st, e, S, r, l, ?_⟩
  by_cases z : F ds st = .stuck
  · rw [z] at q; exact q.elim
  · rw [h ds st l z]; exact q
theorem HasFn.imp {P : Program} {w : World} {K : PySem.W.Frag} {mg : Str → Option Value} {base : Heap} {C : PC} {x : Str} {k np : Nat} {F G : FSem} (h : HasFn P w K mg base C x k np G) (i : ∀ ds st, ds.length = np → F ds st ≠ .stuck → G ds st = F ds st) : HasFn P w K mg base C x k np F := by
  obtain ⟨f, fd, ps, h1, h2, h3, h4⟩ := h
  exact ⟨f, fd, ps, h1, h2, h3, h4.imp (spOf_imp i)⟩
theorem HasFn.mono {P : Program} {w : World} {K : PySem.W.Frag} {mg : Str → Option Value} {base : Heap} {C : PC} {x : Str} {j k np : Nat} {F : FSem} (h : HasFn P w K mg base C x j np F) (i : j ≤ k) : HasFn P w K mg base C x k np F := by
  obtain ⟨f, fd, ps, h1, h2, h3, h4⟩ := h
  exact ⟨f, fd, ps, h1, h2, h3, h4.mono i⟩
theorem runB_ok {C : PC} {Γ : GS} {E : XK} {w : Wd} {n : Nat} {b : List S} {ds : List D} {st : Store} {Q : VK} (h : okP C (fun cls d _ H' => E cls d H') w [] (runB Γ n b ds st) (fun w' d _ => ∀ v, RelD C w' d v → Q v w'.H)) :
    okS C (fun cls d _ H' => E cls d H') w w { nx := fun _ H' => Q .non H', rt := Q } (execs Γ b (ds.map Slt.val ++ List.replicate (n - ds.length) .none) st) := by
  unfold runB at h
  cases hr : execs Γ b (ds.map Slt.val ++ List.replicate (n - ds.length) .none) st with
  | nx env st1 =>
    rw [hr] at h
    exact fun w' σ' l R => h w' R.ext R.store .non .non
  | rt d st1 =>
    rw [hr] at h
    exact fun w' v l e S r => h w' e S v r
  | ex x env st1 =>
    rw [hr] at h
    exact fun w' σ' cls dx l R xr => h w' cls dx R.ext R.store xr
  | bk env st1 => rw [hr] at h; exact h.elim
  | ct env st1 => rw [hr] at h; exact h.elim
  | stuck => rw [hr] at h; exact h.elim
theorem start_rel {C : PC} {w : Wd} {N : List Str} {ds : List D} {vs : List V} {st : Store} (S : SRel C w st) (r : RelDs C w ds vs) : Rel C w w (ds.map Slt.val ++ List.replicate (N.length - ds.length) .none) st (L2.start N vs) where
  ext := Ext.refl w
  trk0 := S.trk
  store := S
  len := by simp [L2.start, r.length]
  slot := fun i s hs => by
    have hl := r.length
    by_cases h : i < ds.length
    · rw [List.getElem?_append_left (by simpa using h), List.getElem?_map] at hs
      obtain ⟨d, hd, rfl⟩ := Option.map_eq_some_iff.mp hs
      obtain ⟨v, hv, rv⟩ := r.get hd
      refine ⟨some v, ?_, rv⟩
      show (vs.map some ++ _)[i]? = _
      rw [List.getElem?_append_left (by simp; omega), List.getElem?_map, hv]; rfl
    · rw [List.getElem?_append_right (by simpa using h), List.length_map, List.getElem?_replicate] at hs
      split at hs
      · rename_i h2
        cases hs
        refine ⟨none, ?_, trivial⟩
        show (vs.map some ++ _)[i]? = _
        rw [List.getElem?_append_right (by simp; omega), List.length_map, List.getElem?_replicate, if_pos (by omega)]
      · cases hs
  apart := fun i j d1 d2 a h1 => by
    exfalso
    by_cases h : i < ds.length
    · rw [List.getElem?_append_left (by simpa using h), List.getElem?_map] at h1
      obtain ⟨d, _, e⟩ := Option.map_eq_some_iff.mp h1
      cases e
    · rw [List.getElem?_append_right (by simpa using h), List.length_map, List.getElem?_replicate] at h1
      split at h1 <;> cases h1
section
variable {P : Program} {w : World} {K : PySem.W.Frag} {mg : Str → Option Value} {base : Heap} {C : PC} {Γ : GS}
/-- a def by its body -/
theorem fn_okL {x : Str} {st : Stmt} {f : Addr} {oc kV doc pm cdv ct : Value} {od an : Option Addr} {osl : Array (Option Value)} {N ps : List Str} {k : Nat} {b : List S} (lk : K.lookup f = some ⟨oc, od, .func (PySem.W.fnOf x x (defArgs st) (defBody st) (defScope st) .none kV doc pm an cdv ct), osl⟩) (hcd : PySem.W.codeIn K cdv x = true) (Sc : FnScope N ps (defScope st))
    (hbody : ∀ (A : Around) (outer : List PySem.Env) (s : Shared) (H : Hp) (E : XK) (w0 : Wd), Room k (A.deeper (envOfC x (defScope st) s.heap.objs.size f cdv)) →
      PSs (cxOf (L2.CX P w) P w K mg base N x (defScope st) f cdv A outer s H E) (defBody st) (tSs C (fun cls d _ H' => E cls d H') Γ w0 b)) :
    FnOk P w K mg base (L2.CX P w) (k + 1) f (PySem.W.fnOf x x (defArgs st) (defBody st) (defScope st) .none kV doc pm an cdv ct) ps (spOf C ps.length (runB Γ N.length b)) := by
  refine fn_of lk hcd Sc (fun vs H Q E h => ?_) fun A outer s H vs Q E hr h => ?_
  · obtain ⟨w, ds, st, _, _, r, l, _⟩ := h
    rw [← r.length, l]
  · obtain ⟨w1, ds, st1, rfl, S, r, l, q⟩ := h
    exact ⟨_, hbody A outer s w1.H E w1 hr, w1, _, st1, rfl, start_rel S r, runB_ok q⟩
theorem fn_ok {x : Str} {st : Stmt} {f : Addr} {fd : FuncData} {N ps : List Str} {k : Nat} {b : List S} (F : Fun K x x st f fd) (hm : mg x = some (.ref f)) (Sc : FnScope N ps (defScope st)) (bd : Binds K fd ps [])
    (hbody : ∀ (cdv : Value) (A : Around) (outer : List PySem.Env) (s : Shared) (H : Hp) (E : XK) (w0 : Wd), Room k (A.deeper (envOfC x (defScope st) s.heap.objs.size f cdv)) →
      PSs (cxOf (L2.CX P w) P w K mg base N x (defScope st) f cdv A outer s H E) (defBody st) (tSs C (fun cls d _ H' => E cls d H') Γ w0 b)) :
    HasFn P w K mg base C x (k + 1) ps.length (runB Γ N.length b) := by
  refine ⟨f, fd, ps, hm, F.kp, bd, F.okX Sc (fun vs H Q E h => ?_) fun cdv A outer s H vs Q E hr h => ?_⟩
  · obtain ⟨w, ds, st, _, _, r, l, _⟩ := h
    rw [← r.length, l]
  · obtain ⟨w1, ds, st1, rfl, S, r, l, q⟩ := h
    exact ⟨_, hbody cdv A outer s w1.H E w1 hr, w1, _, st1, rfl, start_rel S r, runB_ok q⟩
end
end FY

end

section
set_option maxRecDepth 100000
set_option maxHeartbeats 1000000
/-! Fy18: words for printed proofs. -/
namespace FY
open PySem PySem.Spec PyProof.Rows L2
def mkG (fs : List FSem) (sub : Str → Str → Option Bool) : GS := { fn := fun j => (fs[j]?).getD (fun _ _ => .stuck), con := fun _ => .non, hof := fun _ _ _ _ => .stuck, act := fun _ => .stuck, sub := sub }
def mkH (fs : List FSem) (hs : List ((Store → FY.R D) → Store → FY.R D)) (sub : Str → Str → Option Bool) : GS := { fn := fun j => (fs[j]?).getD (fun _ _ => .stuck), con := fun _ => .non, hof := fun j a _ st => ((hs[j]?).getD (fun _ _ => .stuck)) a st, act := fun _ => .stuck, sub := sub }
def sub0 : Str → Str → Option Bool := fun _ _ => none
abbrev CC (K : PySem.W.Frag) (mg : Str → Option Value) (TT : List (Addr × Str)) : PC := { K := K, mg := mg, T := TT }
section
variable {C : PC} {W : WX} {Γ : GS} {X : Cx} {w0 : Wd}
theorem gx {k : Nat} (hr : Room k X.A) (hK : X.K = C.K) (hm : X.mg = C.mg) : GX C X := ⟨hK, hm, by have := hr.un; omega⟩
theorem GX.suite (g : GX C X) (q : Option (Addr × Value × Option Addr)) (f : Option (Addr × Wd)) (a : Addr) (pn : List (Addr × Obj)) : GX (C.wx q f) (X.suite a pn) := ⟨g.K, g.mg, g.un⟩
theorem takes_noW : Takes X noW := LamX.takes0
theorem e_count {ea e : Expr} {es : List Expr} {ta : T} {ts : List T} {apos cpos : Pos} (g : GX C X) (ha : PE X ea (tE C W Γ ta)) (hes : PA X (e :: es) (tL C W Γ ts)) (hbase : attributeBase ea "count" X.env (eval ea X.env) = eval ea X.env)
    (hfew : ((backTo cpos (starEach (e :: es) X.env)).all (fun x => !x.1) && (backToKw cpos (keywordEach [] X.env)).all (fun x => x.1.isSome) && decide ((e :: es).length + ([] : List Keyword).length + (if ([] : List Keyword).isEmpty then 0 else 1) < 30)) = true)
    (hline : (apos.endLine == cpos.line) = true) (hst : starEach (e :: es) X.env = (false, eval e X.env) :: starEach es X.env) (hpl : (backTo cpos (starEach es X.env)).any (·.1) = false) :
    PE X (.Call (.Attribute ea "count" apos) (e :: es) [] cpos) (tE C W Γ (.me .count ta ts)) := by
  refine sim_me (r := rCountD X.K) g.K PySem.F.plainAttrs_list PySem.F.slot_list_count PySem.F.type_list_count (mt_countD g.un) (fun w w1 d v h r => ?_) (fun ds d h => ?_) (fun w d ds v vs e Q r rs h he k => ?_) ha hes hbase hfew hline hst hpl
  · cases d with
    | lst ds =>
      obtain ⟨p, us, rfl, _, hq, t⟩ := r
      exact .inl ⟨rfl, _, .inl (.inl hq)⟩
    | _ => cases h
  · obtain ⟨a, b, rfl, h⟩ := two_some (show two countD ds = some d from h)
    have h : countD a b = some d := h
    unfold countD at h
    split at h
    · split at h
      · cases h; rfl
      · cases h
    · split at h
      · cases h; rfl
      · cases h
    · cases h
  · obtain ⟨a, b, e1, h2⟩ := two_some (show two countD (d :: ds) = some e from he)
    cases e1
    obtain ⟨y, rfl, ry⟩ := rs.one
    cases d with
    | lst es =>
      have h2 : (if isData b && isData (.lst es) then some (D.int (es.countP fun e => pyEq e b)) else none) = some e := h2
      split at h2
      · rename_i hd
        rw [Bool.and_eq_true] at hd
        cases h2
        rw [g.K]
        exact count_D (Sub.refl w) r ry hd.1 hd.2 (k _ (.int _))
      · cases h2
    | _ => cases h
theorem e_index {ea e : Expr} {es : List Expr} {ta : T} {ts : List T} {apos cpos : Pos} (g : GX C X) (ha : PE X ea (tE C W Γ ta)) (hes : PA X (e :: es) (tL C W Γ ts)) (hbase : attributeBase ea "index" X.env (eval ea X.env) = eval ea X.env)
    (hfew : ((backTo cpos (starEach (e :: es) X.env)).all (fun x => !x.1) && (backToKw cpos (keywordEach [] X.env)).all (fun x => x.1.isSome) && decide ((e :: es).length + ([] : List Keyword).length + (if ([] : List Keyword).isEmpty then 0 else 1) < 30)) = true)
    (hline : (apos.endLine == cpos.line) = true) (hst : starEach (e :: es) X.env = (false, eval e X.env) :: starEach es X.env) (hpl : (backTo cpos (starEach es X.env)).any (·.1) = false) :
    PE X (.Call (.Attribute ea "index" apos) (e :: es) [] cpos) (tE C W Γ (.me .index ta ts)) := by
  refine sim_me (r := rIndexD X.K) g.K PySem.F.plainAttrs_list PySem.F.slot_list_index PySem.F.type_list_index (mt_indexD g.un) (fun w w1 d v h r => ?_) (fun ds d h => ?_) (fun w d ds v vs e Q r rs h he k => ?_) ha hes hbase hfew hline hst hpl
  · cases d with
    | lst ds =>
      obtain ⟨p, us, rfl, _, hq, t⟩ := r
      exact .inl ⟨rfl, _, .inl (.inl hq)⟩
    | _ => cases h
  · obtain ⟨a, b, rfl, h⟩ := two_some (show two indexD ds = some d from h)
    have h : indexD a b = some d := h
    unfold indexD at h
    split at h
    · split at h
      · obtain ⟨n, _, rfl⟩ := Option.map_eq_some_iff.mp h
        rfl
      · cases h
    · cases h
  · obtain ⟨a, b, e1, h2⟩ := two_some (show two indexD (d :: ds) = some e from he)
    cases e1
    obtain ⟨y, rfl, ry⟩ := rs.one
    cases d with
    | lst es =>
      have h2 : (if isData b && isData (.lst es) then (findIx b es 0).map (fun (n : Nat) => D.int (n : Int)) else none) = some e := h2
      split at h2
      · rename_i hd
        rw [Bool.and_eq_true] at hd
        obtain ⟨n, hn, rfl⟩ := Option.map_eq_some_iff.mp h2
        rw [g.K]
        exact index_D (Sub.refl w) r ry hd.1 hd.2 hn (k _ (.int _))
      · cases h2
    | _ => cases h
/-- an exception class of the module that may be raised without arguments -/
def IsX (K : PySem.W.Frag) (mg : Str → Option Value) (x : Str) : Prop := ∃ (A : Addr) (bm : List Value) (B nI iI : String), ExcBaseFacts B nI iI bm ∧ PySem.W.excIn K A bm nI = true ∧ mg x = some (.ref A) ∧ PySem.W.keepIn K (.ref A) = true ∧ PySem.W.subIn K (.ref A) (.type "BaseException") = some true ∧ PySem.W.typeIn K (.ref A) = some (.type "type")
theorem e_raise {x : Str} {p pos pos2 : Pos} (h : IsX X.K X.mg x) (hc : X.calm = true) (tk : Takes X W) (gX : X.mg = C.mg) (hg : Gl X x) (hdb : (x == ("__debug__" : Str)) = false) : PS X (.Raise (some (.Call (.Name x p) [] [] pos)) none pos2) (tS C W Γ w0 (.rais x [] [])) := by
  obtain ⟨A, bm, B, nI, iI, F, q, gC, kC, r1, r2⟩ := h
  exact sim_raise0 F q gX gC kC (raises_own r1 r2) hg hdb hc tk
theorem names_of {x : Str} {c : Value} (h : X.mg x = some c) (hg : Gl X x) (hdb : (x == ("__debug__" : Str)) = false) : Names X x c := ⟨hg, hdb, .inl h⟩
/-- the def that gets a lambda -/
structure HofTx (K : PySem.W.Frag) (mg : Str → Option Value) (x a : Str) (st : Stmt) (N : List Str) : Prop where
  ex : ∃ (g : Addr) (oc kV doc pm cdv ct : Value) (od an : Option Addr) (osl : Array (Option Value)), mg x = some (.ref g) ∧ PySem.W.keepIn K (.ref g) = true ∧ K.lookup g = some ⟨oc, od, .func (PySem.W.fnOf x x (defArgs st) (defBody st) (defScope st) .none kV doc pm an cdv ct), osl⟩ ∧ PySem.W.codeIn K cdv x = true ∧
    L2.Binds K (PySem.W.fnOf x x (defArgs st) (defBody st) (defScope st) .none kV doc pm an cdv ct) [a] []
/-- what a def that makes lambdas must know of its code object -/
structure LamTx (base : Heap) (mg : Str → Option Value) (TT : List (Addr × Str)) (cd : Value) (q : Str) : Prop where
  ex : ∃ (c P : Addr), LamX.TabB base mg c P ∧ cd = .ref c ∧ (P, q) ∈ TT ∧ ∀ p ∈ TT, p.1 = P → p.2 = q
theorem e_lam {x a : Str} {st : Stmt} {N : List Str} {k j : Nat} {b : T} {params : Arguments} {body : Expr} {scope : Scope} {F : (Store → FY.R D) → Store → FY.R D} {p lpos pos : Pos} (th : HofTx X.K X.mg x a st N) (tl : LamTx X.base X.mg C.T X.env.code (X.env.qual ++ "<lambda>")) (hr : Room (k + 2) X.A) (hF : ∀ act st, Γ.hof j act [] st = F act st)
    (Sg : FnScope N [a] (defScope st)) (hNg : N[0]? = some a) (hva : Vis (defScope st) a) (hG : ∀ g cd, Gives X N x (defScope st) g cd (defBody st) a (X.env.qual ++ "<lambda>") 0 (TTf C F))
    (hg : Gl X x) {sc : Scope} (hsc : X.env.scope = sc) (L : LamX.lamSB sc scope = true) (hdef : defaultsOf params X.env = ([], [])) (hbind : ∀ (q : Str) (cl : List (Str × Addr)) (pm cv ctv : Value), bindArgs (PySem.W.kla_fn "<lambda>" q params body scope cl pm cv ctv) ⟨[], []⟩ = pure [])
    (hdb : (x == ("__debug__" : Str)) = false) (hd : (a == ("__debug__" : Str)) = false) (hcd : (a == ("__classdict__" : Str)) = false)
    (hbody : ∀ (A : Around) (outer : List PySem.Env) (s : Shared) (H : Hp) (E : XK) (f c' : Addr), Room k (A.deeper (LamX.lamEnv X scope s.heap.objs.size f c')) → PE (LamX.lamCx X A outer s H E scope f c') body (tE C (fun cls d _ H => E cls d H) Γ b)) :
    PE X (.Call (.Name x p) [.Lambda params body scope lpos] [] pos) (tE C W Γ (.hof j b [])) := by
  obtain ⟨g, oc, kV, doc, pm, cdv, ct, od, an, osl, h1, h2, h3, h4, h5⟩ := th.ex
  obtain ⟨c, P, TB, hc, hm, hu⟩ := tl.ex
  subst hsc
  have e : (fun act st => Γ.hof j act [] st) = F := funext fun act => funext fun st => hF act st
  refine sim_hof ?_
  rw [e]
  exact pe_give hg h1 h2 h3 h4 h5 Sg hNg hva (hG g cdv) TB hc hm hu hr (LamX.lamS_by L) hdef hbind hbody hdb hd hcd
end
end FY

end

section
set_option maxRecDepth 100000
set_option maxHeartbeats 1000000
/-! Fy19: the join with the law's head. -/
namespace FY
open PySem PySem.Spec PyProof.Rows L2
section
variable {K : PySem.W.Frag} {mg : Str → Option Value}
theorem kit_own {a k : Addr} {b : Bool} (hd : PySem.W.hasDictIn K k = true) (ht : PySem.W.typeIn K (.ref k) = some (.type "type")) (h : PySem.W.subIn K (.ref a) (.ref k) = some b) (ne : a = k → b = true) : PySem.W.kitOne K (.ref a) (.ref k) = some b := by
  by_cases e : a = k
  · rw [ne e, e]
    exact if_pos (beq_self_eq_true _)
  · have q : ¬ (Value.ref a == Value.ref k) = true := fun z => e (Value.ref.inj (beq_iff_eq.mp z))
    show (if (Value.ref a == Value.ref k) = true then some true else _) = _
    rw [if_neg q]
    obtain ⟨cd, hc, _⟩ := PySem.W.any_some hd
    have e2 : ((PySem.W.clsIn K k).isSome && PySem.W.typeIn K (.ref k) == some (.type "type")) = true := by rw [hc, ht] <;> rfl
    show (if ((PySem.W.clsIn K k).isSome && PySem.W.typeIn K (.ref k) == some (.type "type")) = true then PySem.W.subIn K (.ref a) (.ref k) else none) = some b
    rw [if_pos e2]
    exact h
theorem sub1 {x c : Str} {a0 k0 : Addr} {b : Bool} (hx : mg x = some (.ref a0)) (hc : mg c = some (.ref k0)) (s : PySem.W.subIn K (.ref a0) (.ref k0) = some b) (ne : b = false → a0 ≠ k0) : ∀ a k : Addr, mg x = some (.ref a) → mg c = some (.ref k) → PySem.W.subIn K (.ref a) (.ref k) = some b ∧ (a = k → b = true) := fun a k h1 h2 => by
  rw [hx] at h1
  rw [hc] at h2
  cases h1
  cases h2
  refine ⟨s, fun e => ?_⟩
  cases b with
  | true => rfl
  | false => exact absurd e (ne rfl)
theorem subT_ok {asked : List Str} {subs : List (Str × List Str)}
    (A : ∀ p ∈ subs, ∀ c ∈ asked, ∀ a k : Addr, mg p.1 = some (.ref a) → mg c = some (.ref k) → PySem.W.subIn K (.ref a) (.ref k) = some (p.2.contains c) ∧ (a = k → p.2.contains c = true))
    (B : ∀ c ∈ asked, ∃ k : Addr, mg c = some (.ref k) ∧ PySem.W.subIn K (.ref k) (.type "BaseException") = some true ∧ PySem.W.hasDictIn K k = true ∧ PySem.W.typeIn K (.ref k) = some (.type "type"))
    (E : ∀ p ∈ subs, ∃ a : Addr, mg p.1 = some (.ref a) ∧ ExcC K a) : SubT K mg (fun x c => if asked.contains c then (subs.lookup x).map (fun l => l.contains c) else none) := by
  intro x c b h a k ha hk
  have h : (if asked.contains c = true then (subs.lookup x).map (fun l => l.contains c) else none) = some b := h
  split at h
  · rename_i hc
    have hc : c ∈ asked := by simpa using hc
    obtain ⟨l, hl, rfl⟩ := Option.map_eq_some_iff.mp h
    have hm : (x, l) ∈ subs := PySem.mem_of_lookup hl
    obtain ⟨q1, q2⟩ := A _ hm c hc a k ha hk
    obtain ⟨k', e1, e2, e3, e4⟩ := B c hc
    rw [hk] at e1
    cases e1
    obtain ⟨a', e5, e6⟩ := E _ hm
    have e5 : mg x = some (.ref a') := e5
    rw [ha] at e5
    cases e5
    exact ⟨PySem.W.exm_ref e2 e3 e4 q1, kit_own e3 e4 q1 q2, e6⟩
  · cases h
theorem all_nil {α : Type} {p : α → Prop} : ∀ x ∈ ([] : List α), p x := fun _ h => nomatch h
theorem all_cons {α : Type} {p : α → Prop} {a : α} {l : List α} (h : p a) (t : ∀ x ∈ l, p x) : ∀ x ∈ a :: l, p x := List.forall_mem_cons.mpr ⟨h, t⟩
/-- a tuple of ints among the module's constants -/
theorem IsCon.ints {TT : List (Addr × Str)} {x : Str} {a : Addr} {dd : Option Addr} {its : Array Value} {n : Nat} {sl : Array (Option Value)} {is : List Int} (h : mg x = some (.ref a)) (l : K.lookup a = some ⟨.type "tuple", dd, .seq its n, sl⟩) (e : Vals (is.map V.int) its.toList) (z : its.size ≤ 1000) : IsCon (CC K mg TT) x (.tup (is.map D.int)) := by
  refine ⟨_, .ref a, h, rfl, fun w => .tupK ⟨_, its, n, l, rfl, rfl, by rw [← szL_eq]; unfold szL; omega, e⟩ ?_⟩
  clear e
  induction is with
  | nil => exact .nil
  | cons i is ih => exact .cons (.int i) ih
/-- the law's promise, from its plain meaning -/
theorem sp_law {F : FSem} {cs : List (Addr × Addr)} {TT : List (Addr × Str)} (hT : ∀ p ∈ TT, p.1 ∈ cs.map (·.2)) (plain : ∀ ns : List Int, ns.length ≤ 63 → (∀ z ∈ ns, Builtin.Int.intBits z ≤ 1048576) → ∃ st, F [.scr (ns.map D.int)] [] = .ok (.bl true) st) :
    ∀ (H : Hp) (a : Addr) (ns : List Int), ns.length ≤ 63 → (∀ z ∈ ns, Builtin.Int.intBits z ≤ 1048576) → (∀ p ∈ cs, H p.2 = some (.tbl #[])) → SqL K H a (ns.map V.int) → spOf (CC K mg TT) 1 F [.ref a] H (fun v _ => v = .bl true) fun _ _ _ => False := by
  intro H a ns hl hb hH hS
  obtain ⟨st, e⟩ := plain ns hl hb
  have rs : ∀ (w : Wd) (ns : List Int), RelDs (CC K mg TT) w (ns.map D.int) (ns.map V.int) := fun w ns => by
    induction ns with
    | nil => exact .nil
    | cons i is ih => exact .cons (.int i) ih
  refine ⟨⟨H, fun _ => 0, 0, fun _ => False⟩, [.scr (ns.map D.int)], [], rfl, ⟨rfl, fun l d h => by simp at h, fun l m h => absurd h (Nat.not_lt_zero _), fun a h => h.elim, fun p hp => ?_⟩, .cons ?_ .nil, rfl, ?_⟩
  · obtain ⟨q, hq, e2⟩ := List.mem_map.mp (hT p hp)
    have e3 := hH q hq
    rw [e2] at e3
    exact LamX.TabS.nil e3
  · rcases hS with h | h
    · exact .scr (fun z => z) h (rs _ ns)
    · exact .scrK h (rs _ ns)
  · rw [e]
    exact fun w' e' S v r => by cases r; rfl
theorem cx_none {P : Program} {w : World} {outer : List PySem.Env} {H : Hp} {s s' : Shared} {u : Value} (h : L2.CX P w outer H s (fun _ _ _ => False) u s') : False := by
  obtain ⟨_, _, _, _, _, _, _, _, _, _, _, _, q⟩ := h
  exact q
end
end FY

end

section
set_option maxRecDepth 100000
/-! Fz1: runs of the small language, step by step. -/
namespace FY
section
variable {Γ : GS} {env env1 env2 : Env} {st st1 st2 : Store} {s : S} {ss : List S} {r : RS} {d : D} {n : Nat} {ds : List D} {b : List S}
theorem runB_rt (env : Env) (he : ds.map Slt.val ++ List.replicate (n - ds.length) .none = env) (h : execs Γ b env st = .rt d st1) : runB Γ n b ds st = .ok d st1 := by
  unfold runB; rw [he, h]
theorem runB_ex (env : Env) {x : Xc} (he : ds.map Slt.val ++ List.replicate (n - ds.length) .none = env) (h : execs Γ b env st = .ex x env1 st1) : runB Γ n b ds st = .exc x st1 := by
  unfold runB; rw [he, h]
theorem runB_nx (env : Env) (he : ds.map Slt.val ++ List.replicate (n - ds.length) .none = env) (h : execs Γ b env st = .nx env1 st1) : runB Γ n b ds st = .ok .non st1 := by
  unfold runB; rw [he, h]
theorem execs_nx (h1 : exec Γ s env st = .nx env1 st1) (h2 : execs Γ ss env1 st1 = r) : execs Γ (s :: ss) env st = r := by
  rw [execs, h1]; exact h2
theorem execs_rt (h1 : exec Γ s env st = .rt d st1) : execs Γ (s :: ss) env st = .rt d st1 := by
  rw [execs, h1]; rfl
theorem execs_ex {x : Xc} (h1 : exec Γ s env st = .ex x env1 st1) : execs Γ (s :: ss) env st = .ex x env1 st1 := by
  rw [execs, h1]; rfl
theorem wloop_go {c : Env → Store → R D} {bd : Env → Store → RS} (h1 : c env st = .ok (.bl true) st1) (h2 : bd env st1 = .nx env2 st2) : wloop c bd (n + 1) env st = wloop c bd n env2 st2 := by
  rw [wloop, h1]
  show (match bd env st1 with
      | .nx env2 st2 => wloop c bd n env2 st2
      | .ct env2 st2 => wloop c bd n env2 st2
      | .bk env2 st2 => .nx env2 st2
      | r => r) = _
  rw [h2]
theorem wloop_end {c : Env → Store → R D} {bd : Env → Store → RS} (h1 : c env st = .ok (.bl false) st1) : wloop c bd (n + 1) env st = .nx env st1 := by
  rw [wloop, h1]; rfl
theorem exec_whl {k : Nat} {c : T} : exec Γ (.whl k c b) env st = wloop (ev Γ c) (execs Γ b) k env st := by rw [exec]
theorem floop_go {g : Tg} {bd : Env → Store → RS} {its : List D} (h1 : tgSet g d env = some env1) (h2 : bd env1 st = .nx env2 st2) : floop g bd (d :: its) env st = floop g bd its env2 st2 := by
  rw [floop, h1]
  show (match bd env1 st with
      | .nx env2 st2 => floop g bd its env2 st2
      | .ct env2 st2 => floop g bd its env2 st2
      | .bk env2 st2 => .nx env2 st2
      | r => r) = _
  rw [h2]
theorem exec_for {g : Tg} {k : ItK} {as : List T} {vs its : List D} (h1 : evL Γ as env st = .ok vs st1) (h2 : itSem k vs = some its) (h3 : floop g (execs Γ b) its (frzE env (escL as)) st1 = r) : exec Γ (.for_ g k as b) env st = r := by
  rw [exec, h1]
  show (match itSem k vs with
    | some its => floop g (execs Γ b) its (frzE env (escL as)) st1
    | none => .stuck) = _
  rw [h2]; exact h3
theorem exec_set {i : Nat} {e : T} (h : ev Γ e env st = .ok d st1) : exec Γ (.set i e) env st = .nx ((frzE env (esc e)).set i (.val d)) st1 := by
  rw [exec, h]; rfl
theorem exec_ret {e : T} (h : ev Γ e env st = .ok d st1) : exec Γ (.ret e) env st = .rt d st1 := by
  rw [exec, h]; rfl
theorem exec_expr {e : T} (h : ev Γ e env st = .ok d st1) : exec Γ (.expr e) env st = .nx env st1 := by
  rw [exec, h]; rfl
theorem exec_exprX {e : T} {x : Xc} (h : ev Γ e env st = .exc x st1) : exec Γ (.expr e) env st = .ex x env st1 := by
  rw [exec, h]; rfl
theorem exec_ifs {c : T} {a b2 : List S} {k : Bool} (h : ev Γ c env st = .ok d st1) (hd : tru d = some k) (hr : execs Γ (if k then a else b2) env st1 = r) : exec Γ (.ifs c a b2) env st = r := by
  rw [exec, h]
  show (match tru d with
    | some true => execs Γ a env st1
    | some false => execs Γ b2 env st1
    | none => .stuck) = _
  rw [hd]
  cases k with
  | true => exact hr
  | false => exact hr
theorem ev_call {j : Nat} {as : List T} {vs : List D} {rr : R D} (ho : ownFree env (escL as) = true) (h1 : evL Γ as env st = .ok vs st1) (h2 : Γ.fn j vs st1 = rr) : ev Γ (.call j as) env st = rr := by
  rw [ev, ho, h1]; exact h2
theorem exec_app {i : Nat} {e : T} {l : List D} (he : env[i]? = some (.own (.lst l))) (h : ev Γ e env st = .ok d st1) (hc : (esc e).contains i = false) (hl : l.length < szL) : exec Γ (.app i e) env st = .nx ((frzE env (esc e)).set i (.own (.lst (l ++ [d])))) st1 := by
  rw [exec, he]
  show ((ev Γ e env st).to env fun d st1 => if !(esc e).contains i && decide (l.length < szL) then .nx ((frzE env (esc e)).set i (.own (.lst (l ++ [d])))) st1 else .stuck) = _
  rw [h]
  show (if (!(esc e).contains i && decide (l.length < szL)) = true then _ else _) = _
  rw [hc, decide_eq_true hl]; rfl
theorem exec_setO {i : Nat} {e : T} (h : ev Γ e env st = .ok d st1) : exec Γ (.setO i e) env st = .nx ((frzE env (esc e)).set i (.own d)) st1 := by
  rw [exec, h]; rfl
theorem ev_lst1 {e : T} (h : ev Γ e env st = .ok d st1) : ev Γ (.op .lst [e]) env st = .ok (.lst [d]) st1 := by
  rw [ev, evL, h]; rfl
theorem compLoop_map {f : D → Store → R (Option D)} {g : D → D} : ∀ {its : List D}, (∀ x ∈ its, f x st = .ok (some (g x)) st) → compLoop f its st = .ok (its.map g) st
  | [], _ => rfl
  | x :: xs, h => by
    rw [compLoop, h x (List.mem_cons_self), R.bind, compLoop_map (fun y hy => h y (List.mem_cons_of_mem _ hy))]
    rfl
end
end FY

end

section
set_option maxRecDepth 100000
set_option maxHeartbeats 4000000
namespace k69
open PySem PySem.Spec PyProof.Rows L2 FY
variable {P : Program} {w : World} {K : PySem.W.Frag} {mg : Str → Option Value} {base : Heap} {TT : List (Addr × Str)} {ad : Nat → Addr}
def top (i : Nat) : Stmt := PySem.Challenge.pw_fairyard_k69_whole_horses_up_and_down.main.body.getD i (.Pass ⟨0, 0, 0, 0⟩)
def big : Nat := 1000000000000000000000000000000
def c_MOST_HORSES : D := (.int 12)
def c_MOST_UPS : D := (.int 9)
def c_ONE : D := (.tup [(.int 1), (.int 1)])
def subL : List (Str × List Str) := [("NoHorse", ["NoHorse", "FairError"]), ("NoHorses", ["NoHorses", "FairError"]), ("NoStand", ["NoStand", "FairError"]), ("NoTurned", ["NoTurned", "FairError"]), ("NoUps", ["NoUps", "FairError"])]
def askL : List Str := ["FairError", "NoGears", "NoHorse", "NoHorses", "NoMesh", "NoSpeeds", "NoStand", "NoTurned", "NoUps", "NoWheel", "TooMany"]
def subT : Str → Str → Option Bool := fun x c => if askL.contains c then (subL.lookup x).map (fun l => l.contains c) else none
abbrev s_is_integer : Stmt := top 1
abbrev N_is_integer : List Str := ["thing"]
abbrev P_is_integer : List Str := ["thing"]
def b_is_integer : List S := [(.ret (.and_ [(.op (.isi .int) [(.var 0)]), (.op .not_ [(.op (.isi .bl) [(.var 0)])])]))]
def G_is_integer : GS := mkG [] subT
def F_is_integer : FSem := runB G_is_integer 1 b_is_integer
abbrev s_is_within : Stmt := top 2
abbrev N_is_within : List Str := ["thing", "low", "high"]
abbrev P_is_within : List Str := ["thing", "low", "high"]
def b_is_within : List S := [(.ret (.and_ [(.call 0 [(.var 0)]), (.chn .le .le (.var 1) (.var 0) (.var 2))]))]
def G_is_within : GS := mkG [F_is_integer] subT
def F_is_within : FSem := runB G_is_within 3 b_is_within
abbrev s_is_sized : Stmt := top 3
abbrev N_is_sized : List Str := ["thing", "low", "high"]
abbrev P_is_sized : List Str := ["thing", "low", "high"]
def b_is_sized : List S := [(.ret (.and_ [(.op (.isi .tup) [(.var 0)]), (.chn .le .le (.var 1) (.op .len [(.var 0)]) (.var 2))]))]
def G_is_sized : GS := mkG [] subT
def F_is_sized : FSem := runB G_is_sized 3 b_is_sized
abbrev s_common : Stmt := top 18
abbrev N_common : List Str := ["one", "other"]
abbrev P_common : List Str := ["one", "other"]
def b_common : List S := [(.whl big (.op .ne [(.var 1), (.cst (.int 0))]) [(.par [(0, false), (1, false)] [(.var 1), (.op .mod [(.var 0), (.var 1)])])]),
  (.ret (.op .abs [(.var 0)]))]
def G_common : GS := mkG [] subT
def F_common : FSem := runB G_common 2 b_common
abbrev s_share : Stmt := top 19
abbrev N_share : List Str := ["top", "bottom", "divisor"]
abbrev P_share : List Str := ["top", "bottom"]
def b_share : List S := [(.set 2 (.call 0 [(.var 0), (.var 1)])),
  (.set 2 (.ife (.op .gt [(.var 1), (.cst (.int 0))]) (.var 2) (.op .sub [(.cst (.int 0)), (.var 2)]))),
  (.ret (.op .tup [(.op .fdiv [(.var 0), (.var 2)]), (.op .fdiv [(.var 1), (.var 2)])]))]
def G_share : GS := mkG [F_common] subT
def F_share : FSem := runB G_share 3 b_share
abbrev s_is_share : Stmt := top 20
abbrev N_is_share : List Str := ["thing", "one"]
abbrev P_is_share : List Str := ["thing"]
def b_is_share : List S := [(.ifs (.or_ [(.op .not_ [(.call 0 [(.var 0), (.cst (.int 2)), (.cst (.int 2))])]), (.op .not_ [(.op .all [(.comp (.nm 1) .val [(.var 0)] [] (.call 1 [(.var 1)]))])])]) [(.ret (.cst (.bl false)))] []),
  (.ret (.and_ [(.op .gt [(.op .ix [(.var 0), (.cst (.int 1))]), (.cst (.int 0))]), (.op .eq [(.call 2 [(.op .ix [(.var 0), (.cst (.int 0))]), (.op .ix [(.var 0), (.cst (.int 1))])]), (.cst (.int 1))])]))]
def G_is_share : GS := mkG [F_is_sized, F_is_integer, F_common] subT
def F_is_share : FSem := runB G_is_share 2 b_is_share
abbrev s_minus : Stmt := top 21
abbrev N_minus : List Str := ["one", "other"]
abbrev P_minus : List Str := ["one", "other"]
def b_minus : List S := [(.ret (.call 0 [(.op .sub [(.op .mul [(.op .ix [(.var 0), (.cst (.int 0))]), (.op .ix [(.var 1), (.cst (.int 1))])]), (.op .mul [(.op .ix [(.var 1), (.cst (.int 0))]), (.op .ix [(.var 0), (.cst (.int 1))])])]), (.op .mul [(.op .ix [(.var 0), (.cst (.int 1))]), (.op .ix [(.var 1), (.cst (.int 1))])])]))]
def G_minus : GS := mkG [F_share] subT
def F_minus : FSem := runB G_minus 2 b_minus
abbrev s_times : Stmt := top 22
abbrev N_times : List Str := ["one", "other"]
abbrev P_times : List Str := ["one", "other"]
def b_times : List S := [(.ret (.call 0 [(.op .mul [(.op .ix [(.var 0), (.cst (.int 0))]), (.op .ix [(.var 1), (.cst (.int 0))])]), (.op .mul [(.op .ix [(.var 0), (.cst (.int 1))]), (.op .ix [(.var 1), (.cst (.int 1))])])]))]
def G_times : GS := mkG [F_share] subT
def F_times : FSem := runB G_times 2 b_times
abbrev s_over : Stmt := top 23
abbrev N_over : List Str := ["one", "other"]
abbrev P_over : List Str := ["one", "other"]
def b_over : List S := [(.ret (.call 0 [(.op .mul [(.op .ix [(.var 0), (.cst (.int 0))]), (.op .ix [(.var 1), (.cst (.int 1))])]), (.op .mul [(.op .ix [(.var 0), (.cst (.int 1))]), (.op .ix [(.var 1), (.cst (.int 0))])])]))]
def G_over : GS := mkG [F_share] subT
def F_over : FSem := runB G_over 2 b_over
abbrev s_is_less : Stmt := top 24
abbrev N_is_less : List Str := ["one", "other"]
abbrev P_is_less : List Str := ["one", "other"]
def b_is_less : List S := [(.ret (.op .lt [(.op .mul [(.op .ix [(.var 0), (.cst (.int 0))]), (.op .ix [(.var 1), (.cst (.int 1))])]), (.op .mul [(.op .ix [(.var 1), (.cst (.int 0))]), (.op .ix [(.var 0), (.cst (.int 1))])])]))]
def G_is_less : GS := mkG [] subT
def F_is_less : FSem := runB G_is_less 2 b_is_less
abbrev s_check_horses : Stmt := top 28
abbrev N_check_horses : List Str := ["h", "u"]
abbrev P_check_horses : List Str := ["h", "u"]
def b_check_horses : List S := [(.ifs (.op .not_ [(.call 0 [(.var 0), (.cst (.int 1)), (.cst c_MOST_HORSES)])]) [(.rais "NoHorses" [] [])] []),
  (.ifs (.op .not_ [(.call 0 [(.var 1), (.cst (.int 0)), (.cst c_MOST_UPS)])]) [(.rais "NoUps" [] [])] [])]
def G_check_horses : GS := mkG [F_is_within] subT
def F_check_horses : FSem := runB G_check_horses 2 b_check_horses
abbrev s_part_of : Stmt := top 29
abbrev N_part_of : List Str := ["number"]
abbrev P_part_of : List Str := ["number"]
def b_part_of : List S := [(.ret (.call 0 [(.op .mod [(.op .ix [(.var 0), (.cst (.int 0))]), (.op .ix [(.var 0), (.cst (.int 1))])]), (.op .ix [(.var 0), (.cst (.int 1))])]))]
def G_part_of : GS := mkG [F_share] subT
def F_part_of : FSem := runB G_part_of 1 b_part_of
abbrev s_horse_stand : Stmt := top 30
abbrev N_horse_stand : List Str := ["h", "u", "horse", "turned", "begin"]
abbrev P_horse_stand : List Str := ["h", "u", "horse", "turned"]
def b_horse_stand : List S := [(.expr (.call 0 [(.var 0), (.var 1)])),
  (.ifs (.op .not_ [(.call 1 [(.var 2), (.cst (.int 0)), (.op .sub [(.var 0), (.cst (.int 1))])])]) [(.rais "NoHorse" [] [])] []),
  (.ifs (.or_ [(.op .not_ [(.call 2 [(.var 3)])]), (.op .lt [(.op .ix [(.var 3), (.cst (.int 0))]), (.cst (.int 0))])]) [(.rais "NoTurned" [] [])] []),
  (.set 4 (.call 3 [(.var 3), (.call 4 [(.op .sub [(.cst (.int 0)), (.var 2)]), (.var 0)])])),
  (.ret (.op .tup [(.call 5 [(.var 4)]), (.call 5 [(.call 6 [(.op .tup [(.var 1), (.cst (.int 1))]), (.var 3)])])]))]
def G_horse_stand : GS := mkG [F_check_horses, F_is_within, F_is_share, F_minus, F_share, F_part_of, F_times] subT
def F_horse_stand : FSem := runB G_horse_stand 5 b_horse_stand
abbrev s_meet_first : Stmt := top 31
abbrev N_meet_first : List Str := ["h", "u", "stand"]
abbrev P_meet_first : List Str := ["h", "u", "stand"]
def b_meet_first : List S := [(.expr (.call 0 [(.var 0), (.var 1)])),
  (.ifs (.or_ [(.op .not_ [(.call 1 [(.var 2)])]), (.op .lt [(.op .ix [(.var 2), (.cst (.int 0))]), (.cst (.int 0))]), (.op .not_ [(.call 2 [(.var 2), (.cst c_ONE)])])]) [(.rais "NoStand" [] [])] []),
  (.ret (.call 3 [(.call 4 [(.call 5 [(.op .tup [(.var 0), (.cst (.int 1))]), (.var 2)])]), (.op .tup [(.var 0), (.cst (.int 1))])]))]
def G_meet_first : GS := mkG [F_check_horses, F_is_share, F_is_less, F_over, F_part_of, F_times] subT
def F_meet_first : FSem := runB G_meet_first 3 b_meet_first
abbrev s_same_picture : Stmt := top 32
abbrev N_same_picture : List Str := ["h", "u"]
abbrev P_same_picture : List Str := ["h", "u"]
def b_same_picture : List S := [(.expr (.call 0 [(.var 0), (.var 1)])),
  (.ret (.op .tup [(.cst (.int 1)), (.call 1 [(.var 0), (.var 1)])]))]
def G_same_picture : GS := mkG [F_check_horses, F_common] subT
def F_same_picture : FSem := runB G_same_picture 2 b_same_picture
abbrev s__law_hand : Stmt := top 34
abbrev N__law_hand : List Str := ["script", "cells", "cell"]
abbrev P__law_hand : List Str := ["script"]
def b__law_hand : List S := [(.set 1 (.comp (.nm 2) .val [(.op .sl0 [(.var 0), (.cst (.int 63))])] [] (.op .abs [(.op .int [(.var 2)])]))),
  (.ret (.cell [(.var 1), (.cst (.int 0)), (.cst (.int 0)), (.op .add [(.cst (.int 61)), (.op .mul [(.cst (.int 7)), (.op .len [(.var 1)])])]), (.cst (.int 0))]))]
def G__law_hand : GS := mkG [] subT
def F__law_hand : FSem := runB G__law_hand 3 b__law_hand
abbrev s__law_draw : Stmt := top 35
abbrev N__law_draw : List Str := ["hand", "many", "cell", "digit", "number"]
abbrev P__law_draw : List Str := ["hand", "many"]
def b__law_draw : List S := [(.ifs (.and_ [(.op .eq [(.subc 0 (.cst (.int 2))), (.cst (.int 0))]), (.op .lt [(.subc 0 (.cst (.int 1))), (.op .len [(.subc 0 (.cst (.int 0)))])])]) [(.set 2 (.op .ix [(.subc 0 (.cst (.int 0))), (.subc 0 (.cst (.int 1)))])),
  (.setC 0 (.cst (.int 1)) (.op .add [(.subc 0 (.cst (.int 1))), (.cst (.int 1))])),
  (.setC 0 (.cst (.int 3)) (.op .mod [(.op .int [(.op .add [(.op .add [(.op .mul [(.subc 0 (.cst (.int 3))), (.cst (.int 69621))]), (.op .mul [(.var 2), (.cst (.int 40692))])]), (.cst (.int 31))])]), (.cst (.int 2147483629))])),
  (.ifs (.op .ge [(.var 2), (.op .pow [(.cst (.int 10)), (.cst (.int 18))])]) [(.setC 0 (.cst (.int 2)) (.var 2))] [])] []),
  (.ifs (.op .gt [(.subc 0 (.cst (.int 2))), (.cst (.int 0))]) [(.set 3 (.op .mod [(.op .int [(.subc 0 (.cst (.int 2)))]), (.var 1)])),
  (.setC 0 (.cst (.int 2)) (.op .fdiv [(.subc 0 (.cst (.int 2))), (.var 1)])),
  (.ret (.var 3))] []),
  (.setC 0 (.cst (.int 4)) (.op .add [(.subc 0 (.cst (.int 4))), (.cst (.int 1))])),
  (.set 4 (.op .mod [(.op .int [(.op .mul [(.op .int [(.op .add [(.subc 0 (.cst (.int 3))), (.op .mul [(.cst (.int 7919)), (.subc 0 (.cst (.int 4)))])])]), (.cst (.int 48271))])]), (.cst (.int 2147483647))])),
  (.set 4 (.op .mod [(.op .int [(.op .mul [(.var 4), (.op .add [(.op .fdiv [(.var 4), (.cst (.int 1009))]), (.cst (.int 69621))])])]), (.cst (.int 2147483647))])),
  (.set 4 (.op .mod [(.op .int [(.op .mul [(.var 4), (.op .add [(.op .fdiv [(.var 4), (.cst (.int 2003))]), (.cst (.int 40014))])])]), (.cst (.int 2147483563))])),
  (.ret (.op .mod [(.op .int [(.op .fdiv [(.var 4), (.cst (.int 16))])]), (.var 1)]))]
def G__law_draw : GS := mkG [] subT
def F__law_draw : FSem := runB G__law_draw 5 b__law_draw
abbrev s__law_any : Stmt := top 36
abbrev N__law_any : List Str := ["hand", "some"]
abbrev P__law_any : List Str := ["hand", "some"]
def b__law_any : List S := [(.ret (.op .ix [(.var 1), (.call 0 [(.var 0), (.op .len [(.var 1)])])]))]
def G__law_any : GS := mkG [F__law_draw] subT
def F__law_any : FSem := runB G__law_any 2 b__law_any
abbrev s__law_share : Stmt := top 37
abbrev N__law_share : List Str := ["top", "bottom", "one", "other"]
abbrev P__law_share : List Str := ["top", "bottom"]
def b__law_share : List S := [(.par [(2, false), (3, false)] [(.op .abs [(.var 0)]), (.var 1)]),
  (.whl big (.op .gt [(.var 3), (.cst (.int 0))]) [(.par [(2, false), (3, false)] [(.var 3), (.op .mod [(.op .int [(.var 2)]), (.var 3)])])]),
  (.ret (.op .tup [(.op .fdiv [(.var 0), (.var 2)]), (.op .fdiv [(.var 1), (.var 2)])]))]
def G__law_share : GS := mkG [] subT
def F__law_share : FSem := runB G__law_share 4 b__law_share
abbrev s__law_common : Stmt := top 38
abbrev N__law_common : List Str := ["one", "other"]
abbrev P__law_common : List Str := ["one", "other"]
def b__law_common : List S := [(.whl big (.op .gt [(.var 1), (.cst (.int 0))]) [(.par [(0, false), (1, false)] [(.var 1), (.op .mod [(.op .int [(.var 0)]), (.var 1)])])]),
  (.ret (.var 0))]
def G__law_common : GS := mkG [] subT
def F__law_common : FSem := runB G__law_common 2 b__law_common
abbrev s__law_word : Stmt := top 39
abbrev N__law_word : List Str := ["call", "word", "e", "flags", "names"]
abbrev P__law_word : List Str := ["call"]
def b__law_word : List S := [(.set 1 (.cst (.str "let"))),
  (.tryE [(.expr (.act 0))] [(.mk "TooMany" 2 [(.set 1 (.fld 2 "TooMany" "most"))]), (.mk "FairError" 2 [(.set 3 (.op .lst [(.isx 2 "NoGears"), (.isx 2 "NoHorse"), (.isx 2 "NoHorses"), (.isx 2 "NoMesh")])),
  (.set 3 (.op .add [(.var 3), (.op .lst [(.isx 2 "NoSpeeds"), (.isx 2 "NoStand"), (.isx 2 "NoTurned"), (.isx 2 "NoUps")])])),
  (.set 3 (.op .add [(.var 3), (.op .lst [(.isx 2 "NoWheel")])])),
  (.set 4 (.op .lst [(.cst (.str "gears")), (.cst (.str "horse")), (.cst (.str "horses")), (.cst (.str "mesh")), (.cst (.str "speeds")), (.cst (.str "stand")), (.cst (.str "turned")), (.cst (.str "ups")), (.cst (.str "wheel"))])),
  (.set 1 (.ife (.op .eq [(.me .count (.var 3) [(.cst (.bl true))]), (.cst (.int 1))]) (.op .ix [(.var 4), (.me .index (.var 3) [(.cst (.bl true))])]) (.cst (.str "other"))))])]),
  (.ret (.var 1))]
def G__law_word : GS := mkG [] subT
def F__law_word (act : Store → FY.R D) : Store → FY.R D := runF G__law_word 5 b__law_word act
abbrev s__law_part : Stmt := top 40
abbrev N__law_part : List Str := ["top", "bottom"]
abbrev P__law_part : List Str := ["top", "bottom"]
def b__law_part : List S := [(.ret (.call 0 [(.op .mod [(.op .int [(.var 0)]), (.var 1)]), (.var 1)]))]
def G__law_part : GS := mkG [F__law_share] subT
def F__law_part : FSem := runB G__law_part 2 b__law_part
abbrev s_law : Stmt := top 41
abbrev N_law : List Str := ["script", "hand", "turn", "h", "u", "horse", "turned", "top", "bottom", "due", "below", "stand", "ways", "one", "gap", "first", "at", "bad", "off", "last", "wrong", "odd", "words"]
abbrev P_law : List Str := ["script"]
def b_law : List S := [(.set 1 (.call 0 [(.var 0)])),
  (.for_ (.nm 2) .range1 [(.cst (.int 5))] [(.unpack [(.nm 3), (.nm 4)] (.op .tup [(.op .add [(.cst (.int 1)), (.call 1 [(.var 1), (.cst (.int 12))])]), (.call 1 [(.var 1), (.cst (.int 10))])])),
  (.unpack [(.nm 5), (.nm 6)] (.op .tup [(.call 1 [(.var 1), (.var 3)]), (.call 2 [(.call 1 [(.var 1), (.cst (.int 60))]), (.op .add [(.cst (.int 1)), (.call 1 [(.var 1), (.cst (.int 24))])])])])),
  (.unpack [(.nm 7), (.nm 8)] (.var 6)),
  (.set 9 (.op .tup [(.call 3 [(.op .add [(.op .mul [(.var 5), (.var 8)]), (.op .mul [(.var 7), (.var 3)])]), (.op .mul [(.var 3), (.var 8)])]), (.call 3 [(.op .mul [(.var 4), (.var 7)]), (.var 8)])])),
  (.ifs (.op .ne [(.call 4 [(.var 3), (.var 4), (.var 5), (.var 6)]), (.var 9)]) [(.ret (.cst (.bl false)))] []),
  (.set 10 (.op .add [(.cst (.int 1)), (.call 1 [(.var 1), (.cst (.int 24))])])),
  (.set 11 (.call 2 [(.call 1 [(.var 1), (.var 10)]), (.var 10)])),
  (.setO 12 (.op .lst [])),
  (.for_ (.nm 13) .range1 [(.var 3)] [(.set 14 (.op .sub [(.op .mul [(.op .ix [(.var 11), (.cst (.int 0))]), (.var 3)]), (.op .mul [(.var 13), (.op .ix [(.var 11), (.cst (.int 1))])])])),
  (.app 12 (.op .mod [(.op .int [(.op .add [(.var 14), (.op .mul [(.var 3), (.op .ix [(.var 11), (.cst (.int 1))])])])]), (.op .mul [(.var 3), (.op .ix [(.var 11), (.cst (.int 1))])])]))]),
  (.set 15 (.call 2 [(.op .min [(.var 12)]), (.op .mul [(.var 3), (.op .ix [(.var 11), (.cst (.int 1))])])])),
  (.ifs (.op .ne [(.call 5 [(.var 3), (.var 4), (.var 11)]), (.var 15)]) [(.ret (.cst (.bl false)))] []),
  (.set 16 (.me .index (.var 12) [(.op .min [(.var 12)])])),
  (.ifs (.op .ne [(.op .ix [(.call 4 [(.var 3), (.var 4), (.var 16), (.var 15)]), (.cst (.int 0))]), (.var 11)]) [(.ret (.cst (.bl false)))] []),
  (.ifs (.op .ne [(.call 6 [(.var 3), (.var 4)]), (.op .tup [(.cst (.int 1)), (.ife (.op .gt [(.var 4), (.cst (.int 0))]) (.call 7 [(.var 3), (.var 4)]) (.var 3))])]) [(.ret (.cst (.bl false)))] []),
  (.ifs (.op .ne [(.op .ix [(.call 4 [(.var 3), (.var 4), (.cst (.int 0)), (.call 6 [(.var 3), (.var 4)])]), (.cst (.int 1))]), (.op .tup [(.cst (.int 0)), (.cst (.int 1))])]) [(.ret (.cst (.bl false)))] []),
  (.unpack [(.nm 17), (.nm 18)] (.op .tup [(.call 8 [(.var 1), (.op .lst [(.cst .non), (.cst (.int 0)), (.cst (.int 13)), (.cst (.bl true))])]), (.call 8 [(.var 1), (.op .lst [(.cst .non), (.op .neg [(.cst (.int 1))]), (.cst (.int 10)), (.cst (.bl true))])])])),
  (.set 19 (.call 8 [(.var 1), (.op .lst [(.cst .non), (.op .neg [(.cst (.int 1))]), (.var 3), (.cst (.bl true))])])),
  (.set 20 (.call 8 [(.var 1), (.op .lst [(.cst .non), (.cst (.int 1)), (.op .tup [(.op .neg [(.cst (.int 1))]), (.cst (.int 2))]), (.op .tup [(.cst (.int 2)), (.cst (.int 4))]), (.op .lst [(.cst (.int 1)), (.cst (.int 2))]), (.op .tup [(.cst (.int 1)), (.cst (.int 0))])])])),
  (.set 21 (.call 8 [(.var 1), (.op .lst [(.cst .non), (.cst (.int 1)), (.op .tup [(.cst (.int 1)), (.cst (.int 1))]), (.op .tup [(.op .neg [(.cst (.int 1))]), (.cst (.int 2))]), (.op .tup [(.cst (.int 2)), (.cst (.int 4))]), (.op .lst [(.cst (.int 1)), (.cst (.int 2))])])])),
  (.setO 22 (.op .lst [(.hof 0 (.call 4 [(.var 17), (.var 18), (.var 19), (.var 20)]) [])])),
  (.app 22 (.hof 0 (.call 4 [(.var 3), (.var 18), (.var 19), (.var 20)]) [])),
  (.app 22 (.hof 0 (.call 4 [(.var 3), (.var 4), (.var 19), (.var 20)]) [])),
  (.app 22 (.hof 0 (.call 4 [(.var 3), (.var 4), (.var 5), (.var 20)]) [])),
  (.app 22 (.hof 0 (.call 5 [(.var 17), (.var 18), (.var 21)]) [])),
  (.app 22 (.hof 0 (.call 5 [(.var 3), (.var 18), (.var 21)]) [])),
  (.app 22 (.hof 0 (.call 5 [(.var 3), (.var 4), (.var 21)]) [])),
  (.app 22 (.hof 0 (.call 6 [(.var 17), (.var 18)]) [])),
  (.app 22 (.hof 0 (.call 6 [(.var 3), (.var 18)]) [])),
  (.ifs (.op .ne [(.var 22), (.op .lst [(.cst (.str "horses")), (.cst (.str "ups")), (.cst (.str "horse")), (.cst (.str "turned")), (.cst (.str "horses")), (.cst (.str "ups")), (.cst (.str "stand")), (.cst (.str "horses")), (.cst (.str "ups"))])]) [(.ret (.cst (.bl false)))] [])]),
  (.ret (.cst (.bl true)))]
def G_law : GS := mkH [F__law_hand, F__law_draw, F__law_share, F__law_part, F_horse_stand, F_meet_first, F_same_picture, F__law_common, F__law_any] [F__law_word] subT
def F_law : FSem := runB G_law 23 b_law
structure Tx (K : PySem.W.Frag) (mg : Str → Option Value) (ad : Nat → Addr) : Prop where
  z_abs : mg "abs" = none
  z_all : mg "all" = none
  z_bool : mg "bool" = none
  z_int : mg "int" = none
  z_isinstance : mg "isinstance" = none
  z_len : mg "len" = none
  z_min : mg "min" = none
  z_range : mg "range" = none
  z_tuple : mg "tuple" = none
  c_MOST_HORSES : ∀ TT, IsCon (CC K mg TT) "MOST_HORSES" c_MOST_HORSES
  c_MOST_UPS : ∀ TT, IsCon (CC K mg TT) "MOST_UPS" c_MOST_UPS
  c_ONE : ∀ TT, IsCon (CC K mg TT) "ONE" c_ONE
  k_FairError : mg "FairError" = some (.ref (ad 0))
  k_NoGears : mg "NoGears" = some (.ref (ad 1))
  k_NoHorse : mg "NoHorse" = some (.ref (ad 2))
  k_NoHorses : mg "NoHorses" = some (.ref (ad 3))
  k_NoMesh : mg "NoMesh" = some (.ref (ad 4))
  k_NoSpeeds : mg "NoSpeeds" = some (.ref (ad 5))
  k_NoStand : mg "NoStand" = some (.ref (ad 6))
  k_NoTurned : mg "NoTurned" = some (.ref (ad 7))
  k_NoUps : mg "NoUps" = some (.ref (ad 8))
  k_NoWheel : mg "NoWheel" = some (.ref (ad 9))
  k_TooMany : mg "TooMany" = some (.ref (ad 10))
  x_NoHorse : IsX K mg "NoHorse"
  x_NoHorses : IsX K mg "NoHorses"
  x_NoStand : IsX K mg "NoStand"
  x_NoTurned : IsX K mg "NoTurned"
  x_NoUps : IsX K mg "NoUps"
  n_TooMany : PySem.W.findIn K (.ref (ad 10)) "most" = some none
  w_TooMany : XfC K (ad 10)
  sub : SubT K mg subT
  f_is_integer : ∃ (f : Addr) (fd : FuncData), mg "is_integer" = some (.ref f) ∧ Fun K "is_integer" "is_integer" s_is_integer f fd ∧ Binds K fd P_is_integer []
  f_is_within : ∃ (f : Addr) (fd : FuncData), mg "is_within" = some (.ref f) ∧ Fun K "is_within" "is_within" s_is_within f fd ∧ Binds K fd P_is_within []
  f_is_sized : ∃ (f : Addr) (fd : FuncData), mg "is_sized" = some (.ref f) ∧ Fun K "is_sized" "is_sized" s_is_sized f fd ∧ Binds K fd P_is_sized []
  f_common : ∃ (f : Addr) (fd : FuncData), mg "common" = some (.ref f) ∧ Fun K "common" "common" s_common f fd ∧ Binds K fd P_common []
  f_share : ∃ (f : Addr) (fd : FuncData), mg "share" = some (.ref f) ∧ Fun K "share" "share" s_share f fd ∧ Binds K fd P_share []
  f_is_share : ∃ (f : Addr) (fd : FuncData), mg "is_share" = some (.ref f) ∧ Fun K "is_share" "is_share" s_is_share f fd ∧ Binds K fd P_is_share []
  f_minus : ∃ (f : Addr) (fd : FuncData), mg "minus" = some (.ref f) ∧ Fun K "minus" "minus" s_minus f fd ∧ Binds K fd P_minus []
  f_times : ∃ (f : Addr) (fd : FuncData), mg "times" = some (.ref f) ∧ Fun K "times" "times" s_times f fd ∧ Binds K fd P_times []
  f_over : ∃ (f : Addr) (fd : FuncData), mg "over" = some (.ref f) ∧ Fun K "over" "over" s_over f fd ∧ Binds K fd P_over []
  f_is_less : ∃ (f : Addr) (fd : FuncData), mg "is_less" = some (.ref f) ∧ Fun K "is_less" "is_less" s_is_less f fd ∧ Binds K fd P_is_less []
  f_check_horses : ∃ (f : Addr) (fd : FuncData), mg "check_horses" = some (.ref f) ∧ Fun K "check_horses" "check_horses" s_check_horses f fd ∧ Binds K fd P_check_horses []
  f_part_of : ∃ (f : Addr) (fd : FuncData), mg "part_of" = some (.ref f) ∧ Fun K "part_of" "part_of" s_part_of f fd ∧ Binds K fd P_part_of []
  f_horse_stand : ∃ (f : Addr) (fd : FuncData), mg "horse_stand" = some (.ref f) ∧ Fun K "horse_stand" "horse_stand" s_horse_stand f fd ∧ Binds K fd P_horse_stand []
  f_meet_first : ∃ (f : Addr) (fd : FuncData), mg "meet_first" = some (.ref f) ∧ Fun K "meet_first" "meet_first" s_meet_first f fd ∧ Binds K fd P_meet_first []
  f_same_picture : ∃ (f : Addr) (fd : FuncData), mg "same_picture" = some (.ref f) ∧ Fun K "same_picture" "same_picture" s_same_picture f fd ∧ Binds K fd P_same_picture []
  f__law_hand : ∃ (f : Addr) (fd : FuncData), mg "_law_hand" = some (.ref f) ∧ Fun K "_law_hand" "_law_hand" s__law_hand f fd ∧ Binds K fd P__law_hand []
  f__law_draw : ∃ (f : Addr) (fd : FuncData), mg "_law_draw" = some (.ref f) ∧ Fun K "_law_draw" "_law_draw" s__law_draw f fd ∧ Binds K fd P__law_draw []
  f__law_any : ∃ (f : Addr) (fd : FuncData), mg "_law_any" = some (.ref f) ∧ Fun K "_law_any" "_law_any" s__law_any f fd ∧ Binds K fd P__law_any []
  f__law_share : ∃ (f : Addr) (fd : FuncData), mg "_law_share" = some (.ref f) ∧ Fun K "_law_share" "_law_share" s__law_share f fd ∧ Binds K fd P__law_share []
  f__law_common : ∃ (f : Addr) (fd : FuncData), mg "_law_common" = some (.ref f) ∧ Fun K "_law_common" "_law_common" s__law_common f fd ∧ Binds K fd P__law_common []
  h__law_word : HofTx K mg "_law_word" "call" s__law_word N__law_word
  f__law_part : ∃ (f : Addr) (fd : FuncData), mg "_law_part" = some (.ref f) ∧ Fun K "_law_part" "_law_part" s__law_part f fd ∧ Binds K fd P__law_part []
theorem ok_is_integer (t : Tx K mg ad) : HasFn P w K mg base (CC K mg TT) "is_integer" 1 1 F_is_integer := by
  obtain ⟨f, fd, hm, fu, bd⟩ := t.f_is_integer
  have nd : (N_is_integer).Nodup := by decide +kernel
  exact fn_ok (N := N_is_integer) (b := b_is_integer) (Γ := G_is_integer) fu hm ⟨rfl, rfl, rfl, nd, rfl, by decide +kernel, by decide +kernel⟩ bd fun cdv A outer s H E w0 hr =>
  (sims_cons (sim_ret (sim_andV (sim_andCV rfl (e_isi (gx hr rfl rfl) (c := .int) rfl t.z_isinstance rfl t.z_int (by decide +kernel) (by decide) rfl (sim_var (i := 0) rfl (.inl rfl) rfl rfl) rfl rfl rfl) (sim_and1V (sim_not rfl (e_isi (gx hr rfl rfl) (c := .bl) rfl t.z_isinstance rfl t.z_bool (by decide +kernel) (by decide) rfl (sim_var (i := 0) rfl (.inl rfl) rfl rfl) rfl rfl rfl))))))
  sims_nil)
theorem ok_is_within (t : Tx K mg ad) : HasFn P w K mg base (CC K mg TT) "is_within" 2 3 F_is_within := by
  obtain ⟨f, fd, hm, fu, bd⟩ := t.f_is_within
  have nd : (N_is_within).Nodup := by decide +kernel
  exact fn_ok (N := N_is_within) (b := b_is_within) (Γ := G_is_within) fu hm ⟨rfl, rfl, rfl, nd, rfl, by decide +kernel, by decide +kernel⟩ bd fun cdv A outer s H E w0 hr =>
  (sims_cons (sim_ret (sim_andV (sim_andCV rfl (e_call (ok_is_integer t) hr (by decide) rfl (takes_of rfl rfl rfl rfl) rfl (sim_cons (sim_var (i := 0) rfl (.inl rfl) rfl rfl) sim_nil rfl) rfl rfl rfl) (sim_and1V (e_chn (gx hr rfl rfl) .le .le (sim_var (i := 1) rfl (.inl rfl) rfl rfl) (sim_var (i := 0) rfl (.inl rfl) rfl rfl) (sim_var (i := 2) rfl (.inl rfl) rfl rfl) rfl)))))
  sims_nil)
theorem ok_is_sized (t : Tx K mg ad) : HasFn P w K mg base (CC K mg TT) "is_sized" 1 3 F_is_sized := by
  obtain ⟨f, fd, hm, fu, bd⟩ := t.f_is_sized
  have nd : (N_is_sized).Nodup := by decide +kernel
  exact fn_ok (N := N_is_sized) (b := b_is_sized) (Γ := G_is_sized) fu hm ⟨rfl, rfl, rfl, nd, rfl, by decide +kernel, by decide +kernel⟩ bd fun cdv A outer s H E w0 hr =>
  (sims_cons (sim_ret (sim_andV (sim_andCV rfl (e_isi (gx hr rfl rfl) (c := .tup) rfl t.z_isinstance rfl t.z_tuple (by decide +kernel) (by decide) rfl (sim_var (i := 0) rfl (.inl rfl) rfl rfl) rfl rfl rfl) (sim_and1V (e_chn (gx hr rfl rfl) .le .le (sim_var (i := 1) rfl (.inl rfl) rfl rfl) (e_blt (gx hr rfl rfl) (.len) rfl t.z_len (sim_cons (sim_var (i := 0) rfl (.inl rfl) rfl rfl) sim_nil rfl) rfl rfl) (sim_var (i := 2) rfl (.inl rfl) rfl rfl) rfl)))))
  sims_nil)
theorem ok_common (t : Tx K mg ad) : HasFn P w K mg base (CC K mg TT) "common" 1 2 F_common := by
  obtain ⟨f, fd, hm, fu, bd⟩ := t.f_common
  have nd : (N_common).Nodup := by decide +kernel
  exact fn_ok (N := N_common) (b := b_common) (Γ := G_common) fu hm ⟨rfl, rfl, rfl, nd, rfl, by decide +kernel, by decide +kernel⟩ bd fun cdv A outer s H E w0 hr =>
  (sims_cons (sim_while (passes_of rfl) (t_cmp (gx hr rfl rfl) .ne (sim_var (i := 1) rfl (.inl rfl) rfl rfl) e_int rfl) (sims_cons (sim_par2 (i := 0) (j := 1) rfl nd rfl rfl (by decide) rfl rfl (sim_cons (sim_var (i := 1) rfl (.inl rfl) rfl rfl) (sim_cons (e_mod (sim_var (i := 0) rfl (.inl rfl) rfl rfl) (sim_var (i := 1) rfl (.inl rfl) rfl rfl)) sim_nil rfl) rfl) rfl rfl)
  sims_nil))
  (sims_cons (sim_ret (e_blt (gx hr rfl rfl) (.abs) rfl t.z_abs (sim_cons (sim_var (i := 0) rfl (.inl rfl) rfl rfl) sim_nil rfl) rfl rfl))
  sims_nil))
theorem ok_share (t : Tx K mg ad) : HasFn P w K mg base (CC K mg TT) "share" 2 2 F_share := by
  obtain ⟨f, fd, hm, fu, bd⟩ := t.f_share
  have nd : (N_share).Nodup := by decide +kernel
  exact fn_ok (N := N_share) (b := b_share) (Γ := G_share) fu hm ⟨rfl, rfl, rfl, nd, rfl, by decide +kernel, by decide +kernel⟩ bd fun cdv A outer s H E w0 hr =>
  (sims_cons (sim_set (i := 2) nd rfl (.inl rfl) (e_call (ok_common t) hr (by decide) rfl (takes_of rfl rfl rfl rfl) rfl (sim_cons (sim_var (i := 0) rfl (.inl rfl) rfl rfl) (sim_cons (sim_var (i := 1) rfl (.inl rfl) rfl rfl) sim_nil rfl) rfl) rfl rfl rfl) rfl (.inr rfl))
  (sims_cons (sim_set (i := 2) nd rfl (.inl rfl) (sim_ife (t_cmp (gx hr rfl rfl) .gt (sim_var (i := 1) rfl (.inl rfl) rfl rfl) e_int rfl) (sim_var (i := 2) rfl (.inl rfl) rfl rfl) (e_sub e_int (sim_var (i := 2) rfl (.inl rfl) rfl rfl))) rfl (.inr rfl))
  (sims_cons (sim_ret (e_tup (by decide) (sim_cons (e_fdiv (sim_var (i := 0) rfl (.inl rfl) rfl rfl) (sim_var (i := 2) rfl (.inl rfl) rfl rfl)) (sim_cons (e_fdiv (sim_var (i := 1) rfl (.inl rfl) rfl rfl) (sim_var (i := 2) rfl (.inl rfl) rfl rfl)) sim_nil rfl) rfl)))
  sims_nil)))
theorem ok_is_share (t : Tx K mg ad) : HasFn P w K mg base (CC K mg TT) "is_share" 2 1 F_is_share := by
  obtain ⟨f, fd, hm, fu, bd⟩ := t.f_is_share
  have nd : (N_is_share).Nodup := by decide +kernel
  exact fn_ok (N := N_is_share) (b := b_is_share) (Γ := G_is_share) fu hm ⟨rfl, rfl, rfl, nd, rfl, by decide +kernel, by decide +kernel⟩ bd fun cdv A outer s H E w0 hr =>
  (sims_cons (sim_if (sim_orT (sim_orC (sim_notT (sim_test rfl (e_call (ok_is_sized t) hr (by decide) rfl (takes_of rfl rfl rfl rfl) rfl (sim_cons (sim_var (i := 0) rfl (.inl rfl) rfl rfl) (sim_cons e_int (sim_cons e_int sim_nil rfl) rfl) rfl) rfl rfl rfl) (fun _ => rfl))) (sim_or1 (sim_notT (sim_test rfl (e_blt (gx hr rfl rfl) (.all rfl) rfl t.z_all (sim_cons (sim_lc (own := [("one", 1)]) rfl nd (sim_itval rfl (sim_var (i := 0) rfl (.inl rfl) rfl rfl)) (blkOk_by (N := N_is_share) (sc := defScope s_is_share) (by decide +kernel)) rfl (fun _ _ _ _ _ => (sim_nm (i := 1) nd rfl (.inl rfl) (.inr rfl))) (fun _ _ _ _ _ => sim_tests0) (fun _ _ _ _ _ => (e_call (ok_is_integer t) hr (by decide) rfl takes_noW rfl (sim_cons (sim_var (i := 1) rfl (.inl rfl) rfl rfl) sim_nil rfl) rfl rfl rfl)) (fun _ => rfl)) sim_nil rfl) rfl rfl) (fun _ => rfl)))))) (sims_cons (sim_ret e_bl)
  sims_nil) sims_nil)
  (sims_cons (sim_ret (sim_andV (sim_andCV rfl (e_cmp (gx hr rfl rfl) .gt (sim_ix rfl (sim_var (i := 0) rfl (.inl rfl) rfl rfl) e_int (fun _ _ => rfl)) e_int rfl) (sim_and1V (e_cmp (gx hr rfl rfl) .eq (e_call (ok_common t) hr (by decide) rfl (takes_of rfl rfl rfl rfl) rfl (sim_cons (sim_ix rfl (sim_var (i := 0) rfl (.inl rfl) rfl rfl) e_int (fun _ _ => rfl)) (sim_cons (sim_ix rfl (sim_var (i := 0) rfl (.inl rfl) rfl rfl) e_int (fun _ _ => rfl)) sim_nil rfl) rfl) rfl rfl rfl) e_int rfl)))))
  sims_nil))
theorem ok_minus (t : Tx K mg ad) : HasFn P w K mg base (CC K mg TT) "minus" 3 2 F_minus := by
  obtain ⟨f, fd, hm, fu, bd⟩ := t.f_minus
  have nd : (N_minus).Nodup := by decide +kernel
  exact fn_ok (N := N_minus) (b := b_minus) (Γ := G_minus) fu hm ⟨rfl, rfl, rfl, nd, rfl, by decide +kernel, by decide +kernel⟩ bd fun cdv A outer s H E w0 hr =>
  (sims_cons (sim_ret (e_call (ok_share t) hr (by decide) rfl (takes_of rfl rfl rfl rfl) rfl (sim_cons (e_sub (e_mul (gx hr rfl rfl) (sim_ix rfl (sim_var (i := 0) rfl (.inl rfl) rfl rfl) e_int (fun _ _ => rfl)) (sim_ix rfl (sim_var (i := 1) rfl (.inl rfl) rfl rfl) e_int (fun _ _ => rfl))) (e_mul (gx hr rfl rfl) (sim_ix rfl (sim_var (i := 1) rfl (.inl rfl) rfl rfl) e_int (fun _ _ => rfl)) (sim_ix rfl (sim_var (i := 0) rfl (.inl rfl) rfl rfl) e_int (fun _ _ => rfl)))) (sim_cons (e_mul (gx hr rfl rfl) (sim_ix rfl (sim_var (i := 0) rfl (.inl rfl) rfl rfl) e_int (fun _ _ => rfl)) (sim_ix rfl (sim_var (i := 1) rfl (.inl rfl) rfl rfl) e_int (fun _ _ => rfl))) sim_nil rfl) rfl) rfl rfl rfl))
  sims_nil)
theorem ok_times (t : Tx K mg ad) : HasFn P w K mg base (CC K mg TT) "times" 3 2 F_times := by
  obtain ⟨f, fd, hm, fu, bd⟩ := t.f_times
  have nd : (N_times).Nodup := by decide +kernel
  exact fn_ok (N := N_times) (b := b_times) (Γ := G_times) fu hm ⟨rfl, rfl, rfl, nd, rfl, by decide +kernel, by decide +kernel⟩ bd fun cdv A outer s H E w0 hr =>
  (sims_cons (sim_ret (e_call (ok_share t) hr (by decide) rfl (takes_of rfl rfl rfl rfl) rfl (sim_cons (e_mul (gx hr rfl rfl) (sim_ix rfl (sim_var (i := 0) rfl (.inl rfl) rfl rfl) e_int (fun _ _ => rfl)) (sim_ix rfl (sim_var (i := 1) rfl (.inl rfl) rfl rfl) e_int (fun _ _ => rfl))) (sim_cons (e_mul (gx hr rfl rfl) (sim_ix rfl (sim_var (i := 0) rfl (.inl rfl) rfl rfl) e_int (fun _ _ => rfl)) (sim_ix rfl (sim_var (i := 1) rfl (.inl rfl) rfl rfl) e_int (fun _ _ => rfl))) sim_nil rfl) rfl) rfl rfl rfl))
  sims_nil)
theorem ok_over (t : Tx K mg ad) : HasFn P w K mg base (CC K mg TT) "over" 3 2 F_over := by
  obtain ⟨f, fd, hm, fu, bd⟩ := t.f_over
  have nd : (N_over).Nodup := by decide +kernel
  exact fn_ok (N := N_over) (b := b_over) (Γ := G_over) fu hm ⟨rfl, rfl, rfl, nd, rfl, by decide +kernel, by decide +kernel⟩ bd fun cdv A outer s H E w0 hr =>
  (sims_cons (sim_ret (e_call (ok_share t) hr (by decide) rfl (takes_of rfl rfl rfl rfl) rfl (sim_cons (e_mul (gx hr rfl rfl) (sim_ix rfl (sim_var (i := 0) rfl (.inl rfl) rfl rfl) e_int (fun _ _ => rfl)) (sim_ix rfl (sim_var (i := 1) rfl (.inl rfl) rfl rfl) e_int (fun _ _ => rfl))) (sim_cons (e_mul (gx hr rfl rfl) (sim_ix rfl (sim_var (i := 0) rfl (.inl rfl) rfl rfl) e_int (fun _ _ => rfl)) (sim_ix rfl (sim_var (i := 1) rfl (.inl rfl) rfl rfl) e_int (fun _ _ => rfl))) sim_nil rfl) rfl) rfl rfl rfl))
  sims_nil)
theorem ok_is_less (t : Tx K mg ad) : HasFn P w K mg base (CC K mg TT) "is_less" 1 2 F_is_less := by
  obtain ⟨f, fd, hm, fu, bd⟩ := t.f_is_less
  have nd : (N_is_less).Nodup := by decide +kernel
  exact fn_ok (N := N_is_less) (b := b_is_less) (Γ := G_is_less) fu hm ⟨rfl, rfl, rfl, nd, rfl, by decide +kernel, by decide +kernel⟩ bd fun cdv A outer s H E w0 hr =>
  (sims_cons (sim_ret (e_cmp (gx hr rfl rfl) .lt (e_mul (gx hr rfl rfl) (sim_ix rfl (sim_var (i := 0) rfl (.inl rfl) rfl rfl) e_int (fun _ _ => rfl)) (sim_ix rfl (sim_var (i := 1) rfl (.inl rfl) rfl rfl) e_int (fun _ _ => rfl))) (e_mul (gx hr rfl rfl) (sim_ix rfl (sim_var (i := 1) rfl (.inl rfl) rfl rfl) e_int (fun _ _ => rfl)) (sim_ix rfl (sim_var (i := 0) rfl (.inl rfl) rfl rfl) e_int (fun _ _ => rfl))) rfl))
  sims_nil)
theorem ok_check_horses (t : Tx K mg ad) : HasFn P w K mg base (CC K mg TT) "check_horses" 3 2 F_check_horses := by
  obtain ⟨f, fd, hm, fu, bd⟩ := t.f_check_horses
  have nd : (N_check_horses).Nodup := by decide +kernel
  exact fn_ok (N := N_check_horses) (b := b_check_horses) (Γ := G_check_horses) fu hm ⟨rfl, rfl, rfl, nd, rfl, by decide +kernel, by decide +kernel⟩ bd fun cdv A outer s H E w0 hr =>
  (sims_cons (sim_if (sim_notT (sim_test rfl (e_call (ok_is_within t) hr (by decide) rfl (takes_of rfl rfl rfl rfl) rfl (sim_cons (sim_var (i := 0) rfl (.inl rfl) rfl rfl) (sim_cons e_int (sim_cons (e_con (gx hr rfl rfl) (t.c_MOST_HORSES _) rfl rfl) sim_nil rfl) rfl) rfl) rfl rfl rfl) (fun _ => rfl))) (sims_cons (e_raise t.x_NoHorses rfl (takes_of rfl rfl rfl rfl) rfl rfl rfl)
  sims_nil) sims_nil)
  (sims_cons (sim_if (sim_notT (sim_test rfl (e_call (ok_is_within t) hr (by decide) rfl (takes_of rfl rfl rfl rfl) rfl (sim_cons (sim_var (i := 1) rfl (.inl rfl) rfl rfl) (sim_cons e_int (sim_cons (e_con (gx hr rfl rfl) (t.c_MOST_UPS _) rfl rfl) sim_nil rfl) rfl) rfl) rfl rfl rfl) (fun _ => rfl))) (sims_cons (e_raise t.x_NoUps rfl (takes_of rfl rfl rfl rfl) rfl rfl rfl)
  sims_nil) sims_nil)
  sims_nil))
theorem ok_part_of (t : Tx K mg ad) : HasFn P w K mg base (CC K mg TT) "part_of" 3 1 F_part_of := by
  obtain ⟨f, fd, hm, fu, bd⟩ := t.f_part_of
  have nd : (N_part_of).Nodup := by decide +kernel
  exact fn_ok (N := N_part_of) (b := b_part_of) (Γ := G_part_of) fu hm ⟨rfl, rfl, rfl, nd, rfl, by decide +kernel, by decide +kernel⟩ bd fun cdv A outer s H E w0 hr =>
  (sims_cons (sim_ret (e_call (ok_share t) hr (by decide) rfl (takes_of rfl rfl rfl rfl) rfl (sim_cons (e_mod (sim_ix rfl (sim_var (i := 0) rfl (.inl rfl) rfl rfl) e_int (fun _ _ => rfl)) (sim_ix rfl (sim_var (i := 0) rfl (.inl rfl) rfl rfl) e_int (fun _ _ => rfl))) (sim_cons (sim_ix rfl (sim_var (i := 0) rfl (.inl rfl) rfl rfl) e_int (fun _ _ => rfl)) sim_nil rfl) rfl) rfl rfl rfl))
  sims_nil)
theorem ok_horse_stand (t : Tx K mg ad) : HasFn P w K mg base (CC K mg TT) "horse_stand" 4 4 F_horse_stand := by
  obtain ⟨f, fd, hm, fu, bd⟩ := t.f_horse_stand
  have nd : (N_horse_stand).Nodup := by decide +kernel
  exact fn_ok (N := N_horse_stand) (b := b_horse_stand) (Γ := G_horse_stand) fu hm ⟨rfl, rfl, rfl, nd, rfl, by decide +kernel, by decide +kernel⟩ bd fun cdv A outer s H E w0 hr =>
  (sims_cons (sim_expr (e_call (ok_check_horses t) hr (by decide) rfl (takes_of rfl rfl rfl rfl) rfl (sim_cons (sim_var (i := 0) rfl (.inl rfl) rfl rfl) (sim_cons (sim_var (i := 1) rfl (.inl rfl) rfl rfl) sim_nil rfl) rfl) rfl rfl rfl) rfl)
  (sims_cons (sim_if (sim_notT (sim_test rfl (e_call (ok_is_within t) hr (by decide) rfl (takes_of rfl rfl rfl rfl) rfl (sim_cons (sim_var (i := 2) rfl (.inl rfl) rfl rfl) (sim_cons e_int (sim_cons (e_sub (sim_var (i := 0) rfl (.inl rfl) rfl rfl) e_int) sim_nil rfl) rfl) rfl) rfl rfl rfl) (fun _ => rfl))) (sims_cons (e_raise t.x_NoHorse rfl (takes_of rfl rfl rfl rfl) rfl rfl rfl)
  sims_nil) sims_nil)
  (sims_cons (sim_if (sim_orT (sim_orC (sim_notT (sim_test rfl (e_call (ok_is_share t) hr (by decide) rfl (takes_of rfl rfl rfl rfl) rfl (sim_cons (sim_var (i := 3) rfl (.inl rfl) rfl rfl) sim_nil rfl) rfl rfl rfl) (fun _ => rfl))) (sim_or1 (t_cmp (gx hr rfl rfl) .lt (sim_ix rfl (sim_var (i := 3) rfl (.inl rfl) rfl rfl) e_int (fun _ _ => rfl)) e_int rfl)))) (sims_cons (e_raise t.x_NoTurned rfl (takes_of rfl rfl rfl rfl) rfl rfl rfl)
  sims_nil) sims_nil)
  (sims_cons (sim_set (i := 4) nd rfl (.inl rfl) (e_call (ok_minus t) hr (by decide) rfl (takes_of rfl rfl rfl rfl) rfl (sim_cons (sim_var (i := 3) rfl (.inl rfl) rfl rfl) (sim_cons (e_call (ok_share t) hr (by decide) rfl (takes_of rfl rfl rfl rfl) rfl (sim_cons (e_sub e_int (sim_var (i := 2) rfl (.inl rfl) rfl rfl)) (sim_cons (sim_var (i := 0) rfl (.inl rfl) rfl rfl) sim_nil rfl) rfl) rfl rfl rfl) sim_nil rfl) rfl) rfl rfl rfl) rfl (.inr rfl))
  (sims_cons (sim_ret (e_tup (by decide) (sim_cons (e_call (ok_part_of t) hr (by decide) rfl (takes_of rfl rfl rfl rfl) rfl (sim_cons (sim_var (i := 4) rfl (.inl rfl) rfl rfl) sim_nil rfl) rfl rfl rfl) (sim_cons (e_call (ok_part_of t) hr (by decide) rfl (takes_of rfl rfl rfl rfl) rfl (sim_cons (e_call (ok_times t) hr (by decide) rfl (takes_of rfl rfl rfl rfl) rfl (sim_cons (e_tup (by decide) (sim_cons (sim_var (i := 1) rfl (.inl rfl) rfl rfl) (sim_cons e_int sim_nil rfl) rfl)) (sim_cons (sim_var (i := 3) rfl (.inl rfl) rfl rfl) sim_nil rfl) rfl) rfl rfl rfl) sim_nil rfl) rfl rfl rfl) sim_nil rfl) rfl)))
  sims_nil)))))
theorem ok_meet_first (t : Tx K mg ad) : HasFn P w K mg base (CC K mg TT) "meet_first" 4 3 F_meet_first := by
  obtain ⟨f, fd, hm, fu, bd⟩ := t.f_meet_first
  have nd : (N_meet_first).Nodup := by decide +kernel
  exact fn_ok (N := N_meet_first) (b := b_meet_first) (Γ := G_meet_first) fu hm ⟨rfl, rfl, rfl, nd, rfl, by decide +kernel, by decide +kernel⟩ bd fun cdv A outer s H E w0 hr =>
  (sims_cons (sim_expr (e_call (ok_check_horses t) hr (by decide) rfl (takes_of rfl rfl rfl rfl) rfl (sim_cons (sim_var (i := 0) rfl (.inl rfl) rfl rfl) (sim_cons (sim_var (i := 1) rfl (.inl rfl) rfl rfl) sim_nil rfl) rfl) rfl rfl rfl) rfl)
  (sims_cons (sim_if (sim_orT (sim_orC (sim_notT (sim_test rfl (e_call (ok_is_share t) hr (by decide) rfl (takes_of rfl rfl rfl rfl) rfl (sim_cons (sim_var (i := 2) rfl (.inl rfl) rfl rfl) sim_nil rfl) rfl rfl rfl) (fun _ => rfl))) (sim_orC (t_cmp (gx hr rfl rfl) .lt (sim_ix rfl (sim_var (i := 2) rfl (.inl rfl) rfl rfl) e_int (fun _ _ => rfl)) e_int rfl) (sim_or1 (sim_notT (sim_test rfl (e_call (ok_is_less t) hr (by decide) rfl (takes_of rfl rfl rfl rfl) rfl (sim_cons (sim_var (i := 2) rfl (.inl rfl) rfl rfl) (sim_cons (e_con (gx hr rfl rfl) (t.c_ONE _) rfl rfl) sim_nil rfl) rfl) rfl rfl rfl) (fun _ => rfl))))))) (sims_cons (e_raise t.x_NoStand rfl (takes_of rfl rfl rfl rfl) rfl rfl rfl)
  sims_nil) sims_nil)
  (sims_cons (sim_ret (e_call (ok_over t) hr (by decide) rfl (takes_of rfl rfl rfl rfl) rfl (sim_cons (e_call (ok_part_of t) hr (by decide) rfl (takes_of rfl rfl rfl rfl) rfl (sim_cons (e_call (ok_times t) hr (by decide) rfl (takes_of rfl rfl rfl rfl) rfl (sim_cons (e_tup (by decide) (sim_cons (sim_var (i := 0) rfl (.inl rfl) rfl rfl) (sim_cons e_int sim_nil rfl) rfl)) (sim_cons (sim_var (i := 2) rfl (.inl rfl) rfl rfl) sim_nil rfl) rfl) rfl rfl rfl) sim_nil rfl) rfl rfl rfl) (sim_cons (e_tup (by decide) (sim_cons (sim_var (i := 0) rfl (.inl rfl) rfl rfl) (sim_cons e_int sim_nil rfl) rfl)) sim_nil rfl) rfl) rfl rfl rfl))
  sims_nil)))
theorem ok_same_picture (t : Tx K mg ad) : HasFn P w K mg base (CC K mg TT) "same_picture" 4 2 F_same_picture := by
  obtain ⟨f, fd, hm, fu, bd⟩ := t.f_same_picture
  have nd : (N_same_picture).Nodup := by decide +kernel
  exact fn_ok (N := N_same_picture) (b := b_same_picture) (Γ := G_same_picture) fu hm ⟨rfl, rfl, rfl, nd, rfl, by decide +kernel, by decide +kernel⟩ bd fun cdv A outer s H E w0 hr =>
  (sims_cons (sim_expr (e_call (ok_check_horses t) hr (by decide) rfl (takes_of rfl rfl rfl rfl) rfl (sim_cons (sim_var (i := 0) rfl (.inl rfl) rfl rfl) (sim_cons (sim_var (i := 1) rfl (.inl rfl) rfl rfl) sim_nil rfl) rfl) rfl rfl rfl) rfl)
  (sims_cons (sim_ret (e_tup (by decide) (sim_cons e_int (sim_cons (e_call (ok_common t) hr (by decide) rfl (takes_of rfl rfl rfl rfl) rfl (sim_cons (sim_var (i := 0) rfl (.inl rfl) rfl rfl) (sim_cons (sim_var (i := 1) rfl (.inl rfl) rfl rfl) sim_nil rfl) rfl) rfl rfl rfl) sim_nil rfl) rfl)))
  sims_nil))
theorem ok__law_hand (t : Tx K mg ad) : HasFn P w K mg base (CC K mg TT) "_law_hand" 1 1 F__law_hand := by
  obtain ⟨f, fd, hm, fu, bd⟩ := t.f__law_hand
  have nd : (N__law_hand).Nodup := by decide +kernel
  exact fn_ok (N := N__law_hand) (b := b__law_hand) (Γ := G__law_hand) fu hm ⟨rfl, rfl, rfl, nd, rfl, by decide +kernel, by decide +kernel⟩ bd fun cdv A outer s H E w0 hr =>
  (sims_cons (sim_setLc (o := false) (i := 1) (own := [("cell", 2)]) rfl nd rfl rfl (sw_true rfl rfl rfl rfl) (sim_itval rfl (sim_sl0 rfl (sim_var (i := 0) rfl (.inl rfl) rfl rfl) e_int)) (blkOk_by (N := N__law_hand) (sc := defScope s__law_hand) (by decide +kernel)) rfl (fun _ _ _ _ _ => (sim_nm (i := 2) nd rfl (.inl rfl) (.inr rfl))) (fun _ _ _ _ _ => sim_tests0) (fun _ _ _ _ _ => (e_blt (gx hr rfl rfl) (.abs) rfl t.z_abs (sim_cons (e_blt (gx hr rfl rfl) (.int) rfl t.z_int (sim_cons (sim_var (i := 2) rfl (.inl rfl) rfl rfl) sim_nil rfl) rfl rfl) sim_nil rfl) rfl rfl)) (fun _ => rfl))
  (sims_cons (sim_ret (sim_cell (by decide) (sim_cons (sim_var (i := 1) rfl (.inl rfl) rfl rfl) (sim_cons e_int (sim_cons e_int (sim_cons (e_add (gx hr rfl rfl) e_int (e_mul (gx hr rfl rfl) e_int (e_blt (gx hr rfl rfl) (.len) rfl t.z_len (sim_cons (sim_var (i := 1) rfl (.inl rfl) rfl rfl) sim_nil rfl) rfl rfl))) (sim_cons e_int sim_nil rfl) rfl) rfl) rfl) rfl)))
  sims_nil))
theorem ok__law_draw (t : Tx K mg ad) : HasFn P w K mg base (CC K mg TT) "_law_draw" 1 2 F__law_draw := by
  obtain ⟨f, fd, hm, fu, bd⟩ := t.f__law_draw
  have nd : (N__law_draw).Nodup := by decide +kernel
  exact fn_ok (N := N__law_draw) (b := b__law_draw) (Γ := G__law_draw) fu hm ⟨rfl, rfl, rfl, nd, rfl, by decide +kernel, by decide +kernel⟩ bd fun cdv A outer s H E w0 hr =>
  (sims_cons (sim_if (sim_andT (sim_andC (t_cmp (gx hr rfl rfl) .eq (sim_subc (i := 0) rfl rfl (.inl rfl) rfl rfl e_int (fun _ _ => rfl)) e_int rfl) (sim_and1 (t_cmp (gx hr rfl rfl) .lt (sim_subc (i := 0) rfl rfl (.inl rfl) rfl rfl e_int (fun _ _ => rfl)) (e_blt (gx hr rfl rfl) (.len) rfl t.z_len (sim_cons (sim_subc (i := 0) rfl rfl (.inl rfl) rfl rfl e_int (fun _ _ => rfl)) sim_nil rfl) rfl rfl) rfl)))) (sims_cons (sim_set (i := 2) nd rfl (.inl rfl) (sim_ix rfl (sim_subc (i := 0) rfl rfl (.inl rfl) rfl rfl e_int (fun _ _ => rfl)) (sim_subc (i := 0) rfl rfl (.inl rfl) rfl rfl e_int (fun _ _ => rfl)) (fun _ _ => rfl)) rfl (.inr rfl))
  (sims_cons (sim_setC (i := 0) rfl (.inl rfl) rfl rfl (e_add (gx hr rfl rfl) (sim_subc (i := 0) rfl rfl (.inl rfl) rfl rfl e_int (fun _ _ => rfl)) e_int) e_int rfl rfl rfl (fun _ => rfl))
  (sims_cons (sim_setC (i := 0) rfl (.inl rfl) rfl rfl (e_mod (e_blt (gx hr rfl rfl) (.int) rfl t.z_int (sim_cons (e_add (gx hr rfl rfl) (e_add (gx hr rfl rfl) (e_mul (gx hr rfl rfl) (sim_subc (i := 0) rfl rfl (.inl rfl) rfl rfl e_int (fun _ _ => rfl)) e_int) (e_mul (gx hr rfl rfl) (sim_var (i := 2) rfl (.inl rfl) rfl rfl) e_int)) e_int) sim_nil rfl) rfl rfl) e_int) e_int rfl rfl rfl (fun _ => rfl))
  (sims_cons (sim_if (t_cmp (gx hr rfl rfl) .ge (sim_var (i := 2) rfl (.inl rfl) rfl rfl) (e_pow e_int e_int) rfl) (sims_cons (sim_setC (i := 0) rfl (.inl rfl) rfl rfl (sim_var (i := 2) rfl (.inl rfl) rfl rfl) e_int rfl rfl rfl (fun _ => rfl))
  sims_nil) sims_nil)
  sims_nil)))) sims_nil)
  (sims_cons (sim_if (t_cmp (gx hr rfl rfl) .gt (sim_subc (i := 0) rfl rfl (.inl rfl) rfl rfl e_int (fun _ _ => rfl)) e_int rfl) (sims_cons (sim_set (i := 3) nd rfl (.inl rfl) (e_mod (e_blt (gx hr rfl rfl) (.int) rfl t.z_int (sim_cons (sim_subc (i := 0) rfl rfl (.inl rfl) rfl rfl e_int (fun _ _ => rfl)) sim_nil rfl) rfl rfl) (sim_var (i := 1) rfl (.inl rfl) rfl rfl)) rfl (.inr rfl))
  (sims_cons (sim_setC (i := 0) rfl (.inl rfl) rfl rfl (e_fdiv (sim_subc (i := 0) rfl rfl (.inl rfl) rfl rfl e_int (fun _ _ => rfl)) (sim_var (i := 1) rfl (.inl rfl) rfl rfl)) e_int rfl rfl rfl (fun _ => rfl))
  (sims_cons (sim_ret (sim_var (i := 3) rfl (.inl rfl) rfl rfl))
  sims_nil))) sims_nil)
  (sims_cons (sim_setC (i := 0) rfl (.inl rfl) rfl rfl (e_add (gx hr rfl rfl) (sim_subc (i := 0) rfl rfl (.inl rfl) rfl rfl e_int (fun _ _ => rfl)) e_int) e_int rfl rfl rfl (fun _ => rfl))
  (sims_cons (sim_set (i := 4) nd rfl (.inl rfl) (e_mod (e_blt (gx hr rfl rfl) (.int) rfl t.z_int (sim_cons (e_mul (gx hr rfl rfl) (e_blt (gx hr rfl rfl) (.int) rfl t.z_int (sim_cons (e_add (gx hr rfl rfl) (sim_subc (i := 0) rfl rfl (.inl rfl) rfl rfl e_int (fun _ _ => rfl)) (e_mul (gx hr rfl rfl) e_int (sim_subc (i := 0) rfl rfl (.inl rfl) rfl rfl e_int (fun _ _ => rfl)))) sim_nil rfl) rfl rfl) e_int) sim_nil rfl) rfl rfl) e_int) rfl (.inr rfl))
  (sims_cons (sim_set (i := 4) nd rfl (.inl rfl) (e_mod (e_blt (gx hr rfl rfl) (.int) rfl t.z_int (sim_cons (e_mul (gx hr rfl rfl) (sim_var (i := 4) rfl (.inl rfl) rfl rfl) (e_add (gx hr rfl rfl) (e_fdiv (sim_var (i := 4) rfl (.inl rfl) rfl rfl) e_int) e_int)) sim_nil rfl) rfl rfl) e_int) rfl (.inr rfl))
  (sims_cons (sim_set (i := 4) nd rfl (.inl rfl) (e_mod (e_blt (gx hr rfl rfl) (.int) rfl t.z_int (sim_cons (e_mul (gx hr rfl rfl) (sim_var (i := 4) rfl (.inl rfl) rfl rfl) (e_add (gx hr rfl rfl) (e_fdiv (sim_var (i := 4) rfl (.inl rfl) rfl rfl) e_int) e_int)) sim_nil rfl) rfl rfl) e_int) rfl (.inr rfl))
  (sims_cons (sim_ret (e_mod (e_blt (gx hr rfl rfl) (.int) rfl t.z_int (sim_cons (e_fdiv (sim_var (i := 4) rfl (.inl rfl) rfl rfl) e_int) sim_nil rfl) rfl rfl) (sim_var (i := 1) rfl (.inl rfl) rfl rfl)))
  sims_nil)))))))
theorem ok__law_any (t : Tx K mg ad) : HasFn P w K mg base (CC K mg TT) "_law_any" 2 2 F__law_any := by
  obtain ⟨f, fd, hm, fu, bd⟩ := t.f__law_any
  have nd : (N__law_any).Nodup := by decide +kernel
  exact fn_ok (N := N__law_any) (b := b__law_any) (Γ := G__law_any) fu hm ⟨rfl, rfl, rfl, nd, rfl, by decide +kernel, by decide +kernel⟩ bd fun cdv A outer s H E w0 hr =>
  (sims_cons (sim_ret (sim_ix rfl (sim_var (i := 1) rfl (.inl rfl) rfl rfl) (e_call (ok__law_draw t) hr (by decide) rfl (takes_of rfl rfl rfl rfl) rfl (sim_cons (sim_var (i := 0) rfl (.inl rfl) rfl rfl) (sim_cons (e_blt (gx hr rfl rfl) (.len) rfl t.z_len (sim_cons (sim_var (i := 1) rfl (.inl rfl) rfl rfl) sim_nil rfl) rfl rfl) sim_nil rfl) rfl) rfl rfl rfl) (fun _ _ => rfl)))
  sims_nil)
theorem ok__law_share (t : Tx K mg ad) : HasFn P w K mg base (CC K mg TT) "_law_share" 1 2 F__law_share := by
  obtain ⟨f, fd, hm, fu, bd⟩ := t.f__law_share
  have nd : (N__law_share).Nodup := by decide +kernel
  exact fn_ok (N := N__law_share) (b := b__law_share) (Γ := G__law_share) fu hm ⟨rfl, rfl, rfl, nd, rfl, by decide +kernel, by decide +kernel⟩ bd fun cdv A outer s H E w0 hr =>
  (sims_cons (sim_par2 (i := 2) (j := 3) rfl nd rfl rfl (by decide) rfl rfl (sim_cons (e_blt (gx hr rfl rfl) (.abs) rfl t.z_abs (sim_cons (sim_var (i := 0) rfl (.inl rfl) rfl rfl) sim_nil rfl) rfl rfl) (sim_cons (sim_var (i := 1) rfl (.inl rfl) rfl rfl) sim_nil rfl) rfl) rfl rfl)
  (sims_cons (sim_while (passes_of rfl) (t_cmp (gx hr rfl rfl) .gt (sim_var (i := 3) rfl (.inl rfl) rfl rfl) e_int rfl) (sims_cons (sim_par2 (i := 2) (j := 3) rfl nd rfl rfl (by decide) rfl rfl (sim_cons (sim_var (i := 3) rfl (.inl rfl) rfl rfl) (sim_cons (e_mod (e_blt (gx hr rfl rfl) (.int) rfl t.z_int (sim_cons (sim_var (i := 2) rfl (.inl rfl) rfl rfl) sim_nil rfl) rfl rfl) (sim_var (i := 3) rfl (.inl rfl) rfl rfl)) sim_nil rfl) rfl) rfl rfl)
  sims_nil))
  (sims_cons (sim_ret (e_tup (by decide) (sim_cons (e_fdiv (sim_var (i := 0) rfl (.inl rfl) rfl rfl) (sim_var (i := 2) rfl (.inl rfl) rfl rfl)) (sim_cons (e_fdiv (sim_var (i := 1) rfl (.inl rfl) rfl rfl) (sim_var (i := 2) rfl (.inl rfl) rfl rfl)) sim_nil rfl) rfl)))
  sims_nil)))
theorem ok__law_common (t : Tx K mg ad) : HasFn P w K mg base (CC K mg TT) "_law_common" 1 2 F__law_common := by
  obtain ⟨f, fd, hm, fu, bd⟩ := t.f__law_common
  have nd : (N__law_common).Nodup := by decide +kernel
  exact fn_ok (N := N__law_common) (b := b__law_common) (Γ := G__law_common) fu hm ⟨rfl, rfl, rfl, nd, rfl, by decide +kernel, by decide +kernel⟩ bd fun cdv A outer s H E w0 hr =>
  (sims_cons (sim_while (passes_of rfl) (t_cmp (gx hr rfl rfl) .gt (sim_var (i := 1) rfl (.inl rfl) rfl rfl) e_int rfl) (sims_cons (sim_par2 (i := 0) (j := 1) rfl nd rfl rfl (by decide) rfl rfl (sim_cons (sim_var (i := 1) rfl (.inl rfl) rfl rfl) (sim_cons (e_mod (e_blt (gx hr rfl rfl) (.int) rfl t.z_int (sim_cons (sim_var (i := 0) rfl (.inl rfl) rfl rfl) sim_nil rfl) rfl rfl) (sim_var (i := 1) rfl (.inl rfl) rfl rfl)) sim_nil rfl) rfl) rfl rfl)
  sims_nil))
  (sims_cons (sim_ret (sim_var (i := 0) rfl (.inl rfl) rfl rfl))
  sims_nil))
theorem sc__law_word : FnScope N__law_word P__law_word (defScope s__law_word) := ⟨rfl, rfl, rfl, by decide +kernel, rfl, by decide +kernel, by decide +kernel⟩
theorem gives__law_word {X : Cx} {k : Nat} (t : Tx X.K X.mg ad) (hr : Room (k + 2) X.A) (g : Addr) (cd : Value) : Gives X N__law_word "_law_word" (defScope s__law_word) g cd (defBody s__law_word) "call" (X.env.qual ++ "<lambda>") 0 (TTf (CC X.K X.mg TT) F__law_word) := by
  have nd : (N__law_word).Nodup := by decide +kernel
  exact gives_of (Γ := G__law_word) (b := b__law_word) ⟨_, rfl⟩ fun act f s H wT w0 act => (sims_cons (sim_set (i := 1) nd rfl (.inl rfl) e_str rfl (.inr rfl))
  (sims_cons (sim_try rfl rfl t.sub rfl rfl nd takes_noW (.cons t.k_TooMany (.cons t.k_FairError .nil)) (fun W pn xe tk po => (sims_cons (sim_expr (act _ _ _ _ _ tk) rfl)
  sims_nil)) (.cons (names_of t.k_TooMany rfl rfl) rfl rfl (fun a o cls d pn hz hf => PSs_ex fun w0 => (sims_cons (sim_set (i := 1) nd rfl (.inl rfl) (e_fld (GX.wx (gx (hr.deeper _) rfl rfl) _ _) rfl hz hf (i := 2) t.k_TooMany t.n_TooMany t.w_TooMany rfl (.inl rfl) rfl rfl rfl) rfl (.inr rfl))
  sims_nil)) (.cons (names_of t.k_FairError rfl rfl) rfl rfl (fun a o cls d pn hz hf => PSs_ex fun w0 => (sims_cons (sim_set (i := 3) nd rfl (.inl rfl) (e_lst (by decide) (sim_cons (sim_isx rfl rfl rfl t.sub hz hf rfl t.z_isinstance (i := 2) rfl (.inl rfl) rfl rfl rfl t.k_NoGears rfl rfl rfl rfl) (sim_cons (sim_isx rfl rfl rfl t.sub hz hf rfl t.z_isinstance (i := 2) rfl (.inl rfl) rfl rfl rfl t.k_NoHorse rfl rfl rfl rfl) (sim_cons (sim_isx rfl rfl rfl t.sub hz hf rfl t.z_isinstance (i := 2) rfl (.inl rfl) rfl rfl rfl t.k_NoHorses rfl rfl rfl rfl) (sim_cons (sim_isx rfl rfl rfl t.sub hz hf rfl t.z_isinstance (i := 2) rfl (.inl rfl) rfl rfl rfl t.k_NoMesh rfl rfl rfl rfl) sim_nil rfl) rfl) rfl) rfl)) rfl (.inr rfl))
  (sims_cons (sim_set (i := 3) nd rfl (.inl rfl) (e_add (GX.suite (gx (hr.deeper _) rfl rfl) _ _ _ _) (sim_var (i := 3) rfl (.inl rfl) rfl rfl) (e_lst (by decide) (sim_cons (sim_isx rfl rfl rfl t.sub hz hf rfl t.z_isinstance (i := 2) rfl (.inl rfl) rfl rfl rfl t.k_NoSpeeds rfl rfl rfl rfl) (sim_cons (sim_isx rfl rfl rfl t.sub hz hf rfl t.z_isinstance (i := 2) rfl (.inl rfl) rfl rfl rfl t.k_NoStand rfl rfl rfl rfl) (sim_cons (sim_isx rfl rfl rfl t.sub hz hf rfl t.z_isinstance (i := 2) rfl (.inl rfl) rfl rfl rfl t.k_NoTurned rfl rfl rfl rfl) (sim_cons (sim_isx rfl rfl rfl t.sub hz hf rfl t.z_isinstance (i := 2) rfl (.inl rfl) rfl rfl rfl t.k_NoUps rfl rfl rfl rfl) sim_nil rfl) rfl) rfl) rfl))) rfl (.inr rfl))
  (sims_cons (sim_set (i := 3) nd rfl (.inl rfl) (e_add (GX.suite (gx (hr.deeper _) rfl rfl) _ _ _ _) (sim_var (i := 3) rfl (.inl rfl) rfl rfl) (e_lst (by decide) (sim_cons (sim_isx rfl rfl rfl t.sub hz hf rfl t.z_isinstance (i := 2) rfl (.inl rfl) rfl rfl rfl t.k_NoWheel rfl rfl rfl rfl) sim_nil rfl))) rfl (.inr rfl))
  (sims_cons (sim_set (i := 4) nd rfl (.inl rfl) (e_lst (by decide) (sim_cons e_str (sim_cons e_str (sim_cons e_str (sim_cons e_str (sim_cons e_str (sim_cons e_str (sim_cons e_str (sim_cons e_str (sim_cons e_str sim_nil rfl) rfl) rfl) rfl) rfl) rfl) rfl) rfl) rfl)) rfl (.inr rfl))
  (sims_cons (sim_set (i := 1) nd rfl (.inl rfl) (sim_ife (t_cmp (GX.suite (gx (hr.deeper _) rfl rfl) _ _ _ _) .eq (e_count (GX.suite (gx (hr.deeper _) rfl rfl) _ _ _ _) (sim_var (i := 3) rfl (.inl rfl) rfl rfl) (sim_cons e_bl sim_nil rfl) rfl rfl rfl rfl rfl) e_int rfl) (sim_ix rfl (sim_var (i := 4) rfl (.inl rfl) rfl rfl) (e_index (GX.suite (gx (hr.deeper _) rfl rfl) _ _ _ _) (sim_var (i := 3) rfl (.inl rfl) rfl rfl) (sim_cons e_bl sim_nil rfl) rfl rfl rfl rfl rfl) (fun _ _ => rfl)) e_str) rfl (.inr rfl))
  sims_nil)))))) .nil)))
  (sims_cons (sim_ret (sim_var (i := 1) rfl (.inl rfl) rfl rfl))
  sims_nil)))
theorem ok__law_part (t : Tx K mg ad) : HasFn P w K mg base (CC K mg TT) "_law_part" 2 2 F__law_part := by
  obtain ⟨f, fd, hm, fu, bd⟩ := t.f__law_part
  have nd : (N__law_part).Nodup := by decide +kernel
  exact fn_ok (N := N__law_part) (b := b__law_part) (Γ := G__law_part) fu hm ⟨rfl, rfl, rfl, nd, rfl, by decide +kernel, by decide +kernel⟩ bd fun cdv A outer s H E w0 hr =>
  (sims_cons (sim_ret (e_call (ok__law_share t) hr (by decide) rfl (takes_of rfl rfl rfl rfl) rfl (sim_cons (e_mod (e_blt (gx hr rfl rfl) (.int) rfl t.z_int (sim_cons (sim_var (i := 0) rfl (.inl rfl) rfl rfl) sim_nil rfl) rfl rfl) (sim_var (i := 1) rfl (.inl rfl) rfl rfl)) (sim_cons (sim_var (i := 1) rfl (.inl rfl) rfl rfl) sim_nil rfl) rfl) rfl rfl rfl))
  sims_nil)
theorem ok_law {f : Addr} {oc kV doc pm cdv ct : Value} {od an : Option Addr} {osl : Array (Option Value)} (t : Tx K mg ad) (lk : K.lookup f = some ⟨oc, od, .func (PySem.W.fnOf "law" "law" (defArgs s_law) (defBody s_law) (defScope s_law) .none kV doc pm an cdv ct), osl⟩) (hcd : PySem.W.codeIn K cdv "law" = true) (tl : LamTx base mg TT cdv "law.<locals>.<lambda>") :
    FnOk P w K mg base (L2.CX P w) 8 f (PySem.W.fnOf "law" "law" (defArgs s_law) (defBody s_law) (defScope s_law) .none kV doc pm an cdv ct) P_law (spOf (CC K mg TT) 1 F_law) := by
  have nd : (N_law).Nodup := by decide +kernel
  exact fn_okL (N := N_law) (b := b_law) (Γ := G_law) lk hcd ⟨rfl, rfl, rfl, nd, rfl, by decide +kernel, by decide +kernel⟩ fun A outer s H E w0 hr =>
  (sims_cons (sim_set (i := 1) nd rfl (.inl rfl) (e_call (ok__law_hand t) hr (by decide) rfl (takes_of rfl rfl rfl rfl) rfl (sim_cons (sim_var (i := 0) rfl (.inl rfl) rfl rfl) sim_nil rfl) rfl rfl rfl) rfl (.inr rfl))
  (sims_cons (sim_for (passes_of rfl) rfl (sim_range1 rfl t.z_range (sim_cons e_int sim_nil rfl) rfl) (sim_nm (i := 2) nd rfl (.inl rfl) (.inr rfl)) (sims_cons (sim_unpack (e_tup (by decide) (sim_cons (e_add (gx hr rfl rfl) e_int (e_call (ok__law_draw t) hr (by decide) rfl (takes_of rfl rfl rfl rfl) rfl (sim_cons (sim_var (i := 1) rfl (.inl rfl) rfl rfl) (sim_cons e_int sim_nil rfl) rfl) rfl rfl rfl)) (sim_cons (e_call (ok__law_draw t) hr (by decide) rfl (takes_of rfl rfl rfl rfl) rfl (sim_cons (sim_var (i := 1) rfl (.inl rfl) rfl rfl) (sim_cons e_int sim_nil rfl) rfl) rfl rfl rfl) sim_nil rfl) rfl)) (sim_gtup rfl rfl (sim_gcons (sim_nm (i := 3) nd rfl (.inr rfl) (.inl rfl)) (sim_gcons (sim_nm (i := 4) nd rfl (.inr rfl) (.inl rfl)) sim_gnil rfl) rfl) rfl rfl) rfl rfl rfl)
  (sims_cons (sim_unpack (e_tup (by decide) (sim_cons (e_call (ok__law_draw t) hr (by decide) rfl (takes_of rfl rfl rfl rfl) rfl (sim_cons (sim_var (i := 1) rfl (.inl rfl) rfl rfl) (sim_cons (sim_var (i := 3) rfl (.inr (.inl rfl)) rfl rfl) sim_nil rfl) rfl) rfl rfl rfl) (sim_cons (e_call (ok__law_share t) hr (by decide) rfl (takes_of rfl rfl rfl rfl) rfl (sim_cons (e_call (ok__law_draw t) hr (by decide) rfl (takes_of rfl rfl rfl rfl) rfl (sim_cons (sim_var (i := 1) rfl (.inl rfl) rfl rfl) (sim_cons e_int sim_nil rfl) rfl) rfl rfl rfl) (sim_cons (e_add (gx hr rfl rfl) e_int (e_call (ok__law_draw t) hr (by decide) rfl (takes_of rfl rfl rfl rfl) rfl (sim_cons (sim_var (i := 1) rfl (.inl rfl) rfl rfl) (sim_cons e_int sim_nil rfl) rfl) rfl rfl rfl)) sim_nil rfl) rfl) rfl rfl rfl) sim_nil rfl) rfl)) (sim_gtup rfl rfl (sim_gcons (sim_nm (i := 5) nd rfl (.inr rfl) (.inl rfl)) (sim_gcons (sim_nm (i := 6) nd rfl (.inl rfl) (.inr rfl)) sim_gnil rfl) rfl) rfl rfl) rfl rfl rfl)
  (sims_cons (sim_unpack (sim_var (i := 6) rfl (.inl rfl) rfl rfl) (sim_gtup rfl rfl (sim_gcons (sim_nm (i := 7) nd rfl (.inl rfl) (.inr rfl)) (sim_gcons (sim_nm (i := 8) nd rfl (.inl rfl) (.inr rfl)) sim_gnil rfl) rfl) rfl rfl) rfl rfl rfl)
  (sims_cons (sim_set (i := 9) nd rfl (.inl rfl) (e_tup (by decide) (sim_cons (e_call (ok__law_part t) hr (by decide) rfl (takes_of rfl rfl rfl rfl) rfl (sim_cons (e_add (gx hr rfl rfl) (e_mul (gx hr rfl rfl) (sim_var (i := 5) rfl (.inr (.inl rfl)) rfl rfl) (sim_var (i := 8) rfl (.inl rfl) rfl rfl)) (e_mul (gx hr rfl rfl) (sim_var (i := 7) rfl (.inl rfl) rfl rfl) (sim_var (i := 3) rfl (.inr (.inl rfl)) rfl rfl))) (sim_cons (e_mul (gx hr rfl rfl) (sim_var (i := 3) rfl (.inr (.inl rfl)) rfl rfl) (sim_var (i := 8) rfl (.inl rfl) rfl rfl)) sim_nil rfl) rfl) rfl rfl rfl) (sim_cons (e_call (ok__law_part t) hr (by decide) rfl (takes_of rfl rfl rfl rfl) rfl (sim_cons (e_mul (gx hr rfl rfl) (sim_var (i := 4) rfl (.inr (.inl rfl)) rfl rfl) (sim_var (i := 7) rfl (.inl rfl) rfl rfl)) (sim_cons (sim_var (i := 8) rfl (.inl rfl) rfl rfl) sim_nil rfl) rfl) rfl rfl rfl) sim_nil rfl) rfl)) rfl (.inr rfl))
  (sims_cons (sim_if (t_cmp (gx hr rfl rfl) .ne (e_call (ok_horse_stand t) hr (by decide) rfl (takes_of rfl rfl rfl rfl) rfl (sim_cons (sim_var (i := 3) rfl (.inr (.inl rfl)) rfl rfl) (sim_cons (sim_var (i := 4) rfl (.inr (.inl rfl)) rfl rfl) (sim_cons (sim_var (i := 5) rfl (.inr (.inl rfl)) rfl rfl) (sim_cons (sim_var (i := 6) rfl (.inl rfl) rfl rfl) sim_nil rfl) rfl) rfl) rfl) rfl rfl rfl) (sim_var (i := 9) rfl (.inl rfl) rfl rfl) rfl) (sims_cons (sim_ret e_bl)
  sims_nil) sims_nil)
  (sims_cons (sim_set (i := 10) nd rfl (.inl rfl) (e_add (gx hr rfl rfl) e_int (e_call (ok__law_draw t) hr (by decide) rfl (takes_of rfl rfl rfl rfl) rfl (sim_cons (sim_var (i := 1) rfl (.inl rfl) rfl rfl) (sim_cons e_int sim_nil rfl) rfl) rfl rfl rfl)) rfl (.inr rfl))
  (sims_cons (sim_set (i := 11) nd rfl (.inl rfl) (e_call (ok__law_share t) hr (by decide) rfl (takes_of rfl rfl rfl rfl) rfl (sim_cons (e_call (ok__law_draw t) hr (by decide) rfl (takes_of rfl rfl rfl rfl) rfl (sim_cons (sim_var (i := 1) rfl (.inl rfl) rfl rfl) (sim_cons (sim_var (i := 10) rfl (.inl rfl) rfl rfl) sim_nil rfl) rfl) rfl rfl rfl) (sim_cons (sim_var (i := 10) rfl (.inl rfl) rfl rfl) sim_nil rfl) rfl) rfl rfl rfl) rfl (.inr rfl))
  (sims_cons (sim_setO_lst (i := 12) nd rfl (.inl rfl) (by decide) sim_nil rfl (.inr rfl))
  (sims_cons (sim_for (passes_of rfl) rfl (sim_range1 rfl t.z_range (sim_cons (sim_var (i := 3) rfl (.inr (.inl rfl)) rfl rfl) sim_nil rfl) rfl) (sim_nm (i := 13) nd rfl (.inl rfl) (.inr rfl)) (sims_cons (sim_set (i := 14) nd rfl (.inl rfl) (e_sub (e_mul (gx hr rfl rfl) (sim_ix rfl (sim_var (i := 11) rfl (.inl rfl) rfl rfl) e_int (fun _ _ => rfl)) (sim_var (i := 3) rfl (.inr (.inl rfl)) rfl rfl)) (e_mul (gx hr rfl rfl) (sim_var (i := 13) rfl (.inl rfl) rfl rfl) (sim_ix rfl (sim_var (i := 11) rfl (.inl rfl) rfl rfl) e_int (fun _ _ => rfl)))) rfl (.inr rfl))
  (sims_cons (sim_app (i := 12) rfl rfl (.inl rfl) rfl rfl (e_mod (e_blt (gx hr rfl rfl) (.int) rfl t.z_int (sim_cons (e_add (gx hr rfl rfl) (sim_var (i := 14) rfl (.inl rfl) rfl rfl) (e_mul (gx hr rfl rfl) (sim_var (i := 3) rfl (.inr (.inl rfl)) rfl rfl) (sim_ix rfl (sim_var (i := 11) rfl (.inl rfl) rfl rfl) e_int (fun _ _ => rfl)))) sim_nil rfl) rfl rfl) (e_mul (gx hr rfl rfl) (sim_var (i := 3) rfl (.inr (.inl rfl)) rfl rfl) (sim_ix rfl (sim_var (i := 11) rfl (.inl rfl) rfl rfl) e_int (fun _ _ => rfl)))) rfl rfl rfl rfl rfl rfl)
  sims_nil)) (fun _ => rfl))
  (sims_cons (sim_set (i := 15) nd rfl (.inl rfl) (e_call (ok__law_share t) hr (by decide) rfl (takes_of rfl rfl rfl rfl) rfl (sim_cons (e_blt (gx hr rfl rfl) (.min rfl) rfl t.z_min (sim_cons (sim_var (i := 12) rfl (.inl rfl) rfl rfl) sim_nil rfl) rfl rfl) (sim_cons (e_mul (gx hr rfl rfl) (sim_var (i := 3) rfl (.inr (.inl rfl)) rfl rfl) (sim_ix rfl (sim_var (i := 11) rfl (.inl rfl) rfl rfl) e_int (fun _ _ => rfl))) sim_nil rfl) rfl) rfl rfl rfl) rfl (.inr rfl))
  (sims_cons (sim_if (t_cmp (gx hr rfl rfl) .ne (e_call (ok_meet_first t) hr (by decide) rfl (takes_of rfl rfl rfl rfl) rfl (sim_cons (sim_var (i := 3) rfl (.inr (.inl rfl)) rfl rfl) (sim_cons (sim_var (i := 4) rfl (.inr (.inl rfl)) rfl rfl) (sim_cons (sim_var (i := 11) rfl (.inl rfl) rfl rfl) sim_nil rfl) rfl) rfl) rfl rfl rfl) (sim_var (i := 15) rfl (.inl rfl) rfl rfl) rfl) (sims_cons (sim_ret e_bl)
  sims_nil) sims_nil)
  (sims_cons (sim_set (i := 16) nd rfl (.inl rfl) (e_index (gx hr rfl rfl) (sim_var (i := 12) rfl (.inl rfl) rfl rfl) (sim_cons (e_blt (gx hr rfl rfl) (.min rfl) rfl t.z_min (sim_cons (sim_var (i := 12) rfl (.inl rfl) rfl rfl) sim_nil rfl) rfl rfl) sim_nil rfl) rfl rfl rfl rfl rfl) rfl (.inr rfl))
  (sims_cons (sim_if (t_cmp (gx hr rfl rfl) .ne (sim_ix rfl (e_call (ok_horse_stand t) hr (by decide) rfl (takes_of rfl rfl rfl rfl) rfl (sim_cons (sim_var (i := 3) rfl (.inr (.inl rfl)) rfl rfl) (sim_cons (sim_var (i := 4) rfl (.inr (.inl rfl)) rfl rfl) (sim_cons (sim_var (i := 16) rfl (.inl rfl) rfl rfl) (sim_cons (sim_var (i := 15) rfl (.inl rfl) rfl rfl) sim_nil rfl) rfl) rfl) rfl) rfl rfl rfl) e_int (fun _ _ => rfl)) (sim_var (i := 11) rfl (.inl rfl) rfl rfl) rfl) (sims_cons (sim_ret e_bl)
  sims_nil) sims_nil)
  (sims_cons (sim_if (t_cmp (gx hr rfl rfl) .ne (e_call (ok_same_picture t) hr (by decide) rfl (takes_of rfl rfl rfl rfl) rfl (sim_cons (sim_var (i := 3) rfl (.inr (.inl rfl)) rfl rfl) (sim_cons (sim_var (i := 4) rfl (.inr (.inl rfl)) rfl rfl) sim_nil rfl) rfl) rfl rfl rfl) (e_tup (by decide) (sim_cons e_int (sim_cons (sim_ife (t_cmp (gx hr rfl rfl) .gt (sim_var (i := 4) rfl (.inr (.inl rfl)) rfl rfl) e_int rfl) (e_call (ok__law_common t) hr (by decide) rfl (takes_of rfl rfl rfl rfl) rfl (sim_cons (sim_var (i := 3) rfl (.inr (.inl rfl)) rfl rfl) (sim_cons (sim_var (i := 4) rfl (.inr (.inl rfl)) rfl rfl) sim_nil rfl) rfl) rfl rfl rfl) (sim_var (i := 3) rfl (.inr (.inl rfl)) rfl rfl)) sim_nil rfl) rfl)) rfl) (sims_cons (sim_ret e_bl)
  sims_nil) sims_nil)
  (sims_cons (sim_if (t_cmp (gx hr rfl rfl) .ne (sim_ix rfl (e_call (ok_horse_stand t) hr (by decide) rfl (takes_of rfl rfl rfl rfl) rfl (sim_cons (sim_var (i := 3) rfl (.inr (.inl rfl)) rfl rfl) (sim_cons (sim_var (i := 4) rfl (.inr (.inl rfl)) rfl rfl) (sim_cons e_int (sim_cons (e_call (ok_same_picture t) hr (by decide) rfl (takes_of rfl rfl rfl rfl) rfl (sim_cons (sim_var (i := 3) rfl (.inr (.inl rfl)) rfl rfl) (sim_cons (sim_var (i := 4) rfl (.inr (.inl rfl)) rfl rfl) sim_nil rfl) rfl) rfl rfl rfl) sim_nil rfl) rfl) rfl) rfl) rfl rfl rfl) e_int (fun _ _ => rfl)) (e_tup (by decide) (sim_cons e_int (sim_cons e_int sim_nil rfl) rfl)) rfl) (sims_cons (sim_ret e_bl)
  sims_nil) sims_nil)
  (sims_cons (sim_unpack (e_tup (by decide) (sim_cons (e_call (ok__law_any t) hr (by decide) rfl (takes_of rfl rfl rfl rfl) rfl (sim_cons (sim_var (i := 1) rfl (.inl rfl) rfl rfl) (sim_cons (e_lst (by decide) (sim_cons e_non (sim_cons e_int (sim_cons e_int (sim_cons e_bl sim_nil rfl) rfl) rfl) rfl)) sim_nil rfl) rfl) rfl rfl rfl) (sim_cons (e_call (ok__law_any t) hr (by decide) rfl (takes_of rfl rfl rfl rfl) rfl (sim_cons (sim_var (i := 1) rfl (.inl rfl) rfl rfl) (sim_cons (e_lst (by decide) (sim_cons e_non (sim_cons (e_neg e_int) (sim_cons e_int (sim_cons e_bl sim_nil rfl) rfl) rfl) rfl)) sim_nil rfl) rfl) rfl rfl rfl) sim_nil rfl) rfl)) (sim_gtup rfl rfl (sim_gcons (sim_nm (i := 17) nd rfl (.inr rfl) (.inl rfl)) (sim_gcons (sim_nm (i := 18) nd rfl (.inr rfl) (.inl rfl)) sim_gnil rfl) rfl) rfl rfl) rfl rfl rfl)
  (sims_cons (sim_set (i := 19) nd rfl (.inr rfl) (e_call (ok__law_any t) hr (by decide) rfl (takes_of rfl rfl rfl rfl) rfl (sim_cons (sim_var (i := 1) rfl (.inl rfl) rfl rfl) (sim_cons (e_lst (by decide) (sim_cons e_non (sim_cons (e_neg e_int) (sim_cons (sim_var (i := 3) rfl (.inr (.inl rfl)) rfl rfl) (sim_cons e_bl sim_nil rfl) rfl) rfl) rfl)) sim_nil rfl) rfl) rfl rfl rfl) rfl (.inl rfl))
  (sims_cons (sim_set (i := 20) nd rfl (.inr rfl) (e_call (ok__law_any t) hr (by decide) rfl (takes_of rfl rfl rfl rfl) rfl (sim_cons (sim_var (i := 1) rfl (.inl rfl) rfl rfl) (sim_cons (e_lst (by decide) (sim_cons e_non (sim_cons e_int (sim_cons (e_tup (by decide) (sim_cons (e_neg e_int) (sim_cons e_int sim_nil rfl) rfl)) (sim_cons (e_tup (by decide) (sim_cons e_int (sim_cons e_int sim_nil rfl) rfl)) (sim_cons (e_lst (by decide) (sim_cons e_int (sim_cons e_int sim_nil rfl) rfl)) (sim_cons (e_tup (by decide) (sim_cons e_int (sim_cons e_int sim_nil rfl) rfl)) sim_nil rfl) rfl) rfl) rfl) rfl) rfl)) sim_nil rfl) rfl) rfl rfl rfl) rfl (.inl rfl))
  (sims_cons (sim_set (i := 21) nd rfl (.inr rfl) (e_call (ok__law_any t) hr (by decide) rfl (takes_of rfl rfl rfl rfl) rfl (sim_cons (sim_var (i := 1) rfl (.inl rfl) rfl rfl) (sim_cons (e_lst (by decide) (sim_cons e_non (sim_cons e_int (sim_cons (e_tup (by decide) (sim_cons e_int (sim_cons e_int sim_nil rfl) rfl)) (sim_cons (e_tup (by decide) (sim_cons (e_neg e_int) (sim_cons e_int sim_nil rfl) rfl)) (sim_cons (e_tup (by decide) (sim_cons e_int (sim_cons e_int sim_nil rfl) rfl)) (sim_cons (e_lst (by decide) (sim_cons e_int (sim_cons e_int sim_nil rfl) rfl)) sim_nil rfl) rfl) rfl) rfl) rfl) rfl)) sim_nil rfl) rfl) rfl rfl rfl) rfl (.inl rfl))
  (sims_cons (sim_setO_lst (i := 22) nd rfl (.inl rfl) (by decide) (sim_cons (e_lam (N := N__law_word) (st := s__law_word) (F := F__law_word) (k := 4) t.h__law_word tl (hr.mono (by decide)) (fun _ _ => rfl) sc__law_word rfl (.inl rfl) (fun g cd => gives__law_word t hr g cd) rfl (sc := defScope s_law) rfl (by decide +kernel) rfl (fun _ _ _ _ _ => rfl) rfl rfl rfl (fun A outer s H E f c2 hr2 => (e_call (ok_horse_stand t) hr2 (by decide) rfl (takes_of rfl rfl rfl rfl) rfl (sim_cons (sim_var (i := 17) rfl (.inr (.inr rfl)) rfl rfl) (sim_cons (sim_var (i := 18) rfl (.inr (.inr rfl)) rfl rfl) (sim_cons (sim_var (i := 19) rfl (.inr (.inr rfl)) rfl rfl) (sim_cons (sim_var (i := 20) rfl (.inr (.inr rfl)) rfl rfl) sim_nil rfl) rfl) rfl) rfl) rfl rfl rfl))) sim_nil rfl) rfl (.inr rfl))
  (sims_cons (sim_app (i := 22) rfl rfl (.inl rfl) rfl rfl (e_lam (N := N__law_word) (st := s__law_word) (F := F__law_word) (k := 4) t.h__law_word tl (hr.mono (by decide)) (fun _ _ => rfl) sc__law_word rfl (.inl rfl) (fun g cd => gives__law_word t hr g cd) rfl (sc := defScope s_law) rfl (by decide +kernel) rfl (fun _ _ _ _ _ => rfl) rfl rfl rfl (fun A outer s H E f c2 hr2 => (e_call (ok_horse_stand t) hr2 (by decide) rfl (takes_of rfl rfl rfl rfl) rfl (sim_cons (sim_var (i := 3) rfl (.inr (.inr rfl)) rfl rfl) (sim_cons (sim_var (i := 18) rfl (.inr (.inr rfl)) rfl rfl) (sim_cons (sim_var (i := 19) rfl (.inr (.inr rfl)) rfl rfl) (sim_cons (sim_var (i := 20) rfl (.inr (.inr rfl)) rfl rfl) sim_nil rfl) rfl) rfl) rfl) rfl rfl rfl))) rfl rfl rfl rfl rfl rfl)
  (sims_cons (sim_app (i := 22) rfl rfl (.inl rfl) rfl rfl (e_lam (N := N__law_word) (st := s__law_word) (F := F__law_word) (k := 4) t.h__law_word tl (hr.mono (by decide)) (fun _ _ => rfl) sc__law_word rfl (.inl rfl) (fun g cd => gives__law_word t hr g cd) rfl (sc := defScope s_law) rfl (by decide +kernel) rfl (fun _ _ _ _ _ => rfl) rfl rfl rfl (fun A outer s H E f c2 hr2 => (e_call (ok_horse_stand t) hr2 (by decide) rfl (takes_of rfl rfl rfl rfl) rfl (sim_cons (sim_var (i := 3) rfl (.inr (.inr rfl)) rfl rfl) (sim_cons (sim_var (i := 4) rfl (.inr (.inr rfl)) rfl rfl) (sim_cons (sim_var (i := 19) rfl (.inr (.inr rfl)) rfl rfl) (sim_cons (sim_var (i := 20) rfl (.inr (.inr rfl)) rfl rfl) sim_nil rfl) rfl) rfl) rfl) rfl rfl rfl))) rfl rfl rfl rfl rfl rfl)
  (sims_cons (sim_app (i := 22) rfl rfl (.inl rfl) rfl rfl (e_lam (N := N__law_word) (st := s__law_word) (F := F__law_word) (k := 4) t.h__law_word tl (hr.mono (by decide)) (fun _ _ => rfl) sc__law_word rfl (.inl rfl) (fun g cd => gives__law_word t hr g cd) rfl (sc := defScope s_law) rfl (by decide +kernel) rfl (fun _ _ _ _ _ => rfl) rfl rfl rfl (fun A outer s H E f c2 hr2 => (e_call (ok_horse_stand t) hr2 (by decide) rfl (takes_of rfl rfl rfl rfl) rfl (sim_cons (sim_var (i := 3) rfl (.inr (.inr rfl)) rfl rfl) (sim_cons (sim_var (i := 4) rfl (.inr (.inr rfl)) rfl rfl) (sim_cons (sim_var (i := 5) rfl (.inr (.inr rfl)) rfl rfl) (sim_cons (sim_var (i := 20) rfl (.inr (.inr rfl)) rfl rfl) sim_nil rfl) rfl) rfl) rfl) rfl rfl rfl))) rfl rfl rfl rfl rfl rfl)
  (sims_cons (sim_app (i := 22) rfl rfl (.inl rfl) rfl rfl (e_lam (N := N__law_word) (st := s__law_word) (F := F__law_word) (k := 4) t.h__law_word tl (hr.mono (by decide)) (fun _ _ => rfl) sc__law_word rfl (.inl rfl) (fun g cd => gives__law_word t hr g cd) rfl (sc := defScope s_law) rfl (by decide +kernel) rfl (fun _ _ _ _ _ => rfl) rfl rfl rfl (fun A outer s H E f c2 hr2 => (e_call (ok_meet_first t) hr2 (by decide) rfl (takes_of rfl rfl rfl rfl) rfl (sim_cons (sim_var (i := 17) rfl (.inr (.inr rfl)) rfl rfl) (sim_cons (sim_var (i := 18) rfl (.inr (.inr rfl)) rfl rfl) (sim_cons (sim_var (i := 21) rfl (.inr (.inr rfl)) rfl rfl) sim_nil rfl) rfl) rfl) rfl rfl rfl))) rfl rfl rfl rfl rfl rfl)
  (sims_cons (sim_app (i := 22) rfl rfl (.inl rfl) rfl rfl (e_lam (N := N__law_word) (st := s__law_word) (F := F__law_word) (k := 4) t.h__law_word tl (hr.mono (by decide)) (fun _ _ => rfl) sc__law_word rfl (.inl rfl) (fun g cd => gives__law_word t hr g cd) rfl (sc := defScope s_law) rfl (by decide +kernel) rfl (fun _ _ _ _ _ => rfl) rfl rfl rfl (fun A outer s H E f c2 hr2 => (e_call (ok_meet_first t) hr2 (by decide) rfl (takes_of rfl rfl rfl rfl) rfl (sim_cons (sim_var (i := 3) rfl (.inr (.inr rfl)) rfl rfl) (sim_cons (sim_var (i := 18) rfl (.inr (.inr rfl)) rfl rfl) (sim_cons (sim_var (i := 21) rfl (.inr (.inr rfl)) rfl rfl) sim_nil rfl) rfl) rfl) rfl rfl rfl))) rfl rfl rfl rfl rfl rfl)
  (sims_cons (sim_app (i := 22) rfl rfl (.inl rfl) rfl rfl (e_lam (N := N__law_word) (st := s__law_word) (F := F__law_word) (k := 4) t.h__law_word tl (hr.mono (by decide)) (fun _ _ => rfl) sc__law_word rfl (.inl rfl) (fun g cd => gives__law_word t hr g cd) rfl (sc := defScope s_law) rfl (by decide +kernel) rfl (fun _ _ _ _ _ => rfl) rfl rfl rfl (fun A outer s H E f c2 hr2 => (e_call (ok_meet_first t) hr2 (by decide) rfl (takes_of rfl rfl rfl rfl) rfl (sim_cons (sim_var (i := 3) rfl (.inr (.inr rfl)) rfl rfl) (sim_cons (sim_var (i := 4) rfl (.inr (.inr rfl)) rfl rfl) (sim_cons (sim_var (i := 21) rfl (.inr (.inr rfl)) rfl rfl) sim_nil rfl) rfl) rfl) rfl rfl rfl))) rfl rfl rfl rfl rfl rfl)
  (sims_cons (sim_app (i := 22) rfl rfl (.inl rfl) rfl rfl (e_lam (N := N__law_word) (st := s__law_word) (F := F__law_word) (k := 4) t.h__law_word tl (hr.mono (by decide)) (fun _ _ => rfl) sc__law_word rfl (.inl rfl) (fun g cd => gives__law_word t hr g cd) rfl (sc := defScope s_law) rfl (by decide +kernel) rfl (fun _ _ _ _ _ => rfl) rfl rfl rfl (fun A outer s H E f c2 hr2 => (e_call (ok_same_picture t) hr2 (by decide) rfl (takes_of rfl rfl rfl rfl) rfl (sim_cons (sim_var (i := 17) rfl (.inr (.inr rfl)) rfl rfl) (sim_cons (sim_var (i := 18) rfl (.inr (.inr rfl)) rfl rfl) sim_nil rfl) rfl) rfl rfl rfl))) rfl rfl rfl rfl rfl rfl)
  (sims_cons (sim_app (i := 22) rfl rfl (.inl rfl) rfl rfl (e_lam (N := N__law_word) (st := s__law_word) (F := F__law_word) (k := 4) t.h__law_word tl (hr.mono (by decide)) (fun _ _ => rfl) sc__law_word rfl (.inl rfl) (fun g cd => gives__law_word t hr g cd) rfl (sc := defScope s_law) rfl (by decide +kernel) rfl (fun _ _ _ _ _ => rfl) rfl rfl rfl (fun A outer s H E f c2 hr2 => (e_call (ok_same_picture t) hr2 (by decide) rfl (takes_of rfl rfl rfl rfl) rfl (sim_cons (sim_var (i := 3) rfl (.inr (.inr rfl)) rfl rfl) (sim_cons (sim_var (i := 18) rfl (.inr (.inr rfl)) rfl rfl) sim_nil rfl) rfl) rfl rfl rfl))) rfl rfl rfl rfl rfl rfl)
  (sims_cons (sim_if (t_cmp (gx hr rfl rfl) .ne (sim_var (i := 22) rfl (.inl rfl) rfl rfl) (e_lst (by decide) (sim_cons e_str (sim_cons e_str (sim_cons e_str (sim_cons e_str (sim_cons e_str (sim_cons e_str (sim_cons e_str (sim_cons e_str (sim_cons e_str sim_nil rfl) rfl) rfl) rfl) rfl) rfl) rfl) rfl) rfl)) rfl) (sims_cons (sim_ret e_bl)
  sims_nil) sims_nil)
  sims_nil))))))))))))))))))))))))))))) (fun _ => rfl))
  (sims_cons (sim_ret e_bl)
  sims_nil)))
theorem law_mk {l : PySem.W.OpenLaw} {w : World} {h : Heap} {fa : Addr}
    {t_MOST_HORSES : Tok}
    {t_MOST_UPS : Tok}
    {a_ONE : Addr} {d_ONE : Option Addr} {n_ONE : Nat} {l_ONE : Array (Option Value)} {t_ONE_0 : Tok} {t_ONE_1 : Tok}
    {a_FairError : Addr}
    {a_NoGears : Addr}
    {a_NoHorse : Addr}
    {a_NoHorses : Addr}
    {a_NoMesh : Addr}
    {a_NoSpeeds : Addr}
    {a_NoStand : Addr}
    {a_NoTurned : Addr}
    {a_NoUps : Addr}
    {a_NoWheel : Addr}
    {a_TooMany : Addr}
    {f_is_integer : Addr} {od_is_integer an_is_integer : Option Addr} {sl_is_integer : Array (Option Value)} {oc_is_integer kV_is_integer dc_is_integer pm_is_integer cd_is_integer ct_is_integer : Value}
    {f_is_within : Addr} {od_is_within an_is_within : Option Addr} {sl_is_within : Array (Option Value)} {oc_is_within kV_is_within dc_is_within pm_is_within cd_is_within ct_is_within : Value}
    {f_is_sized : Addr} {od_is_sized an_is_sized : Option Addr} {sl_is_sized : Array (Option Value)} {oc_is_sized kV_is_sized dc_is_sized pm_is_sized cd_is_sized ct_is_sized : Value}
    {f_common : Addr} {od_common an_common : Option Addr} {sl_common : Array (Option Value)} {oc_common kV_common dc_common pm_common cd_common ct_common : Value}
    {f_share : Addr} {od_share an_share : Option Addr} {sl_share : Array (Option Value)} {oc_share kV_share dc_share pm_share cd_share ct_share : Value}
    {f_is_share : Addr} {od_is_share an_is_share : Option Addr} {sl_is_share : Array (Option Value)} {oc_is_share kV_is_share dc_is_share pm_is_share cd_is_share ct_is_share : Value}
    {f_minus : Addr} {od_minus an_minus : Option Addr} {sl_minus : Array (Option Value)} {oc_minus kV_minus dc_minus pm_minus cd_minus ct_minus : Value}
    {f_times : Addr} {od_times an_times : Option Addr} {sl_times : Array (Option Value)} {oc_times kV_times dc_times pm_times cd_times ct_times : Value}
    {f_over : Addr} {od_over an_over : Option Addr} {sl_over : Array (Option Value)} {oc_over kV_over dc_over pm_over cd_over ct_over : Value}
    {f_is_less : Addr} {od_is_less an_is_less : Option Addr} {sl_is_less : Array (Option Value)} {oc_is_less kV_is_less dc_is_less pm_is_less cd_is_less ct_is_less : Value}
    {f_check_horses : Addr} {od_check_horses an_check_horses : Option Addr} {sl_check_horses : Array (Option Value)} {oc_check_horses kV_check_horses dc_check_horses pm_check_horses cd_check_horses ct_check_horses : Value}
    {f_part_of : Addr} {od_part_of an_part_of : Option Addr} {sl_part_of : Array (Option Value)} {oc_part_of kV_part_of dc_part_of pm_part_of cd_part_of ct_part_of : Value}
    {f_horse_stand : Addr} {od_horse_stand an_horse_stand : Option Addr} {sl_horse_stand : Array (Option Value)} {oc_horse_stand kV_horse_stand dc_horse_stand pm_horse_stand cd_horse_stand ct_horse_stand : Value}
    {f_meet_first : Addr} {od_meet_first an_meet_first : Option Addr} {sl_meet_first : Array (Option Value)} {oc_meet_first kV_meet_first dc_meet_first pm_meet_first cd_meet_first ct_meet_first : Value}
    {f_same_picture : Addr} {od_same_picture an_same_picture : Option Addr} {sl_same_picture : Array (Option Value)} {oc_same_picture kV_same_picture dc_same_picture pm_same_picture cd_same_picture ct_same_picture : Value}
    {f__law_hand : Addr} {od__law_hand an__law_hand : Option Addr} {sl__law_hand : Array (Option Value)} {oc__law_hand kV__law_hand dc__law_hand pm__law_hand cd__law_hand ct__law_hand : Value}
    {f__law_draw : Addr} {od__law_draw an__law_draw : Option Addr} {sl__law_draw : Array (Option Value)} {oc__law_draw kV__law_draw dc__law_draw pm__law_draw cd__law_draw ct__law_draw : Value}
    {f__law_any : Addr} {od__law_any an__law_any : Option Addr} {sl__law_any : Array (Option Value)} {oc__law_any kV__law_any dc__law_any pm__law_any cd__law_any ct__law_any : Value}
    {f__law_share : Addr} {od__law_share an__law_share : Option Addr} {sl__law_share : Array (Option Value)} {oc__law_share kV__law_share dc__law_share pm__law_share cd__law_share ct__law_share : Value}
    {f__law_common : Addr} {od__law_common an__law_common : Option Addr} {sl__law_common : Array (Option Value)} {oc__law_common kV__law_common dc__law_common pm__law_common cd__law_common ct__law_common : Value}
    {f__law_word : Addr} {od__law_word an__law_word : Option Addr} {sl__law_word : Array (Option Value)} {oc__law_word kV__law_word dc__law_word pm__law_word cd__law_word ct__law_word : Value}
    {f__law_part : Addr} {od__law_part an__law_part : Option Addr} {sl__law_part : Array (Option Value)} {oc__law_part kV__law_part dc__law_part pm__law_part cd__law_part ct__law_part : Value}
    {f_law : Addr} {od_law an_law : Option Addr} {sl_law : Array (Option Value)} {oc_law kV_law dc_law pm_law ct_law : Value}
    {cL pL : Addr} {eL : Value} {dL : Option Addr} {vL : Array Value} {lL : Array (Option Value)}
    (KX : K.In h) (NX : h.Ns mainGlobals mg) (hfa : mg "law" = some (.ref fa)) (own : LamX.OwnTab K fa h)
    (z_abs : PySem.W.nsIn K mainGlobals "abs" = some none)
    (z_all : PySem.W.nsIn K mainGlobals "all" = some none)
    (z_bool : PySem.W.nsIn K mainGlobals "bool" = some none)
    (z_int : PySem.W.nsIn K mainGlobals "int" = some none)
    (z_isinstance : PySem.W.nsIn K mainGlobals "isinstance" = some none)
    (z_len : PySem.W.nsIn K mainGlobals "len" = some none)
    (z_min : PySem.W.nsIn K mainGlobals "min" = some none)
    (z_range : PySem.W.nsIn K mainGlobals "range" = some none)
    (z_tuple : PySem.W.nsIn K mainGlobals "tuple" = some none)
    (c_MOST_HORSES : PySem.W.nsIn K mainGlobals "MOST_HORSES" = some (some (.int 12 t_MOST_HORSES)))
    (c_MOST_UPS : PySem.W.nsIn K mainGlobals "MOST_UPS" = some (some (.int 9 t_MOST_UPS)))
    (c_ONE : PySem.W.nsIn K mainGlobals "ONE" = some (some (.ref a_ONE)))
    (u_ONE : K.lookup a_ONE = some ⟨.type "tuple", d_ONE, .seq #[.int 1 t_ONE_0, .int 1 t_ONE_1] n_ONE, l_ONE⟩)
    (k_FairError : PySem.W.nsIn K mainGlobals "FairError" = some (some (.ref a_FairError)))
    (k_NoGears : PySem.W.nsIn K mainGlobals "NoGears" = some (some (.ref a_NoGears)))
    (k_NoHorse : PySem.W.nsIn K mainGlobals "NoHorse" = some (some (.ref a_NoHorse)))
    (k_NoHorses : PySem.W.nsIn K mainGlobals "NoHorses" = some (some (.ref a_NoHorses)))
    (k_NoMesh : PySem.W.nsIn K mainGlobals "NoMesh" = some (some (.ref a_NoMesh)))
    (k_NoSpeeds : PySem.W.nsIn K mainGlobals "NoSpeeds" = some (some (.ref a_NoSpeeds)))
    (k_NoStand : PySem.W.nsIn K mainGlobals "NoStand" = some (some (.ref a_NoStand)))
    (k_NoTurned : PySem.W.nsIn K mainGlobals "NoTurned" = some (some (.ref a_NoTurned)))
    (k_NoUps : PySem.W.nsIn K mainGlobals "NoUps" = some (some (.ref a_NoUps)))
    (k_NoWheel : PySem.W.nsIn K mainGlobals "NoWheel" = some (some (.ref a_NoWheel)))
    (k_TooMany : PySem.W.nsIn K mainGlobals "TooMany" = some (some (.ref a_TooMany)))
    (b_FairError : PySem.W.subIn K (.ref a_FairError) (.type "BaseException") = some true)
    (t_FairError : PySem.W.typeIn K (.ref a_FairError) = some (.type "type"))
    (d_FairError : PySem.W.hasDictIn K a_FairError = true)
    (b_NoGears : PySem.W.subIn K (.ref a_NoGears) (.type "BaseException") = some true)
    (t_NoGears : PySem.W.typeIn K (.ref a_NoGears) = some (.type "type"))
    (d_NoGears : PySem.W.hasDictIn K a_NoGears = true)
    (b_NoHorse : PySem.W.subIn K (.ref a_NoHorse) (.type "BaseException") = some true)
    (t_NoHorse : PySem.W.typeIn K (.ref a_NoHorse) = some (.type "type"))
    (d_NoHorse : PySem.W.hasDictIn K a_NoHorse = true)
    (b_NoHorses : PySem.W.subIn K (.ref a_NoHorses) (.type "BaseException") = some true)
    (t_NoHorses : PySem.W.typeIn K (.ref a_NoHorses) = some (.type "type"))
    (d_NoHorses : PySem.W.hasDictIn K a_NoHorses = true)
    (b_NoMesh : PySem.W.subIn K (.ref a_NoMesh) (.type "BaseException") = some true)
    (t_NoMesh : PySem.W.typeIn K (.ref a_NoMesh) = some (.type "type"))
    (d_NoMesh : PySem.W.hasDictIn K a_NoMesh = true)
    (b_NoSpeeds : PySem.W.subIn K (.ref a_NoSpeeds) (.type "BaseException") = some true)
    (t_NoSpeeds : PySem.W.typeIn K (.ref a_NoSpeeds) = some (.type "type"))
    (d_NoSpeeds : PySem.W.hasDictIn K a_NoSpeeds = true)
    (b_NoStand : PySem.W.subIn K (.ref a_NoStand) (.type "BaseException") = some true)
    (t_NoStand : PySem.W.typeIn K (.ref a_NoStand) = some (.type "type"))
    (d_NoStand : PySem.W.hasDictIn K a_NoStand = true)
    (b_NoTurned : PySem.W.subIn K (.ref a_NoTurned) (.type "BaseException") = some true)
    (t_NoTurned : PySem.W.typeIn K (.ref a_NoTurned) = some (.type "type"))
    (d_NoTurned : PySem.W.hasDictIn K a_NoTurned = true)
    (b_NoUps : PySem.W.subIn K (.ref a_NoUps) (.type "BaseException") = some true)
    (t_NoUps : PySem.W.typeIn K (.ref a_NoUps) = some (.type "type"))
    (d_NoUps : PySem.W.hasDictIn K a_NoUps = true)
    (b_NoWheel : PySem.W.subIn K (.ref a_NoWheel) (.type "BaseException") = some true)
    (t_NoWheel : PySem.W.typeIn K (.ref a_NoWheel) = some (.type "type"))
    (d_NoWheel : PySem.W.hasDictIn K a_NoWheel = true)
    (b_TooMany : PySem.W.subIn K (.ref a_TooMany) (.type "BaseException") = some true)
    (t_TooMany : PySem.W.typeIn K (.ref a_TooMany) = some (.type "type"))
    (d_TooMany : PySem.W.hasDictIn K a_TooMany = true)
    (sp : PySem.W.specialIn K (.builtin "object.__class__") "__get__" = some (some (.builtin "getset_descriptor.__get__")))
    (tk : PySem.W.takesIn K (.builtin "object.__class__") = some true)
    (x_NoHorse : PySem.W.excIn K a_NoHorse [.type "ValueError", .type "Exception", .type "BaseException", .type "object"] "ValueError.__new__" = true)
    (p_NoHorse : PySem.W.keepIn K (.ref a_NoHorse) = true)
    (g_NoHorse : PySem.W.findIn K (.ref a_NoHorse) "__getattribute__" = some (some (.builtin "BaseException.__getattribute__")))
    (y_NoHorse : PySem.W.findIn K (.ref a_NoHorse) "__getattr__" = some none)
    (q_NoHorse : PySem.W.findIn K (.ref a_NoHorse) "__class__" = some (some (.builtin "object.__class__")))
    (m_NoHorse : PySem.W.mroIn K a_NoHorse (.type "object") = some true)
    (x_NoHorses : PySem.W.excIn K a_NoHorses [.type "ValueError", .type "Exception", .type "BaseException", .type "object"] "ValueError.__new__" = true)
    (p_NoHorses : PySem.W.keepIn K (.ref a_NoHorses) = true)
    (g_NoHorses : PySem.W.findIn K (.ref a_NoHorses) "__getattribute__" = some (some (.builtin "BaseException.__getattribute__")))
    (y_NoHorses : PySem.W.findIn K (.ref a_NoHorses) "__getattr__" = some none)
    (q_NoHorses : PySem.W.findIn K (.ref a_NoHorses) "__class__" = some (some (.builtin "object.__class__")))
    (m_NoHorses : PySem.W.mroIn K a_NoHorses (.type "object") = some true)
    (x_NoStand : PySem.W.excIn K a_NoStand [.type "ValueError", .type "Exception", .type "BaseException", .type "object"] "ValueError.__new__" = true)
    (p_NoStand : PySem.W.keepIn K (.ref a_NoStand) = true)
    (g_NoStand : PySem.W.findIn K (.ref a_NoStand) "__getattribute__" = some (some (.builtin "BaseException.__getattribute__")))
    (y_NoStand : PySem.W.findIn K (.ref a_NoStand) "__getattr__" = some none)
    (q_NoStand : PySem.W.findIn K (.ref a_NoStand) "__class__" = some (some (.builtin "object.__class__")))
    (m_NoStand : PySem.W.mroIn K a_NoStand (.type "object") = some true)
    (x_NoTurned : PySem.W.excIn K a_NoTurned [.type "ValueError", .type "Exception", .type "BaseException", .type "object"] "ValueError.__new__" = true)
    (p_NoTurned : PySem.W.keepIn K (.ref a_NoTurned) = true)
    (g_NoTurned : PySem.W.findIn K (.ref a_NoTurned) "__getattribute__" = some (some (.builtin "BaseException.__getattribute__")))
    (y_NoTurned : PySem.W.findIn K (.ref a_NoTurned) "__getattr__" = some none)
    (q_NoTurned : PySem.W.findIn K (.ref a_NoTurned) "__class__" = some (some (.builtin "object.__class__")))
    (m_NoTurned : PySem.W.mroIn K a_NoTurned (.type "object") = some true)
    (x_NoUps : PySem.W.excIn K a_NoUps [.type "ValueError", .type "Exception", .type "BaseException", .type "object"] "ValueError.__new__" = true)
    (p_NoUps : PySem.W.keepIn K (.ref a_NoUps) = true)
    (g_NoUps : PySem.W.findIn K (.ref a_NoUps) "__getattribute__" = some (some (.builtin "BaseException.__getattribute__")))
    (y_NoUps : PySem.W.findIn K (.ref a_NoUps) "__getattr__" = some none)
    (q_NoUps : PySem.W.findIn K (.ref a_NoUps) "__class__" = some (some (.builtin "object.__class__")))
    (m_NoUps : PySem.W.mroIn K a_NoUps (.type "object") = some true)
    (n_TooMany : PySem.W.findIn K (.ref a_TooMany) "most" = some none)
    (g_TooMany : PySem.W.findIn K (.ref a_TooMany) "__getattribute__" = some (some (.builtin "BaseException.__getattribute__")))
    (y_TooMany : PySem.W.findIn K (.ref a_TooMany) "__getattr__" = some none)
    (s_NoUps_TooMany : PySem.W.subIn K (.ref a_NoUps) (.ref a_TooMany) = some false)
    (v_NoUps_TooMany : a_NoUps ≠ a_TooMany)
    (s_NoUps_NoWheel : PySem.W.subIn K (.ref a_NoUps) (.ref a_NoWheel) = some false)
    (v_NoUps_NoWheel : a_NoUps ≠ a_NoWheel)
    (s_NoUps_NoUps : PySem.W.subIn K (.ref a_NoUps) (.ref a_NoUps) = some true)
    (s_NoUps_NoTurned : PySem.W.subIn K (.ref a_NoUps) (.ref a_NoTurned) = some false)
    (v_NoUps_NoTurned : a_NoUps ≠ a_NoTurned)
    (s_NoUps_NoStand : PySem.W.subIn K (.ref a_NoUps) (.ref a_NoStand) = some false)
    (v_NoUps_NoStand : a_NoUps ≠ a_NoStand)
    (s_NoUps_NoSpeeds : PySem.W.subIn K (.ref a_NoUps) (.ref a_NoSpeeds) = some false)
    (v_NoUps_NoSpeeds : a_NoUps ≠ a_NoSpeeds)
    (s_NoUps_NoMesh : PySem.W.subIn K (.ref a_NoUps) (.ref a_NoMesh) = some false)
    (v_NoUps_NoMesh : a_NoUps ≠ a_NoMesh)
    (s_NoUps_NoHorses : PySem.W.subIn K (.ref a_NoUps) (.ref a_NoHorses) = some false)
    (v_NoUps_NoHorses : a_NoUps ≠ a_NoHorses)
    (s_NoUps_NoHorse : PySem.W.subIn K (.ref a_NoUps) (.ref a_NoHorse) = some false)
    (v_NoUps_NoHorse : a_NoUps ≠ a_NoHorse)
    (s_NoUps_NoGears : PySem.W.subIn K (.ref a_NoUps) (.ref a_NoGears) = some false)
    (v_NoUps_NoGears : a_NoUps ≠ a_NoGears)
    (s_NoUps_FairError : PySem.W.subIn K (.ref a_NoUps) (.ref a_FairError) = some true)
    (s_NoTurned_TooMany : PySem.W.subIn K (.ref a_NoTurned) (.ref a_TooMany) = some false)
    (v_NoTurned_TooMany : a_NoTurned ≠ a_TooMany)
    (s_NoTurned_NoWheel : PySem.W.subIn K (.ref a_NoTurned) (.ref a_NoWheel) = some false)
    (v_NoTurned_NoWheel : a_NoTurned ≠ a_NoWheel)
    (s_NoTurned_NoUps : PySem.W.subIn K (.ref a_NoTurned) (.ref a_NoUps) = some false)
    (v_NoTurned_NoUps : a_NoTurned ≠ a_NoUps)
    (s_NoTurned_NoTurned : PySem.W.subIn K (.ref a_NoTurned) (.ref a_NoTurned) = some true)
    (s_NoTurned_NoStand : PySem.W.subIn K (.ref a_NoTurned) (.ref a_NoStand) = some false)
    (v_NoTurned_NoStand : a_NoTurned ≠ a_NoStand)
    (s_NoTurned_NoSpeeds : PySem.W.subIn K (.ref a_NoTurned) (.ref a_NoSpeeds) = some false)
    (v_NoTurned_NoSpeeds : a_NoTurned ≠ a_NoSpeeds)
    (s_NoTurned_NoMesh : PySem.W.subIn K (.ref a_NoTurned) (.ref a_NoMesh) = some false)
    (v_NoTurned_NoMesh : a_NoTurned ≠ a_NoMesh)
    (s_NoTurned_NoHorses : PySem.W.subIn K (.ref a_NoTurned) (.ref a_NoHorses) = some false)
    (v_NoTurned_NoHorses : a_NoTurned ≠ a_NoHorses)
    (s_NoTurned_NoHorse : PySem.W.subIn K (.ref a_NoTurned) (.ref a_NoHorse) = some false)
    (v_NoTurned_NoHorse : a_NoTurned ≠ a_NoHorse)
    (s_NoTurned_NoGears : PySem.W.subIn K (.ref a_NoTurned) (.ref a_NoGears) = some false)
    (v_NoTurned_NoGears : a_NoTurned ≠ a_NoGears)
    (s_NoTurned_FairError : PySem.W.subIn K (.ref a_NoTurned) (.ref a_FairError) = some true)
    (s_NoStand_TooMany : PySem.W.subIn K (.ref a_NoStand) (.ref a_TooMany) = some false)
    (v_NoStand_TooMany : a_NoStand ≠ a_TooMany)
    (s_NoStand_NoWheel : PySem.W.subIn K (.ref a_NoStand) (.ref a_NoWheel) = some false)
    (v_NoStand_NoWheel : a_NoStand ≠ a_NoWheel)
    (s_NoStand_NoUps : PySem.W.subIn K (.ref a_NoStand) (.ref a_NoUps) = some false)
    (v_NoStand_NoUps : a_NoStand ≠ a_NoUps)
    (s_NoStand_NoTurned : PySem.W.subIn K (.ref a_NoStand) (.ref a_NoTurned) = some false)
    (v_NoStand_NoTurned : a_NoStand ≠ a_NoTurned)
    (s_NoStand_NoStand : PySem.W.subIn K (.ref a_NoStand) (.ref a_NoStand) = some true)
    (s_NoStand_NoSpeeds : PySem.W.subIn K (.ref a_NoStand) (.ref a_NoSpeeds) = some false)
    (v_NoStand_NoSpeeds : a_NoStand ≠ a_NoSpeeds)
    (s_NoStand_NoMesh : PySem.W.subIn K (.ref a_NoStand) (.ref a_NoMesh) = some false)
    (v_NoStand_NoMesh : a_NoStand ≠ a_NoMesh)
    (s_NoStand_NoHorses : PySem.W.subIn K (.ref a_NoStand) (.ref a_NoHorses) = some false)
    (v_NoStand_NoHorses : a_NoStand ≠ a_NoHorses)
    (s_NoStand_NoHorse : PySem.W.subIn K (.ref a_NoStand) (.ref a_NoHorse) = some false)
    (v_NoStand_NoHorse : a_NoStand ≠ a_NoHorse)
    (s_NoStand_NoGears : PySem.W.subIn K (.ref a_NoStand) (.ref a_NoGears) = some false)
    (v_NoStand_NoGears : a_NoStand ≠ a_NoGears)
    (s_NoStand_FairError : PySem.W.subIn K (.ref a_NoStand) (.ref a_FairError) = some true)
    (s_NoHorses_TooMany : PySem.W.subIn K (.ref a_NoHorses) (.ref a_TooMany) = some false)
    (v_NoHorses_TooMany : a_NoHorses ≠ a_TooMany)
    (s_NoHorses_NoWheel : PySem.W.subIn K (.ref a_NoHorses) (.ref a_NoWheel) = some false)
    (v_NoHorses_NoWheel : a_NoHorses ≠ a_NoWheel)
    (s_NoHorses_NoUps : PySem.W.subIn K (.ref a_NoHorses) (.ref a_NoUps) = some false)
    (v_NoHorses_NoUps : a_NoHorses ≠ a_NoUps)
    (s_NoHorses_NoTurned : PySem.W.subIn K (.ref a_NoHorses) (.ref a_NoTurned) = some false)
    (v_NoHorses_NoTurned : a_NoHorses ≠ a_NoTurned)
    (s_NoHorses_NoStand : PySem.W.subIn K (.ref a_NoHorses) (.ref a_NoStand) = some false)
    (v_NoHorses_NoStand : a_NoHorses ≠ a_NoStand)
    (s_NoHorses_NoSpeeds : PySem.W.subIn K (.ref a_NoHorses) (.ref a_NoSpeeds) = some false)
    (v_NoHorses_NoSpeeds : a_NoHorses ≠ a_NoSpeeds)
    (s_NoHorses_NoMesh : PySem.W.subIn K (.ref a_NoHorses) (.ref a_NoMesh) = some false)
    (v_NoHorses_NoMesh : a_NoHorses ≠ a_NoMesh)
    (s_NoHorses_NoHorses : PySem.W.subIn K (.ref a_NoHorses) (.ref a_NoHorses) = some true)
    (s_NoHorses_NoHorse : PySem.W.subIn K (.ref a_NoHorses) (.ref a_NoHorse) = some false)
    (v_NoHorses_NoHorse : a_NoHorses ≠ a_NoHorse)
    (s_NoHorses_NoGears : PySem.W.subIn K (.ref a_NoHorses) (.ref a_NoGears) = some false)
    (v_NoHorses_NoGears : a_NoHorses ≠ a_NoGears)
    (s_NoHorses_FairError : PySem.W.subIn K (.ref a_NoHorses) (.ref a_FairError) = some true)
    (s_NoHorse_TooMany : PySem.W.subIn K (.ref a_NoHorse) (.ref a_TooMany) = some false)
    (v_NoHorse_TooMany : a_NoHorse ≠ a_TooMany)
    (s_NoHorse_NoWheel : PySem.W.subIn K (.ref a_NoHorse) (.ref a_NoWheel) = some false)
    (v_NoHorse_NoWheel : a_NoHorse ≠ a_NoWheel)
    (s_NoHorse_NoUps : PySem.W.subIn K (.ref a_NoHorse) (.ref a_NoUps) = some false)
    (v_NoHorse_NoUps : a_NoHorse ≠ a_NoUps)
    (s_NoHorse_NoTurned : PySem.W.subIn K (.ref a_NoHorse) (.ref a_NoTurned) = some false)
    (v_NoHorse_NoTurned : a_NoHorse ≠ a_NoTurned)
    (s_NoHorse_NoStand : PySem.W.subIn K (.ref a_NoHorse) (.ref a_NoStand) = some false)
    (v_NoHorse_NoStand : a_NoHorse ≠ a_NoStand)
    (s_NoHorse_NoSpeeds : PySem.W.subIn K (.ref a_NoHorse) (.ref a_NoSpeeds) = some false)
    (v_NoHorse_NoSpeeds : a_NoHorse ≠ a_NoSpeeds)
    (s_NoHorse_NoMesh : PySem.W.subIn K (.ref a_NoHorse) (.ref a_NoMesh) = some false)
    (v_NoHorse_NoMesh : a_NoHorse ≠ a_NoMesh)
    (s_NoHorse_NoHorses : PySem.W.subIn K (.ref a_NoHorse) (.ref a_NoHorses) = some false)
    (v_NoHorse_NoHorses : a_NoHorse ≠ a_NoHorses)
    (s_NoHorse_NoHorse : PySem.W.subIn K (.ref a_NoHorse) (.ref a_NoHorse) = some true)
    (s_NoHorse_NoGears : PySem.W.subIn K (.ref a_NoHorse) (.ref a_NoGears) = some false)
    (v_NoHorse_NoGears : a_NoHorse ≠ a_NoGears)
    (s_NoHorse_FairError : PySem.W.subIn K (.ref a_NoHorse) (.ref a_FairError) = some true)
    (e_is_integer : PySem.W.nsIn K mainGlobals "is_integer" = some (some (.ref f_is_integer)))
    (l_is_integer : K.lookup f_is_integer = some ⟨oc_is_integer, od_is_integer, .func (PySem.W.fnOf "is_integer" "is_integer" (defArgs s_is_integer) (defBody s_is_integer) (defScope s_is_integer) .none kV_is_integer dc_is_integer pm_is_integer an_is_integer cd_is_integer ct_is_integer), sl_is_integer⟩)
    (o_is_integer : PySem.W.codeIn K cd_is_integer "is_integer" = true)
    (h_is_integer : PySem.W.keepIn K (.ref f_is_integer) = true)
    (e_is_within : PySem.W.nsIn K mainGlobals "is_within" = some (some (.ref f_is_within)))
    (l_is_within : K.lookup f_is_within = some ⟨oc_is_within, od_is_within, .func (PySem.W.fnOf "is_within" "is_within" (defArgs s_is_within) (defBody s_is_within) (defScope s_is_within) .none kV_is_within dc_is_within pm_is_within an_is_within cd_is_within ct_is_within), sl_is_within⟩)
    (o_is_within : PySem.W.codeIn K cd_is_within "is_within" = true)
    (h_is_within : PySem.W.keepIn K (.ref f_is_within) = true)
    (e_is_sized : PySem.W.nsIn K mainGlobals "is_sized" = some (some (.ref f_is_sized)))
    (l_is_sized : K.lookup f_is_sized = some ⟨oc_is_sized, od_is_sized, .func (PySem.W.fnOf "is_sized" "is_sized" (defArgs s_is_sized) (defBody s_is_sized) (defScope s_is_sized) .none kV_is_sized dc_is_sized pm_is_sized an_is_sized cd_is_sized ct_is_sized), sl_is_sized⟩)
    (o_is_sized : PySem.W.codeIn K cd_is_sized "is_sized" = true)
    (h_is_sized : PySem.W.keepIn K (.ref f_is_sized) = true)
    (e_common : PySem.W.nsIn K mainGlobals "common" = some (some (.ref f_common)))
    (l_common : K.lookup f_common = some ⟨oc_common, od_common, .func (PySem.W.fnOf "common" "common" (defArgs s_common) (defBody s_common) (defScope s_common) .none kV_common dc_common pm_common an_common cd_common ct_common), sl_common⟩)
    (o_common : PySem.W.codeIn K cd_common "common" = true)
    (h_common : PySem.W.keepIn K (.ref f_common) = true)
    (e_share : PySem.W.nsIn K mainGlobals "share" = some (some (.ref f_share)))
    (l_share : K.lookup f_share = some ⟨oc_share, od_share, .func (PySem.W.fnOf "share" "share" (defArgs s_share) (defBody s_share) (defScope s_share) .none kV_share dc_share pm_share an_share cd_share ct_share), sl_share⟩)
    (o_share : PySem.W.codeIn K cd_share "share" = true)
    (h_share : PySem.W.keepIn K (.ref f_share) = true)
    (e_is_share : PySem.W.nsIn K mainGlobals "is_share" = some (some (.ref f_is_share)))
    (l_is_share : K.lookup f_is_share = some ⟨oc_is_share, od_is_share, .func (PySem.W.fnOf "is_share" "is_share" (defArgs s_is_share) (defBody s_is_share) (defScope s_is_share) .none kV_is_share dc_is_share pm_is_share an_is_share cd_is_share ct_is_share), sl_is_share⟩)
    (o_is_share : PySem.W.codeIn K cd_is_share "is_share" = true)
    (h_is_share : PySem.W.keepIn K (.ref f_is_share) = true)
    (e_minus : PySem.W.nsIn K mainGlobals "minus" = some (some (.ref f_minus)))
    (l_minus : K.lookup f_minus = some ⟨oc_minus, od_minus, .func (PySem.W.fnOf "minus" "minus" (defArgs s_minus) (defBody s_minus) (defScope s_minus) .none kV_minus dc_minus pm_minus an_minus cd_minus ct_minus), sl_minus⟩)
    (o_minus : PySem.W.codeIn K cd_minus "minus" = true)
    (h_minus : PySem.W.keepIn K (.ref f_minus) = true)
    (e_times : PySem.W.nsIn K mainGlobals "times" = some (some (.ref f_times)))
    (l_times : K.lookup f_times = some ⟨oc_times, od_times, .func (PySem.W.fnOf "times" "times" (defArgs s_times) (defBody s_times) (defScope s_times) .none kV_times dc_times pm_times an_times cd_times ct_times), sl_times⟩)
    (o_times : PySem.W.codeIn K cd_times "times" = true)
    (h_times : PySem.W.keepIn K (.ref f_times) = true)
    (e_over : PySem.W.nsIn K mainGlobals "over" = some (some (.ref f_over)))
    (l_over : K.lookup f_over = some ⟨oc_over, od_over, .func (PySem.W.fnOf "over" "over" (defArgs s_over) (defBody s_over) (defScope s_over) .none kV_over dc_over pm_over an_over cd_over ct_over), sl_over⟩)
    (o_over : PySem.W.codeIn K cd_over "over" = true)
    (h_over : PySem.W.keepIn K (.ref f_over) = true)
    (e_is_less : PySem.W.nsIn K mainGlobals "is_less" = some (some (.ref f_is_less)))
    (l_is_less : K.lookup f_is_less = some ⟨oc_is_less, od_is_less, .func (PySem.W.fnOf "is_less" "is_less" (defArgs s_is_less) (defBody s_is_less) (defScope s_is_less) .none kV_is_less dc_is_less pm_is_less an_is_less cd_is_less ct_is_less), sl_is_less⟩)
    (o_is_less : PySem.W.codeIn K cd_is_less "is_less" = true)
    (h_is_less : PySem.W.keepIn K (.ref f_is_less) = true)
    (e_check_horses : PySem.W.nsIn K mainGlobals "check_horses" = some (some (.ref f_check_horses)))
    (l_check_horses : K.lookup f_check_horses = some ⟨oc_check_horses, od_check_horses, .func (PySem.W.fnOf "check_horses" "check_horses" (defArgs s_check_horses) (defBody s_check_horses) (defScope s_check_horses) .none kV_check_horses dc_check_horses pm_check_horses an_check_horses cd_check_horses ct_check_horses), sl_check_horses⟩)
    (o_check_horses : PySem.W.codeIn K cd_check_horses "check_horses" = true)
    (h_check_horses : PySem.W.keepIn K (.ref f_check_horses) = true)
    (e_part_of : PySem.W.nsIn K mainGlobals "part_of" = some (some (.ref f_part_of)))
    (l_part_of : K.lookup f_part_of = some ⟨oc_part_of, od_part_of, .func (PySem.W.fnOf "part_of" "part_of" (defArgs s_part_of) (defBody s_part_of) (defScope s_part_of) .none kV_part_of dc_part_of pm_part_of an_part_of cd_part_of ct_part_of), sl_part_of⟩)
    (o_part_of : PySem.W.codeIn K cd_part_of "part_of" = true)
    (h_part_of : PySem.W.keepIn K (.ref f_part_of) = true)
    (e_horse_stand : PySem.W.nsIn K mainGlobals "horse_stand" = some (some (.ref f_horse_stand)))
    (l_horse_stand : K.lookup f_horse_stand = some ⟨oc_horse_stand, od_horse_stand, .func (PySem.W.fnOf "horse_stand" "horse_stand" (defArgs s_horse_stand) (defBody s_horse_stand) (defScope s_horse_stand) .none kV_horse_stand dc_horse_stand pm_horse_stand an_horse_stand cd_horse_stand ct_horse_stand), sl_horse_stand⟩)
    (o_horse_stand : PySem.W.codeIn K cd_horse_stand "horse_stand" = true)
    (h_horse_stand : PySem.W.keepIn K (.ref f_horse_stand) = true)
    (e_meet_first : PySem.W.nsIn K mainGlobals "meet_first" = some (some (.ref f_meet_first)))
    (l_meet_first : K.lookup f_meet_first = some ⟨oc_meet_first, od_meet_first, .func (PySem.W.fnOf "meet_first" "meet_first" (defArgs s_meet_first) (defBody s_meet_first) (defScope s_meet_first) .none kV_meet_first dc_meet_first pm_meet_first an_meet_first cd_meet_first ct_meet_first), sl_meet_first⟩)
    (o_meet_first : PySem.W.codeIn K cd_meet_first "meet_first" = true)
    (h_meet_first : PySem.W.keepIn K (.ref f_meet_first) = true)
    (e_same_picture : PySem.W.nsIn K mainGlobals "same_picture" = some (some (.ref f_same_picture)))
    (l_same_picture : K.lookup f_same_picture = some ⟨oc_same_picture, od_same_picture, .func (PySem.W.fnOf "same_picture" "same_picture" (defArgs s_same_picture) (defBody s_same_picture) (defScope s_same_picture) .none kV_same_picture dc_same_picture pm_same_picture an_same_picture cd_same_picture ct_same_picture), sl_same_picture⟩)
    (o_same_picture : PySem.W.codeIn K cd_same_picture "same_picture" = true)
    (h_same_picture : PySem.W.keepIn K (.ref f_same_picture) = true)
    (e__law_hand : PySem.W.nsIn K mainGlobals "_law_hand" = some (some (.ref f__law_hand)))
    (l__law_hand : K.lookup f__law_hand = some ⟨oc__law_hand, od__law_hand, .func (PySem.W.fnOf "_law_hand" "_law_hand" (defArgs s__law_hand) (defBody s__law_hand) (defScope s__law_hand) .none kV__law_hand dc__law_hand pm__law_hand an__law_hand cd__law_hand ct__law_hand), sl__law_hand⟩)
    (o__law_hand : PySem.W.codeIn K cd__law_hand "_law_hand" = true)
    (h__law_hand : PySem.W.keepIn K (.ref f__law_hand) = true)
    (e__law_draw : PySem.W.nsIn K mainGlobals "_law_draw" = some (some (.ref f__law_draw)))
    (l__law_draw : K.lookup f__law_draw = some ⟨oc__law_draw, od__law_draw, .func (PySem.W.fnOf "_law_draw" "_law_draw" (defArgs s__law_draw) (defBody s__law_draw) (defScope s__law_draw) .none kV__law_draw dc__law_draw pm__law_draw an__law_draw cd__law_draw ct__law_draw), sl__law_draw⟩)
    (o__law_draw : PySem.W.codeIn K cd__law_draw "_law_draw" = true)
    (h__law_draw : PySem.W.keepIn K (.ref f__law_draw) = true)
    (e__law_any : PySem.W.nsIn K mainGlobals "_law_any" = some (some (.ref f__law_any)))
    (l__law_any : K.lookup f__law_any = some ⟨oc__law_any, od__law_any, .func (PySem.W.fnOf "_law_any" "_law_any" (defArgs s__law_any) (defBody s__law_any) (defScope s__law_any) .none kV__law_any dc__law_any pm__law_any an__law_any cd__law_any ct__law_any), sl__law_any⟩)
    (o__law_any : PySem.W.codeIn K cd__law_any "_law_any" = true)
    (h__law_any : PySem.W.keepIn K (.ref f__law_any) = true)
    (e__law_share : PySem.W.nsIn K mainGlobals "_law_share" = some (some (.ref f__law_share)))
    (l__law_share : K.lookup f__law_share = some ⟨oc__law_share, od__law_share, .func (PySem.W.fnOf "_law_share" "_law_share" (defArgs s__law_share) (defBody s__law_share) (defScope s__law_share) .none kV__law_share dc__law_share pm__law_share an__law_share cd__law_share ct__law_share), sl__law_share⟩)
    (o__law_share : PySem.W.codeIn K cd__law_share "_law_share" = true)
    (h__law_share : PySem.W.keepIn K (.ref f__law_share) = true)
    (e__law_common : PySem.W.nsIn K mainGlobals "_law_common" = some (some (.ref f__law_common)))
    (l__law_common : K.lookup f__law_common = some ⟨oc__law_common, od__law_common, .func (PySem.W.fnOf "_law_common" "_law_common" (defArgs s__law_common) (defBody s__law_common) (defScope s__law_common) .none kV__law_common dc__law_common pm__law_common an__law_common cd__law_common ct__law_common), sl__law_common⟩)
    (o__law_common : PySem.W.codeIn K cd__law_common "_law_common" = true)
    (h__law_common : PySem.W.keepIn K (.ref f__law_common) = true)
    (e__law_word : PySem.W.nsIn K mainGlobals "_law_word" = some (some (.ref f__law_word)))
    (l__law_word : K.lookup f__law_word = some ⟨oc__law_word, od__law_word, .func (PySem.W.fnOf "_law_word" "_law_word" (defArgs s__law_word) (defBody s__law_word) (defScope s__law_word) .none kV__law_word dc__law_word pm__law_word an__law_word cd__law_word ct__law_word), sl__law_word⟩)
    (o__law_word : PySem.W.codeIn K cd__law_word "_law_word" = true)
    (h__law_word : PySem.W.keepIn K (.ref f__law_word) = true)
    (e__law_part : PySem.W.nsIn K mainGlobals "_law_part" = some (some (.ref f__law_part)))
    (l__law_part : K.lookup f__law_part = some ⟨oc__law_part, od__law_part, .func (PySem.W.fnOf "_law_part" "_law_part" (defArgs s__law_part) (defBody s__law_part) (defScope s__law_part) .none kV__law_part dc__law_part pm__law_part an__law_part cd__law_part ct__law_part), sl__law_part⟩)
    (o__law_part : PySem.W.codeIn K cd__law_part "_law_part" = true)
    (h__law_part : PySem.W.keepIn K (.ref f__law_part) = true)
    (e_law : PySem.W.nsIn K mainGlobals "law" = some (some (.ref f_law)))
    (l_law : K.lookup f_law = some ⟨oc_law, od_law, .func (PySem.W.fnOf "law" "law" (defArgs s_law) (defBody s_law) (defScope s_law) .none kV_law dc_law pm_law an_law (.ref cL) ct_law), sl_law⟩)
    (o_law : PySem.W.codeIn K (.ref cL) "law" = true)
    (h_law : PySem.W.keepIn K (.ref f_law) = true)
    (lc : K.lookup cL = some ⟨eL, dL, .fields vL, lL⟩)
    (vp : vL[11]? = some (.ref pL))
    (np : K.lookup pL = none)
    (ch : PySem.W.codeHdIn K cL pL = true)
    (plain : ∀ ns : List Int, ns.length ≤ 63 → (∀ z ∈ ns, Builtin.Int.intBits z ≤ 1048576) → ∃ st, F_law [.scr (ns.map D.int)] [] = .ok (.bl true) st) : LamX.LawAtS l w K (L2.CX l.prog w) 8 63 "script" mg fa h := by
  cases hfa.symm.trans (PySem.W.mg_of KX NX e_law)
  have t : Tx K mg (fun i => ([a_FairError, a_NoGears, a_NoHorse, a_NoHorses, a_NoMesh, a_NoSpeeds, a_NoStand, a_NoTurned, a_NoUps, a_NoWheel, a_TooMany] : List Addr).getD i 0) := {
    z_abs := PySem.W.mg_none_of KX NX z_abs
    z_all := PySem.W.mg_none_of KX NX z_all
    z_bool := PySem.W.mg_none_of KX NX z_bool
    z_int := PySem.W.mg_none_of KX NX z_int
    z_isinstance := PySem.W.mg_none_of KX NX z_isinstance
    z_len := PySem.W.mg_none_of KX NX z_len
    z_min := PySem.W.mg_none_of KX NX z_min
    z_range := PySem.W.mg_none_of KX NX z_range
    z_tuple := PySem.W.mg_none_of KX NX z_tuple
    c_MOST_HORSES := fun _ => IsCon.int (PySem.W.mg_of KX NX c_MOST_HORSES)
    c_MOST_UPS := fun _ => IsCon.int (PySem.W.mg_of KX NX c_MOST_UPS)
    c_ONE := fun _ => IsCon.ints (is := [1, 1]) (PySem.W.mg_of KX NX c_ONE) u_ONE (.cons ⟨_, rfl⟩ (.cons ⟨_, rfl⟩ (.nil))) (Nat.le_of_ble_eq_true rfl)
    k_FairError := PySem.W.mg_of KX NX k_FairError
    k_NoGears := PySem.W.mg_of KX NX k_NoGears
    k_NoHorse := PySem.W.mg_of KX NX k_NoHorse
    k_NoHorses := PySem.W.mg_of KX NX k_NoHorses
    k_NoMesh := PySem.W.mg_of KX NX k_NoMesh
    k_NoSpeeds := PySem.W.mg_of KX NX k_NoSpeeds
    k_NoStand := PySem.W.mg_of KX NX k_NoStand
    k_NoTurned := PySem.W.mg_of KX NX k_NoTurned
    k_NoUps := PySem.W.mg_of KX NX k_NoUps
    k_NoWheel := PySem.W.mg_of KX NX k_NoWheel
    k_TooMany := PySem.W.mg_of KX NX k_TooMany
    x_NoHorse := ⟨_, _, _, _, _, PySem.F.excBase_ValueError, x_NoHorse, PySem.W.mg_of KX NX k_NoHorse, p_NoHorse, b_NoHorse, t_NoHorse⟩
    x_NoHorses := ⟨_, _, _, _, _, PySem.F.excBase_ValueError, x_NoHorses, PySem.W.mg_of KX NX k_NoHorses, p_NoHorses, b_NoHorses, t_NoHorses⟩
    x_NoStand := ⟨_, _, _, _, _, PySem.F.excBase_ValueError, x_NoStand, PySem.W.mg_of KX NX k_NoStand, p_NoStand, b_NoStand, t_NoStand⟩
    x_NoTurned := ⟨_, _, _, _, _, PySem.F.excBase_ValueError, x_NoTurned, PySem.W.mg_of KX NX k_NoTurned, p_NoTurned, b_NoTurned, t_NoTurned⟩
    x_NoUps := ⟨_, _, _, _, _, PySem.F.excBase_ValueError, x_NoUps, PySem.W.mg_of KX NX k_NoUps, p_NoUps, b_NoUps, t_NoUps⟩
    n_TooMany := n_TooMany
    w_TooMany := ⟨g_TooMany, y_TooMany, b_TooMany, d_TooMany⟩
    sub := subT_ok (asked := askL) (subs := subL) (all_cons (all_cons (sub1 (PySem.W.mg_of KX NX k_NoHorse) (PySem.W.mg_of KX NX k_FairError) s_NoHorse_FairError (fun z => nomatch z)) (all_cons (sub1 (PySem.W.mg_of KX NX k_NoHorse) (PySem.W.mg_of KX NX k_NoGears) s_NoHorse_NoGears (fun _ => v_NoHorse_NoGears)) (all_cons (sub1 (PySem.W.mg_of KX NX k_NoHorse) (PySem.W.mg_of KX NX k_NoHorse) s_NoHorse_NoHorse (fun z => nomatch z)) (all_cons (sub1 (PySem.W.mg_of KX NX k_NoHorse) (PySem.W.mg_of KX NX k_NoHorses) s_NoHorse_NoHorses (fun _ => v_NoHorse_NoHorses)) (all_cons (sub1 (PySem.W.mg_of KX NX k_NoHorse) (PySem.W.mg_of KX NX k_NoMesh) s_NoHorse_NoMesh (fun _ => v_NoHorse_NoMesh)) (all_cons (sub1 (PySem.W.mg_of KX NX k_NoHorse) (PySem.W.mg_of KX NX k_NoSpeeds) s_NoHorse_NoSpeeds (fun _ => v_NoHorse_NoSpeeds)) (all_cons (sub1 (PySem.W.mg_of KX NX k_NoHorse) (PySem.W.mg_of KX NX k_NoStand) s_NoHorse_NoStand (fun _ => v_NoHorse_NoStand)) (all_cons (sub1 (PySem.W.mg_of KX NX k_NoHorse) (PySem.W.mg_of KX NX k_NoTurned) s_NoHorse_NoTurned (fun _ => v_NoHorse_NoTurned)) (all_cons (sub1 (PySem.W.mg_of KX NX k_NoHorse) (PySem.W.mg_of KX NX k_NoUps) s_NoHorse_NoUps (fun _ => v_NoHorse_NoUps)) (all_cons (sub1 (PySem.W.mg_of KX NX k_NoHorse) (PySem.W.mg_of KX NX k_NoWheel) s_NoHorse_NoWheel (fun _ => v_NoHorse_NoWheel)) (all_cons (sub1 (PySem.W.mg_of KX NX k_NoHorse) (PySem.W.mg_of KX NX k_TooMany) s_NoHorse_TooMany (fun _ => v_NoHorse_TooMany)) all_nil))))))))))) (all_cons (all_cons (sub1 (PySem.W.mg_of KX NX k_NoHorses) (PySem.W.mg_of KX NX k_FairError) s_NoHorses_FairError (fun z => nomatch z)) (all_cons (sub1 (PySem.W.mg_of KX NX k_NoHorses) (PySem.W.mg_of KX NX k_NoGears) s_NoHorses_NoGears (fun _ => v_NoHorses_NoGears)) (all_cons (sub1 (PySem.W.mg_of KX NX k_NoHorses) (PySem.W.mg_of KX NX k_NoHorse) s_NoHorses_NoHorse (fun _ => v_NoHorses_NoHorse)) (all_cons (sub1 (PySem.W.mg_of KX NX k_NoHorses) (PySem.W.mg_of KX NX k_NoHorses) s_NoHorses_NoHorses (fun z => nomatch z)) (all_cons (sub1 (PySem.W.mg_of KX NX k_NoHorses) (PySem.W.mg_of KX NX k_NoMesh) s_NoHorses_NoMesh (fun _ => v_NoHorses_NoMesh)) (all_cons (sub1 (PySem.W.mg_of KX NX k_NoHorses) (PySem.W.mg_of KX NX k_NoSpeeds) s_NoHorses_NoSpeeds (fun _ => v_NoHorses_NoSpeeds)) (all_cons (sub1 (PySem.W.mg_of KX NX k_NoHorses) (PySem.W.mg_of KX NX k_NoStand) s_NoHorses_NoStand (fun _ => v_NoHorses_NoStand)) (all_cons (sub1 (PySem.W.mg_of KX NX k_NoHorses) (PySem.W.mg_of KX NX k_NoTurned) s_NoHorses_NoTurned (fun _ => v_NoHorses_NoTurned)) (all_cons (sub1 (PySem.W.mg_of KX NX k_NoHorses) (PySem.W.mg_of KX NX k_NoUps) s_NoHorses_NoUps (fun _ => v_NoHorses_NoUps)) (all_cons (sub1 (PySem.W.mg_of KX NX k_NoHorses) (PySem.W.mg_of KX NX k_NoWheel) s_NoHorses_NoWheel (fun _ => v_NoHorses_NoWheel)) (all_cons (sub1 (PySem.W.mg_of KX NX k_NoHorses) (PySem.W.mg_of KX NX k_TooMany) s_NoHorses_TooMany (fun _ => v_NoHorses_TooMany)) all_nil))))))))))) (all_cons (all_cons (sub1 (PySem.W.mg_of KX NX k_NoStand) (PySem.W.mg_of KX NX k_FairError) s_NoStand_FairError (fun z => nomatch z)) (all_cons (sub1 (PySem.W.mg_of KX NX k_NoStand) (PySem.W.mg_of KX NX k_NoGears) s_NoStand_NoGears (fun _ => v_NoStand_NoGears)) (all_cons (sub1 (PySem.W.mg_of KX NX k_NoStand) (PySem.W.mg_of KX NX k_NoHorse) s_NoStand_NoHorse (fun _ => v_NoStand_NoHorse)) (all_cons (sub1 (PySem.W.mg_of KX NX k_NoStand) (PySem.W.mg_of KX NX k_NoHorses) s_NoStand_NoHorses (fun _ => v_NoStand_NoHorses)) (all_cons (sub1 (PySem.W.mg_of KX NX k_NoStand) (PySem.W.mg_of KX NX k_NoMesh) s_NoStand_NoMesh (fun _ => v_NoStand_NoMesh)) (all_cons (sub1 (PySem.W.mg_of KX NX k_NoStand) (PySem.W.mg_of KX NX k_NoSpeeds) s_NoStand_NoSpeeds (fun _ => v_NoStand_NoSpeeds)) (all_cons (sub1 (PySem.W.mg_of KX NX k_NoStand) (PySem.W.mg_of KX NX k_NoStand) s_NoStand_NoStand (fun z => nomatch z)) (all_cons (sub1 (PySem.W.mg_of KX NX k_NoStand) (PySem.W.mg_of KX NX k_NoTurned) s_NoStand_NoTurned (fun _ => v_NoStand_NoTurned)) (all_cons (sub1 (PySem.W.mg_of KX NX k_NoStand) (PySem.W.mg_of KX NX k_NoUps) s_NoStand_NoUps (fun _ => v_NoStand_NoUps)) (all_cons (sub1 (PySem.W.mg_of KX NX k_NoStand) (PySem.W.mg_of KX NX k_NoWheel) s_NoStand_NoWheel (fun _ => v_NoStand_NoWheel)) (all_cons (sub1 (PySem.W.mg_of KX NX k_NoStand) (PySem.W.mg_of KX NX k_TooMany) s_NoStand_TooMany (fun _ => v_NoStand_TooMany)) all_nil))))))))))) (all_cons (all_cons (sub1 (PySem.W.mg_of KX NX k_NoTurned) (PySem.W.mg_of KX NX k_FairError) s_NoTurned_FairError (fun z => nomatch z)) (all_cons (sub1 (PySem.W.mg_of KX NX k_NoTurned) (PySem.W.mg_of KX NX k_NoGears) s_NoTurned_NoGears (fun _ => v_NoTurned_NoGears)) (all_cons (sub1 (PySem.W.mg_of KX NX k_NoTurned) (PySem.W.mg_of KX NX k_NoHorse) s_NoTurned_NoHorse (fun _ => v_NoTurned_NoHorse)) (all_cons (sub1 (PySem.W.mg_of KX NX k_NoTurned) (PySem.W.mg_of KX NX k_NoHorses) s_NoTurned_NoHorses (fun _ => v_NoTurned_NoHorses)) (all_cons (sub1 (PySem.W.mg_of KX NX k_NoTurned) (PySem.W.mg_of KX NX k_NoMesh) s_NoTurned_NoMesh (fun _ => v_NoTurned_NoMesh)) (all_cons (sub1 (PySem.W.mg_of KX NX k_NoTurned) (PySem.W.mg_of KX NX k_NoSpeeds) s_NoTurned_NoSpeeds (fun _ => v_NoTurned_NoSpeeds)) (all_cons (sub1 (PySem.W.mg_of KX NX k_NoTurned) (PySem.W.mg_of KX NX k_NoStand) s_NoTurned_NoStand (fun _ => v_NoTurned_NoStand)) (all_cons (sub1 (PySem.W.mg_of KX NX k_NoTurned) (PySem.W.mg_of KX NX k_NoTurned) s_NoTurned_NoTurned (fun z => nomatch z)) (all_cons (sub1 (PySem.W.mg_of KX NX k_NoTurned) (PySem.W.mg_of KX NX k_NoUps) s_NoTurned_NoUps (fun _ => v_NoTurned_NoUps)) (all_cons (sub1 (PySem.W.mg_of KX NX k_NoTurned) (PySem.W.mg_of KX NX k_NoWheel) s_NoTurned_NoWheel (fun _ => v_NoTurned_NoWheel)) (all_cons (sub1 (PySem.W.mg_of KX NX k_NoTurned) (PySem.W.mg_of KX NX k_TooMany) s_NoTurned_TooMany (fun _ => v_NoTurned_TooMany)) all_nil))))))))))) (all_cons (all_cons (sub1 (PySem.W.mg_of KX NX k_NoUps) (PySem.W.mg_of KX NX k_FairError) s_NoUps_FairError (fun z => nomatch z)) (all_cons (sub1 (PySem.W.mg_of KX NX k_NoUps) (PySem.W.mg_of KX NX k_NoGears) s_NoUps_NoGears (fun _ => v_NoUps_NoGears)) (all_cons (sub1 (PySem.W.mg_of KX NX k_NoUps) (PySem.W.mg_of KX NX k_NoHorse) s_NoUps_NoHorse (fun _ => v_NoUps_NoHorse)) (all_cons (sub1 (PySem.W.mg_of KX NX k_NoUps) (PySem.W.mg_of KX NX k_NoHorses) s_NoUps_NoHorses (fun _ => v_NoUps_NoHorses)) (all_cons (sub1 (PySem.W.mg_of KX NX k_NoUps) (PySem.W.mg_of KX NX k_NoMesh) s_NoUps_NoMesh (fun _ => v_NoUps_NoMesh)) (all_cons (sub1 (PySem.W.mg_of KX NX k_NoUps) (PySem.W.mg_of KX NX k_NoSpeeds) s_NoUps_NoSpeeds (fun _ => v_NoUps_NoSpeeds)) (all_cons (sub1 (PySem.W.mg_of KX NX k_NoUps) (PySem.W.mg_of KX NX k_NoStand) s_NoUps_NoStand (fun _ => v_NoUps_NoStand)) (all_cons (sub1 (PySem.W.mg_of KX NX k_NoUps) (PySem.W.mg_of KX NX k_NoTurned) s_NoUps_NoTurned (fun _ => v_NoUps_NoTurned)) (all_cons (sub1 (PySem.W.mg_of KX NX k_NoUps) (PySem.W.mg_of KX NX k_NoUps) s_NoUps_NoUps (fun z => nomatch z)) (all_cons (sub1 (PySem.W.mg_of KX NX k_NoUps) (PySem.W.mg_of KX NX k_NoWheel) s_NoUps_NoWheel (fun _ => v_NoUps_NoWheel)) (all_cons (sub1 (PySem.W.mg_of KX NX k_NoUps) (PySem.W.mg_of KX NX k_TooMany) s_NoUps_TooMany (fun _ => v_NoUps_TooMany)) all_nil))))))))))) all_nil))))) (all_cons ⟨_, PySem.W.mg_of KX NX k_FairError, b_FairError, d_FairError, t_FairError⟩ (all_cons ⟨_, PySem.W.mg_of KX NX k_NoGears, b_NoGears, d_NoGears, t_NoGears⟩ (all_cons ⟨_, PySem.W.mg_of KX NX k_NoHorse, b_NoHorse, d_NoHorse, t_NoHorse⟩ (all_cons ⟨_, PySem.W.mg_of KX NX k_NoHorses, b_NoHorses, d_NoHorses, t_NoHorses⟩ (all_cons ⟨_, PySem.W.mg_of KX NX k_NoMesh, b_NoMesh, d_NoMesh, t_NoMesh⟩ (all_cons ⟨_, PySem.W.mg_of KX NX k_NoSpeeds, b_NoSpeeds, d_NoSpeeds, t_NoSpeeds⟩ (all_cons ⟨_, PySem.W.mg_of KX NX k_NoStand, b_NoStand, d_NoStand, t_NoStand⟩ (all_cons ⟨_, PySem.W.mg_of KX NX k_NoTurned, b_NoTurned, d_NoTurned, t_NoTurned⟩ (all_cons ⟨_, PySem.W.mg_of KX NX k_NoUps, b_NoUps, d_NoUps, t_NoUps⟩ (all_cons ⟨_, PySem.W.mg_of KX NX k_NoWheel, b_NoWheel, d_NoWheel, t_NoWheel⟩ (all_cons ⟨_, PySem.W.mg_of KX NX k_TooMany, b_TooMany, d_TooMany, t_TooMany⟩ all_nil))))))))))) (all_cons ⟨_, PySem.W.mg_of KX NX k_NoHorse, ⟨g_NoHorse, y_NoHorse, b_NoHorse, d_NoHorse, q_NoHorse, sp, tk, m_NoHorse⟩⟩ (all_cons ⟨_, PySem.W.mg_of KX NX k_NoHorses, ⟨g_NoHorses, y_NoHorses, b_NoHorses, d_NoHorses, q_NoHorses, sp, tk, m_NoHorses⟩⟩ (all_cons ⟨_, PySem.W.mg_of KX NX k_NoStand, ⟨g_NoStand, y_NoStand, b_NoStand, d_NoStand, q_NoStand, sp, tk, m_NoStand⟩⟩ (all_cons ⟨_, PySem.W.mg_of KX NX k_NoTurned, ⟨g_NoTurned, y_NoTurned, b_NoTurned, d_NoTurned, q_NoTurned, sp, tk, m_NoTurned⟩⟩ (all_cons ⟨_, PySem.W.mg_of KX NX k_NoUps, ⟨g_NoUps, y_NoUps, b_NoUps, d_NoUps, q_NoUps, sp, tk, m_NoUps⟩⟩ all_nil)))))
    f_is_integer := ⟨_, _, PySem.W.mg_of KX NX e_is_integer, fun_mk (st := s_is_integer) l_is_integer o_is_integer h_is_integer, (fun_mk (st := s_is_integer) l_is_integer o_is_integer h_is_integer).binds (ps := P_is_integer) fun _ _ _ _ _ _ us hl => match us, hl with | [_], _ => rfl⟩
    f_is_within := ⟨_, _, PySem.W.mg_of KX NX e_is_within, fun_mk (st := s_is_within) l_is_within o_is_within h_is_within, (fun_mk (st := s_is_within) l_is_within o_is_within h_is_within).binds (ps := P_is_within) fun _ _ _ _ _ _ us hl => match us, hl with | [_, _, _], _ => rfl⟩
    f_is_sized := ⟨_, _, PySem.W.mg_of KX NX e_is_sized, fun_mk (st := s_is_sized) l_is_sized o_is_sized h_is_sized, (fun_mk (st := s_is_sized) l_is_sized o_is_sized h_is_sized).binds (ps := P_is_sized) fun _ _ _ _ _ _ us hl => match us, hl with | [_, _, _], _ => rfl⟩
    f_common := ⟨_, _, PySem.W.mg_of KX NX e_common, fun_mk (st := s_common) l_common o_common h_common, (fun_mk (st := s_common) l_common o_common h_common).binds (ps := P_common) fun _ _ _ _ _ _ us hl => match us, hl with | [_, _], _ => rfl⟩
    f_share := ⟨_, _, PySem.W.mg_of KX NX e_share, fun_mk (st := s_share) l_share o_share h_share, (fun_mk (st := s_share) l_share o_share h_share).binds (ps := P_share) fun _ _ _ _ _ _ us hl => match us, hl with | [_, _], _ => rfl⟩
    f_is_share := ⟨_, _, PySem.W.mg_of KX NX e_is_share, fun_mk (st := s_is_share) l_is_share o_is_share h_is_share, (fun_mk (st := s_is_share) l_is_share o_is_share h_is_share).binds (ps := P_is_share) fun _ _ _ _ _ _ us hl => match us, hl with | [_], _ => rfl⟩
    f_minus := ⟨_, _, PySem.W.mg_of KX NX e_minus, fun_mk (st := s_minus) l_minus o_minus h_minus, (fun_mk (st := s_minus) l_minus o_minus h_minus).binds (ps := P_minus) fun _ _ _ _ _ _ us hl => match us, hl with | [_, _], _ => rfl⟩
    f_times := ⟨_, _, PySem.W.mg_of KX NX e_times, fun_mk (st := s_times) l_times o_times h_times, (fun_mk (st := s_times) l_times o_times h_times).binds (ps := P_times) fun _ _ _ _ _ _ us hl => match us, hl with | [_, _], _ => rfl⟩
    f_over := ⟨_, _, PySem.W.mg_of KX NX e_over, fun_mk (st := s_over) l_over o_over h_over, (fun_mk (st := s_over) l_over o_over h_over).binds (ps := P_over) fun _ _ _ _ _ _ us hl => match us, hl with | [_, _], _ => rfl⟩
    f_is_less := ⟨_, _, PySem.W.mg_of KX NX e_is_less, fun_mk (st := s_is_less) l_is_less o_is_less h_is_less, (fun_mk (st := s_is_less) l_is_less o_is_less h_is_less).binds (ps := P_is_less) fun _ _ _ _ _ _ us hl => match us, hl with | [_, _], _ => rfl⟩
    f_check_horses := ⟨_, _, PySem.W.mg_of KX NX e_check_horses, fun_mk (st := s_check_horses) l_check_horses o_check_horses h_check_horses, (fun_mk (st := s_check_horses) l_check_horses o_check_horses h_check_horses).binds (ps := P_check_horses) fun _ _ _ _ _ _ us hl => match us, hl with | [_, _], _ => rfl⟩
    f_part_of := ⟨_, _, PySem.W.mg_of KX NX e_part_of, fun_mk (st := s_part_of) l_part_of o_part_of h_part_of, (fun_mk (st := s_part_of) l_part_of o_part_of h_part_of).binds (ps := P_part_of) fun _ _ _ _ _ _ us hl => match us, hl with | [_], _ => rfl⟩
    f_horse_stand := ⟨_, _, PySem.W.mg_of KX NX e_horse_stand, fun_mk (st := s_horse_stand) l_horse_stand o_horse_stand h_horse_stand, (fun_mk (st := s_horse_stand) l_horse_stand o_horse_stand h_horse_stand).binds (ps := P_horse_stand) fun _ _ _ _ _ _ us hl => match us, hl with | [_, _, _, _], _ => rfl⟩
    f_meet_first := ⟨_, _, PySem.W.mg_of KX NX e_meet_first, fun_mk (st := s_meet_first) l_meet_first o_meet_first h_meet_first, (fun_mk (st := s_meet_first) l_meet_first o_meet_first h_meet_first).binds (ps := P_meet_first) fun _ _ _ _ _ _ us hl => match us, hl with | [_, _, _], _ => rfl⟩
    f_same_picture := ⟨_, _, PySem.W.mg_of KX NX e_same_picture, fun_mk (st := s_same_picture) l_same_picture o_same_picture h_same_picture, (fun_mk (st := s_same_picture) l_same_picture o_same_picture h_same_picture).binds (ps := P_same_picture) fun _ _ _ _ _ _ us hl => match us, hl with | [_, _], _ => rfl⟩
    f__law_hand := ⟨_, _, PySem.W.mg_of KX NX e__law_hand, fun_mk (st := s__law_hand) l__law_hand o__law_hand h__law_hand, (fun_mk (st := s__law_hand) l__law_hand o__law_hand h__law_hand).binds (ps := P__law_hand) fun _ _ _ _ _ _ us hl => match us, hl with | [_], _ => rfl⟩
    f__law_draw := ⟨_, _, PySem.W.mg_of KX NX e__law_draw, fun_mk (st := s__law_draw) l__law_draw o__law_draw h__law_draw, (fun_mk (st := s__law_draw) l__law_draw o__law_draw h__law_draw).binds (ps := P__law_draw) fun _ _ _ _ _ _ us hl => match us, hl with | [_, _], _ => rfl⟩
    f__law_any := ⟨_, _, PySem.W.mg_of KX NX e__law_any, fun_mk (st := s__law_any) l__law_any o__law_any h__law_any, (fun_mk (st := s__law_any) l__law_any o__law_any h__law_any).binds (ps := P__law_any) fun _ _ _ _ _ _ us hl => match us, hl with | [_, _], _ => rfl⟩
    f__law_share := ⟨_, _, PySem.W.mg_of KX NX e__law_share, fun_mk (st := s__law_share) l__law_share o__law_share h__law_share, (fun_mk (st := s__law_share) l__law_share o__law_share h__law_share).binds (ps := P__law_share) fun _ _ _ _ _ _ us hl => match us, hl with | [_, _], _ => rfl⟩
    f__law_common := ⟨_, _, PySem.W.mg_of KX NX e__law_common, fun_mk (st := s__law_common) l__law_common o__law_common h__law_common, (fun_mk (st := s__law_common) l__law_common o__law_common h__law_common).binds (ps := P__law_common) fun _ _ _ _ _ _ us hl => match us, hl with | [_, _], _ => rfl⟩
    h__law_word := ⟨_, _, _, _, _, _, _, _, _, _, PySem.W.mg_of KX NX e__law_word, h__law_word, l__law_word, o__law_word, (fun_mk (st := s__law_word) l__law_word o__law_word h__law_word).binds (ps := P__law_word) fun _ _ _ _ _ _ us hl => match us, hl with | [_], _ => rfl⟩
    f__law_part := ⟨_, _, PySem.W.mg_of KX NX e__law_part, fun_mk (st := s__law_part) l__law_part o__law_part h__law_part, (fun_mk (st := s__law_part) l__law_part o__law_part h__law_part).binds (ps := P__law_part) fun _ _ _ _ _ _ us hl => match us, hl with | [_, _], _ => rfl⟩ }
  refine ⟨_, [(cL, pL)], spOf (CC K mg [(pL, "law.<locals>.<lambda>")]) 1 F_law, all_cons (own _ _ _ _ _ _ _ _ l_law rfl rfl lc vp) all_nil, all_cons np all_nil, all_cons (PySem.W.codeHd_of_K KX ch) all_nil, fun s v => .of_eq rfl, sp_law (all_cons (List.mem_cons_self) all_nil) plain, fun base _ _ TB => ok_law t l_law o_law ⟨cL, pL, TB _ (List.mem_cons_self), rfl, List.mem_cons_self, all_cons (fun _ => rfl) all_nil⟩⟩

end k69
end

section
set_option maxRecDepth 100000
namespace k69
open FY
theorem is_integer_int (i : Int) (st : Store) : F_is_integer [.int i] st = .ok (.bl true) st := by
  simp [F_is_integer, b_is_integer, G_is_integer, FY.runB, FY.execs, FY.exec, FY.ev, FY.evL, FY.evAnd, FY.evOr, FY.R.bind, FY.R.to, FY.RS.seq, FY.liftO, FY.getV, FY.getRef, FY.opSem, FY.one, FY.two, FY.three, FY.addD, FY.subD, FY.fdivD, FY.modD, FY.mulD, FY.negD, FY.notD, FY.ordD, FY.ixD, FY.absD, FY.toInt, FY.lenD, FY.tru, FY.isiB, FY.clsOf, FY.subCl, FY.opEsc, FY.mkG, FY.mkH, FY.esc, FY.escL, FY.escEL, FY.escE, FY.frzE, FY.ownFree, FY.setPar, FY.isNone, FY.ixI, L2.ixN, FY.meOk, FY.tgSet, FY.tgsSet, FY.wipeE, FY.tgSlots, FY.tgsSlots, FY.itSem, FY.compA, FY.compLoop, FY.compF, FY.evTests, FY.R.noX, FY.intsOf, FY.blsOf, FY.blsF, FY.intsF, FY.slD, FY.intD, FY.tupleD, FY.listD]
theorem is_within_int (x lo hi : Int) (st : Store) : F_is_within [.int x, .int lo, .int hi] st = .ok (.bl (decide (lo ≤ x ∧ x ≤ hi))) st := by
  by_cases h : lo ≤ x <;> by_cases h2 : x ≤ hi <;> simp [F_is_within, b_is_within, G_is_within, is_integer_int, h, h2, FY.runB, FY.execs, FY.exec, FY.ev, FY.evL, FY.evAnd, FY.evOr, FY.R.bind, FY.R.to, FY.RS.seq, FY.liftO, FY.getV, FY.getRef, FY.opSem, FY.one, FY.two, FY.three, FY.addD, FY.subD, FY.fdivD, FY.modD, FY.mulD, FY.negD, FY.notD, FY.ordD, FY.ixD, FY.absD, FY.toInt, FY.lenD, FY.tru, FY.isiB, FY.clsOf, FY.subCl, FY.opEsc, FY.mkG, FY.mkH, FY.esc, FY.escL, FY.escEL, FY.escE, FY.frzE, FY.ownFree, FY.setPar, FY.isNone, FY.ixI, L2.ixN, FY.meOk, FY.tgSet, FY.tgsSet, FY.wipeE, FY.tgSlots, FY.tgsSlots, FY.itSem, FY.compA, FY.compLoop, FY.compF, FY.evTests, FY.R.noX, FY.intsOf, FY.blsOf, FY.blsF, FY.intsF, FY.slD, FY.intD, FY.tupleD, FY.listD]
theorem is_less_p (a b c d : Int) (st : Store) (h : mulB a d = true) (h2 : mulB c b = true) : F_is_less [.tup [.int a, .int b], .tup [.int c, .int d]] st = .ok (.bl (decide (a * d < c * b))) st := by
  simp [F_is_less, b_is_less, G_is_less, h, h2, FY.runB, FY.execs, FY.exec, FY.ev, FY.evL, FY.evAnd, FY.evOr, FY.R.bind, FY.R.to, FY.RS.seq, FY.liftO, FY.getV, FY.getRef, FY.opSem, FY.one, FY.two, FY.three, FY.addD, FY.subD, FY.fdivD, FY.modD, FY.mulD, FY.negD, FY.notD, FY.ordD, FY.ixD, FY.absD, FY.toInt, FY.lenD, FY.tru, FY.isiB, FY.clsOf, FY.subCl, FY.opEsc, FY.mkG, FY.mkH, FY.esc, FY.escL, FY.escEL, FY.escE, FY.frzE, FY.ownFree, FY.setPar, FY.isNone, FY.ixI, L2.ixN, FY.meOk, FY.tgSet, FY.tgsSet, FY.wipeE, FY.tgSlots, FY.tgsSlots, FY.itSem, FY.compA, FY.compLoop, FY.compF, FY.evTests, FY.R.noX, FY.intsOf, FY.blsOf, FY.blsF, FY.intsF, FY.slD, FY.intD, FY.tupleD, FY.listD]
end k69

end

section
set_option maxRecDepth 100000
set_option maxHeartbeats 4000000
namespace k69
open FY
def hd (cs : List Int) (i b s k : Int) : D := .lst [.lst (cs.map D.int), .int i, .int b, .int s, .int k]
def HandC (c : D) : Prop := ∃ (cs : List Int) (i b s k : Int), c = hd cs i b s k ∧ (∀ z ∈ cs, 0 ≤ z) ∧ 0 ≤ i ∧ 0 ≤ b
theorem mulB_l {i j : Int} (h : i.natAbs < 18446744073709551616) : mulB i j = true := by
  unfold mulB; simp [h]
theorem mulB_r {i j : Int} (h : j.natAbs < 18446744073709551616) : mulB i j = true := by
  unfold mulB; simp [h]
theorem divB_s {j : Int} (h : 0 < j) (h2 : j < 1073741824) : divB j = true := by
  unfold divB
  have h3 : 0 < j.natAbs := by omega
  have h4 : j.natAbs < 1073741824 := by omega
  simp [h3, h4]
theorem data_int (i : Int) : isData (.int i) = true := rfl
theorem pyEq_int (i j : Int) : pyEq (.int i) (.int j) = (i == j) := rfl
/-- the part behind the first if -/
theorem tail_ok (cs : List Int) (i b s k : Int) (e2 : Slt) (rest : Store) (m : Int) (h0 : 0 < m) (h1 : m < 1000000) (hcs : ∀ z ∈ cs, 0 ≤ z) (hi : 0 ≤ i) (hb : 0 ≤ b) :
    ∃ d c' env', execs G__law_draw (b__law_draw.drop 1) [.val (.ref 0), .val (.int m), e2, .none, .none] (hd cs i b s k :: rest) = .rt (.int d) (c' :: rest) ∧ env' = 0 ∧ 0 ≤ d ∧ d < m ∧ HandC c' := by
  have hm : m ≠ 0 := by omega
  have db := divB_s h0 (by omega : m < 1073741824)
  by_cases hb0 : 0 < b
  · refine ⟨b.fmod m, hd cs i (b.fdiv m) s k, 0, ?_, rfl, Int.fmod_nonneg_of_pos _ h0, Int.fmod_lt_of_pos _ h0, cs, i, _, s, k, rfl, hcs, hi, Int.fdiv_nonneg hb (by omega)⟩
    simp [b__law_draw, hd, hb0, hm, db, FY.runB, FY.execs, FY.exec, FY.ev, FY.evL, FY.evAnd, FY.evOr, FY.R.bind, FY.R.to, FY.RS.seq, FY.liftO, FY.getV, FY.getRef, FY.opSem, FY.one, FY.two, FY.three, FY.addD, FY.subD, FY.fdivD, FY.modD, FY.mulD, FY.negD, FY.notD, FY.ordD, FY.ixD, FY.absD, FY.toInt, FY.lenD, FY.tru, FY.isiB, FY.clsOf, FY.subCl, FY.opEsc, FY.mkG, FY.mkH, FY.esc, FY.escL, FY.escEL, FY.escE, FY.frzE, FY.ownFree, FY.setPar, FY.isNone, FY.ixI, L2.ixN, FY.meOk, FY.tgSet, FY.tgsSet, FY.wipeE, FY.tgSlots, FY.tgsSlots, FY.itSem, FY.compA, FY.compLoop, FY.compF, FY.evTests, FY.R.noX, FY.intsOf, FY.blsOf, FY.blsF, FY.intsF, FY.slD, FY.intD, FY.tupleD, FY.listD]
  · have p1 : (0 : Int) < 2147483647 := by decide
    have p2 : (0 : Int) < 2147483563 := by decide
    have u1 : ∀ x : Int, mulB x 48271 = true := fun x => mulB_r (by decide)
    have u2 : ∀ x : Int, mulB 7919 x = true := fun x => mulB_l (by decide)
    have u3 : ∀ x y : Int, mulB (x.fmod 2147483647) y = true := fun x y => mulB_l (by have := Int.fmod_nonneg_of_pos x p1; have := Int.fmod_lt_of_pos x p1; omega)
    have v1 : divB 1009 = true := divB_s (by decide) (by decide)
    have v2 : divB 2003 = true := divB_s (by decide) (by decide)
    have v3 : divB 16 = true := divB_s (by decide) (by decide)
    refine ⟨_, hd cs i b s (k + 1), 0, ?_, rfl, Int.fmod_nonneg_of_pos (((((((s + 7919 * (k + 1)) * 48271).fmod 2147483647) * ((((s + 7919 * (k + 1)) * 48271).fmod 2147483647).fdiv 1009 + 69621)).fmod 2147483647 * (((((s + 7919 * (k + 1)) * 48271).fmod 2147483647) * ((((s + 7919 * (k + 1)) * 48271).fmod 2147483647).fdiv 1009 + 69621)).fmod 2147483647 |>.fdiv 2003 |> (· + 40014))).fmod 2147483563).fdiv 16) h0, Int.fmod_lt_of_pos _ h0, cs, i, b, s, k + 1, rfl, hcs, hi, hb⟩
    simp [b__law_draw, hd, hb0, hm, u1, u2, u3, v1, v2, v3, FY.runB, FY.execs, FY.exec, FY.ev, FY.evL, FY.evAnd, FY.evOr, FY.R.bind, FY.R.to, FY.RS.seq, FY.liftO, FY.getV, FY.getRef, FY.opSem, FY.one, FY.two, FY.three, FY.addD, FY.subD, FY.fdivD, FY.modD, FY.mulD, FY.negD, FY.notD, FY.ordD, FY.ixD, FY.absD, FY.toInt, FY.lenD, FY.tru, FY.isiB, FY.clsOf, FY.subCl, FY.opEsc, FY.mkG, FY.mkH, FY.esc, FY.escL, FY.escEL, FY.escE, FY.frzE, FY.ownFree, FY.setPar, FY.isNone, FY.ixI, L2.ixN, FY.meOk, FY.tgSet, FY.tgsSet, FY.wipeE, FY.tgSlots, FY.tgsSlots, FY.itSem, FY.compA, FY.compLoop, FY.compF, FY.evTests, FY.R.noX, FY.intsOf, FY.blsOf, FY.blsF, FY.intsF, FY.slD, FY.intD, FY.tupleD, FY.listD]
theorem draw_ok (c : D) (h : HandC c) (rest : Store) (m : Int) (h0 : 0 < m) (h1 : m < 1000000) : ∃ d c', F__law_draw [.ref 0, .int m] (c :: rest) = .ok (.int d) (c' :: rest) ∧ 0 ≤ d ∧ d < m ∧ HandC c' := by
  obtain ⟨cs, i, b, s, k, rfl, hcs, hi, hb⟩ := h
  have fin : ∀ (i b s k : Int) (e2 : Slt), 0 ≤ i → 0 ≤ b → execs G__law_draw [b__law_draw.headD .pass] [.val (.ref 0), .val (.int m), .none, .none, .none] (hd cs i b s k :: rest) = .nx [.val (.ref 0), .val (.int m), e2, .none, .none] (hd cs i b s k :: rest) → True := fun _ _ _ _ _ _ _ _ => trivial
  have step : ∃ (e2 : Slt) (i' b' s' : Int), 0 ≤ i' ∧ 0 ≤ b' ∧ execs G__law_draw [b__law_draw.headD .pass] [.val (.ref 0), .val (.int m), .none, .none, .none] (hd cs i b s k :: rest) = .nx [.val (.ref 0), .val (.int m), e2, .none, .none] (hd cs i' b' s' k :: rest) := by
    by_cases hc : b = 0 ∧ i < cs.length
    · obtain ⟨hb0, hil⟩ := hc
      subst hb0
      obtain ⟨n, rfl⟩ : ∃ n : Nat, i = n := ⟨i.toNat, by omega⟩
      have hn : n < cs.length := by omega
      obtain ⟨z, hz⟩ : ∃ z, cs[n]? = some z := ⟨_, List.getElem?_eq_getElem hn⟩
      have hz0 : 0 ≤ z := hcs z (List.mem_of_getElem? hz)
      have u1 : ∀ x : Int, mulB x 69621 = true := fun x => mulB_r (by decide)
      have u2 : ∀ x : Int, mulB x 40692 = true := fun x => mulB_r (by decide)
      have at_ : L2.ixN cs.length (n : Int) = some n := by unfold L2.ixN; simp; omega
      by_cases hbig : (1000000000000000000 : Int) ≤ z
      · refine ⟨.val (.int z), n + 1, z, (s * 69621 + z * 40692 + 31).fmod 2147483629, by omega, hz0, ?_⟩
        simp [b__law_draw, hd, hil, hz, hbig, u1, u2, at_, powD, eqD, data_int, pyEq_int, FY.runB, FY.execs, FY.exec, FY.ev, FY.evL, FY.evAnd, FY.evOr, FY.R.bind, FY.R.to, FY.RS.seq, FY.liftO, FY.getV, FY.getRef, FY.opSem, FY.one, FY.two, FY.three, FY.addD, FY.subD, FY.fdivD, FY.modD, FY.mulD, FY.negD, FY.notD, FY.ordD, FY.ixD, FY.absD, FY.toInt, FY.lenD, FY.tru, FY.isiB, FY.clsOf, FY.subCl, FY.opEsc, FY.mkG, FY.mkH, FY.esc, FY.escL, FY.escEL, FY.escE, FY.frzE, FY.ownFree, FY.setPar, FY.isNone, FY.ixI, L2.ixN, FY.meOk, FY.tgSet, FY.tgsSet, FY.wipeE, FY.tgSlots, FY.tgsSlots, FY.itSem, FY.compA, FY.compLoop, FY.compF, FY.evTests, FY.R.noX, FY.intsOf, FY.blsOf, FY.blsF, FY.intsF, FY.slD, FY.intD, FY.tupleD, FY.listD]
      · refine ⟨.val (.int z), n + 1, 0, (s * 69621 + z * 40692 + 31).fmod 2147483629, by omega, by omega, ?_⟩
        simp [b__law_draw, hd, hil, hz, hbig, u1, u2, at_, powD, eqD, data_int, pyEq_int, FY.runB, FY.execs, FY.exec, FY.ev, FY.evL, FY.evAnd, FY.evOr, FY.R.bind, FY.R.to, FY.RS.seq, FY.liftO, FY.getV, FY.getRef, FY.opSem, FY.one, FY.two, FY.three, FY.addD, FY.subD, FY.fdivD, FY.modD, FY.mulD, FY.negD, FY.notD, FY.ordD, FY.ixD, FY.absD, FY.toInt, FY.lenD, FY.tru, FY.isiB, FY.clsOf, FY.subCl, FY.opEsc, FY.mkG, FY.mkH, FY.esc, FY.escL, FY.escEL, FY.escE, FY.frzE, FY.ownFree, FY.setPar, FY.isNone, FY.ixI, L2.ixN, FY.meOk, FY.tgSet, FY.tgsSet, FY.wipeE, FY.tgSlots, FY.tgsSlots, FY.itSem, FY.compA, FY.compLoop, FY.compF, FY.evTests, FY.R.noX, FY.intsOf, FY.blsOf, FY.blsF, FY.intsF, FY.slD, FY.intD, FY.tupleD, FY.listD]
    · refine ⟨.none, i, b, s, hi, hb, ?_⟩
      by_cases hb0 : b = 0
      · have hil : ¬ i < cs.length := fun z => hc ⟨hb0, z⟩
        simp [b__law_draw, hd, hil, hb0, eqD, data_int, pyEq_int, FY.runB, FY.execs, FY.exec, FY.ev, FY.evL, FY.evAnd, FY.evOr, FY.R.bind, FY.R.to, FY.RS.seq, FY.liftO, FY.getV, FY.getRef, FY.opSem, FY.one, FY.two, FY.three, FY.addD, FY.subD, FY.fdivD, FY.modD, FY.mulD, FY.negD, FY.notD, FY.ordD, FY.ixD, FY.absD, FY.toInt, FY.lenD, FY.tru, FY.isiB, FY.clsOf, FY.subCl, FY.opEsc, FY.mkG, FY.mkH, FY.esc, FY.escL, FY.escEL, FY.escE, FY.frzE, FY.ownFree, FY.setPar, FY.isNone, FY.ixI, L2.ixN, FY.meOk, FY.tgSet, FY.tgsSet, FY.wipeE, FY.tgSlots, FY.tgsSlots, FY.itSem, FY.compA, FY.compLoop, FY.compF, FY.evTests, FY.R.noX, FY.intsOf, FY.blsOf, FY.blsF, FY.intsF, FY.slD, FY.intD, FY.tupleD, FY.listD]
      · have hbf : (b == 0) = false := by simp [hb0]
        simp [b__law_draw, hd, hbf, eqD, data_int, pyEq_int, FY.runB, FY.execs, FY.exec, FY.ev, FY.evL, FY.evAnd, FY.evOr, FY.R.bind, FY.R.to, FY.RS.seq, FY.liftO, FY.getV, FY.getRef, FY.opSem, FY.one, FY.two, FY.three, FY.addD, FY.subD, FY.fdivD, FY.modD, FY.mulD, FY.negD, FY.notD, FY.ordD, FY.ixD, FY.absD, FY.toInt, FY.lenD, FY.tru, FY.isiB, FY.clsOf, FY.subCl, FY.opEsc, FY.mkG, FY.mkH, FY.esc, FY.escL, FY.escEL, FY.escE, FY.frzE, FY.ownFree, FY.setPar, FY.isNone, FY.ixI, L2.ixN, FY.meOk, FY.tgSet, FY.tgsSet, FY.wipeE, FY.tgSlots, FY.tgsSlots, FY.itSem, FY.compA, FY.compLoop, FY.compF, FY.evTests, FY.R.noX, FY.intsOf, FY.blsOf, FY.blsF, FY.intsF, FY.slD, FY.intD, FY.tupleD, FY.listD]
  obtain ⟨e2, i', b', s', hi', hb', hs⟩ := step
  obtain ⟨d, c', _, h2, _, hd0, hdm, hc'⟩ := tail_ok cs i' b' s' k e2 rest m h0 h1 hcs hi' hb'
  refine ⟨d, c', ?_, hd0, hdm, hc'⟩
  have e : b__law_draw = b__law_draw.headD .pass :: b__law_draw.drop 1 := rfl
  have hs' : (exec G__law_draw (b__law_draw.headD .pass) [.val (.ref 0), .val (.int m), .none, .none, .none] (hd cs i b s k :: rest)) = .nx [.val (.ref 0), .val (.int m), e2, .none, .none] (hd cs i' b' s' k :: rest) := by
    have q := hs
    simp only [execs] at q
    cases hx : exec G__law_draw (b__law_draw.headD .pass) [.val (.ref 0), .val (.int m), .none, .none, .none] (hd cs i b s k :: rest) with
    | nx env st => rw [hx] at q; exact q
    | _ => rw [hx] at q; cases q
  have key : execs G__law_draw b__law_draw [.val (.ref 0), .val (.int m), .none, .none, .none] (hd cs i b s k :: rest) = .rt (.int d) (c' :: rest) := by
    rw [e, FY.execs, hs']
    exact h2
  have e3 : ([D.ref 0, D.int m].map Slt.val ++ List.replicate (5 - 2) Slt.none) = [.val (.ref 0), .val (.int m), .none, .none, .none] := rfl
  show runB G__law_draw 5 b__law_draw [.ref 0, .int m] (hd cs i b s k :: rest) = _
  unfold runB
  simp only [List.length_cons, List.length_nil]
  rw [e3, key]
end k69

end

section
set_option maxRecDepth 100000
set_option maxHeartbeats 4000000
namespace k69
open FY
theorem fmod_abs (a b : Int) (h : b ≠ 0) : (a.fmod b).natAbs < b.natAbs := by
  by_cases hb : 0 < b
  · have h1 := Int.fmod_nonneg_of_pos a hb
    have h2 := Int.fmod_lt_of_pos a hb
    omega
  · have h1 : 0 < -b := by omega
    have h2 := Int.fmod_nonneg_of_pos (-a) h1
    have h3 := Int.fmod_lt_of_pos (-a) h1
    rw [Int.neg_fmod_neg] at h2 h3
    omega
theorem gcd_fmod (a b : Int) : b.gcd (a.fmod b) = a.gcd b := by
  have e := Int.fmod_add_mul_fdiv a b
  have q := Int.gcd_add_mul_right_right b (a.fmod b) (a.fdiv b)
  rw [Int.mul_comm (a.fdiv b) b, e] at q
  rw [← q, Int.gcd_comm]
theorem common_loop (st : Store) : ∀ (n : Nat) (a b : Int), b.natAbs < n → ∃ g : Int, g.natAbs = a.gcd b ∧ wloop (ev G_common (.op .ne [(.var 1), (.cst (.int 0))])) (execs G_common [(.par [(0, false), (1, false)] [(.var 1), (.op .mod [(.var 0), (.var 1)])])]) n [.val (.int a), .val (.int b)] st = .nx [.val (.int g), .val (.int 0)] st
  | 0, a, b, h => absurd h (Nat.not_lt_zero _)
  | n + 1, a, b, h => by
    by_cases hb : b = 0
    · subst hb
      exact ⟨a, by simp, wloop_end (by simp [eqD, data_int, pyEq_int, FY.runB, FY.execs, FY.exec, FY.ev, FY.evL, FY.evAnd, FY.evOr, FY.R.bind, FY.R.to, FY.RS.seq, FY.liftO, FY.getV, FY.getRef, FY.opSem, FY.one, FY.two, FY.three, FY.addD, FY.subD, FY.fdivD, FY.modD, FY.mulD, FY.negD, FY.notD, FY.ordD, FY.ixD, FY.absD, FY.toInt, FY.lenD, FY.tru, FY.isiB, FY.clsOf, FY.subCl, FY.opEsc, FY.mkG, FY.mkH, FY.esc, FY.escL, FY.escEL, FY.escE, FY.frzE, FY.ownFree, FY.setPar, FY.isNone, FY.ixI, L2.ixN, FY.meOk, FY.tgSet, FY.tgsSet, FY.wipeE, FY.tgSlots, FY.tgsSlots, FY.itSem, FY.compA, FY.compLoop, FY.compF, FY.evTests, FY.R.noX, FY.intsOf, FY.blsOf, FY.blsF, FY.intsF, FY.slD, FY.intD, FY.tupleD, FY.listD])⟩
    · obtain ⟨g, h1, h2⟩ := common_loop st n b (a.fmod b) (by have := fmod_abs a b hb; omega)
      refine ⟨g, h1.trans (gcd_fmod a b), ?_⟩
      have hbf : (b == 0) = false := by simp [hb]
      exact (wloop_go (st1 := st) (by simp [eqD, data_int, pyEq_int, hb, hbf, FY.runB, FY.execs, FY.exec, FY.ev, FY.evL, FY.evAnd, FY.evOr, FY.R.bind, FY.R.to, FY.RS.seq, FY.liftO, FY.getV, FY.getRef, FY.opSem, FY.one, FY.two, FY.three, FY.addD, FY.subD, FY.fdivD, FY.modD, FY.mulD, FY.negD, FY.notD, FY.ordD, FY.ixD, FY.absD, FY.toInt, FY.lenD, FY.tru, FY.isiB, FY.clsOf, FY.subCl, FY.opEsc, FY.mkG, FY.mkH, FY.esc, FY.escL, FY.escEL, FY.escE, FY.frzE, FY.ownFree, FY.setPar, FY.isNone, FY.ixI, L2.ixN, FY.meOk, FY.tgSet, FY.tgsSet, FY.wipeE, FY.tgSlots, FY.tgsSlots, FY.itSem, FY.compA, FY.compLoop, FY.compF, FY.evTests, FY.R.noX, FY.intsOf, FY.blsOf, FY.blsF, FY.intsF, FY.slD, FY.intD, FY.tupleD, FY.listD]) (by simp [hb, FY.runB, FY.execs, FY.exec, FY.ev, FY.evL, FY.evAnd, FY.evOr, FY.R.bind, FY.R.to, FY.RS.seq, FY.liftO, FY.getV, FY.getRef, FY.opSem, FY.one, FY.two, FY.three, FY.addD, FY.subD, FY.fdivD, FY.modD, FY.mulD, FY.negD, FY.notD, FY.ordD, FY.ixD, FY.absD, FY.toInt, FY.lenD, FY.tru, FY.isiB, FY.clsOf, FY.subCl, FY.opEsc, FY.mkG, FY.mkH, FY.esc, FY.escL, FY.escEL, FY.escE, FY.frzE, FY.ownFree, FY.setPar, FY.isNone, FY.ixI, L2.ixN, FY.meOk, FY.tgSet, FY.tgsSet, FY.wipeE, FY.tgSlots, FY.tgsSlots, FY.itSem, FY.compA, FY.compLoop, FY.compF, FY.evTests, FY.R.noX, FY.intsOf, FY.blsOf, FY.blsF, FY.intsF, FY.slD, FY.intD, FY.tupleD, FY.listD])).trans h2
theorem common_ok (a b : Int) (st : Store) (h : b.natAbs < 1000000000000000000000000000000) : F_common [.int a, .int b] st = .ok (.int (a.gcd b)) st := by
  obtain ⟨g, h1, h2⟩ := common_loop st big a b h
  refine runB_rt [.val (.int a), .val (.int b)] rfl (execs_nx (exec_whl.trans h2) (execs_rt (exec_ret ?_)))
  have e : (if g < 0 then -g else g) = (a.gcd b : Int) := by
    rw [← h1]
    split <;> omega
  simp [FY.runB, FY.execs, FY.exec, FY.ev, FY.evL, FY.evAnd, FY.evOr, FY.R.bind, FY.R.to, FY.RS.seq, FY.liftO, FY.getV, FY.getRef, FY.opSem, FY.one, FY.two, FY.three, FY.addD, FY.subD, FY.fdivD, FY.modD, FY.mulD, FY.negD, FY.notD, FY.ordD, FY.ixD, FY.absD, FY.toInt, FY.lenD, FY.tru, FY.isiB, FY.clsOf, FY.subCl, FY.opEsc, FY.mkG, FY.mkH, FY.esc, FY.escL, FY.escEL, FY.escE, FY.frzE, FY.ownFree, FY.setPar, FY.isNone, FY.ixI, L2.ixN, FY.meOk, FY.tgSet, FY.tgsSet, FY.wipeE, FY.tgSlots, FY.tgsSlots, FY.itSem, FY.compA, FY.compLoop, FY.compF, FY.evTests, FY.R.noX, FY.intsOf, FY.blsOf, FY.blsF, FY.intsF, FY.slD, FY.intD, FY.tupleD, FY.listD, e]
def shr (x y : Int) : Int × Int := (x / (x.gcd y : Int), y / (x.gcd y : Int))
def P2 (p : Int × Int) : D := .tup [.int p.1, .int p.2]
theorem gpos (x : Int) {y : Int} (h : 0 < y) : 0 < (x.gcd y : Int) := by
  have := Int.gcd_pos_of_ne_zero_right x (show y ≠ 0 by omega)
  omega
theorem gle (x : Int) {y : Int} (h : 0 < y) : (x.gcd y : Int) ≤ y := Int.le_of_dvd h (Int.gcd_dvd_right ..)
theorem shr_pos (x : Int) {y : Int} (h : 0 < y) : 0 < (shr x y).2 ∧ (shr x y).2 ≤ y := by
  have g := gpos x h
  have hd : (x.gcd y : Int) ∣ y := Int.gcd_dvd_right ..
  obtain ⟨k, hk⟩ := hd
  unfold shr
  have e : y / (x.gcd y : Int) = k := by
    have q := Int.mul_ediv_cancel_left k (show (x.gcd y : Int) ≠ 0 by omega)
    rw [← hk] at q
    exact q
  simp only [e]
  constructor
  · rcases Int.lt_trichotomy k 0 with h1 | h1 | h1
    · have := Int.mul_neg_of_pos_of_neg g h1; omega
    · subst h1; simp at hk; omega
    · exact h1
  · have : 1 * k ≤ (x.gcd y : Int) * k := Int.mul_le_mul_of_nonneg_right (by omega) (by
      rcases Int.lt_trichotomy k 0 with h1 | h1 | h1
      · have := Int.mul_neg_of_pos_of_neg g h1; omega
      · omega
      · omega)
    omega
theorem share_ok (x y : Int) (st : Store) (h : 0 < y) (h2 : y < 1000000) : F_share [.int x, .int y] st = .ok (P2 (shr x y)) st := by
  have c := common_ok x y st (by omega)
  have g := gpos x h
  have gl := gle x h
  have dg := divB_s g (by omega)
  simp [F_share, b_share, G_share, c, h, dg, FY.runB, FY.execs, FY.exec, FY.ev, FY.evL, FY.evAnd, FY.evOr, FY.R.bind, FY.R.to, FY.RS.seq, FY.liftO, FY.getV, FY.getRef, FY.opSem, FY.one, FY.two, FY.three, FY.addD, FY.subD, FY.fdivD, FY.modD, FY.mulD, FY.negD, FY.notD, FY.ordD, FY.ixD, FY.absD, FY.toInt, FY.lenD, FY.tru, FY.isiB, FY.clsOf, FY.subCl, FY.opEsc, FY.mkG, FY.mkH, FY.esc, FY.escL, FY.escEL, FY.escE, FY.frzE, FY.ownFree, FY.setPar, FY.isNone, FY.ixI, L2.ixN, FY.meOk, FY.tgSet, FY.tgsSet, FY.wipeE, FY.tgSlots, FY.tgsSlots, FY.itSem, FY.compA, FY.compLoop, FY.compF, FY.evTests, FY.R.noX, FY.intsOf, FY.blsOf, FY.blsF, FY.intsF, FY.slD, FY.intD, FY.tupleD, FY.listD, P2, shr]
  rw [Int.fdiv_eq_ediv_of_nonneg _ (by omega), Int.fdiv_eq_ediv_of_nonneg _ (by omega)]
  exact ⟨rfl, rfl⟩
theorem lshare_loop (st : Store) (x y : Int) : ∀ (n : Nat) (a b : Int), 0 ≤ a → 0 ≤ b → b.natAbs < n → wloop (ev G__law_share (.op .gt [(.var 3), (.cst (.int 0))])) (execs G__law_share [(.par [(2, false), (3, false)] [(.var 3), (.op .mod [(.op .int [(.var 2)]), (.var 3)])])]) n [.val (.int x), .val (.int y), .val (.int a), .val (.int b)] st = .nx [.val (.int x), .val (.int y), .val (.int (a.gcd b)), .val (.int 0)] st
  | 0, a, b, _, _, h => absurd h (Nat.not_lt_zero _)
  | n + 1, a, b, ha, h0, h => by
    by_cases hb : b = 0
    · subst hb
      have e : ((a.gcd 0 : Nat) : Int) = a := by rw [Int.gcd_zero_right]; omega
      rw [e]
      exact wloop_end (by simp [FY.runB, FY.execs, FY.exec, FY.ev, FY.evL, FY.evAnd, FY.evOr, FY.R.bind, FY.R.to, FY.RS.seq, FY.liftO, FY.getV, FY.getRef, FY.opSem, FY.one, FY.two, FY.three, FY.addD, FY.subD, FY.fdivD, FY.modD, FY.mulD, FY.negD, FY.notD, FY.ordD, FY.ixD, FY.absD, FY.toInt, FY.lenD, FY.tru, FY.isiB, FY.clsOf, FY.subCl, FY.opEsc, FY.mkG, FY.mkH, FY.esc, FY.escL, FY.escEL, FY.escE, FY.frzE, FY.ownFree, FY.setPar, FY.isNone, FY.ixI, L2.ixN, FY.meOk, FY.tgSet, FY.tgsSet, FY.wipeE, FY.tgSlots, FY.tgsSlots, FY.itSem, FY.compA, FY.compLoop, FY.compF, FY.evTests, FY.R.noX, FY.intsOf, FY.blsOf, FY.blsF, FY.intsF, FY.slD, FY.intD, FY.tupleD, FY.listD])
    · have hp : 0 < b := by omega
      have ih := lshare_loop st x y n b (a.fmod b) h0 (Int.fmod_nonneg_of_pos _ hp) (by have := fmod_abs a b hb; omega)
      rw [gcd_fmod] at ih
      exact (wloop_go (st1 := st) (by simp [hp, FY.runB, FY.execs, FY.exec, FY.ev, FY.evL, FY.evAnd, FY.evOr, FY.R.bind, FY.R.to, FY.RS.seq, FY.liftO, FY.getV, FY.getRef, FY.opSem, FY.one, FY.two, FY.three, FY.addD, FY.subD, FY.fdivD, FY.modD, FY.mulD, FY.negD, FY.notD, FY.ordD, FY.ixD, FY.absD, FY.toInt, FY.lenD, FY.tru, FY.isiB, FY.clsOf, FY.subCl, FY.opEsc, FY.mkG, FY.mkH, FY.esc, FY.escL, FY.escEL, FY.escE, FY.frzE, FY.ownFree, FY.setPar, FY.isNone, FY.ixI, L2.ixN, FY.meOk, FY.tgSet, FY.tgsSet, FY.wipeE, FY.tgSlots, FY.tgsSlots, FY.itSem, FY.compA, FY.compLoop, FY.compF, FY.evTests, FY.R.noX, FY.intsOf, FY.blsOf, FY.blsF, FY.intsF, FY.slD, FY.intD, FY.tupleD, FY.listD]) (by simp [hb, FY.runB, FY.execs, FY.exec, FY.ev, FY.evL, FY.evAnd, FY.evOr, FY.R.bind, FY.R.to, FY.RS.seq, FY.liftO, FY.getV, FY.getRef, FY.opSem, FY.one, FY.two, FY.three, FY.addD, FY.subD, FY.fdivD, FY.modD, FY.mulD, FY.negD, FY.notD, FY.ordD, FY.ixD, FY.absD, FY.toInt, FY.lenD, FY.tru, FY.isiB, FY.clsOf, FY.subCl, FY.opEsc, FY.mkG, FY.mkH, FY.esc, FY.escL, FY.escEL, FY.escE, FY.frzE, FY.ownFree, FY.setPar, FY.isNone, FY.ixI, L2.ixN, FY.meOk, FY.tgSet, FY.tgsSet, FY.wipeE, FY.tgSlots, FY.tgsSlots, FY.itSem, FY.compA, FY.compLoop, FY.compF, FY.evTests, FY.R.noX, FY.intsOf, FY.blsOf, FY.blsF, FY.intsF, FY.slD, FY.intD, FY.tupleD, FY.listD])).trans ih
theorem lshare_ok (x y : Int) (st : Store) (hx : 0 ≤ x) (h : 0 < y) (h2 : y < 1000000) : F__law_share [.int x, .int y] st = .ok (P2 (shr x y)) st := by
  have l := lshare_loop st x y big x y hx (by omega) (by unfold big; omega)
  have g := gpos x h
  have gl := gle x h
  have dg := divB_s g (by omega)
  have hn : ¬ x < 0 := by omega
  refine runB_rt [.val (.int x), .val (.int y), .none, .none] rfl (execs_nx (env1 := [.val (.int x), .val (.int y), .val (.int x), .val (.int y)]) (st1 := st) (by simp [hn, FY.runB, FY.execs, FY.exec, FY.ev, FY.evL, FY.evAnd, FY.evOr, FY.R.bind, FY.R.to, FY.RS.seq, FY.liftO, FY.getV, FY.getRef, FY.opSem, FY.one, FY.two, FY.three, FY.addD, FY.subD, FY.fdivD, FY.modD, FY.mulD, FY.negD, FY.notD, FY.ordD, FY.ixD, FY.absD, FY.toInt, FY.lenD, FY.tru, FY.isiB, FY.clsOf, FY.subCl, FY.opEsc, FY.mkG, FY.mkH, FY.esc, FY.escL, FY.escEL, FY.escE, FY.frzE, FY.ownFree, FY.setPar, FY.isNone, FY.ixI, L2.ixN, FY.meOk, FY.tgSet, FY.tgsSet, FY.wipeE, FY.tgSlots, FY.tgsSlots, FY.itSem, FY.compA, FY.compLoop, FY.compF, FY.evTests, FY.R.noX, FY.intsOf, FY.blsOf, FY.blsF, FY.intsF, FY.slD, FY.intD, FY.tupleD, FY.listD]) (execs_nx (exec_whl.trans l) (execs_rt (exec_ret ?_))))
  simp [dg, FY.runB, FY.execs, FY.exec, FY.ev, FY.evL, FY.evAnd, FY.evOr, FY.R.bind, FY.R.to, FY.RS.seq, FY.liftO, FY.getV, FY.getRef, FY.opSem, FY.one, FY.two, FY.three, FY.addD, FY.subD, FY.fdivD, FY.modD, FY.mulD, FY.negD, FY.notD, FY.ordD, FY.ixD, FY.absD, FY.toInt, FY.lenD, FY.tru, FY.isiB, FY.clsOf, FY.subCl, FY.opEsc, FY.mkG, FY.mkH, FY.esc, FY.escL, FY.escEL, FY.escE, FY.frzE, FY.ownFree, FY.setPar, FY.isNone, FY.ixI, L2.ixN, FY.meOk, FY.tgSet, FY.tgsSet, FY.wipeE, FY.tgSlots, FY.tgsSlots, FY.itSem, FY.compA, FY.compLoop, FY.compF, FY.evTests, FY.R.noX, FY.intsOf, FY.blsOf, FY.blsF, FY.intsF, FY.slD, FY.intD, FY.tupleD, FY.listD, P2, shr]
  rw [Int.fdiv_eq_ediv_of_nonneg _ (by omega), Int.fdiv_eq_ediv_of_nonneg _ (by omega)]
  exact ⟨rfl, rfl⟩
theorem lcommon_loop (st : Store) : ∀ (n : Nat) (a b : Int), 0 ≤ a → 0 ≤ b → b.natAbs < n → wloop (ev G__law_common (.op .gt [(.var 1), (.cst (.int 0))])) (execs G__law_common [(.par [(0, false), (1, false)] [(.var 1), (.op .mod [(.op .int [(.var 0)]), (.var 1)])])]) n [.val (.int a), .val (.int b)] st = .nx [.val (.int (a.gcd b)), .val (.int 0)] st
  | 0, a, b, _, _, h => absurd h (Nat.not_lt_zero _)
  | n + 1, a, b, ha, h0, h => by
    by_cases hb : b = 0
    · subst hb
      have e : ((a.gcd 0 : Nat) : Int) = a := by rw [Int.gcd_zero_right]; omega
      rw [e]
      exact wloop_end (by simp [FY.runB, FY.execs, FY.exec, FY.ev, FY.evL, FY.evAnd, FY.evOr, FY.R.bind, FY.R.to, FY.RS.seq, FY.liftO, FY.getV, FY.getRef, FY.opSem, FY.one, FY.two, FY.three, FY.addD, FY.subD, FY.fdivD, FY.modD, FY.mulD, FY.negD, FY.notD, FY.ordD, FY.ixD, FY.absD, FY.toInt, FY.lenD, FY.tru, FY.isiB, FY.clsOf, FY.subCl, FY.opEsc, FY.mkG, FY.mkH, FY.esc, FY.escL, FY.escEL, FY.escE, FY.frzE, FY.ownFree, FY.setPar, FY.isNone, FY.ixI, L2.ixN, FY.meOk, FY.tgSet, FY.tgsSet, FY.wipeE, FY.tgSlots, FY.tgsSlots, FY.itSem, FY.compA, FY.compLoop, FY.compF, FY.evTests, FY.R.noX, FY.intsOf, FY.blsOf, FY.blsF, FY.intsF, FY.slD, FY.intD, FY.tupleD, FY.listD])
    · have hp : 0 < b := by omega
      have ih := lcommon_loop st n b (a.fmod b) h0 (Int.fmod_nonneg_of_pos _ hp) (by have := fmod_abs a b hb; omega)
      rw [gcd_fmod] at ih
      exact (wloop_go (st1 := st) (by simp [hp, FY.runB, FY.execs, FY.exec, FY.ev, FY.evL, FY.evAnd, FY.evOr, FY.R.bind, FY.R.to, FY.RS.seq, FY.liftO, FY.getV, FY.getRef, FY.opSem, FY.one, FY.two, FY.three, FY.addD, FY.subD, FY.fdivD, FY.modD, FY.mulD, FY.negD, FY.notD, FY.ordD, FY.ixD, FY.absD, FY.toInt, FY.lenD, FY.tru, FY.isiB, FY.clsOf, FY.subCl, FY.opEsc, FY.mkG, FY.mkH, FY.esc, FY.escL, FY.escEL, FY.escE, FY.frzE, FY.ownFree, FY.setPar, FY.isNone, FY.ixI, L2.ixN, FY.meOk, FY.tgSet, FY.tgsSet, FY.wipeE, FY.tgSlots, FY.tgsSlots, FY.itSem, FY.compA, FY.compLoop, FY.compF, FY.evTests, FY.R.noX, FY.intsOf, FY.blsOf, FY.blsF, FY.intsF, FY.slD, FY.intD, FY.tupleD, FY.listD]) (by simp [hb, FY.runB, FY.execs, FY.exec, FY.ev, FY.evL, FY.evAnd, FY.evOr, FY.R.bind, FY.R.to, FY.RS.seq, FY.liftO, FY.getV, FY.getRef, FY.opSem, FY.one, FY.two, FY.three, FY.addD, FY.subD, FY.fdivD, FY.modD, FY.mulD, FY.negD, FY.notD, FY.ordD, FY.ixD, FY.absD, FY.toInt, FY.lenD, FY.tru, FY.isiB, FY.clsOf, FY.subCl, FY.opEsc, FY.mkG, FY.mkH, FY.esc, FY.escL, FY.escEL, FY.escE, FY.frzE, FY.ownFree, FY.setPar, FY.isNone, FY.ixI, L2.ixN, FY.meOk, FY.tgSet, FY.tgsSet, FY.wipeE, FY.tgSlots, FY.tgsSlots, FY.itSem, FY.compA, FY.compLoop, FY.compF, FY.evTests, FY.R.noX, FY.intsOf, FY.blsOf, FY.blsF, FY.intsF, FY.slD, FY.intD, FY.tupleD, FY.listD])).trans ih
theorem lcommon_ok (x y : Int) (st : Store) (hx : 0 ≤ x) (h : 0 ≤ y) (h2 : y < 1000000) : F__law_common [.int x, .int y] st = .ok (.int (x.gcd y)) st := by
  have l := lcommon_loop st big x y hx h (by unfold big; omega)
  exact runB_rt [.val (.int x), .val (.int y)] rfl (execs_nx (exec_whl.trans l) (execs_rt (exec_ret (by simp [FY.runB, FY.execs, FY.exec, FY.ev, FY.evL, FY.evAnd, FY.evOr, FY.R.bind, FY.R.to, FY.RS.seq, FY.liftO, FY.getV, FY.getRef, FY.opSem, FY.one, FY.two, FY.three, FY.addD, FY.subD, FY.fdivD, FY.modD, FY.mulD, FY.negD, FY.notD, FY.ordD, FY.ixD, FY.absD, FY.toInt, FY.lenD, FY.tru, FY.isiB, FY.clsOf, FY.subCl, FY.opEsc, FY.mkG, FY.mkH, FY.esc, FY.escL, FY.escEL, FY.escE, FY.frzE, FY.ownFree, FY.setPar, FY.isNone, FY.ixI, L2.ixN, FY.meOk, FY.tgSet, FY.tgsSet, FY.wipeE, FY.tgSlots, FY.tgsSlots, FY.itSem, FY.compA, FY.compLoop, FY.compF, FY.evTests, FY.R.noX, FY.intsOf, FY.blsOf, FY.blsF, FY.intsF, FY.slD, FY.intD, FY.tupleD, FY.listD]))))
theorem lpart_ok (x y : Int) (st : Store) (h : 0 < y) (h2 : y < 1000000) : F__law_part [.int x, .int y] st = .ok (P2 (shr (x % y) y)) st := by
  have e := lshare_ok (x % y) y st (Int.emod_nonneg _ (by omega)) h h2
  have f : x.fmod y = x % y := Int.fmod_eq_emod_of_nonneg _ (by omega)
  simp [F__law_part, b__law_part, G__law_part, f, e, show y ≠ 0 by omega, FY.runB, FY.execs, FY.exec, FY.ev, FY.evL, FY.evAnd, FY.evOr, FY.R.bind, FY.R.to, FY.RS.seq, FY.liftO, FY.getV, FY.getRef, FY.opSem, FY.one, FY.two, FY.three, FY.addD, FY.subD, FY.fdivD, FY.modD, FY.mulD, FY.negD, FY.notD, FY.ordD, FY.ixD, FY.absD, FY.toInt, FY.lenD, FY.tru, FY.isiB, FY.clsOf, FY.subCl, FY.opEsc, FY.mkG, FY.mkH, FY.esc, FY.escL, FY.escEL, FY.escE, FY.frzE, FY.ownFree, FY.setPar, FY.isNone, FY.ixI, L2.ixN, FY.meOk, FY.tgSet, FY.tgsSet, FY.wipeE, FY.tgSlots, FY.tgsSlots, FY.itSem, FY.compA, FY.compLoop, FY.compF, FY.evTests, FY.R.noX, FY.intsOf, FY.blsOf, FY.blsF, FY.intsF, FY.slD, FY.intD, FY.tupleD, FY.listD]
theorem part_ok (x y : Int) (st : Store) (h : 0 < y) (h2 : y < 1000000) : F_part_of [.tup [.int x, .int y]] st = .ok (P2 (shr (x % y) y)) st := by
  have e := share_ok (x % y) y st h h2
  have f : x.fmod y = x % y := Int.fmod_eq_emod_of_nonneg _ (by omega)
  simp [F_part_of, b_part_of, G_part_of, f, e, show y ≠ 0 by omega, FY.runB, FY.execs, FY.exec, FY.ev, FY.evL, FY.evAnd, FY.evOr, FY.R.bind, FY.R.to, FY.RS.seq, FY.liftO, FY.getV, FY.getRef, FY.opSem, FY.one, FY.two, FY.three, FY.addD, FY.subD, FY.fdivD, FY.modD, FY.mulD, FY.negD, FY.notD, FY.ordD, FY.ixD, FY.absD, FY.toInt, FY.lenD, FY.tru, FY.isiB, FY.clsOf, FY.subCl, FY.opEsc, FY.mkG, FY.mkH, FY.esc, FY.escL, FY.escEL, FY.escE, FY.frzE, FY.ownFree, FY.setPar, FY.isNone, FY.ixI, L2.ixN, FY.meOk, FY.tgSet, FY.tgsSet, FY.wipeE, FY.tgSlots, FY.tgsSlots, FY.itSem, FY.compA, FY.compLoop, FY.compF, FY.evTests, FY.R.noX, FY.intsOf, FY.blsOf, FY.blsF, FY.intsF, FY.slD, FY.intD, FY.tupleD, FY.listD]
theorem minus_ok (a b c d : Int) (st : Store) (m1 : mulB a d = true) (m2 : mulB c b = true) (m3 : mulB b d = true) (h : 0 < b * d) (h2 : b * d < 1000000) : F_minus [.tup [.int a, .int b], .tup [.int c, .int d]] st = .ok (P2 (shr (a * d - c * b) (b * d))) st := by
  have e := share_ok (a * d - c * b) (b * d) st h h2
  simp [F_minus, b_minus, G_minus, m1, m2, m3, e, FY.runB, FY.execs, FY.exec, FY.ev, FY.evL, FY.evAnd, FY.evOr, FY.R.bind, FY.R.to, FY.RS.seq, FY.liftO, FY.getV, FY.getRef, FY.opSem, FY.one, FY.two, FY.three, FY.addD, FY.subD, FY.fdivD, FY.modD, FY.mulD, FY.negD, FY.notD, FY.ordD, FY.ixD, FY.absD, FY.toInt, FY.lenD, FY.tru, FY.isiB, FY.clsOf, FY.subCl, FY.opEsc, FY.mkG, FY.mkH, FY.esc, FY.escL, FY.escEL, FY.escE, FY.frzE, FY.ownFree, FY.setPar, FY.isNone, FY.ixI, L2.ixN, FY.meOk, FY.tgSet, FY.tgsSet, FY.wipeE, FY.tgSlots, FY.tgsSlots, FY.itSem, FY.compA, FY.compLoop, FY.compF, FY.evTests, FY.R.noX, FY.intsOf, FY.blsOf, FY.blsF, FY.intsF, FY.slD, FY.intD, FY.tupleD, FY.listD]
theorem times_ok (a b c d : Int) (st : Store) (m1 : mulB a c = true) (m3 : mulB b d = true) (h : 0 < b * d) (h2 : b * d < 1000000) : F_times [.tup [.int a, .int b], .tup [.int c, .int d]] st = .ok (P2 (shr (a * c) (b * d))) st := by
  have e := share_ok (a * c) (b * d) st h h2
  simp [F_times, b_times, G_times, m1, m3, e, FY.runB, FY.execs, FY.exec, FY.ev, FY.evL, FY.evAnd, FY.evOr, FY.R.bind, FY.R.to, FY.RS.seq, FY.liftO, FY.getV, FY.getRef, FY.opSem, FY.one, FY.two, FY.three, FY.addD, FY.subD, FY.fdivD, FY.modD, FY.mulD, FY.negD, FY.notD, FY.ordD, FY.ixD, FY.absD, FY.toInt, FY.lenD, FY.tru, FY.isiB, FY.clsOf, FY.subCl, FY.opEsc, FY.mkG, FY.mkH, FY.esc, FY.escL, FY.escEL, FY.escE, FY.frzE, FY.ownFree, FY.setPar, FY.isNone, FY.ixI, L2.ixN, FY.meOk, FY.tgSet, FY.tgsSet, FY.wipeE, FY.tgSlots, FY.tgsSlots, FY.itSem, FY.compA, FY.compLoop, FY.compF, FY.evTests, FY.R.noX, FY.intsOf, FY.blsOf, FY.blsF, FY.intsF, FY.slD, FY.intD, FY.tupleD, FY.listD]
theorem over_ok (a b c d : Int) (st : Store) (m1 : mulB a d = true) (m3 : mulB b c = true) (h : 0 < b * c) (h2 : b * c < 1000000) : F_over [.tup [.int a, .int b], .tup [.int c, .int d]] st = .ok (P2 (shr (a * d) (b * c))) st := by
  have e := share_ok (a * d) (b * c) st h h2
  simp [F_over, b_over, G_over, m1, m3, e, FY.runB, FY.execs, FY.exec, FY.ev, FY.evL, FY.evAnd, FY.evOr, FY.R.bind, FY.R.to, FY.RS.seq, FY.liftO, FY.getV, FY.getRef, FY.opSem, FY.one, FY.two, FY.three, FY.addD, FY.subD, FY.fdivD, FY.modD, FY.mulD, FY.negD, FY.notD, FY.ordD, FY.ixD, FY.absD, FY.toInt, FY.lenD, FY.tru, FY.isiB, FY.clsOf, FY.subCl, FY.opEsc, FY.mkG, FY.mkH, FY.esc, FY.escL, FY.escEL, FY.escE, FY.frzE, FY.ownFree, FY.setPar, FY.isNone, FY.ixI, L2.ixN, FY.meOk, FY.tgSet, FY.tgsSet, FY.wipeE, FY.tgSlots, FY.tgsSlots, FY.itSem, FY.compA, FY.compLoop, FY.compF, FY.evTests, FY.R.noX, FY.intsOf, FY.blsOf, FY.blsF, FY.intsF, FY.slD, FY.intD, FY.tupleD, FY.listD]
end k69

end

section
set_option maxRecDepth 100000
set_option maxHeartbeats 4000000
namespace k69
open FY
theorem sized2 (x y : D) (st : Store) : F_is_sized [.tup [x, y], .int 2, .int 2] st = .ok (.bl true) st := by
  simp [F_is_sized, b_is_sized, G_is_sized, FY.runB, FY.execs, FY.exec, FY.ev, FY.evL, FY.evAnd, FY.evOr, FY.R.bind, FY.R.to, FY.RS.seq, FY.liftO, FY.getV, FY.getRef, FY.opSem, FY.one, FY.two, FY.three, FY.addD, FY.subD, FY.fdivD, FY.modD, FY.mulD, FY.negD, FY.notD, FY.ordD, FY.ixD, FY.absD, FY.toInt, FY.lenD, FY.tru, FY.isiB, FY.clsOf, FY.subCl, FY.opEsc, FY.mkG, FY.mkH, FY.esc, FY.escL, FY.escEL, FY.escE, FY.frzE, FY.ownFree, FY.setPar, FY.isNone, FY.ixI, L2.ixN, FY.meOk, FY.tgSet, FY.tgsSet, FY.wipeE, FY.tgSlots, FY.tgsSlots, FY.itSem, FY.compA, FY.compLoop, FY.compF, FY.evTests, FY.R.noX, FY.intsOf, FY.blsOf, FY.blsF, FY.intsF, FY.slD, FY.intD, FY.tupleD, FY.listD]
theorem share_pair (x y : Int) (st : Store) (h : y.natAbs < 1000000) : F_is_share [.tup [.int x, .int y]] st = .ok (.bl (decide (0 < y) && decide (x.gcd y = 1))) st := by
  have c := common_ok x y st (by omega)
  by_cases hy : 0 < y
  · have e : ((x.gcd y : Int) == 1) = decide (x.gcd y = 1) := by
      rw [Bool.eq_iff_iff]; simp; omega
    simp [F_is_share, b_is_share, G_is_share, sized2, is_integer_int, c, hy, szL, eqD, data_int, pyEq_int, e, FY.runB, FY.execs, FY.exec, FY.ev, FY.evL, FY.evAnd, FY.evOr, FY.R.bind, FY.R.to, FY.RS.seq, FY.liftO, FY.getV, FY.getRef, FY.opSem, FY.one, FY.two, FY.three, FY.addD, FY.subD, FY.fdivD, FY.modD, FY.mulD, FY.negD, FY.notD, FY.ordD, FY.ixD, FY.absD, FY.toInt, FY.lenD, FY.tru, FY.isiB, FY.clsOf, FY.subCl, FY.opEsc, FY.mkG, FY.mkH, FY.esc, FY.escL, FY.escEL, FY.escE, FY.frzE, FY.ownFree, FY.setPar, FY.isNone, FY.ixI, L2.ixN, FY.meOk, FY.tgSet, FY.tgsSet, FY.wipeE, FY.tgSlots, FY.tgsSlots, FY.itSem, FY.compA, FY.compLoop, FY.compF, FY.evTests, FY.R.noX, FY.intsOf, FY.blsOf, FY.blsF, FY.intsF, FY.slD, FY.intD, FY.tupleD, FY.listD]
  · simp [F_is_share, b_is_share, G_is_share, sized2, is_integer_int, hy, szL, FY.runB, FY.execs, FY.exec, FY.ev, FY.evL, FY.evAnd, FY.evOr, FY.R.bind, FY.R.to, FY.RS.seq, FY.liftO, FY.getV, FY.getRef, FY.opSem, FY.one, FY.two, FY.three, FY.addD, FY.subD, FY.fdivD, FY.modD, FY.mulD, FY.negD, FY.notD, FY.ordD, FY.ixD, FY.absD, FY.toInt, FY.lenD, FY.tru, FY.isiB, FY.clsOf, FY.subCl, FY.opEsc, FY.mkG, FY.mkH, FY.esc, FY.escL, FY.escEL, FY.escE, FY.frzE, FY.ownFree, FY.setPar, FY.isNone, FY.ixI, L2.ixN, FY.meOk, FY.tgSet, FY.tgsSet, FY.wipeE, FY.tgSlots, FY.tgsSlots, FY.itSem, FY.compA, FY.compLoop, FY.compF, FY.evTests, FY.R.noX, FY.intsOf, FY.blsOf, FY.blsF, FY.intsF, FY.slD, FY.intD, FY.tupleD, FY.listD]
theorem sized_no (d : D) (st : Store) (h : isiB d .tup = some false) : F_is_sized [d, .int 2, .int 2] st = .ok (.bl false) st := by
  have e : opSem (.isi .tup) [d] = some (.bl false) := by
    show (isiB d .tup).map D.bl = _
    rw [h]; rfl
  refine runB_rt [.val d, .val (.int 2), .val (.int 2)] rfl (execs_rt (exec_ret ?_))
  simp only [ev, evAnd, evL, getV, liftO, FY.R.bind, List.getElem?_cons_zero, e, tru]
theorem share_no (d : D) (st : Store) (h : isiB d .tup = some false) : F_is_share [d] st = .ok (.bl false) st := by
  have e := sized_no d st h
  simp [F_is_share, b_is_share, G_is_share, e, FY.runB, FY.execs, FY.exec, FY.ev, FY.evL, FY.evAnd, FY.evOr, FY.R.bind, FY.R.to, FY.RS.seq, FY.liftO, FY.getV, FY.getRef, FY.opSem, FY.one, FY.two, FY.three, FY.addD, FY.subD, FY.fdivD, FY.modD, FY.mulD, FY.negD, FY.notD, FY.ordD, FY.ixD, FY.absD, FY.toInt, FY.lenD, FY.tru, FY.isiB, FY.clsOf, FY.subCl, FY.opEsc, FY.mkG, FY.mkH, FY.esc, FY.escL, FY.escEL, FY.escE, FY.frzE, FY.ownFree, FY.setPar, FY.isNone, FY.ixI, L2.ixN, FY.meOk, FY.tgSet, FY.tgsSet, FY.wipeE, FY.tgSlots, FY.tgsSlots, FY.itSem, FY.compA, FY.compLoop, FY.compF, FY.evTests, FY.R.noX, FY.intsOf, FY.blsOf, FY.blsF, FY.intsF, FY.slD, FY.intD, FY.tupleD, FY.listD]
theorem check_ok (h u : Int) (st : Store) (h1 : 1 ≤ h) (h2 : h ≤ 12) (h3 : 0 ≤ u) (h4 : u ≤ 9) : F_check_horses [.int h, .int u] st = .ok .non st := by
  simp [F_check_horses, b_check_horses, G_check_horses, c_MOST_HORSES, c_MOST_UPS, is_within_int, h1, h2, h3, h4, FY.runB, FY.execs, FY.exec, FY.ev, FY.evL, FY.evAnd, FY.evOr, FY.R.bind, FY.R.to, FY.RS.seq, FY.liftO, FY.getV, FY.getRef, FY.opSem, FY.one, FY.two, FY.three, FY.addD, FY.subD, FY.fdivD, FY.modD, FY.mulD, FY.negD, FY.notD, FY.ordD, FY.ixD, FY.absD, FY.toInt, FY.lenD, FY.tru, FY.isiB, FY.clsOf, FY.subCl, FY.opEsc, FY.mkG, FY.mkH, FY.esc, FY.escL, FY.escEL, FY.escE, FY.frzE, FY.ownFree, FY.setPar, FY.isNone, FY.ixI, L2.ixN, FY.meOk, FY.tgSet, FY.tgsSet, FY.wipeE, FY.tgSlots, FY.tgsSlots, FY.itSem, FY.compA, FY.compLoop, FY.compF, FY.evTests, FY.R.noX, FY.intsOf, FY.blsOf, FY.blsF, FY.intsF, FY.slD, FY.intD, FY.tupleD, FY.listD]
theorem check_h (h u : D) (st : Store) (e : F_is_within [h, .int 1, .int 12] st = .ok (.bl false) st) : F_check_horses [h, u] st = .exc ⟨"NoHorses", []⟩ st := by
  simp [F_check_horses, b_check_horses, G_check_horses, c_MOST_HORSES, c_MOST_UPS, e, FY.runB, FY.execs, FY.exec, FY.ev, FY.evL, FY.evAnd, FY.evOr, FY.R.bind, FY.R.to, FY.RS.seq, FY.liftO, FY.getV, FY.getRef, FY.opSem, FY.one, FY.two, FY.three, FY.addD, FY.subD, FY.fdivD, FY.modD, FY.mulD, FY.negD, FY.notD, FY.ordD, FY.ixD, FY.absD, FY.toInt, FY.lenD, FY.tru, FY.isiB, FY.clsOf, FY.subCl, FY.opEsc, FY.mkG, FY.mkH, FY.esc, FY.escL, FY.escEL, FY.escE, FY.frzE, FY.ownFree, FY.setPar, FY.isNone, FY.ixI, L2.ixN, FY.meOk, FY.tgSet, FY.tgsSet, FY.wipeE, FY.tgSlots, FY.tgsSlots, FY.itSem, FY.compA, FY.compLoop, FY.compF, FY.evTests, FY.R.noX, FY.intsOf, FY.blsOf, FY.blsF, FY.intsF, FY.slD, FY.intD, FY.tupleD, FY.listD]
theorem check_u (h : Int) (u : D) (st : Store) (h1 : 1 ≤ h) (h2 : h ≤ 12) (e : F_is_within [u, .int 0, .int 9] st = .ok (.bl false) st) : F_check_horses [.int h, u] st = .exc ⟨"NoUps", []⟩ st := by
  simp [F_check_horses, b_check_horses, G_check_horses, c_MOST_HORSES, c_MOST_UPS, is_within_int, h1, h2, e, FY.runB, FY.execs, FY.exec, FY.ev, FY.evL, FY.evAnd, FY.evOr, FY.R.bind, FY.R.to, FY.RS.seq, FY.liftO, FY.getV, FY.getRef, FY.opSem, FY.one, FY.two, FY.three, FY.addD, FY.subD, FY.fdivD, FY.modD, FY.mulD, FY.negD, FY.notD, FY.ordD, FY.ixD, FY.absD, FY.toInt, FY.lenD, FY.tru, FY.isiB, FY.clsOf, FY.subCl, FY.opEsc, FY.mkG, FY.mkH, FY.esc, FY.escL, FY.escEL, FY.escE, FY.frzE, FY.ownFree, FY.setPar, FY.isNone, FY.ixI, L2.ixN, FY.meOk, FY.tgSet, FY.tgsSet, FY.wipeE, FY.tgSlots, FY.tgsSlots, FY.itSem, FY.compA, FY.compLoop, FY.compF, FY.evTests, FY.R.noX, FY.intsOf, FY.blsOf, FY.blsF, FY.intsF, FY.slD, FY.intD, FY.tupleD, FY.listD]
theorem within_no (d : D) (lo hi : D) (st : Store) (e : F_is_integer [d] st = .ok (.bl false) st) : F_is_within [d, lo, hi] st = .ok (.bl false) st := by
  simp [F_is_within, b_is_within, G_is_within, e, FY.runB, FY.execs, FY.exec, FY.ev, FY.evL, FY.evAnd, FY.evOr, FY.R.bind, FY.R.to, FY.RS.seq, FY.liftO, FY.getV, FY.getRef, FY.opSem, FY.one, FY.two, FY.three, FY.addD, FY.subD, FY.fdivD, FY.modD, FY.mulD, FY.negD, FY.notD, FY.ordD, FY.ixD, FY.absD, FY.toInt, FY.lenD, FY.tru, FY.isiB, FY.clsOf, FY.subCl, FY.opEsc, FY.mkG, FY.mkH, FY.esc, FY.escL, FY.escEL, FY.escE, FY.frzE, FY.ownFree, FY.setPar, FY.isNone, FY.ixI, L2.ixN, FY.meOk, FY.tgSet, FY.tgsSet, FY.wipeE, FY.tgSlots, FY.tgsSlots, FY.itSem, FY.compA, FY.compLoop, FY.compF, FY.evTests, FY.R.noX, FY.intsOf, FY.blsOf, FY.blsF, FY.intsF, FY.slD, FY.intD, FY.tupleD, FY.listD]
theorem integer_non (st : Store) : F_is_integer [.non] st = .ok (.bl false) st := by
  simp [F_is_integer, b_is_integer, G_is_integer, FY.runB, FY.execs, FY.exec, FY.ev, FY.evL, FY.evAnd, FY.evOr, FY.R.bind, FY.R.to, FY.RS.seq, FY.liftO, FY.getV, FY.getRef, FY.opSem, FY.one, FY.two, FY.three, FY.addD, FY.subD, FY.fdivD, FY.modD, FY.mulD, FY.negD, FY.notD, FY.ordD, FY.ixD, FY.absD, FY.toInt, FY.lenD, FY.tru, FY.isiB, FY.clsOf, FY.subCl, FY.opEsc, FY.mkG, FY.mkH, FY.esc, FY.escL, FY.escEL, FY.escE, FY.frzE, FY.ownFree, FY.setPar, FY.isNone, FY.ixI, L2.ixN, FY.meOk, FY.tgSet, FY.tgsSet, FY.wipeE, FY.tgSlots, FY.tgsSlots, FY.itSem, FY.compA, FY.compLoop, FY.compF, FY.evTests, FY.R.noX, FY.intsOf, FY.blsOf, FY.blsF, FY.intsF, FY.slD, FY.intD, FY.tupleD, FY.listD]
theorem integer_bl (b : Bool) (st : Store) : F_is_integer [.bl b] st = .ok (.bl false) st := by
  simp [F_is_integer, b_is_integer, G_is_integer, FY.runB, FY.execs, FY.exec, FY.ev, FY.evL, FY.evAnd, FY.evOr, FY.R.bind, FY.R.to, FY.RS.seq, FY.liftO, FY.getV, FY.getRef, FY.opSem, FY.one, FY.two, FY.three, FY.addD, FY.subD, FY.fdivD, FY.modD, FY.mulD, FY.negD, FY.notD, FY.ordD, FY.ixD, FY.absD, FY.toInt, FY.lenD, FY.tru, FY.isiB, FY.clsOf, FY.subCl, FY.opEsc, FY.mkG, FY.mkH, FY.esc, FY.escL, FY.escEL, FY.escE, FY.frzE, FY.ownFree, FY.setPar, FY.isNone, FY.ixI, L2.ixN, FY.meOk, FY.tgSet, FY.tgsSet, FY.wipeE, FY.tgSlots, FY.tgsSlots, FY.itSem, FY.compA, FY.compLoop, FY.compF, FY.evTests, FY.R.noX, FY.intsOf, FY.blsOf, FY.blsF, FY.intsF, FY.slD, FY.intD, FY.tupleD, FY.listD]
/-- what is no number within lo..hi, among the drawn -/
def NoInt (lo hi : Int) (d : D) : Prop := d = .non ∨ d = .bl true ∨ ∃ i, d = .int i ∧ ¬ (lo ≤ i ∧ i ≤ hi)
theorem NoInt.within {lo hi : Int} {d : D} (h : NoInt lo hi d) (st : Store) : F_is_within [d, .int lo, .int hi] st = .ok (.bl false) st := by
  rcases h with rfl | rfl | ⟨i, rfl, h⟩
  · exact within_no _ _ _ _ (integer_non st)
  · exact within_no _ _ _ _ (integer_bl _ st)
  · rw [is_within_int, decide_eq_false h]
/-- .. no share at or above nought -/
def NoShare (d : D) : Prop := isiB d .tup = some false ∨ ∃ x y : Int, d = .tup [.int x, .int y] ∧ y.natAbs < 1000000 ∧ (¬ (0 < y ∧ x.gcd y = 1) ∨ x < 0)
section
variable (h u horse : Int) (st : Store) (h1 : 1 ≤ h) (h2 : h ≤ 12) (h3 : 0 ≤ u) (h4 : u ≤ 9)
theorem stand_h (bad off last wrong : D) (e : NoInt 1 12 bad) : F_horse_stand [bad, off, last, wrong] st = .exc ⟨"NoHorses", []⟩ st := by
  have q := check_h bad off st (e.within st)
  simp [F_horse_stand, b_horse_stand, G_horse_stand, q, FY.runB, FY.execs, FY.exec, FY.ev, FY.evL, FY.evAnd, FY.evOr, FY.R.bind, FY.R.to, FY.RS.seq, FY.liftO, FY.getV, FY.getRef, FY.opSem, FY.one, FY.two, FY.three, FY.addD, FY.subD, FY.fdivD, FY.modD, FY.mulD, FY.negD, FY.notD, FY.ordD, FY.ixD, FY.absD, FY.toInt, FY.lenD, FY.tru, FY.isiB, FY.clsOf, FY.subCl, FY.opEsc, FY.mkG, FY.mkH, FY.esc, FY.escL, FY.escEL, FY.escE, FY.frzE, FY.ownFree, FY.setPar, FY.isNone, FY.ixI, L2.ixN, FY.meOk, FY.tgSet, FY.tgsSet, FY.wipeE, FY.tgSlots, FY.tgsSlots, FY.itSem, FY.compA, FY.compLoop, FY.compF, FY.evTests, FY.R.noX, FY.intsOf, FY.blsOf, FY.blsF, FY.intsF, FY.slD, FY.intD, FY.tupleD, FY.listD]
include h1 h2 in
theorem stand_u (off last wrong : D) (e : NoInt 0 9 off) : F_horse_stand [.int h, off, last, wrong] st = .exc ⟨"NoUps", []⟩ st := by
  have q := check_u h off st h1 h2 (e.within st)
  simp [F_horse_stand, b_horse_stand, G_horse_stand, q, FY.runB, FY.execs, FY.exec, FY.ev, FY.evL, FY.evAnd, FY.evOr, FY.R.bind, FY.R.to, FY.RS.seq, FY.liftO, FY.getV, FY.getRef, FY.opSem, FY.one, FY.two, FY.three, FY.addD, FY.subD, FY.fdivD, FY.modD, FY.mulD, FY.negD, FY.notD, FY.ordD, FY.ixD, FY.absD, FY.toInt, FY.lenD, FY.tru, FY.isiB, FY.clsOf, FY.subCl, FY.opEsc, FY.mkG, FY.mkH, FY.esc, FY.escL, FY.escEL, FY.escE, FY.frzE, FY.ownFree, FY.setPar, FY.isNone, FY.ixI, L2.ixN, FY.meOk, FY.tgSet, FY.tgsSet, FY.wipeE, FY.tgSlots, FY.tgsSlots, FY.itSem, FY.compA, FY.compLoop, FY.compF, FY.evTests, FY.R.noX, FY.intsOf, FY.blsOf, FY.blsF, FY.intsF, FY.slD, FY.intD, FY.tupleD, FY.listD]
include h1 h2 h3 h4 in
theorem stand_l (last wrong : D) (e : NoInt 0 (h - 1) last) : F_horse_stand [.int h, .int u, last, wrong] st = .exc ⟨"NoHorse", []⟩ st := by
  have q := check_ok h u st h1 h2 h3 h4
  have q2 := e.within st
  simp [F_horse_stand, b_horse_stand, G_horse_stand, q, q2, FY.runB, FY.execs, FY.exec, FY.ev, FY.evL, FY.evAnd, FY.evOr, FY.R.bind, FY.R.to, FY.RS.seq, FY.liftO, FY.getV, FY.getRef, FY.opSem, FY.one, FY.two, FY.three, FY.addD, FY.subD, FY.fdivD, FY.modD, FY.mulD, FY.negD, FY.notD, FY.ordD, FY.ixD, FY.absD, FY.toInt, FY.lenD, FY.tru, FY.isiB, FY.clsOf, FY.subCl, FY.opEsc, FY.mkG, FY.mkH, FY.esc, FY.escL, FY.escEL, FY.escE, FY.frzE, FY.ownFree, FY.setPar, FY.isNone, FY.ixI, L2.ixN, FY.meOk, FY.tgSet, FY.tgsSet, FY.wipeE, FY.tgSlots, FY.tgsSlots, FY.itSem, FY.compA, FY.compLoop, FY.compF, FY.evTests, FY.R.noX, FY.intsOf, FY.blsOf, FY.blsF, FY.intsF, FY.slD, FY.intD, FY.tupleD, FY.listD]
include h1 h2 h3 h4 in
theorem stand_w (wrong : D) (hh : 0 ≤ horse ∧ horse ≤ h - 1) (e : NoShare wrong) : F_horse_stand [.int h, .int u, .int horse, wrong] st = .exc ⟨"NoTurned", []⟩ st := by
  have q := check_ok h u st h1 h2 h3 h4
  rcases e with e | ⟨x, y, rfl, hy, e⟩
  · have q2 := share_no wrong st e
    simp [F_horse_stand, b_horse_stand, G_horse_stand, q, q2, is_within_int, hh.1, hh.2, FY.runB, FY.execs, FY.exec, FY.ev, FY.evL, FY.evAnd, FY.evOr, FY.R.bind, FY.R.to, FY.RS.seq, FY.liftO, FY.getV, FY.getRef, FY.opSem, FY.one, FY.two, FY.three, FY.addD, FY.subD, FY.fdivD, FY.modD, FY.mulD, FY.negD, FY.notD, FY.ordD, FY.ixD, FY.absD, FY.toInt, FY.lenD, FY.tru, FY.isiB, FY.clsOf, FY.subCl, FY.opEsc, FY.mkG, FY.mkH, FY.esc, FY.escL, FY.escEL, FY.escE, FY.frzE, FY.ownFree, FY.setPar, FY.isNone, FY.ixI, L2.ixN, FY.meOk, FY.tgSet, FY.tgsSet, FY.wipeE, FY.tgSlots, FY.tgsSlots, FY.itSem, FY.compA, FY.compLoop, FY.compF, FY.evTests, FY.R.noX, FY.intsOf, FY.blsOf, FY.blsF, FY.intsF, FY.slD, FY.intD, FY.tupleD, FY.listD]
  · have q2 := share_pair x y st hy
    by_cases z : 0 < y ∧ x.gcd y = 1
    · have hx : x < 0 := by rcases e with e | e; exact absurd z e; exact e
      simp [F_horse_stand, b_horse_stand, G_horse_stand, q, q2, is_within_int, hh.1, hh.2, z.1, z.2, hx, FY.runB, FY.execs, FY.exec, FY.ev, FY.evL, FY.evAnd, FY.evOr, FY.R.bind, FY.R.to, FY.RS.seq, FY.liftO, FY.getV, FY.getRef, FY.opSem, FY.one, FY.two, FY.three, FY.addD, FY.subD, FY.fdivD, FY.modD, FY.mulD, FY.negD, FY.notD, FY.ordD, FY.ixD, FY.absD, FY.toInt, FY.lenD, FY.tru, FY.isiB, FY.clsOf, FY.subCl, FY.opEsc, FY.mkG, FY.mkH, FY.esc, FY.escL, FY.escEL, FY.escE, FY.frzE, FY.ownFree, FY.setPar, FY.isNone, FY.ixI, L2.ixN, FY.meOk, FY.tgSet, FY.tgsSet, FY.wipeE, FY.tgSlots, FY.tgsSlots, FY.itSem, FY.compA, FY.compLoop, FY.compF, FY.evTests, FY.R.noX, FY.intsOf, FY.blsOf, FY.blsF, FY.intsF, FY.slD, FY.intD, FY.tupleD, FY.listD]
    · have z2 : (decide (0 < y) && decide (x.gcd y = 1)) = false := by simpa using z
      rw [z2] at q2
      simp [F_horse_stand, b_horse_stand, G_horse_stand, q, q2, is_within_int, hh.1, hh.2, FY.runB, FY.execs, FY.exec, FY.ev, FY.evL, FY.evAnd, FY.evOr, FY.R.bind, FY.R.to, FY.RS.seq, FY.liftO, FY.getV, FY.getRef, FY.opSem, FY.one, FY.two, FY.three, FY.addD, FY.subD, FY.fdivD, FY.modD, FY.mulD, FY.negD, FY.notD, FY.ordD, FY.ixD, FY.absD, FY.toInt, FY.lenD, FY.tru, FY.isiB, FY.clsOf, FY.subCl, FY.opEsc, FY.mkG, FY.mkH, FY.esc, FY.escL, FY.escEL, FY.escE, FY.frzE, FY.ownFree, FY.setPar, FY.isNone, FY.ixI, L2.ixN, FY.meOk, FY.tgSet, FY.tgsSet, FY.wipeE, FY.tgSlots, FY.tgsSlots, FY.itSem, FY.compA, FY.compLoop, FY.compF, FY.evTests, FY.R.noX, FY.intsOf, FY.blsOf, FY.blsF, FY.intsF, FY.slD, FY.intD, FY.tupleD, FY.listD]
end
end k69

end

section
set_option maxRecDepth 100000
set_option maxHeartbeats 4000000
namespace k69
open FY
theorem shr_scale (k x y : Int) (hk : 0 < k) (hy : 0 < y) : shr (k * x) (k * y) = shr x y := by
  have g := gpos x hy
  have e : ((k * x).gcd (k * y) : Int) = k * (x.gcd y : Int) := by
    rw [Int.gcd_mul_left]
    have : (k.natAbs : Int) = k := by omega
    rw [Int.natCast_mul, this]
  unfold shr
  rw [e, Int.mul_ediv_mul_of_pos _ _ hk, Int.mul_ediv_mul_of_pos _ _ hk]
theorem shr_un (x : Int) {y : Int} (h : 0 < y) : ∃ g : Int, 0 < g ∧ x = g * (shr x y).1 ∧ y = g * (shr x y).2 ∧ (shr x y).1.gcd (shr x y).2 = 1 := by
  have g := gpos x h
  refine ⟨x.gcd y, g, ?_, ?_, ?_⟩
  · exact (Int.mul_ediv_cancel' (Int.gcd_dvd_left ..)).symm
  · exact (Int.mul_ediv_cancel' (Int.gcd_dvd_right ..)).symm
  · exact Int.gcd_ediv_gcd_ediv_gcd (by omega)
/-- the part of a turn, of a reduced share -/
theorem part_shr (x y : Int) (h : 0 < y) : shr ((shr x y).1 % (shr x y).2) (shr x y).2 = shr (x % y) y := by
  obtain ⟨g, hg, e1, e2, _⟩ := shr_un x h
  have p := (shr_pos x h).1
  generalize (shr x y).1 = a at e1 ⊢
  generalize (shr x y).2 = b at e2 p ⊢
  subst e1 e2
  rw [Int.mul_emod_mul_of_pos _ _ hg, shr_scale _ _ _ hg p]
theorem mod_scale (k x y : Int) (hk : 0 < k) (h : 0 < y) : shr ((k * x) % (k * y)) (k * y) = shr (x % y) y := by
  rw [Int.mul_emod_mul_of_pos _ _ hk, shr_scale _ _ _ hk h]
/-- the first part of horse_stand -/
def hs (h horse t b : Int) : Int × Int := shr ((horse * b + t * h) % (h * b)) (h * b)
theorem hs_is (h horse t b : Int) (hh : 0 < h) (hb : 0 < b) : shr ((shr (t * (shr (0 - horse) h).2 - (shr (0 - horse) h).1 * b) (b * (shr (0 - horse) h).2)).1 % (shr (t * (shr (0 - horse) h).2 - (shr (0 - horse) h).1 * b) (b * (shr (0 - horse) h).2)).2) (shr (t * (shr (0 - horse) h).2 - (shr (0 - horse) h).1 * b) (b * (shr (0 - horse) h).2)).2 = hs h horse t b := by
  obtain ⟨g, hg, e1, e2, _⟩ := shr_un (0 - horse) hh
  have p := (shr_pos (0 - horse) hh).1
  generalize (shr (0 - horse) h).1 = a at e1 ⊢
  generalize (shr (0 - horse) h).2 = c at e2 p ⊢
  have bc : 0 < b * c := Int.mul_pos hb p
  rw [part_shr _ _ bc]
  unfold hs
  have h1 : horse * b + t * h = g * (t * c - a * b) := by
    have : horse = -(g * a) := by omega
    rw [this, e2]; grind
  have h2 : h * b = g * (b * c) := by rw [e2]; grind
  rw [h1, h2, mod_scale _ _ _ hg bc]
theorem mb {i j : Int} (h : -1000000 < i) (h2 : i < 1000000) : mulB i j = true := mulB_l (by omega)
theorem shr_abs (x : Int) {y : Int} (h : 0 < y) (B : Int) (h1 : -B < x) (h2 : x < B) : -B < (shr x y).1 ∧ (shr x y).1 < B := by
  obtain ⟨g, hg, e1, _, _⟩ := shr_un x h
  generalize (shr x y).1 = a at e1 ⊢
  constructor
  · by_cases z : a < 0
    · have : g * a ≤ 1 * a := Int.mul_le_mul_of_nonpos_right (by omega) (by omega)
      omega
    · omega
  · by_cases z : 0 < a
    · have : 1 * a ≤ g * a := Int.mul_le_mul_of_nonneg_right (by omega) (by omega)
      omega
    · omega
section
variable (h u horse t b : Int) (st : Store) (h1 : 1 ≤ h) (h2 : h ≤ 12) (h3 : 0 ≤ u) (h4 : u ≤ 9)
include h1 h2 h3 h4 in
theorem stand_ok (hh : 0 ≤ horse ∧ horse ≤ h - 1) (ht : 0 ≤ t ∧ t < 1000) (hb : 0 < b ∧ b ≤ 1000) (hg : t.gcd b = 1) : F_horse_stand [.int h, .int u, .int horse, .tup [.int t, .int b]] st = .ok (.tup [P2 (hs h horse t b), P2 (shr ((u * t) % b) b)]) st := by
  have q := check_ok h u st h1 h2 h3 h4
  have q2 := share_pair t b st (by omega)
  rw [hg] at q2
  have q3 := share_ok (0 - horse) h st (by omega) (by omega)
  have p := shr_pos (0 - horse) (show 0 < h by omega)
  have a := shr_abs (0 - horse) (show 0 < h by omega) 1000 (by omega) (by omega)
  have hn : ¬ t < 0 := by omega
  have bc : 0 < b * (shr (0 - horse) h).2 := Int.mul_pos hb.1 p.1
  have bc2 : b * (shr (0 - horse) h).2 < 1000000 := by
    have : b * (shr (0 - horse) h).2 ≤ 1000 * 12 := Int.mul_le_mul hb.2 (by omega) (by omega) (by omega)
    omega
  have q4 := minus_ok t b (shr (0 - horse) h).1 (shr (0 - horse) h).2 st (mb (by omega) (by omega)) (mb (by omega) (by omega)) (mb (by omega) (by omega)) bc bc2
  have pp := shr_pos (t * (shr (0 - horse) h).2 - (shr (0 - horse) h).1 * b) bc
  have q5 := part_ok (shr (t * (shr (0 - horse) h).2 - (shr (0 - horse) h).1 * b) (b * (shr (0 - horse) h).2)).1 _ st pp.1 (by omega)
  rw [hs_is h horse t b (by omega) hb.1] at q5
  have q6 := times_ok u 1 t b st (mb (by omega) (by omega)) (mb (by omega) (by omega)) (by omega) (by omega)
  have pq := shr_pos (u * t) (show 0 < 1 * b by omega)
  have q7 := part_ok (shr (u * t) (1 * b)).1 _ st pq.1 (by omega)
  rw [part_shr _ _ (by omega), Int.one_mul] at q7
  rw [Int.one_mul] at q6
  simp only [P2, Int.zero_sub] at q3 q4 q5 q6 q7
  simp [F_horse_stand, b_horse_stand, G_horse_stand, q, q2, is_within_int, hh.1, hh.2, hb.1, hn, q3, q4, q5, q6, q7, P2, FY.runB, FY.execs, FY.exec, FY.ev, FY.evL, FY.evAnd, FY.evOr, FY.R.bind, FY.R.to, FY.RS.seq, FY.liftO, FY.getV, FY.getRef, FY.opSem, FY.one, FY.two, FY.three, FY.addD, FY.subD, FY.fdivD, FY.modD, FY.mulD, FY.negD, FY.notD, FY.ordD, FY.ixD, FY.absD, FY.toInt, FY.lenD, FY.tru, FY.isiB, FY.clsOf, FY.subCl, FY.opEsc, FY.mkG, FY.mkH, FY.esc, FY.escL, FY.escEL, FY.escE, FY.frzE, FY.ownFree, FY.setPar, FY.isNone, FY.ixI, L2.ixN, FY.meOk, FY.tgSet, FY.tgsSet, FY.wipeE, FY.tgSlots, FY.tgsSlots, FY.itSem, FY.compA, FY.compLoop, FY.compF, FY.evTests, FY.R.noX, FY.intsOf, FY.blsOf, FY.blsF, FY.intsF, FY.slD, FY.intD, FY.tupleD, FY.listD]
include h1 h2 h3 h4 in
theorem meet_ok (ht : 0 ≤ t ∧ t < b) (hb : 0 < b ∧ b ≤ 1000) (hg : t.gcd b = 1) : F_meet_first [.int h, .int u, .tup [.int t, .int b]] st = .ok (P2 (shr ((h * t) % b) (h * b))) st := by
  have q := check_ok h u st h1 h2 h3 h4
  have q2 := share_pair t b st (by omega)
  rw [hg] at q2
  have hn : ¬ t < 0 := by omega
  have q3 := is_less_p t b 1 1 st (mb (by omega) (by omega)) (mb (by omega) (by omega))
  have q6 := times_ok h 1 t b st (mb (by omega) (by omega)) (mb (by omega) (by omega)) (by omega) (by omega)
  have pq := shr_pos (h * t) (show 0 < 1 * b by omega)
  have q7 := part_ok (shr (h * t) (1 * b)).1 _ st pq.1 (by omega)
  rw [part_shr _ _ (by omega), Int.one_mul] at q7
  rw [Int.one_mul] at q6
  have p8 := shr_pos (h * t % b) hb.1
  have a8 := shr_abs (h * t % b) hb.1 1001 (by have := Int.emod_nonneg (h * t) (show b ≠ 0 by omega); omega) (by have := Int.emod_lt_of_pos (h * t) hb.1; omega)
  have l8 : (shr (h * t % b) b).2 * h ≤ 1000 * 12 := Int.mul_le_mul (by omega) h2 (by omega) (by omega)
  have g8 : 0 < (shr (h * t % b) b).2 * h := Int.mul_pos p8.1 (by omega)
  have q8 := over_ok (shr (h * t % b) b).1 (shr (h * t % b) b).2 h 1 st (mb (by omega) (by omega)) (mb (by omega) (by omega)) g8 (by omega)
  have e8 : shr ((shr (h * t % b) b).1 * 1) ((shr (h * t % b) b).2 * h) = shr ((h * t) % b) (h * b) := by
    obtain ⟨g, hg, e1, e2, _⟩ := shr_un (h * t % b) hb.1
    generalize (shr (h * t % b) b).1 = x at e1 g8 ⊢
    generalize (shr (h * t % b) b).2 = y at e2 g8 ⊢
    rw [Int.mul_one, e1]
    have : h * b = g * (y * h) := by rw [e2]; grind
    rw [this, shr_scale _ _ _ hg g8]
  rw [e8] at q8
  simp only [P2] at q3 q6 q7 q8
  simp [F_meet_first, b_meet_first, G_meet_first, c_ONE, q, q2, hb.1, hn, q3, q6, q7, q8, P2, ht.2, FY.runB, FY.execs, FY.exec, FY.ev, FY.evL, FY.evAnd, FY.evOr, FY.R.bind, FY.R.to, FY.RS.seq, FY.liftO, FY.getV, FY.getRef, FY.opSem, FY.one, FY.two, FY.three, FY.addD, FY.subD, FY.fdivD, FY.modD, FY.mulD, FY.negD, FY.notD, FY.ordD, FY.ixD, FY.absD, FY.toInt, FY.lenD, FY.tru, FY.isiB, FY.clsOf, FY.subCl, FY.opEsc, FY.mkG, FY.mkH, FY.esc, FY.escL, FY.escEL, FY.escE, FY.frzE, FY.ownFree, FY.setPar, FY.isNone, FY.ixI, L2.ixN, FY.meOk, FY.tgSet, FY.tgsSet, FY.wipeE, FY.tgSlots, FY.tgsSlots, FY.itSem, FY.compA, FY.compLoop, FY.compF, FY.evTests, FY.R.noX, FY.intsOf, FY.blsOf, FY.blsF, FY.intsF, FY.slD, FY.intD, FY.tupleD, FY.listD]
include h1 h2 h3 h4 in
theorem same_ok : F_same_picture [.int h, .int u] st = .ok (.tup [.int 1, .int (h.gcd u)]) st := by
  have q := check_ok h u st h1 h2 h3 h4
  have c := common_ok h u st (by omega)
  simp [F_same_picture, b_same_picture, G_same_picture, q, c, FY.runB, FY.execs, FY.exec, FY.ev, FY.evL, FY.evAnd, FY.evOr, FY.R.bind, FY.R.to, FY.RS.seq, FY.liftO, FY.getV, FY.getRef, FY.opSem, FY.one, FY.two, FY.three, FY.addD, FY.subD, FY.fdivD, FY.modD, FY.mulD, FY.negD, FY.notD, FY.ordD, FY.ixD, FY.absD, FY.toInt, FY.lenD, FY.tru, FY.isiB, FY.clsOf, FY.subCl, FY.opEsc, FY.mkG, FY.mkH, FY.esc, FY.escL, FY.escEL, FY.escE, FY.frzE, FY.ownFree, FY.setPar, FY.isNone, FY.ixI, L2.ixN, FY.meOk, FY.tgSet, FY.tgsSet, FY.wipeE, FY.tgSlots, FY.tgsSlots, FY.itSem, FY.compA, FY.compLoop, FY.compF, FY.evTests, FY.R.noX, FY.intsOf, FY.blsOf, FY.blsF, FY.intsF, FY.slD, FY.intD, FY.tupleD, FY.listD]
end
theorem same_h (bad off : D) (st : Store) (e : NoInt 1 12 bad) : F_same_picture [bad, off] st = .exc ⟨"NoHorses", []⟩ st := by
  have q := check_h bad off st (e.within st)
  simp [F_same_picture, b_same_picture, G_same_picture, q, FY.runB, FY.execs, FY.exec, FY.ev, FY.evL, FY.evAnd, FY.evOr, FY.R.bind, FY.R.to, FY.RS.seq, FY.liftO, FY.getV, FY.getRef, FY.opSem, FY.one, FY.two, FY.three, FY.addD, FY.subD, FY.fdivD, FY.modD, FY.mulD, FY.negD, FY.notD, FY.ordD, FY.ixD, FY.absD, FY.toInt, FY.lenD, FY.tru, FY.isiB, FY.clsOf, FY.subCl, FY.opEsc, FY.mkG, FY.mkH, FY.esc, FY.escL, FY.escEL, FY.escE, FY.frzE, FY.ownFree, FY.setPar, FY.isNone, FY.ixI, L2.ixN, FY.meOk, FY.tgSet, FY.tgsSet, FY.wipeE, FY.tgSlots, FY.tgsSlots, FY.itSem, FY.compA, FY.compLoop, FY.compF, FY.evTests, FY.R.noX, FY.intsOf, FY.blsOf, FY.blsF, FY.intsF, FY.slD, FY.intD, FY.tupleD, FY.listD]
theorem same_u (h : Int) (off : D) (st : Store) (h1 : 1 ≤ h) (h2 : h ≤ 12) (e : NoInt 0 9 off) : F_same_picture [.int h, off] st = .exc ⟨"NoUps", []⟩ st := by
  have q := check_u h off st h1 h2 (e.within st)
  simp [F_same_picture, b_same_picture, G_same_picture, q, FY.runB, FY.execs, FY.exec, FY.ev, FY.evL, FY.evAnd, FY.evOr, FY.R.bind, FY.R.to, FY.RS.seq, FY.liftO, FY.getV, FY.getRef, FY.opSem, FY.one, FY.two, FY.three, FY.addD, FY.subD, FY.fdivD, FY.modD, FY.mulD, FY.negD, FY.notD, FY.ordD, FY.ixD, FY.absD, FY.toInt, FY.lenD, FY.tru, FY.isiB, FY.clsOf, FY.subCl, FY.opEsc, FY.mkG, FY.mkH, FY.esc, FY.escL, FY.escEL, FY.escE, FY.frzE, FY.ownFree, FY.setPar, FY.isNone, FY.ixI, L2.ixN, FY.meOk, FY.tgSet, FY.tgsSet, FY.wipeE, FY.tgSlots, FY.tgsSlots, FY.itSem, FY.compA, FY.compLoop, FY.compF, FY.evTests, FY.R.noX, FY.intsOf, FY.blsOf, FY.blsF, FY.intsF, FY.slD, FY.intD, FY.tupleD, FY.listD]
theorem meet_h (bad off odd : D) (st : Store) (e : NoInt 1 12 bad) : F_meet_first [bad, off, odd] st = .exc ⟨"NoHorses", []⟩ st := by
  have q := check_h bad off st (e.within st)
  simp [F_meet_first, b_meet_first, G_meet_first, q, FY.runB, FY.execs, FY.exec, FY.ev, FY.evL, FY.evAnd, FY.evOr, FY.R.bind, FY.R.to, FY.RS.seq, FY.liftO, FY.getV, FY.getRef, FY.opSem, FY.one, FY.two, FY.three, FY.addD, FY.subD, FY.fdivD, FY.modD, FY.mulD, FY.negD, FY.notD, FY.ordD, FY.ixD, FY.absD, FY.toInt, FY.lenD, FY.tru, FY.isiB, FY.clsOf, FY.subCl, FY.opEsc, FY.mkG, FY.mkH, FY.esc, FY.escL, FY.escEL, FY.escE, FY.frzE, FY.ownFree, FY.setPar, FY.isNone, FY.ixI, L2.ixN, FY.meOk, FY.tgSet, FY.tgsSet, FY.wipeE, FY.tgSlots, FY.tgsSlots, FY.itSem, FY.compA, FY.compLoop, FY.compF, FY.evTests, FY.R.noX, FY.intsOf, FY.blsOf, FY.blsF, FY.intsF, FY.slD, FY.intD, FY.tupleD, FY.listD]
theorem meet_u (h : Int) (off odd : D) (st : Store) (h1 : 1 ≤ h) (h2 : h ≤ 12) (e : NoInt 0 9 off) : F_meet_first [.int h, off, odd] st = .exc ⟨"NoUps", []⟩ st := by
  have q := check_u h off st h1 h2 (e.within st)
  simp [F_meet_first, b_meet_first, G_meet_first, q, FY.runB, FY.execs, FY.exec, FY.ev, FY.evL, FY.evAnd, FY.evOr, FY.R.bind, FY.R.to, FY.RS.seq, FY.liftO, FY.getV, FY.getRef, FY.opSem, FY.one, FY.two, FY.three, FY.addD, FY.subD, FY.fdivD, FY.modD, FY.mulD, FY.negD, FY.notD, FY.ordD, FY.ixD, FY.absD, FY.toInt, FY.lenD, FY.tru, FY.isiB, FY.clsOf, FY.subCl, FY.opEsc, FY.mkG, FY.mkH, FY.esc, FY.escL, FY.escEL, FY.escE, FY.frzE, FY.ownFree, FY.setPar, FY.isNone, FY.ixI, L2.ixN, FY.meOk, FY.tgSet, FY.tgsSet, FY.wipeE, FY.tgSlots, FY.tgsSlots, FY.itSem, FY.compA, FY.compLoop, FY.compF, FY.evTests, FY.R.noX, FY.intsOf, FY.blsOf, FY.blsF, FY.intsF, FY.slD, FY.intD, FY.tupleD, FY.listD]
/-- no share below one, at or above nought -/
def NoPart (d : D) : Prop := isiB d .tup = some false ∨ ∃ x y : Int, d = .tup [.int x, .int y] ∧ -1000 < x ∧ x < 1000 ∧ -1000 < y ∧ y < 1000 ∧ (¬ (0 < y ∧ x.gcd y = 1) ∨ x < 0 ∨ y ≤ x)
theorem meet_w (h u : Int) (odd : D) (st : Store) (h1 : 1 ≤ h) (h2 : h ≤ 12) (h3 : 0 ≤ u) (h4 : u ≤ 9) (e : NoPart odd) : F_meet_first [.int h, .int u, odd] st = .exc ⟨"NoStand", []⟩ st := by
  have q := check_ok h u st h1 h2 h3 h4
  rcases e with e | ⟨x, y, rfl, hx, hx2, hy, hy2, e⟩
  · have q2 := share_no odd st e
    simp [F_meet_first, b_meet_first, G_meet_first, c_ONE, q, q2, FY.runB, FY.execs, FY.exec, FY.ev, FY.evL, FY.evAnd, FY.evOr, FY.R.bind, FY.R.to, FY.RS.seq, FY.liftO, FY.getV, FY.getRef, FY.opSem, FY.one, FY.two, FY.three, FY.addD, FY.subD, FY.fdivD, FY.modD, FY.mulD, FY.negD, FY.notD, FY.ordD, FY.ixD, FY.absD, FY.toInt, FY.lenD, FY.tru, FY.isiB, FY.clsOf, FY.subCl, FY.opEsc, FY.mkG, FY.mkH, FY.esc, FY.escL, FY.escEL, FY.escE, FY.frzE, FY.ownFree, FY.setPar, FY.isNone, FY.ixI, L2.ixN, FY.meOk, FY.tgSet, FY.tgsSet, FY.wipeE, FY.tgSlots, FY.tgsSlots, FY.itSem, FY.compA, FY.compLoop, FY.compF, FY.evTests, FY.R.noX, FY.intsOf, FY.blsOf, FY.blsF, FY.intsF, FY.slD, FY.intD, FY.tupleD, FY.listD]
  · have q2 := share_pair x y st (by omega)
    by_cases z : 0 < y ∧ x.gcd y = 1
    · have q3 := is_less_p x y 1 1 st (mb (by omega) (by omega)) (mb (by omega) (by omega))
      by_cases n : x < 0
      · simp [F_meet_first, b_meet_first, G_meet_first, c_ONE, q, q2, z.1, z.2, n, FY.runB, FY.execs, FY.exec, FY.ev, FY.evL, FY.evAnd, FY.evOr, FY.R.bind, FY.R.to, FY.RS.seq, FY.liftO, FY.getV, FY.getRef, FY.opSem, FY.one, FY.two, FY.three, FY.addD, FY.subD, FY.fdivD, FY.modD, FY.mulD, FY.negD, FY.notD, FY.ordD, FY.ixD, FY.absD, FY.toInt, FY.lenD, FY.tru, FY.isiB, FY.clsOf, FY.subCl, FY.opEsc, FY.mkG, FY.mkH, FY.esc, FY.escL, FY.escEL, FY.escE, FY.frzE, FY.ownFree, FY.setPar, FY.isNone, FY.ixI, L2.ixN, FY.meOk, FY.tgSet, FY.tgsSet, FY.wipeE, FY.tgSlots, FY.tgsSlots, FY.itSem, FY.compA, FY.compLoop, FY.compF, FY.evTests, FY.R.noX, FY.intsOf, FY.blsOf, FY.blsF, FY.intsF, FY.slD, FY.intD, FY.tupleD, FY.listD]
      · have hl : ¬ x < y := by rcases e with e | e | e; exact absurd z e; exact absurd e n; omega
        simp [F_meet_first, b_meet_first, G_meet_first, c_ONE, q, q2, z.1, z.2, n, q3, hl, FY.runB, FY.execs, FY.exec, FY.ev, FY.evL, FY.evAnd, FY.evOr, FY.R.bind, FY.R.to, FY.RS.seq, FY.liftO, FY.getV, FY.getRef, FY.opSem, FY.one, FY.two, FY.three, FY.addD, FY.subD, FY.fdivD, FY.modD, FY.mulD, FY.negD, FY.notD, FY.ordD, FY.ixD, FY.absD, FY.toInt, FY.lenD, FY.tru, FY.isiB, FY.clsOf, FY.subCl, FY.opEsc, FY.mkG, FY.mkH, FY.esc, FY.escL, FY.escEL, FY.escE, FY.frzE, FY.ownFree, FY.setPar, FY.isNone, FY.ixI, L2.ixN, FY.meOk, FY.tgSet, FY.tgsSet, FY.wipeE, FY.tgSlots, FY.tgsSlots, FY.itSem, FY.compA, FY.compLoop, FY.compF, FY.evTests, FY.R.noX, FY.intsOf, FY.blsOf, FY.blsF, FY.intsF, FY.slD, FY.intD, FY.tupleD, FY.listD]
    · have z2 : (decide (0 < y) && decide (x.gcd y = 1)) = false := by simpa using z
      rw [z2] at q2
      simp [F_meet_first, b_meet_first, G_meet_first, c_ONE, q, q2, FY.runB, FY.execs, FY.exec, FY.ev, FY.evL, FY.evAnd, FY.evOr, FY.R.bind, FY.R.to, FY.RS.seq, FY.liftO, FY.getV, FY.getRef, FY.opSem, FY.one, FY.two, FY.three, FY.addD, FY.subD, FY.fdivD, FY.modD, FY.mulD, FY.negD, FY.notD, FY.ordD, FY.ixD, FY.absD, FY.toInt, FY.lenD, FY.tru, FY.isiB, FY.clsOf, FY.subCl, FY.opEsc, FY.mkG, FY.mkH, FY.esc, FY.escL, FY.escEL, FY.escE, FY.frzE, FY.ownFree, FY.setPar, FY.isNone, FY.ixI, L2.ixN, FY.meOk, FY.tgSet, FY.tgsSet, FY.wipeE, FY.tgSlots, FY.tgsSlots, FY.itSem, FY.compA, FY.compLoop, FY.compF, FY.evTests, FY.R.noX, FY.intsOf, FY.blsOf, FY.blsF, FY.intsF, FY.slD, FY.intD, FY.tupleD, FY.listD]
end k69

end

section
set_option maxRecDepth 100000
set_option maxHeartbeats 4000000
namespace k69
open FY
/-! the law's own -/
theorem abs_ok (n : Int) : (if n < 0 then -n else n) = (n.natAbs : Int) := by split <;> omega
theorem hand_ok (ns : List Int) (st : Store) (h : ns.length ≤ 63) : ∃ c, F__law_hand [.scr (ns.map D.int)] st = .ok (.ref st.length) (st ++ [c]) ∧ HandC c := by
  have hm : ∀ st, compLoop (compF (.nm 2) [.val (.scr (ns.map D.int)), .none, .none] (evTests G__law_hand []) (ev G__law_hand (.op .abs [(.op .int [(.var 2)])]))) (ns.map D.int) st = .ok ((ns.map fun n => (n.natAbs : Int)).map D.int) st := fun st => by
    have e := compLoop_map (f := compF (.nm 2) [.val (.scr (ns.map D.int)), .none, .none] (evTests G__law_hand []) (ev G__law_hand (.op .abs [(.op .int [(.var 2)])]))) (st := st) (g := fun d => match d with | .int n => .int n.natAbs | d => d) (its := ns.map D.int) (fun x hx => by
      obtain ⟨n, _, rfl⟩ := List.mem_map.mp hx
      simp [abs_ok, FY.runB, FY.execs, FY.exec, FY.ev, FY.evL, FY.evAnd, FY.evOr, FY.R.bind, FY.R.to, FY.RS.seq, FY.liftO, FY.getV, FY.getRef, FY.opSem, FY.one, FY.two, FY.three, FY.addD, FY.subD, FY.fdivD, FY.modD, FY.mulD, FY.negD, FY.notD, FY.ordD, FY.ixD, FY.absD, FY.toInt, FY.lenD, FY.tru, FY.isiB, FY.clsOf, FY.subCl, FY.opEsc, FY.mkG, FY.mkH, FY.esc, FY.escL, FY.escEL, FY.escE, FY.frzE, FY.ownFree, FY.setPar, FY.isNone, FY.ixI, L2.ixN, FY.meOk, FY.tgSet, FY.tgsSet, FY.wipeE, FY.tgSlots, FY.tgsSlots, FY.itSem, FY.compA, FY.compLoop, FY.compF, FY.evTests, FY.R.noX, FY.intsOf, FY.blsOf, FY.blsF, FY.intsF, FY.slD, FY.intD, FY.tupleD, FY.listD])
    rw [e, List.map_map, List.map_map]
    rfl
  have e1 : ev G__law_hand (.comp (.nm 2) .val [(.op .sl0 [(.var 0), (.cst (.int 63))])] [] (.op .abs [(.op .int [(.var 2)])])) [.val (.scr (ns.map D.int)), .none, .none] st = .ok (.lst ((ns.map fun n => (n.natAbs : Int)).map D.int)) st := by
    have hc : cutD (ns.map D.int) none (some 63) = ns.map D.int := by
      unfold cutD
      have l1 : (ns.map D.int).length = ns.length := List.length_map _
      have e2 : HT.sIx ns.length 0 none = 0 := rfl
      have e3 : HT.sIx ns.length ns.length (some 63) = ns.length := by
        rw [show (some (63 : Int)) = some ((63 : Nat) : Int) from rfl, HT.sIx_nat]
        omega
      rw [l1, e2, e3]
      simp only [List.drop_zero, Nat.sub_zero]
      exact List.take_of_length_le (by rw [List.length_map]; exact Nat.le_refl _)
    have hl : (ns.map D.int).length ≤ szL := by rw [List.length_map]; unfold szL; omega
    have hev : evL G__law_hand [(.op .sl0 [(.var 0), (.cst (.int 63))])] [.val (.scr (ns.map D.int)), .none, .none] st = .ok [.lst (ns.map D.int)] st := by
      simp [hc, FY.runB, FY.execs, FY.exec, FY.ev, FY.evL, FY.evAnd, FY.evOr, FY.R.bind, FY.R.to, FY.RS.seq, FY.liftO, FY.getV, FY.getRef, FY.opSem, FY.one, FY.two, FY.three, FY.addD, FY.subD, FY.fdivD, FY.modD, FY.mulD, FY.negD, FY.notD, FY.ordD, FY.ixD, FY.absD, FY.toInt, FY.lenD, FY.tru, FY.isiB, FY.clsOf, FY.subCl, FY.opEsc, FY.mkG, FY.mkH, FY.esc, FY.escL, FY.escEL, FY.escE, FY.frzE, FY.ownFree, FY.setPar, FY.isNone, FY.ixI, L2.ixN, FY.meOk, FY.tgSet, FY.tgsSet, FY.wipeE, FY.tgSlots, FY.tgsSlots, FY.itSem, FY.compA, FY.compLoop, FY.compF, FY.evTests, FY.R.noX, FY.intsOf, FY.blsOf, FY.blsF, FY.intsF, FY.slD, FY.intD, FY.tupleD, FY.listD]
    rw [ev, hev]
    show compA _ .val _ [.lst (ns.map D.int)] st _ = _
    unfold compA
    simp only [itSem]
    rw [if_pos (by rw [Bool.and_eq_true]; exact ⟨by simpa using hl, rfl⟩), hm]
    rfl
  refine ⟨hd (ns.map fun n => (n.natAbs : Int)) 0 0 (61 + 7 * (ns.length : Int)) 0, ?_, _, 0, 0, _, 0, rfl, fun z hz => ?_, by decide, by decide⟩
  · refine runB_rt [.val (.scr (ns.map D.int)), .none, .none] rfl (execs_nx (exec_set e1) (execs_rt (exec_ret ?_)))
    have m : mulB 7 (ns.length : Int) = true := mulB_l (by decide)
    simp [m, hd, FY.runB, FY.execs, FY.exec, FY.ev, FY.evL, FY.evAnd, FY.evOr, FY.R.bind, FY.R.to, FY.RS.seq, FY.liftO, FY.getV, FY.getRef, FY.opSem, FY.one, FY.two, FY.three, FY.addD, FY.subD, FY.fdivD, FY.modD, FY.mulD, FY.negD, FY.notD, FY.ordD, FY.ixD, FY.absD, FY.toInt, FY.lenD, FY.tru, FY.isiB, FY.clsOf, FY.subCl, FY.opEsc, FY.mkG, FY.mkH, FY.esc, FY.escL, FY.escEL, FY.escE, FY.frzE, FY.ownFree, FY.setPar, FY.isNone, FY.ixI, L2.ixN, FY.meOk, FY.tgSet, FY.tgsSet, FY.wipeE, FY.tgSlots, FY.tgsSlots, FY.itSem, FY.compA, FY.compLoop, FY.compF, FY.evTests, FY.R.noX, FY.intsOf, FY.blsOf, FY.blsF, FY.intsF, FY.slD, FY.intD, FY.tupleD, FY.listD]
  · obtain ⟨n, _, rfl⟩ := List.mem_map.mp hz
    omega
theorem any_ok (c : D) (h : HandC c) (ds : List D) (h0 : 0 < ds.length) (h1 : ds.length < 1000) : ∃ d c', F__law_any [.ref 0, .lst ds] [c] = .ok d [c'] ∧ d ∈ ds ∧ HandC c' := by
  obtain ⟨i, c', e, i0, i1, hc⟩ := draw_ok c h [] ds.length (by omega) (by omega)
  obtain ⟨n, rfl⟩ : ∃ n : Nat, i = n := ⟨i.toNat, by omega⟩
  have hn : n < ds.length := by omega
  refine ⟨ds[n], c', ?_, List.getElem_mem hn, hc⟩
  have at_ : L2.ixN ds.length (n : Int) = some n := by unfold L2.ixN; simp; omega
  simp [F__law_any, b__law_any, G__law_any, e, hn, at_, FY.runB, FY.execs, FY.exec, FY.ev, FY.evL, FY.evAnd, FY.evOr, FY.R.bind, FY.R.to, FY.RS.seq, FY.liftO, FY.getV, FY.getRef, FY.opSem, FY.one, FY.two, FY.three, FY.addD, FY.subD, FY.fdivD, FY.modD, FY.mulD, FY.negD, FY.notD, FY.ordD, FY.ixD, FY.absD, FY.toInt, FY.lenD, FY.tru, FY.isiB, FY.clsOf, FY.subCl, FY.opEsc, FY.mkG, FY.mkH, FY.esc, FY.escL, FY.escEL, FY.escE, FY.frzE, FY.ownFree, FY.setPar, FY.isNone, FY.ixI, L2.ixN, FY.meOk, FY.tgSet, FY.tgsSet, FY.wipeE, FY.tgSlots, FY.tgsSlots, FY.itSem, FY.compA, FY.compLoop, FY.compF, FY.evTests, FY.R.noX, FY.intsOf, FY.blsOf, FY.blsF, FY.intsF, FY.slD, FY.intD, FY.tupleD, FY.listD]
theorem word_act (act : Store → FY.R D) (st : Store) : F__law_word act st = F__law_word (fun _ => act st) st := rfl
theorem word_of (act : Store → FY.R D) (st : Store) (x : PySem.Str) (r : PySem.Str) (h : act st = .exc ⟨x, []⟩ st) (hr : F__law_word (fun _ => .exc ⟨x, []⟩ st) st = .ok (.str r) st) : F__law_word act st = .ok (.str r) st := by
  rw [word_act, h]; exact hr
theorem w_horses (st : Store) : F__law_word (fun _ => .exc ⟨"NoHorses", []⟩ st) st = .ok (.str "horses") st := by rfl
theorem w_ups (st : Store) : F__law_word (fun _ => .exc ⟨"NoUps", []⟩ st) st = .ok (.str "ups") st := by rfl
theorem w_horse (st : Store) : F__law_word (fun _ => .exc ⟨"NoHorse", []⟩ st) st = .ok (.str "horse") st := by rfl
theorem w_turned (st : Store) : F__law_word (fun _ => .exc ⟨"NoTurned", []⟩ st) st = .ok (.str "turned") st := by rfl
theorem w_stand (st : Store) : F__law_word (fun _ => .exc ⟨"NoStand", []⟩ st) st = .ok (.str "stand") st := by rfl
end k69

end

section
set_option maxRecDepth 100000
set_option maxHeartbeats 8000000
namespace k69
open FY
def innerL : List S := [(.set 14 (.op .sub [(.op .mul [(.op .ix [(.var 11), (.cst (.int 0))]), (.var 3)]), (.op .mul [(.var 13), (.op .ix [(.var 11), (.cst (.int 1))])])])),
  (.app 12 (.op .mod [(.op .int [(.op .add [(.var 14), (.op .mul [(.var 3), (.op .ix [(.var 11), (.cst (.int 1))])])])]), (.op .mul [(.var 3), (.op .ix [(.var 11), (.cst (.int 1))])])]))]
def bodyL : List S := [(.unpack [(.nm 3), (.nm 4)] (.op .tup [(.op .add [(.cst (.int 1)), (.call 1 [(.var 1), (.cst (.int 12))])]), (.call 1 [(.var 1), (.cst (.int 10))])])),
  (.unpack [(.nm 5), (.nm 6)] (.op .tup [(.call 1 [(.var 1), (.var 3)]), (.call 2 [(.call 1 [(.var 1), (.cst (.int 60))]), (.op .add [(.cst (.int 1)), (.call 1 [(.var 1), (.cst (.int 24))])])])])),
  (.unpack [(.nm 7), (.nm 8)] (.var 6)),
  (.set 9 (.op .tup [(.call 3 [(.op .add [(.op .mul [(.var 5), (.var 8)]), (.op .mul [(.var 7), (.var 3)])]), (.op .mul [(.var 3), (.var 8)])]), (.call 3 [(.op .mul [(.var 4), (.var 7)]), (.var 8)])])),
  (.ifs (.op .ne [(.call 4 [(.var 3), (.var 4), (.var 5), (.var 6)]), (.var 9)]) [(.ret (.cst (.bl false)))] []),
  (.set 10 (.op .add [(.cst (.int 1)), (.call 1 [(.var 1), (.cst (.int 24))])])),
  (.set 11 (.call 2 [(.call 1 [(.var 1), (.var 10)]), (.var 10)])),
  (.setO 12 (.op .lst [])),
  (.for_ (.nm 13) .range1 [(.var 3)] innerL),
  (.set 15 (.call 2 [(.op .min [(.var 12)]), (.op .mul [(.var 3), (.op .ix [(.var 11), (.cst (.int 1))])])])),
  (.ifs (.op .ne [(.call 5 [(.var 3), (.var 4), (.var 11)]), (.var 15)]) [(.ret (.cst (.bl false)))] []),
  (.set 16 (.me .index (.var 12) [(.op .min [(.var 12)])])),
  (.ifs (.op .ne [(.op .ix [(.call 4 [(.var 3), (.var 4), (.var 16), (.var 15)]), (.cst (.int 0))]), (.var 11)]) [(.ret (.cst (.bl false)))] []),
  (.ifs (.op .ne [(.call 6 [(.var 3), (.var 4)]), (.op .tup [(.cst (.int 1)), (.ife (.op .gt [(.var 4), (.cst (.int 0))]) (.call 7 [(.var 3), (.var 4)]) (.var 3))])]) [(.ret (.cst (.bl false)))] []),
  (.ifs (.op .ne [(.op .ix [(.call 4 [(.var 3), (.var 4), (.cst (.int 0)), (.call 6 [(.var 3), (.var 4)])]), (.cst (.int 1))]), (.op .tup [(.cst (.int 0)), (.cst (.int 1))])]) [(.ret (.cst (.bl false)))] []),
  (.unpack [(.nm 17), (.nm 18)] (.op .tup [(.call 8 [(.var 1), (.op .lst [(.cst .non), (.cst (.int 0)), (.cst (.int 13)), (.cst (.bl true))])]), (.call 8 [(.var 1), (.op .lst [(.cst .non), (.op .neg [(.cst (.int 1))]), (.cst (.int 10)), (.cst (.bl true))])])])),
  (.set 19 (.call 8 [(.var 1), (.op .lst [(.cst .non), (.op .neg [(.cst (.int 1))]), (.var 3), (.cst (.bl true))])])),
  (.set 20 (.call 8 [(.var 1), (.op .lst [(.cst .non), (.cst (.int 1)), (.op .tup [(.op .neg [(.cst (.int 1))]), (.cst (.int 2))]), (.op .tup [(.cst (.int 2)), (.cst (.int 4))]), (.op .lst [(.cst (.int 1)), (.cst (.int 2))]), (.op .tup [(.cst (.int 1)), (.cst (.int 0))])])])),
  (.set 21 (.call 8 [(.var 1), (.op .lst [(.cst .non), (.cst (.int 1)), (.op .tup [(.cst (.int 1)), (.cst (.int 1))]), (.op .tup [(.op .neg [(.cst (.int 1))]), (.cst (.int 2))]), (.op .tup [(.cst (.int 2)), (.cst (.int 4))]), (.op .lst [(.cst (.int 1)), (.cst (.int 2))])])])),
  (.setO 22 (.op .lst [(.hof 0 (.call 4 [(.var 17), (.var 18), (.var 19), (.var 20)]) [])])),
  (.app 22 (.hof 0 (.call 4 [(.var 3), (.var 18), (.var 19), (.var 20)]) [])),
  (.app 22 (.hof 0 (.call 4 [(.var 3), (.var 4), (.var 19), (.var 20)]) [])),
  (.app 22 (.hof 0 (.call 4 [(.var 3), (.var 4), (.var 5), (.var 20)]) [])),
  (.app 22 (.hof 0 (.call 5 [(.var 17), (.var 18), (.var 21)]) [])),
  (.app 22 (.hof 0 (.call 5 [(.var 3), (.var 18), (.var 21)]) [])),
  (.app 22 (.hof 0 (.call 5 [(.var 3), (.var 4), (.var 21)]) [])),
  (.app 22 (.hof 0 (.call 6 [(.var 17), (.var 18)]) [])),
  (.app 22 (.hof 0 (.call 6 [(.var 3), (.var 18)]) [])),
  (.ifs (.op .ne [(.var 22), (.op .lst [(.cst (.str "horses")), (.cst (.str "ups")), (.cst (.str "horse")), (.cst (.str "turned")), (.cst (.str "horses")), (.cst (.str "ups")), (.cst (.str "stand")), (.cst (.str "horses")), (.cst (.str "ups"))])]) [(.ret (.cst (.bl false)))] [])]
theorem b_law_is : b_law = [(.set 1 (.call 0 [(.var 0)])),
  (.for_ (.nm 2) .range1 [(.cst (.int 5))] bodyL),
  (.ret (.cst (.bl true)))] := rfl

def wy (h s0 s1 : Int) (i : Int) : Int := (s0 * h - i * s1 + h * s1) % (h * s1)
def W (h s0 s1 : Int) : List Int := (List.range h.toNat).map fun (j : Nat) => wy h s0 s1 (j : Int)
def chk1 (h s0 s1 : Int) : Bool := match minI (W h s0 s1) with
  | some m => m == (h * s0) % s1 && (match findIx (.int m) ((W h s0 s1).map D.int) 0 with
    | some a => decide ((a : Int) ≤ h - 1) && hs h a (shr m (h * s1)).1 (shr m (h * s1)).2 == (s0, s1)
    | none => false)
  | none => false
def chkA : Bool := (List.range 12).all fun h => (List.range 24).all fun s1 => (List.range (s1 + 1)).all fun s0 => (Int.gcd s0 (s1 + 1) != 1) || chk1 (h + 1) s0 (s1 + 1)
theorem chkA_ok : chkA = true := by decide +kernel
theorem chk_ok (h s0 s1 : Int) (h1 : 1 ≤ h) (h2 : h ≤ 12) (h3 : 0 ≤ s0) (h4 : s0 < s1) (h5 : s1 ≤ 24) (hg : s0.gcd s1 = 1) : ∃ a : Nat, minI (W h s0 s1) = some ((h * s0) % s1) ∧ findIx (.int ((h * s0) % s1)) ((W h s0 s1).map D.int) 0 = some a ∧ (a : Int) ≤ h - 1 ∧ hs h a (shr ((h * s0) % s1) (h * s1)).1 (shr ((h * s0) % s1) (h * s1)).2 = (s0, s1) := by
  have q := chkA_ok
  unfold chkA at q
  rw [List.all_eq_true] at q
  have q1 := q (h - 1).toNat (List.mem_range.mpr (by omega))
  rw [List.all_eq_true] at q1
  have q2 := q1 (s1 - 1).toNat (List.mem_range.mpr (by omega))
  rw [List.all_eq_true] at q2
  have q3 := q2 s0.toNat (List.mem_range.mpr (by omega))
  have e1 : (((h - 1).toNat : Int) + 1) = h := by omega
  have e2 : (((s1 - 1).toNat : Int) + 1) = s1 := by omega
  have e3 : ((s0.toNat : Nat) : Int) = s0 := by omega
  rw [e1, e2, e3, hg] at q3
  have q3 : chk1 h s0 s1 = true := by simpa using q3
  unfold chk1 at q3
  split at q3
  · rename_i m hm
    rw [Bool.and_eq_true] at q3
    have em := eq_of_beq q3.1
    subst em
    have q4 := q3.2
    split at q4
    · rename_i a ha
      rw [Bool.and_eq_true] at q4
      exact ⟨a, hm, ha, by simpa using q4.1, eq_of_beq q4.2⟩
    · cases q4
  · cases q3
end k69

end

section
set_option maxRecDepth 100000
set_option maxHeartbeats 8000000
namespace k69
open FY
theorem hofx {b : T} {env : Env} {st : Store} {x r : PySem.Str} (ho : ownFree env (esc b ++ escL []) = true) (h : ev G_law b env st = .exc ⟨x, []⟩ st) (hr : ∀ st, F__law_word (fun _ => .exc ⟨x, []⟩ st) st = .ok (.str r) st) : ev G_law (.hof 0 b []) env st = .ok (.str r) st := by
  have e : G_law.hof 0 (ev G_law b env) [] st = .ok (.str r) st := word_of _ st x r h (hr st)
  rw [ev, ho]
  show (FY.R.bind (evL G_law [] env st) fun ds st1 => (G_law.hof 0 (ev G_law b env) ds st1).noX) = _
  rw [evL]
  show (G_law.hof 0 (ev G_law b env) [] st).noX = _
  rw [e]
  rfl
theorem ne_self (d : D) (h : isData d = true) (hs : pyEq d d = true) : eqD true d d = some (.bl false) := by
  unfold eqD; rw [h, hs]; rfl
theorem ne_w : eqD true (.lst [.str "horses", .str "ups", .str "horse", .str "turned", .str "horses", .str "ups", .str "stand", .str "horses", .str "ups"]) (.lst [.str "horses", .str "ups", .str "horse", .str "turned", .str "horses", .str "ups", .str "stand", .str "horses", .str "ups"]) = some (.bl false) := ne_self _ (by decide +kernel) (by decide +kernel)
theorem data_p (x y : Int) : isData (.tup [.int x, .int y]) = true := rfl
theorem eq_p (x y : Int) : pyEq (.tup [.int x, .int y]) (.tup [.int x, .int y]) = true := by simp [pyEq, pyEqs]
theorem ne_p (x y : Int) : eqD true (.tup [.int x, .int y]) (.tup [.int x, .int y]) = some (.bl false) := ne_self _ (data_p x y) (eq_p x y)
theorem ne_pp (x y z w : Int) : eqD true (.tup [.tup [.int x, .int y], .tup [.int z, .int w]]) (.tup [.tup [.int x, .int y], .tup [.int z, .int w]]) = some (.bl false) := ne_self _ rfl (by simp [pyEq, pyEqs])

theorem inner_loop (h s0' s1' : Int) (c : D) (s0 e2 e3 e4 e5 e6 e7 e8 e9 e10 e11 e12 e13 e14 e15 e16 e17 e18 e19 e20 e21 e22 : Slt) (hh : 0 < h ∧ h ≤ 12) (hs : 0 ≤ s0' ∧ s0' ≤ 1000) (hs1 : 0 < s1' ∧ s1' ≤ 1000) : ∀ (k : Nat) (i : Int) (acc : List Int) (x13 x14 : Slt), 0 ≤ i → i + k ≤ 12 → acc.length + k ≤ 12 → ∃ y13 y14 : Slt, floop (.nm 13) (execs G_law innerL) (rangeD i k) [s0, .val (.ref 0), e2, .val (.int h), e4, e5, e6, e7, e8, e9, e10, (.val (.tup [.int s0', .int s1'])), .own (.lst (acc.map D.int)), x13, x14, e15, e16, e17, e18, e19, e20, e21, e22] [c] = .nx [s0, .val (.ref 0), e2, .val (.int h), e4, e5, e6, e7, e8, e9, e10, (.val (.tup [.int s0', .int s1'])), (.own (.lst ((acc ++ (List.range k).map (fun (j : Nat) => wy h s0' s1' (i + (j : Int)))).map D.int))), y13, y14, e15, e16, e17, e18, e19, e20, e21, e22] [c]
  | 0, i, acc, x13, x14, _, _, _ => ⟨x13, x14, by simp [rangeD, floop]⟩
  | k + 1, i, acc, x13, x14, hi, hik, hl => by
    obtain ⟨y13, y14, ih⟩ := inner_loop h s0' s1' c s0 e2 e3 e4 e5 e6 e7 e8 e9 e10 e11 e12 e13 e14 e15 e16 e17 e18 e19 e20 e21 e22 hh hs hs1 k (i + 1) (acc ++ [wy h s0' s1' i]) (.val (.int i)) (.val (.int (s0' * h - i * s1'))) (by omega) (by omega) (by rw [List.length_append, List.length_singleton]; omega)
    refine ⟨y13, y14, ?_⟩
    have m1 : mulB s0' h = true := mb (by omega) (by omega)
    have m2 : mulB i s1' = true := mb (by omega) (by omega)
    have m3 : mulB h s1' = true := mb (by omega) (by omega)
    have pos : 0 < h * s1' := Int.mul_pos hh.1 hs1.1
    have fm : (s0' * h - i * s1' + h * s1').fmod (h * s1') = wy h s0' s1' i := Int.fmod_eq_emod_of_nonneg _ (by omega)
    have lt : acc.length < 16777216 := by omega
    have nz : h * s1' ≠ 0 := by omega
    have nz1 : ¬ h = 0 := by omega
    have nz2 : ¬ s1' = 0 := by omega
    rw [rangeD]
    refine (floop_go (env1 := [s0, .val (.ref 0), e2, .val (.int h), e4, e5, e6, e7, e8, e9, e10, (.val (.tup [.int s0', .int s1'])), .own (.lst (acc.map D.int)), .val (.int i), x14, e15, e16, e17, e18, e19, e20, e21, e22]) (env2 := [s0, .val (.ref 0), e2, .val (.int h), e4, e5, e6, e7, e8, e9, e10, (.val (.tup [.int s0', .int s1'])), (.own (.lst ((acc ++ [wy h s0' s1' i]).map D.int))), .val (.int i), (.val (.int (s0' * h - i * s1'))), e15, e16, e17, e18, e19, e20, e21, e22]) (st2 := [c]) (by simp [tgSet]) (by simp [innerL, m1, m2, m3, fm, nz, nz1, nz2, lt, szL, FY.runB, FY.execs, FY.exec, FY.ev, FY.evL, FY.evAnd, FY.evOr, FY.R.bind, FY.R.to, FY.RS.seq, FY.liftO, FY.getV, FY.getRef, FY.opSem, FY.one, FY.two, FY.three, FY.addD, FY.subD, FY.fdivD, FY.modD, FY.mulD, FY.negD, FY.notD, FY.ordD, FY.ixD, FY.absD, FY.toInt, FY.lenD, FY.tru, FY.isiB, FY.clsOf, FY.subCl, FY.opEsc, FY.mkG, FY.mkH, FY.esc, FY.escL, FY.escEL, FY.escE, FY.frzE, FY.ownFree, FY.setPar, FY.isNone, FY.ixI, L2.ixN, FY.meOk, FY.tgSet, FY.tgsSet, FY.wipeE, FY.tgSlots, FY.tgsSlots, FY.itSem, FY.compA, FY.compLoop, FY.compF, FY.evTests, FY.R.noX, FY.intsOf, FY.blsOf, FY.blsF, FY.intsF, FY.slD, FY.intD, FY.tupleD, FY.listD])).trans ?_
    rw [ih]
    have e : (acc ++ [wy h s0' s1' i]) ++ (List.range k).map (fun (j : Nat) => wy h s0' s1' (i + 1 + (j : Int))) = acc ++ (List.range (k + 1)).map (fun (j : Nat) => wy h s0' s1' (i + (j : Int))) := by
      rw [List.range_succ_eq_map, List.map_cons, List.map_map, List.append_assoc]
      have e0 : i + ((0 : Nat) : Int) = i := by omega
      rw [e0]
      congr 1
      show wy h s0' s1' i :: _ = wy h s0' s1' i :: _
      congr 1
      apply List.map_congr_left
      intro j _
      show wy h s0' s1' (i + 1 + (j : Int)) = wy h s0' s1' (i + ((j + 1 : Nat) : Int))
      congr 1
      omega
    rw [e]

theorem turn_ok (c0 : D) (hc0 : HandC c0) (s0 e2 e3 e4 e5 e6 e7 e8 e9 e10 e11 e12 e13 e14 e15 e16 e17 e18 e19 e20 e21 e22 : Slt) : ∃ c', HandC c' ∧ ∃ f2 f3 f4 f5 f6 f7 f8 f9 f10 f11 f12 f13 f14 f15 f16 f17 f18 f19 f20 f21 f22 : Slt, execs G_law bodyL [s0, .val (.ref 0), e2, e3, e4, e5, e6, e7, e8, e9, e10, e11, e12, e13, e14, e15, e16, e17, e18, e19, e20, e21, e22] [c0] = .nx [s0, .val (.ref 0), f2, f3, f4, f5, f6, f7, f8, f9, f10, f11, f12, f13, f14, f15, f16, f17, f18, f19, f20, f21, f22] [c'] := by
  obtain ⟨d1, c1, q1, a1, b1, hc1⟩ := draw_ok c0 hc0 [] 12 (by decide) (by decide)
  obtain ⟨u, c2, q2, u0, u1, hc2⟩ := draw_ok c1 hc1 [] 10 (by decide) (by decide)
  obtain ⟨h, rfl⟩ : ∃ h, d1 = h - 1 := ⟨d1 + 1, by omega⟩
  have h1 : 1 ≤ h := by omega
  have h2 : h ≤ 12 := by omega
  have eh : 1 + (h - 1) = h := by omega
  have u4 : u ≤ 9 := by omega
  obtain ⟨horse, c3, q3, ho0, ho1, hc3⟩ := draw_ok c2 hc2 [] h (by omega) (by omega)
  obtain ⟨x, c4, q4, x0, x1, hc4⟩ := draw_ok c3 hc3 [] 60 (by decide) (by decide)
  obtain ⟨d5, c5, q5, y0, y1, hc5⟩ := draw_ok c4 hc4 [] 24 (by decide) (by decide)
  have sh := lshare_ok x (1 + d5) [c5] x0 (by omega) (by omega)
  have shp := shr_pos x (show 0 < 1 + d5 by omega)
  obtain ⟨g, hg, ge1, ge2, gg⟩ := shr_un x (show 0 < 1 + d5 by omega)
  have sa := shr_abs x (show 0 < 1 + d5 by omega) 1000 (by omega) (by omega)
  have t0 : 0 ≤ (shr x (1 + d5)).1 := Int.ediv_nonneg x0 (by omega)
  unfold P2 at sh
  generalize (shr x (1 + d5)).1 = t at sh ge1 gg sa t0
  generalize (shr x (1 + d5)).2 = b at sh shp ge2 gg
  have hb : 0 < b ∧ b ≤ 1000 := ⟨shp.1, by omega⟩
  have b24 : b ≤ 24 := by omega
  have hhp : 0 ≤ horse ∧ horse ≤ h - 1 := ⟨ho0, by omega⟩
  have hbp : 0 < h * b := Int.mul_pos (by omega) hb.1
  have hbl : h * b ≤ 12 * 24 := Int.mul_le_mul h2 b24 (by omega) (by omega)
  have lp1 := lpart_ok (horse * b + t * h) (h * b) [c5] hbp (by omega)
  have lp2 := lpart_ok (u * t) b [c5] hb.1 (by omega)
  have stand1 := stand_ok h u horse t b [c5] h1 h2 u0 u4 hhp ⟨t0, by omega⟩ hb gg
  have m1 : mulB horse b = true := mb (by omega) (by omega)
  have m2 : mulB t h = true := mb (by omega) (by omega)
  have m3 : mulB h b = true := mb (by omega) (by omega)
  have m4 : mulB u t = true := mb (by omega) (by omega)
  obtain ⟨d6, c6, q6, z0, z1, hc6⟩ := draw_ok c5 hc5 [] 24 (by decide) (by decide)
  obtain ⟨x7, c7, q7, w0, w1, hc7⟩ := draw_ok c6 hc6 [] (1 + d6) (by omega) (by omega)
  have sh2 := lshare_ok x7 (1 + d6) [c7] w0 (by omega) (by omega)
  have shp2 := shr_pos x7 (show 0 < 1 + d6 by omega)
  obtain ⟨g2, hg2, ge3, ge4, gg2⟩ := shr_un x7 (show 0 < 1 + d6 by omega)
  have p0 : 0 ≤ (shr x7 (1 + d6)).1 := Int.ediv_nonneg w0 (by omega)
  unfold P2 at sh2
  generalize (shr x7 (1 + d6)).1 = p at sh2 ge3 gg2 p0
  generalize (shr x7 (1 + d6)).2 = r at sh2 shp2 ge4 gg2
  have pr : p < r := by
    rcases Int.lt_or_le p r with z | z
    · exact z
    · have := Int.mul_le_mul_of_nonneg_left z (show 0 ≤ g2 by omega); omega
  have hr : 0 < r ∧ r ≤ 24 := ⟨shp2.1, by omega⟩
  obtain ⟨at_, k1, k2, k3, k4⟩ := chk_ok h p r h1 h2 p0 pr hr.2 gg2
  have hrp : 0 < h * r := Int.mul_pos (by omega) hr.1
  have hrl : h * r ≤ 12 * 24 := Int.mul_le_mul h2 hr.2 (by omega) (by omega)
  have m5 : mulB h r = true := mb (by omega) (by omega)
  have mr0 := Int.emod_nonneg (h * p) (show r ≠ 0 by omega)
  have mr1 := Int.emod_lt_of_pos (h * p) hr.1
  have lf := lshare_ok ((h * p) % r) (h * r) [c7] mr0 hrp (by omega)
  have meet := meet_ok h u p r [c7] h1 h2 u0 u4 ⟨p0, pr⟩ ⟨hr.1, by omega⟩ gg2
  have lfp := shr_pos ((h * p) % r) hrp
  obtain ⟨g3, hg3, ge5, ge6, gg3⟩ := shr_un ((h * p) % r) hrp
  have sf := shr_abs ((h * p) % r) hrp 100 (by omega) (by omega)
  have f0 : 0 ≤ (shr ((h * p) % r) (h * r)).1 := Int.ediv_nonneg mr0 (by omega)
  have stand2 := stand_ok h u at_ (shr ((h * p) % r) (h * r)).1 (shr ((h * p) % r) (h * r)).2 [c7] h1 h2 u0 u4 ⟨by omega, k3⟩ ⟨f0, by omega⟩ ⟨lfp.1, by omega⟩ gg3
  rw [k4] at stand2
  have same := same_ok h u [c7] h1 h2 u0 u4
  have lcm := lcommon_ok h u [c7] (by omega) u0 (by omega)
  have gh : 0 < (h.gcd u : Int) := by
    have := Int.gcd_pos_of_ne_zero_left u (show h ≠ 0 by omega); omega
  have gh2 : (h.gcd u : Int) ≤ h := Int.le_of_dvd (by omega) (Int.gcd_dvd_left ..)
  have stand3 := stand_ok h u 0 1 (h.gcd u) [c7] h1 h2 u0 u4 ⟨by omega, by omega⟩ ⟨by omega, by omega⟩ ⟨gh, by omega⟩ (by simp)
  have z3 : shr ((u * 1) % (h.gcd u : Int)) (h.gcd u : Int) = (0, 1) := by
    rw [Int.mul_one, Int.emod_eq_zero_of_dvd (Int.gcd_dvd_right ..)]
    show ((0 : Int) / ((Int.gcd 0 (h.gcd u : Int) : Nat) : Int), (h.gcd u : Int) / ((Int.gcd 0 (h.gcd u : Int) : Nat) : Int)) = (0, 1)
    rw [Int.gcd_zero_left]
    have e : (((h.gcd u : Int).natAbs : Nat) : Int) = h.gcd u := by omega
    rw [e, Int.zero_ediv, Int.ediv_self (by omega)]
  rw [z3] at stand3
  obtain ⟨bad, c8, q8, mbad, hc8⟩ := any_ok c7 hc7 [.non, .int 0, .int 13, .bl true] (by decide) (by decide)
  obtain ⟨off, c9, q9, moff, hc9⟩ := any_ok c8 hc8 [.non, .int (-1), .int 10, .bl true] (by decide) (by decide)
  obtain ⟨last, c10, q10, mlast, hc10⟩ := any_ok c9 hc9 [.non, .int (-1), .int h, .bl true] (by simp) (by simp)
  obtain ⟨wrong, c11, q11, mwrong, hc11⟩ := any_ok c10 hc10 [.non, .int 1, .tup [.int (-1), .int 2], .tup [.int 2, .int 4], .lst [.int 1, .int 2], .tup [.int 1, .int 0]] (by decide) (by decide)
  obtain ⟨odd, c12, q12, modd, hc12⟩ := any_ok c11 hc11 [.non, .int 1, .tup [.int 1, .int 1], .tup [.int (-1), .int 2], .tup [.int 2, .int 4], .lst [.int 1, .int 2]] (by decide) (by decide)
  have nbad : NoInt 1 12 bad := by
    simp only [List.mem_cons, List.not_mem_nil, or_false] at mbad
    rcases mbad with rfl | rfl | rfl | rfl
    · exact .inl rfl
    · exact .inr (.inr ⟨0, rfl, by omega⟩)
    · exact .inr (.inr ⟨13, rfl, by omega⟩)
    · exact .inr (.inl rfl)
  have noff : NoInt 0 9 off := by
    simp only [List.mem_cons, List.not_mem_nil, or_false] at moff
    rcases moff with rfl | rfl | rfl | rfl
    · exact .inl rfl
    · exact .inr (.inr ⟨-1, rfl, by omega⟩)
    · exact .inr (.inr ⟨10, rfl, by omega⟩)
    · exact .inr (.inl rfl)
  have nlast : NoInt 0 (h - 1) last := by
    simp only [List.mem_cons, List.not_mem_nil, or_false] at mlast
    rcases mlast with rfl | rfl | rfl | rfl
    · exact .inl rfl
    · exact .inr (.inr ⟨-1, rfl, by omega⟩)
    · exact .inr (.inr ⟨h, rfl, by omega⟩)
    · exact .inr (.inl rfl)
  have nwrong : NoShare wrong := by
    simp only [List.mem_cons, List.not_mem_nil, or_false] at mwrong
    rcases mwrong with rfl | rfl | rfl | rfl | rfl | rfl
    · exact .inl rfl
    · exact .inl rfl
    · exact .inr ⟨-1, 2, rfl, by decide, .inr (by decide)⟩
    · exact .inr ⟨2, 4, rfl, by decide, .inl (by decide)⟩
    · exact .inl rfl
    · exact .inr ⟨1, 0, rfl, by decide, .inl (by decide)⟩
  have nodd : NoPart odd := by
    simp only [List.mem_cons, List.not_mem_nil, or_false] at modd
    rcases modd with rfl | rfl | rfl | rfl | rfl | rfl
    · exact .inl rfl
    · exact .inl rfl
    · exact .inr ⟨1, 1, rfl, by decide, by decide, by decide, by decide, .inr (.inr (by decide))⟩
    · exact .inr ⟨-1, 2, rfl, by decide, by decide, by decide, by decide, .inr (.inl (by decide))⟩
    · exact .inr ⟨2, 4, rfl, by decide, by decide, by decide, by decide, .inl (by decide)⟩
    · exact .inl rfl
  obtain ⟨y13, y14, loop⟩ := inner_loop h p r c7 s0 e2 (.val (.int h)) (.val (.int u)) (.val (.int horse)) (.val (.tup [.int t, .int b])) (.val (.int t)) (.val (.int b)) (.val (.tup [P2 (hs h horse t b), P2 (shr ((u * t) % b) b)])) (.val (.int (1 + d6))) (.val (.tup [.int p, .int r])) e12 e13 e14 e15 e16 e17 e18 e19 e20 e21 e22 ⟨by omega, h2⟩ ⟨p0, by omega⟩ ⟨hr.1, by omega⟩ h.toNat 0 [] e13 e14 (by omega) (by omega) (by simp; omega)
  have eW : ([] : List Int) ++ (List.range h.toNat).map (fun (j : Nat) => wy h p r (0 + (j : Int))) = W h p r := by
    rw [List.nil_append]
    unfold W
    apply List.map_congr_left
    intro j _
    rw [Int.zero_add]
  rw [eW] at loop
  have hd0 : rangeD 0 h.toNat = rangeD 0 h.toNat := rfl
  have b62h : b62 h = true := by unfold b62; simp; omega
  have iW : intsOf ((W h p r).map D.int) = some (W h p r) := by
    generalize W h p r = l
    induction l with
    | nil => rfl
    | cons a l ih => rw [List.map_cons, intsOf, ih]; rfl
  have dW : isData (.lst ((W h p r).map D.int)) = true := by
    show areDataN ((W h p r).map D.int) 39 = true
    generalize W h p r = l
    induction l with
    | nil => rfl
    | cons a l ih => rw [List.map_cons, areDataN, ih]; rfl
  refine ⟨c12, hc12, ?_⟩
  suffices fin : execs G_law bodyL [s0, .val (.ref 0), e2, e3, e4, e5, e6, e7, e8, e9, e10, e11, e12, e13, e14, e15, e16, e17, e18, e19, e20, e21, e22] [c0] = .nx [s0, .val (.ref 0), e2, .val (.int h), .val (.int u), .val (.int horse), (.val (.tup [.int t, .int b])), .val (.int t), .val (.int b), (.val (.tup [P2 (hs h horse t b), P2 (shr ((u * t) % b) b)])), (.val (.int (1 + d6))), (.val (.tup [.int p, .int r])), (.own (.lst ((W h p r).map D.int))), y13, y14, (.val (P2 (shr ((h * p) % r) (h * r)))), (.val (.int (at_ : Int))), .val bad, .val off, .val last, .val wrong, .val odd, (.own (.lst [.str "horses", .str "ups", .str "horse", .str "turned", .str "horses", .str "ups", .str "stand", .str "horses", .str "ups"]))] [c12] from ⟨_, _, _, _, _, _, _, _, _, _, _, _, _, _, _, _, _, _, _, _, _, fin⟩
  unfold bodyL
  refine execs_nx (env1 := [s0, .val (.ref 0), e2, .val (.int h), .val (.int u), e5, e6, e7, e8, e9, e10, e11, e12, e13, e14, e15, e16, e17, e18, e19, e20, e21, e22]) (st1 := [c2]) (by simp [G_law, q1, q2, eh, FY.runB, FY.execs, FY.exec, FY.ev, FY.evL, FY.evAnd, FY.evOr, FY.R.bind, FY.R.to, FY.RS.seq, FY.liftO, FY.getV, FY.getRef, FY.opSem, FY.one, FY.two, FY.three, FY.addD, FY.subD, FY.fdivD, FY.modD, FY.mulD, FY.negD, FY.notD, FY.ordD, FY.ixD, FY.absD, FY.toInt, FY.lenD, FY.tru, FY.isiB, FY.clsOf, FY.subCl, FY.opEsc, FY.mkG, FY.mkH, FY.esc, FY.escL, FY.escEL, FY.escE, FY.frzE, FY.ownFree, FY.setPar, FY.isNone, FY.ixI, L2.ixN, FY.meOk, FY.tgSet, FY.tgsSet, FY.wipeE, FY.tgSlots, FY.tgsSlots, FY.itSem, FY.compA, FY.compLoop, FY.compF, FY.evTests, FY.R.noX, FY.intsOf, FY.blsOf, FY.blsF, FY.intsF, FY.slD, FY.intD, FY.tupleD, FY.listD]) ?_
  refine execs_nx (env1 := [s0, .val (.ref 0), e2, .val (.int h), .val (.int u), .val (.int horse), (.val (.tup [.int t, .int b])), e7, e8, e9, e10, e11, e12, e13, e14, e15, e16, e17, e18, e19, e20, e21, e22]) (st1 := [c5]) (by simp [G_law, q3, q4, q5, sh, FY.runB, FY.execs, FY.exec, FY.ev, FY.evL, FY.evAnd, FY.evOr, FY.R.bind, FY.R.to, FY.RS.seq, FY.liftO, FY.getV, FY.getRef, FY.opSem, FY.one, FY.two, FY.three, FY.addD, FY.subD, FY.fdivD, FY.modD, FY.mulD, FY.negD, FY.notD, FY.ordD, FY.ixD, FY.absD, FY.toInt, FY.lenD, FY.tru, FY.isiB, FY.clsOf, FY.subCl, FY.opEsc, FY.mkG, FY.mkH, FY.esc, FY.escL, FY.escEL, FY.escE, FY.frzE, FY.ownFree, FY.setPar, FY.isNone, FY.ixI, L2.ixN, FY.meOk, FY.tgSet, FY.tgsSet, FY.wipeE, FY.tgSlots, FY.tgsSlots, FY.itSem, FY.compA, FY.compLoop, FY.compF, FY.evTests, FY.R.noX, FY.intsOf, FY.blsOf, FY.blsF, FY.intsF, FY.slD, FY.intD, FY.tupleD, FY.listD]) ?_
  refine execs_nx (env1 := [s0, .val (.ref 0), e2, .val (.int h), .val (.int u), .val (.int horse), (.val (.tup [.int t, .int b])), .val (.int t), .val (.int b), e9, e10, e11, e12, e13, e14, e15, e16, e17, e18, e19, e20, e21, e22]) (st1 := [c5]) (by simp [G_law, FY.runB, FY.execs, FY.exec, FY.ev, FY.evL, FY.evAnd, FY.evOr, FY.R.bind, FY.R.to, FY.RS.seq, FY.liftO, FY.getV, FY.getRef, FY.opSem, FY.one, FY.two, FY.three, FY.addD, FY.subD, FY.fdivD, FY.modD, FY.mulD, FY.negD, FY.notD, FY.ordD, FY.ixD, FY.absD, FY.toInt, FY.lenD, FY.tru, FY.isiB, FY.clsOf, FY.subCl, FY.opEsc, FY.mkG, FY.mkH, FY.esc, FY.escL, FY.escEL, FY.escE, FY.frzE, FY.ownFree, FY.setPar, FY.isNone, FY.ixI, L2.ixN, FY.meOk, FY.tgSet, FY.tgsSet, FY.wipeE, FY.tgSlots, FY.tgsSlots, FY.itSem, FY.compA, FY.compLoop, FY.compF, FY.evTests, FY.R.noX, FY.intsOf, FY.blsOf, FY.blsF, FY.intsF, FY.slD, FY.intD, FY.tupleD, FY.listD]) ?_
  refine execs_nx (env1 := [s0, .val (.ref 0), e2, .val (.int h), .val (.int u), .val (.int horse), (.val (.tup [.int t, .int b])), .val (.int t), .val (.int b), (.val (.tup [P2 (hs h horse t b), P2 (shr ((u * t) % b) b)])), e10, e11, e12, e13, e14, e15, e16, e17, e18, e19, e20, e21, e22]) (st1 := [c5]) (by simp [G_law, m1, m2, m3, m4, lp1, lp2, hs, FY.runB, FY.execs, FY.exec, FY.ev, FY.evL, FY.evAnd, FY.evOr, FY.R.bind, FY.R.to, FY.RS.seq, FY.liftO, FY.getV, FY.getRef, FY.opSem, FY.one, FY.two, FY.three, FY.addD, FY.subD, FY.fdivD, FY.modD, FY.mulD, FY.negD, FY.notD, FY.ordD, FY.ixD, FY.absD, FY.toInt, FY.lenD, FY.tru, FY.isiB, FY.clsOf, FY.subCl, FY.opEsc, FY.mkG, FY.mkH, FY.esc, FY.escL, FY.escEL, FY.escE, FY.frzE, FY.ownFree, FY.setPar, FY.isNone, FY.ixI, L2.ixN, FY.meOk, FY.tgSet, FY.tgsSet, FY.wipeE, FY.tgSlots, FY.tgsSlots, FY.itSem, FY.compA, FY.compLoop, FY.compF, FY.evTests, FY.R.noX, FY.intsOf, FY.blsOf, FY.blsF, FY.intsF, FY.slD, FY.intD, FY.tupleD, FY.listD]) ?_
  refine execs_nx (env1 := [s0, .val (.ref 0), e2, .val (.int h), .val (.int u), .val (.int horse), (.val (.tup [.int t, .int b])), .val (.int t), .val (.int b), (.val (.tup [P2 (hs h horse t b), P2 (shr ((u * t) % b) b)])), e10, e11, e12, e13, e14, e15, e16, e17, e18, e19, e20, e21, e22]) (st1 := [c5]) (exec_ifs (k := false) (d := .bl false) (st1 := [c5]) (by simp [G_law, stand1, ne_pp, P2, FY.runB, FY.execs, FY.exec, FY.ev, FY.evL, FY.evAnd, FY.evOr, FY.R.bind, FY.R.to, FY.RS.seq, FY.liftO, FY.getV, FY.getRef, FY.opSem, FY.one, FY.two, FY.three, FY.addD, FY.subD, FY.fdivD, FY.modD, FY.mulD, FY.negD, FY.notD, FY.ordD, FY.ixD, FY.absD, FY.toInt, FY.lenD, FY.tru, FY.isiB, FY.clsOf, FY.subCl, FY.opEsc, FY.mkG, FY.mkH, FY.esc, FY.escL, FY.escEL, FY.escE, FY.frzE, FY.ownFree, FY.setPar, FY.isNone, FY.ixI, L2.ixN, FY.meOk, FY.tgSet, FY.tgsSet, FY.wipeE, FY.tgSlots, FY.tgsSlots, FY.itSem, FY.compA, FY.compLoop, FY.compF, FY.evTests, FY.R.noX, FY.intsOf, FY.blsOf, FY.blsF, FY.intsF, FY.slD, FY.intD, FY.tupleD, FY.listD]) rfl rfl) ?_
  refine execs_nx (env1 := [s0, .val (.ref 0), e2, .val (.int h), .val (.int u), .val (.int horse), (.val (.tup [.int t, .int b])), .val (.int t), .val (.int b), (.val (.tup [P2 (hs h horse t b), P2 (shr ((u * t) % b) b)])), (.val (.int (1 + d6))), e11, e12, e13, e14, e15, e16, e17, e18, e19, e20, e21, e22]) (st1 := [c6]) (by simp [G_law, q6, FY.runB, FY.execs, FY.exec, FY.ev, FY.evL, FY.evAnd, FY.evOr, FY.R.bind, FY.R.to, FY.RS.seq, FY.liftO, FY.getV, FY.getRef, FY.opSem, FY.one, FY.two, FY.three, FY.addD, FY.subD, FY.fdivD, FY.modD, FY.mulD, FY.negD, FY.notD, FY.ordD, FY.ixD, FY.absD, FY.toInt, FY.lenD, FY.tru, FY.isiB, FY.clsOf, FY.subCl, FY.opEsc, FY.mkG, FY.mkH, FY.esc, FY.escL, FY.escEL, FY.escE, FY.frzE, FY.ownFree, FY.setPar, FY.isNone, FY.ixI, L2.ixN, FY.meOk, FY.tgSet, FY.tgsSet, FY.wipeE, FY.tgSlots, FY.tgsSlots, FY.itSem, FY.compA, FY.compLoop, FY.compF, FY.evTests, FY.R.noX, FY.intsOf, FY.blsOf, FY.blsF, FY.intsF, FY.slD, FY.intD, FY.tupleD, FY.listD]) ?_
  refine execs_nx (env1 := [s0, .val (.ref 0), e2, .val (.int h), .val (.int u), .val (.int horse), (.val (.tup [.int t, .int b])), .val (.int t), .val (.int b), (.val (.tup [P2 (hs h horse t b), P2 (shr ((u * t) % b) b)])), (.val (.int (1 + d6))), (.val (.tup [.int p, .int r])), e12, e13, e14, e15, e16, e17, e18, e19, e20, e21, e22]) (st1 := [c7]) (by simp [G_law, q7, sh2, FY.runB, FY.execs, FY.exec, FY.ev, FY.evL, FY.evAnd, FY.evOr, FY.R.bind, FY.R.to, FY.RS.seq, FY.liftO, FY.getV, FY.getRef, FY.opSem, FY.one, FY.two, FY.three, FY.addD, FY.subD, FY.fdivD, FY.modD, FY.mulD, FY.negD, FY.notD, FY.ordD, FY.ixD, FY.absD, FY.toInt, FY.lenD, FY.tru, FY.isiB, FY.clsOf, FY.subCl, FY.opEsc, FY.mkG, FY.mkH, FY.esc, FY.escL, FY.escEL, FY.escE, FY.frzE, FY.ownFree, FY.setPar, FY.isNone, FY.ixI, L2.ixN, FY.meOk, FY.tgSet, FY.tgsSet, FY.wipeE, FY.tgSlots, FY.tgsSlots, FY.itSem, FY.compA, FY.compLoop, FY.compF, FY.evTests, FY.R.noX, FY.intsOf, FY.blsOf, FY.blsF, FY.intsF, FY.slD, FY.intD, FY.tupleD, FY.listD]) ?_
  refine execs_nx (env1 := [s0, .val (.ref 0), e2, .val (.int h), .val (.int u), .val (.int horse), (.val (.tup [.int t, .int b])), .val (.int t), .val (.int b), (.val (.tup [P2 (hs h horse t b), P2 (shr ((u * t) % b) b)])), (.val (.int (1 + d6))), (.val (.tup [.int p, .int r])), (.own (.lst [])), e13, e14, e15, e16, e17, e18, e19, e20, e21, e22]) (st1 := [c7]) (by simp [G_law, FY.runB, FY.execs, FY.exec, FY.ev, FY.evL, FY.evAnd, FY.evOr, FY.R.bind, FY.R.to, FY.RS.seq, FY.liftO, FY.getV, FY.getRef, FY.opSem, FY.one, FY.two, FY.three, FY.addD, FY.subD, FY.fdivD, FY.modD, FY.mulD, FY.negD, FY.notD, FY.ordD, FY.ixD, FY.absD, FY.toInt, FY.lenD, FY.tru, FY.isiB, FY.clsOf, FY.subCl, FY.opEsc, FY.mkG, FY.mkH, FY.esc, FY.escL, FY.escEL, FY.escE, FY.frzE, FY.ownFree, FY.setPar, FY.isNone, FY.ixI, L2.ixN, FY.meOk, FY.tgSet, FY.tgsSet, FY.wipeE, FY.tgSlots, FY.tgsSlots, FY.itSem, FY.compA, FY.compLoop, FY.compF, FY.evTests, FY.R.noX, FY.intsOf, FY.blsOf, FY.blsF, FY.intsF, FY.slD, FY.intD, FY.tupleD, FY.listD]) ?_
  refine execs_nx (env1 := [s0, .val (.ref 0), e2, .val (.int h), .val (.int u), .val (.int horse), (.val (.tup [.int t, .int b])), .val (.int t), .val (.int b), (.val (.tup [P2 (hs h horse t b), P2 (shr ((u * t) % b) b)])), (.val (.int (1 + d6))), (.val (.tup [.int p, .int r])), (.own (.lst ((W h p r).map D.int))), y13, y14, e15, e16, e17, e18, e19, e20, e21, e22]) (st1 := [c7]) (exec_for (vs := [.int h]) (st1 := [c7]) (its := rangeD 0 h.toNat) (by simp [FY.runB, FY.execs, FY.exec, FY.ev, FY.evL, FY.evAnd, FY.evOr, FY.R.bind, FY.R.to, FY.RS.seq, FY.liftO, FY.getV, FY.getRef, FY.opSem, FY.one, FY.two, FY.three, FY.addD, FY.subD, FY.fdivD, FY.modD, FY.mulD, FY.negD, FY.notD, FY.ordD, FY.ixD, FY.absD, FY.toInt, FY.lenD, FY.tru, FY.isiB, FY.clsOf, FY.subCl, FY.opEsc, FY.mkG, FY.mkH, FY.esc, FY.escL, FY.escEL, FY.escE, FY.frzE, FY.ownFree, FY.setPar, FY.isNone, FY.ixI, L2.ixN, FY.meOk, FY.tgSet, FY.tgsSet, FY.wipeE, FY.tgSlots, FY.tgsSlots, FY.itSem, FY.compA, FY.compLoop, FY.compF, FY.evTests, FY.R.noX, FY.intsOf, FY.blsOf, FY.blsF, FY.intsF, FY.slD, FY.intD, FY.tupleD, FY.listD]) (by simp [itSem, b62h]) (by simpa [FY.runB, FY.execs, FY.exec, FY.ev, FY.evL, FY.evAnd, FY.evOr, FY.R.bind, FY.R.to, FY.RS.seq, FY.liftO, FY.getV, FY.getRef, FY.opSem, FY.one, FY.two, FY.three, FY.addD, FY.subD, FY.fdivD, FY.modD, FY.mulD, FY.negD, FY.notD, FY.ordD, FY.ixD, FY.absD, FY.toInt, FY.lenD, FY.tru, FY.isiB, FY.clsOf, FY.subCl, FY.opEsc, FY.mkG, FY.mkH, FY.esc, FY.escL, FY.escEL, FY.escE, FY.frzE, FY.ownFree, FY.setPar, FY.isNone, FY.ixI, L2.ixN, FY.meOk, FY.tgSet, FY.tgsSet, FY.wipeE, FY.tgSlots, FY.tgsSlots, FY.itSem, FY.compA, FY.compLoop, FY.compF, FY.evTests, FY.R.noX, FY.intsOf, FY.blsOf, FY.blsF, FY.intsF, FY.slD, FY.intD, FY.tupleD, FY.listD] using loop)) ?_
  refine execs_nx (env1 := [s0, .val (.ref 0), e2, .val (.int h), .val (.int u), .val (.int horse), (.val (.tup [.int t, .int b])), .val (.int t), .val (.int b), (.val (.tup [P2 (hs h horse t b), P2 (shr ((u * t) % b) b)])), (.val (.int (1 + d6))), (.val (.tup [.int p, .int r])), (.own (.lst ((W h p r).map D.int))), y13, y14, (.val (P2 (shr ((h * p) % r) (h * r)))), e16, e17, e18, e19, e20, e21, e22]) (st1 := [c7]) (by simp [G_law, iW, k1, m5, lf, FY.runB, FY.execs, FY.exec, FY.ev, FY.evL, FY.evAnd, FY.evOr, FY.R.bind, FY.R.to, FY.RS.seq, FY.liftO, FY.getV, FY.getRef, FY.opSem, FY.one, FY.two, FY.three, FY.addD, FY.subD, FY.fdivD, FY.modD, FY.mulD, FY.negD, FY.notD, FY.ordD, FY.ixD, FY.absD, FY.toInt, FY.lenD, FY.tru, FY.isiB, FY.clsOf, FY.subCl, FY.opEsc, FY.mkG, FY.mkH, FY.esc, FY.escL, FY.escEL, FY.escE, FY.frzE, FY.ownFree, FY.setPar, FY.isNone, FY.ixI, L2.ixN, FY.meOk, FY.tgSet, FY.tgsSet, FY.wipeE, FY.tgSlots, FY.tgsSlots, FY.itSem, FY.compA, FY.compLoop, FY.compF, FY.evTests, FY.R.noX, FY.intsOf, FY.blsOf, FY.blsF, FY.intsF, FY.slD, FY.intD, FY.tupleD, FY.listD]) ?_
  refine execs_nx (env1 := [s0, .val (.ref 0), e2, .val (.int h), .val (.int u), .val (.int horse), (.val (.tup [.int t, .int b])), .val (.int t), .val (.int b), (.val (.tup [P2 (hs h horse t b), P2 (shr ((u * t) % b) b)])), (.val (.int (1 + d6))), (.val (.tup [.int p, .int r])), (.own (.lst ((W h p r).map D.int))), y13, y14, (.val (P2 (shr ((h * p) % r) (h * r)))), e16, e17, e18, e19, e20, e21, e22]) (st1 := [c7]) (exec_ifs (k := false) (d := .bl false) (st1 := [c7]) (by simp [G_law, meet, ne_p, P2, FY.runB, FY.execs, FY.exec, FY.ev, FY.evL, FY.evAnd, FY.evOr, FY.R.bind, FY.R.to, FY.RS.seq, FY.liftO, FY.getV, FY.getRef, FY.opSem, FY.one, FY.two, FY.three, FY.addD, FY.subD, FY.fdivD, FY.modD, FY.mulD, FY.negD, FY.notD, FY.ordD, FY.ixD, FY.absD, FY.toInt, FY.lenD, FY.tru, FY.isiB, FY.clsOf, FY.subCl, FY.opEsc, FY.mkG, FY.mkH, FY.esc, FY.escL, FY.escEL, FY.escE, FY.frzE, FY.ownFree, FY.setPar, FY.isNone, FY.ixI, L2.ixN, FY.meOk, FY.tgSet, FY.tgsSet, FY.wipeE, FY.tgSlots, FY.tgsSlots, FY.itSem, FY.compA, FY.compLoop, FY.compF, FY.evTests, FY.R.noX, FY.intsOf, FY.blsOf, FY.blsF, FY.intsF, FY.slD, FY.intD, FY.tupleD, FY.listD]) rfl rfl) ?_
  refine execs_nx (env1 := [s0, .val (.ref 0), e2, .val (.int h), .val (.int u), .val (.int horse), (.val (.tup [.int t, .int b])), .val (.int t), .val (.int b), (.val (.tup [P2 (hs h horse t b), P2 (shr ((u * t) % b) b)])), (.val (.int (1 + d6))), (.val (.tup [.int p, .int r])), (.own (.lst ((W h p r).map D.int))), y13, y14, (.val (P2 (shr ((h * p) % r) (h * r)))), (.val (.int (at_ : Int))), e17, e18, e19, e20, e21, e22]) (st1 := [c7]) (by simp [G_law, iW, k1, k2, dW, data_int, indexD, FY.runB, FY.execs, FY.exec, FY.ev, FY.evL, FY.evAnd, FY.evOr, FY.R.bind, FY.R.to, FY.RS.seq, FY.liftO, FY.getV, FY.getRef, FY.opSem, FY.one, FY.two, FY.three, FY.addD, FY.subD, FY.fdivD, FY.modD, FY.mulD, FY.negD, FY.notD, FY.ordD, FY.ixD, FY.absD, FY.toInt, FY.lenD, FY.tru, FY.isiB, FY.clsOf, FY.subCl, FY.opEsc, FY.mkG, FY.mkH, FY.esc, FY.escL, FY.escEL, FY.escE, FY.frzE, FY.ownFree, FY.setPar, FY.isNone, FY.ixI, L2.ixN, FY.meOk, FY.tgSet, FY.tgsSet, FY.wipeE, FY.tgSlots, FY.tgsSlots, FY.itSem, FY.compA, FY.compLoop, FY.compF, FY.evTests, FY.R.noX, FY.intsOf, FY.blsOf, FY.blsF, FY.intsF, FY.slD, FY.intD, FY.tupleD, FY.listD]) ?_
  refine execs_nx (env1 := [s0, .val (.ref 0), e2, .val (.int h), .val (.int u), .val (.int horse), (.val (.tup [.int t, .int b])), .val (.int t), .val (.int b), (.val (.tup [P2 (hs h horse t b), P2 (shr ((u * t) % b) b)])), (.val (.int (1 + d6))), (.val (.tup [.int p, .int r])), (.own (.lst ((W h p r).map D.int))), y13, y14, (.val (P2 (shr ((h * p) % r) (h * r)))), (.val (.int (at_ : Int))), e17, e18, e19, e20, e21, e22]) (st1 := [c7]) (exec_ifs (k := false) (d := .bl false) (st1 := [c7]) (by simp [G_law, stand2, ne_p, P2, FY.runB, FY.execs, FY.exec, FY.ev, FY.evL, FY.evAnd, FY.evOr, FY.R.bind, FY.R.to, FY.RS.seq, FY.liftO, FY.getV, FY.getRef, FY.opSem, FY.one, FY.two, FY.three, FY.addD, FY.subD, FY.fdivD, FY.modD, FY.mulD, FY.negD, FY.notD, FY.ordD, FY.ixD, FY.absD, FY.toInt, FY.lenD, FY.tru, FY.isiB, FY.clsOf, FY.subCl, FY.opEsc, FY.mkG, FY.mkH, FY.esc, FY.escL, FY.escEL, FY.escE, FY.frzE, FY.ownFree, FY.setPar, FY.isNone, FY.ixI, L2.ixN, FY.meOk, FY.tgSet, FY.tgsSet, FY.wipeE, FY.tgSlots, FY.tgsSlots, FY.itSem, FY.compA, FY.compLoop, FY.compF, FY.evTests, FY.R.noX, FY.intsOf, FY.blsOf, FY.blsF, FY.intsF, FY.slD, FY.intD, FY.tupleD, FY.listD]) rfl rfl) ?_
  refine execs_nx (env1 := [s0, .val (.ref 0), e2, .val (.int h), .val (.int u), .val (.int horse), (.val (.tup [.int t, .int b])), .val (.int t), .val (.int b), (.val (.tup [P2 (hs h horse t b), P2 (shr ((u * t) % b) b)])), (.val (.int (1 + d6))), (.val (.tup [.int p, .int r])), (.own (.lst ((W h p r).map D.int))), y13, y14, (.val (P2 (shr ((h * p) % r) (h * r)))), (.val (.int (at_ : Int))), e17, e18, e19, e20, e21, e22]) (st1 := [c7]) (exec_ifs (k := false) (d := .bl false) (st1 := [c7]) (by
      by_cases z : 0 < u
      · simp [G_law, same, lcm, z, ne_p, FY.runB, FY.execs, FY.exec, FY.ev, FY.evL, FY.evAnd, FY.evOr, FY.R.bind, FY.R.to, FY.RS.seq, FY.liftO, FY.getV, FY.getRef, FY.opSem, FY.one, FY.two, FY.three, FY.addD, FY.subD, FY.fdivD, FY.modD, FY.mulD, FY.negD, FY.notD, FY.ordD, FY.ixD, FY.absD, FY.toInt, FY.lenD, FY.tru, FY.isiB, FY.clsOf, FY.subCl, FY.opEsc, FY.mkG, FY.mkH, FY.esc, FY.escL, FY.escEL, FY.escE, FY.frzE, FY.ownFree, FY.setPar, FY.isNone, FY.ixI, L2.ixN, FY.meOk, FY.tgSet, FY.tgsSet, FY.wipeE, FY.tgSlots, FY.tgsSlots, FY.itSem, FY.compA, FY.compLoop, FY.compF, FY.evTests, FY.R.noX, FY.intsOf, FY.blsOf, FY.blsF, FY.intsF, FY.slD, FY.intD, FY.tupleD, FY.listD]
      · obtain rfl : u = 0 := by omega
        have eg : ((h.gcd 0 : Nat) : Int) = h := by rw [Int.gcd_zero_right]; omega
        simp only [eg] at same
        simp [G_law, same, ne_p, FY.runB, FY.execs, FY.exec, FY.ev, FY.evL, FY.evAnd, FY.evOr, FY.R.bind, FY.R.to, FY.RS.seq, FY.liftO, FY.getV, FY.getRef, FY.opSem, FY.one, FY.two, FY.three, FY.addD, FY.subD, FY.fdivD, FY.modD, FY.mulD, FY.negD, FY.notD, FY.ordD, FY.ixD, FY.absD, FY.toInt, FY.lenD, FY.tru, FY.isiB, FY.clsOf, FY.subCl, FY.opEsc, FY.mkG, FY.mkH, FY.esc, FY.escL, FY.escEL, FY.escE, FY.frzE, FY.ownFree, FY.setPar, FY.isNone, FY.ixI, L2.ixN, FY.meOk, FY.tgSet, FY.tgsSet, FY.wipeE, FY.tgSlots, FY.tgsSlots, FY.itSem, FY.compA, FY.compLoop, FY.compF, FY.evTests, FY.R.noX, FY.intsOf, FY.blsOf, FY.blsF, FY.intsF, FY.slD, FY.intD, FY.tupleD, FY.listD]) rfl rfl) ?_
  refine execs_nx (env1 := [s0, .val (.ref 0), e2, .val (.int h), .val (.int u), .val (.int horse), (.val (.tup [.int t, .int b])), .val (.int t), .val (.int b), (.val (.tup [P2 (hs h horse t b), P2 (shr ((u * t) % b) b)])), (.val (.int (1 + d6))), (.val (.tup [.int p, .int r])), (.own (.lst ((W h p r).map D.int))), y13, y14, (.val (P2 (shr ((h * p) % r) (h * r)))), (.val (.int (at_ : Int))), e17, e18, e19, e20, e21, e22]) (st1 := [c7]) (exec_ifs (k := false) (d := .bl false) (st1 := [c7]) (by simp [G_law, same, stand3, ne_p, P2, FY.runB, FY.execs, FY.exec, FY.ev, FY.evL, FY.evAnd, FY.evOr, FY.R.bind, FY.R.to, FY.RS.seq, FY.liftO, FY.getV, FY.getRef, FY.opSem, FY.one, FY.two, FY.three, FY.addD, FY.subD, FY.fdivD, FY.modD, FY.mulD, FY.negD, FY.notD, FY.ordD, FY.ixD, FY.absD, FY.toInt, FY.lenD, FY.tru, FY.isiB, FY.clsOf, FY.subCl, FY.opEsc, FY.mkG, FY.mkH, FY.esc, FY.escL, FY.escEL, FY.escE, FY.frzE, FY.ownFree, FY.setPar, FY.isNone, FY.ixI, L2.ixN, FY.meOk, FY.tgSet, FY.tgsSet, FY.wipeE, FY.tgSlots, FY.tgsSlots, FY.itSem, FY.compA, FY.compLoop, FY.compF, FY.evTests, FY.R.noX, FY.intsOf, FY.blsOf, FY.blsF, FY.intsF, FY.slD, FY.intD, FY.tupleD, FY.listD]) rfl rfl) ?_
  refine execs_nx (env1 := [s0, .val (.ref 0), e2, .val (.int h), .val (.int u), .val (.int horse), (.val (.tup [.int t, .int b])), .val (.int t), .val (.int b), (.val (.tup [P2 (hs h horse t b), P2 (shr ((u * t) % b) b)])), (.val (.int (1 + d6))), (.val (.tup [.int p, .int r])), (.own (.lst ((W h p r).map D.int))), y13, y14, (.val (P2 (shr ((h * p) % r) (h * r)))), (.val (.int (at_ : Int))), .val bad, .val off, e19, e20, e21, e22]) (st1 := [c9]) (by simp [G_law, q8, q9, FY.runB, FY.execs, FY.exec, FY.ev, FY.evL, FY.evAnd, FY.evOr, FY.R.bind, FY.R.to, FY.RS.seq, FY.liftO, FY.getV, FY.getRef, FY.opSem, FY.one, FY.two, FY.three, FY.addD, FY.subD, FY.fdivD, FY.modD, FY.mulD, FY.negD, FY.notD, FY.ordD, FY.ixD, FY.absD, FY.toInt, FY.lenD, FY.tru, FY.isiB, FY.clsOf, FY.subCl, FY.opEsc, FY.mkG, FY.mkH, FY.esc, FY.escL, FY.escEL, FY.escE, FY.frzE, FY.ownFree, FY.setPar, FY.isNone, FY.ixI, L2.ixN, FY.meOk, FY.tgSet, FY.tgsSet, FY.wipeE, FY.tgSlots, FY.tgsSlots, FY.itSem, FY.compA, FY.compLoop, FY.compF, FY.evTests, FY.R.noX, FY.intsOf, FY.blsOf, FY.blsF, FY.intsF, FY.slD, FY.intD, FY.tupleD, FY.listD]) ?_
  refine execs_nx (env1 := [s0, .val (.ref 0), e2, .val (.int h), .val (.int u), .val (.int horse), (.val (.tup [.int t, .int b])), .val (.int t), .val (.int b), (.val (.tup [P2 (hs h horse t b), P2 (shr ((u * t) % b) b)])), (.val (.int (1 + d6))), (.val (.tup [.int p, .int r])), (.own (.lst ((W h p r).map D.int))), y13, y14, (.val (P2 (shr ((h * p) % r) (h * r)))), (.val (.int (at_ : Int))), .val bad, .val off, .val last, e20, e21, e22]) (st1 := [c10]) (by simp [G_law, q10, FY.runB, FY.execs, FY.exec, FY.ev, FY.evL, FY.evAnd, FY.evOr, FY.R.bind, FY.R.to, FY.RS.seq, FY.liftO, FY.getV, FY.getRef, FY.opSem, FY.one, FY.two, FY.three, FY.addD, FY.subD, FY.fdivD, FY.modD, FY.mulD, FY.negD, FY.notD, FY.ordD, FY.ixD, FY.absD, FY.toInt, FY.lenD, FY.tru, FY.isiB, FY.clsOf, FY.subCl, FY.opEsc, FY.mkG, FY.mkH, FY.esc, FY.escL, FY.escEL, FY.escE, FY.frzE, FY.ownFree, FY.setPar, FY.isNone, FY.ixI, L2.ixN, FY.meOk, FY.tgSet, FY.tgsSet, FY.wipeE, FY.tgSlots, FY.tgsSlots, FY.itSem, FY.compA, FY.compLoop, FY.compF, FY.evTests, FY.R.noX, FY.intsOf, FY.blsOf, FY.blsF, FY.intsF, FY.slD, FY.intD, FY.tupleD, FY.listD]) ?_
  refine execs_nx (env1 := [s0, .val (.ref 0), e2, .val (.int h), .val (.int u), .val (.int horse), (.val (.tup [.int t, .int b])), .val (.int t), .val (.int b), (.val (.tup [P2 (hs h horse t b), P2 (shr ((u * t) % b) b)])), (.val (.int (1 + d6))), (.val (.tup [.int p, .int r])), (.own (.lst ((W h p r).map D.int))), y13, y14, (.val (P2 (shr ((h * p) % r) (h * r)))), (.val (.int (at_ : Int))), .val bad, .val off, .val last, .val wrong, e21, e22]) (st1 := [c11]) (by simp [G_law, q11, FY.runB, FY.execs, FY.exec, FY.ev, FY.evL, FY.evAnd, FY.evOr, FY.R.bind, FY.R.to, FY.RS.seq, FY.liftO, FY.getV, FY.getRef, FY.opSem, FY.one, FY.two, FY.three, FY.addD, FY.subD, FY.fdivD, FY.modD, FY.mulD, FY.negD, FY.notD, FY.ordD, FY.ixD, FY.absD, FY.toInt, FY.lenD, FY.tru, FY.isiB, FY.clsOf, FY.subCl, FY.opEsc, FY.mkG, FY.mkH, FY.esc, FY.escL, FY.escEL, FY.escE, FY.frzE, FY.ownFree, FY.setPar, FY.isNone, FY.ixI, L2.ixN, FY.meOk, FY.tgSet, FY.tgsSet, FY.wipeE, FY.tgSlots, FY.tgsSlots, FY.itSem, FY.compA, FY.compLoop, FY.compF, FY.evTests, FY.R.noX, FY.intsOf, FY.blsOf, FY.blsF, FY.intsF, FY.slD, FY.intD, FY.tupleD, FY.listD]) ?_
  refine execs_nx (env1 := [s0, .val (.ref 0), e2, .val (.int h), .val (.int u), .val (.int horse), (.val (.tup [.int t, .int b])), .val (.int t), .val (.int b), (.val (.tup [P2 (hs h horse t b), P2 (shr ((u * t) % b) b)])), (.val (.int (1 + d6))), (.val (.tup [.int p, .int r])), (.own (.lst ((W h p r).map D.int))), y13, y14, (.val (P2 (shr ((h * p) % r) (h * r)))), (.val (.int (at_ : Int))), .val bad, .val off, .val last, .val wrong, .val odd, e22]) (st1 := [c12]) (by simp [G_law, q12, FY.runB, FY.execs, FY.exec, FY.ev, FY.evL, FY.evAnd, FY.evOr, FY.R.bind, FY.R.to, FY.RS.seq, FY.liftO, FY.getV, FY.getRef, FY.opSem, FY.one, FY.two, FY.three, FY.addD, FY.subD, FY.fdivD, FY.modD, FY.mulD, FY.negD, FY.notD, FY.ordD, FY.ixD, FY.absD, FY.toInt, FY.lenD, FY.tru, FY.isiB, FY.clsOf, FY.subCl, FY.opEsc, FY.mkG, FY.mkH, FY.esc, FY.escL, FY.escEL, FY.escE, FY.frzE, FY.ownFree, FY.setPar, FY.isNone, FY.ixI, L2.ixN, FY.meOk, FY.tgSet, FY.tgsSet, FY.wipeE, FY.tgSlots, FY.tgsSlots, FY.itSem, FY.compA, FY.compLoop, FY.compF, FY.evTests, FY.R.noX, FY.intsOf, FY.blsOf, FY.blsF, FY.intsF, FY.slD, FY.intD, FY.tupleD, FY.listD]) ?_
  have v0 : ev G_law (.hof 0 (.call 4 [(.var 17), (.var 18), (.var 19), (.var 20)]) []) [s0, .val (.ref 0), e2, .val (.int h), .val (.int u), .val (.int horse), (.val (.tup [.int t, .int b])), .val (.int t), .val (.int b), (.val (.tup [P2 (hs h horse t b), P2 (shr ((u * t) % b) b)])), (.val (.int (1 + d6))), (.val (.tup [.int p, .int r])), (.own (.lst ((W h p r).map D.int))), y13, y14, (.val (P2 (shr ((h * p) % r) (h * r)))), (.val (.int (at_ : Int))), .val bad, .val off, .val last, .val wrong, .val odd, e22] [c12] = .ok (.str "horses") [c12] := hofx rfl (ev_call (vs := [bad, off, last, wrong]) (st1 := [c12]) rfl (by simp [FY.runB, FY.execs, FY.exec, FY.ev, FY.evL, FY.evAnd, FY.evOr, FY.R.bind, FY.R.to, FY.RS.seq, FY.liftO, FY.getV, FY.getRef, FY.opSem, FY.one, FY.two, FY.three, FY.addD, FY.subD, FY.fdivD, FY.modD, FY.mulD, FY.negD, FY.notD, FY.ordD, FY.ixD, FY.absD, FY.toInt, FY.lenD, FY.tru, FY.isiB, FY.clsOf, FY.subCl, FY.opEsc, FY.mkG, FY.mkH, FY.esc, FY.escL, FY.escEL, FY.escE, FY.frzE, FY.ownFree, FY.setPar, FY.isNone, FY.ixI, L2.ixN, FY.meOk, FY.tgSet, FY.tgsSet, FY.wipeE, FY.tgSlots, FY.tgsSlots, FY.itSem, FY.compA, FY.compLoop, FY.compF, FY.evTests, FY.R.noX, FY.intsOf, FY.blsOf, FY.blsF, FY.intsF, FY.slD, FY.intD, FY.tupleD, FY.listD]) (stand_h _ bad off last wrong nbad)) w_horses
  refine execs_nx (env1 := [s0, .val (.ref 0), e2, .val (.int h), .val (.int u), .val (.int horse), (.val (.tup [.int t, .int b])), .val (.int t), .val (.int b), (.val (.tup [P2 (hs h horse t b), P2 (shr ((u * t) % b) b)])), (.val (.int (1 + d6))), (.val (.tup [.int p, .int r])), (.own (.lst ((W h p r).map D.int))), y13, y14, (.val (P2 (shr ((h * p) % r) (h * r)))), (.val (.int (at_ : Int))), .val bad, .val off, .val last, .val wrong, .val odd, (.own (.lst [.str "horses"]))]) (st1 := [c12]) (exec_setO (ev_lst1 v0)) ?_
  have v1 : ev G_law (.hof 0 (.call 4 [(.var 3), (.var 18), (.var 19), (.var 20)]) []) [s0, .val (.ref 0), e2, .val (.int h), .val (.int u), .val (.int horse), (.val (.tup [.int t, .int b])), .val (.int t), .val (.int b), (.val (.tup [P2 (hs h horse t b), P2 (shr ((u * t) % b) b)])), (.val (.int (1 + d6))), (.val (.tup [.int p, .int r])), (.own (.lst ((W h p r).map D.int))), y13, y14, (.val (P2 (shr ((h * p) % r) (h * r)))), (.val (.int (at_ : Int))), .val bad, .val off, .val last, .val wrong, .val odd, (.own (.lst [.str "horses"]))] [c12] = .ok (.str "ups") [c12] := hofx rfl (ev_call (vs := [.int h, off, last, wrong]) (st1 := [c12]) rfl (by simp [FY.runB, FY.execs, FY.exec, FY.ev, FY.evL, FY.evAnd, FY.evOr, FY.R.bind, FY.R.to, FY.RS.seq, FY.liftO, FY.getV, FY.getRef, FY.opSem, FY.one, FY.two, FY.three, FY.addD, FY.subD, FY.fdivD, FY.modD, FY.mulD, FY.negD, FY.notD, FY.ordD, FY.ixD, FY.absD, FY.toInt, FY.lenD, FY.tru, FY.isiB, FY.clsOf, FY.subCl, FY.opEsc, FY.mkG, FY.mkH, FY.esc, FY.escL, FY.escEL, FY.escE, FY.frzE, FY.ownFree, FY.setPar, FY.isNone, FY.ixI, L2.ixN, FY.meOk, FY.tgSet, FY.tgsSet, FY.wipeE, FY.tgSlots, FY.tgsSlots, FY.itSem, FY.compA, FY.compLoop, FY.compF, FY.evTests, FY.R.noX, FY.intsOf, FY.blsOf, FY.blsF, FY.intsF, FY.slD, FY.intD, FY.tupleD, FY.listD]) (stand_u h _ h1 h2 off last wrong noff)) w_ups
  refine execs_nx (env1 := [s0, .val (.ref 0), e2, .val (.int h), .val (.int u), .val (.int horse), (.val (.tup [.int t, .int b])), .val (.int t), .val (.int b), (.val (.tup [P2 (hs h horse t b), P2 (shr ((u * t) % b) b)])), (.val (.int (1 + d6))), (.val (.tup [.int p, .int r])), (.own (.lst ((W h p r).map D.int))), y13, y14, (.val (P2 (shr ((h * p) % r) (h * r)))), (.val (.int (at_ : Int))), .val bad, .val off, .val last, .val wrong, .val odd, (.own (.lst [.str "horses", .str "ups"]))]) (st1 := [c12]) (exec_app (l := [.str "horses"]) rfl v1 rfl (by unfold szL; decide)) ?_
  have v2 : ev G_law (.hof 0 (.call 4 [(.var 3), (.var 4), (.var 19), (.var 20)]) []) [s0, .val (.ref 0), e2, .val (.int h), .val (.int u), .val (.int horse), (.val (.tup [.int t, .int b])), .val (.int t), .val (.int b), (.val (.tup [P2 (hs h horse t b), P2 (shr ((u * t) % b) b)])), (.val (.int (1 + d6))), (.val (.tup [.int p, .int r])), (.own (.lst ((W h p r).map D.int))), y13, y14, (.val (P2 (shr ((h * p) % r) (h * r)))), (.val (.int (at_ : Int))), .val bad, .val off, .val last, .val wrong, .val odd, (.own (.lst [.str "horses", .str "ups"]))] [c12] = .ok (.str "horse") [c12] := hofx rfl (ev_call (vs := [.int h, .int u, last, wrong]) (st1 := [c12]) rfl (by simp [FY.runB, FY.execs, FY.exec, FY.ev, FY.evL, FY.evAnd, FY.evOr, FY.R.bind, FY.R.to, FY.RS.seq, FY.liftO, FY.getV, FY.getRef, FY.opSem, FY.one, FY.two, FY.three, FY.addD, FY.subD, FY.fdivD, FY.modD, FY.mulD, FY.negD, FY.notD, FY.ordD, FY.ixD, FY.absD, FY.toInt, FY.lenD, FY.tru, FY.isiB, FY.clsOf, FY.subCl, FY.opEsc, FY.mkG, FY.mkH, FY.esc, FY.escL, FY.escEL, FY.escE, FY.frzE, FY.ownFree, FY.setPar, FY.isNone, FY.ixI, L2.ixN, FY.meOk, FY.tgSet, FY.tgsSet, FY.wipeE, FY.tgSlots, FY.tgsSlots, FY.itSem, FY.compA, FY.compLoop, FY.compF, FY.evTests, FY.R.noX, FY.intsOf, FY.blsOf, FY.blsF, FY.intsF, FY.slD, FY.intD, FY.tupleD, FY.listD]) (stand_l h u _ h1 h2 u0 u4 last wrong nlast)) w_horse
  refine execs_nx (env1 := [s0, .val (.ref 0), e2, .val (.int h), .val (.int u), .val (.int horse), (.val (.tup [.int t, .int b])), .val (.int t), .val (.int b), (.val (.tup [P2 (hs h horse t b), P2 (shr ((u * t) % b) b)])), (.val (.int (1 + d6))), (.val (.tup [.int p, .int r])), (.own (.lst ((W h p r).map D.int))), y13, y14, (.val (P2 (shr ((h * p) % r) (h * r)))), (.val (.int (at_ : Int))), .val bad, .val off, .val last, .val wrong, .val odd, (.own (.lst [.str "horses", .str "ups", .str "horse"]))]) (st1 := [c12]) (exec_app (l := [.str "horses", .str "ups"]) rfl v2 rfl (by unfold szL; decide)) ?_
  have v3 : ev G_law (.hof 0 (.call 4 [(.var 3), (.var 4), (.var 5), (.var 20)]) []) [s0, .val (.ref 0), e2, .val (.int h), .val (.int u), .val (.int horse), (.val (.tup [.int t, .int b])), .val (.int t), .val (.int b), (.val (.tup [P2 (hs h horse t b), P2 (shr ((u * t) % b) b)])), (.val (.int (1 + d6))), (.val (.tup [.int p, .int r])), (.own (.lst ((W h p r).map D.int))), y13, y14, (.val (P2 (shr ((h * p) % r) (h * r)))), (.val (.int (at_ : Int))), .val bad, .val off, .val last, .val wrong, .val odd, (.own (.lst [.str "horses", .str "ups", .str "horse"]))] [c12] = .ok (.str "turned") [c12] := hofx rfl (ev_call (vs := [.int h, .int u, .int horse, wrong]) (st1 := [c12]) rfl (by simp [FY.runB, FY.execs, FY.exec, FY.ev, FY.evL, FY.evAnd, FY.evOr, FY.R.bind, FY.R.to, FY.RS.seq, FY.liftO, FY.getV, FY.getRef, FY.opSem, FY.one, FY.two, FY.three, FY.addD, FY.subD, FY.fdivD, FY.modD, FY.mulD, FY.negD, FY.notD, FY.ordD, FY.ixD, FY.absD, FY.toInt, FY.lenD, FY.tru, FY.isiB, FY.clsOf, FY.subCl, FY.opEsc, FY.mkG, FY.mkH, FY.esc, FY.escL, FY.escEL, FY.escE, FY.frzE, FY.ownFree, FY.setPar, FY.isNone, FY.ixI, L2.ixN, FY.meOk, FY.tgSet, FY.tgsSet, FY.wipeE, FY.tgSlots, FY.tgsSlots, FY.itSem, FY.compA, FY.compLoop, FY.compF, FY.evTests, FY.R.noX, FY.intsOf, FY.blsOf, FY.blsF, FY.intsF, FY.slD, FY.intD, FY.tupleD, FY.listD]) (stand_w h u horse _ h1 h2 u0 u4 wrong hhp nwrong)) w_turned
  refine execs_nx (env1 := [s0, .val (.ref 0), e2, .val (.int h), .val (.int u), .val (.int horse), (.val (.tup [.int t, .int b])), .val (.int t), .val (.int b), (.val (.tup [P2 (hs h horse t b), P2 (shr ((u * t) % b) b)])), (.val (.int (1 + d6))), (.val (.tup [.int p, .int r])), (.own (.lst ((W h p r).map D.int))), y13, y14, (.val (P2 (shr ((h * p) % r) (h * r)))), (.val (.int (at_ : Int))), .val bad, .val off, .val last, .val wrong, .val odd, (.own (.lst [.str "horses", .str "ups", .str "horse", .str "turned"]))]) (st1 := [c12]) (exec_app (l := [.str "horses", .str "ups", .str "horse"]) rfl v3 rfl (by unfold szL; decide)) ?_
  have v4 : ev G_law (.hof 0 (.call 5 [(.var 17), (.var 18), (.var 21)]) []) [s0, .val (.ref 0), e2, .val (.int h), .val (.int u), .val (.int horse), (.val (.tup [.int t, .int b])), .val (.int t), .val (.int b), (.val (.tup [P2 (hs h horse t b), P2 (shr ((u * t) % b) b)])), (.val (.int (1 + d6))), (.val (.tup [.int p, .int r])), (.own (.lst ((W h p r).map D.int))), y13, y14, (.val (P2 (shr ((h * p) % r) (h * r)))), (.val (.int (at_ : Int))), .val bad, .val off, .val last, .val wrong, .val odd, (.own (.lst [.str "horses", .str "ups", .str "horse", .str "turned"]))] [c12] = .ok (.str "horses") [c12] := hofx rfl (ev_call (vs := [bad, off, odd]) (st1 := [c12]) rfl (by simp [FY.runB, FY.execs, FY.exec, FY.ev, FY.evL, FY.evAnd, FY.evOr, FY.R.bind, FY.R.to, FY.RS.seq, FY.liftO, FY.getV, FY.getRef, FY.opSem, FY.one, FY.two, FY.three, FY.addD, FY.subD, FY.fdivD, FY.modD, FY.mulD, FY.negD, FY.notD, FY.ordD, FY.ixD, FY.absD, FY.toInt, FY.lenD, FY.tru, FY.isiB, FY.clsOf, FY.subCl, FY.opEsc, FY.mkG, FY.mkH, FY.esc, FY.escL, FY.escEL, FY.escE, FY.frzE, FY.ownFree, FY.setPar, FY.isNone, FY.ixI, L2.ixN, FY.meOk, FY.tgSet, FY.tgsSet, FY.wipeE, FY.tgSlots, FY.tgsSlots, FY.itSem, FY.compA, FY.compLoop, FY.compF, FY.evTests, FY.R.noX, FY.intsOf, FY.blsOf, FY.blsF, FY.intsF, FY.slD, FY.intD, FY.tupleD, FY.listD]) (meet_h bad off odd _ nbad)) w_horses
  refine execs_nx (env1 := [s0, .val (.ref 0), e2, .val (.int h), .val (.int u), .val (.int horse), (.val (.tup [.int t, .int b])), .val (.int t), .val (.int b), (.val (.tup [P2 (hs h horse t b), P2 (shr ((u * t) % b) b)])), (.val (.int (1 + d6))), (.val (.tup [.int p, .int r])), (.own (.lst ((W h p r).map D.int))), y13, y14, (.val (P2 (shr ((h * p) % r) (h * r)))), (.val (.int (at_ : Int))), .val bad, .val off, .val last, .val wrong, .val odd, (.own (.lst [.str "horses", .str "ups", .str "horse", .str "turned", .str "horses"]))]) (st1 := [c12]) (exec_app (l := [.str "horses", .str "ups", .str "horse", .str "turned"]) rfl v4 rfl (by unfold szL; decide)) ?_
  have v5 : ev G_law (.hof 0 (.call 5 [(.var 3), (.var 18), (.var 21)]) []) [s0, .val (.ref 0), e2, .val (.int h), .val (.int u), .val (.int horse), (.val (.tup [.int t, .int b])), .val (.int t), .val (.int b), (.val (.tup [P2 (hs h horse t b), P2 (shr ((u * t) % b) b)])), (.val (.int (1 + d6))), (.val (.tup [.int p, .int r])), (.own (.lst ((W h p r).map D.int))), y13, y14, (.val (P2 (shr ((h * p) % r) (h * r)))), (.val (.int (at_ : Int))), .val bad, .val off, .val last, .val wrong, .val odd, (.own (.lst [.str "horses", .str "ups", .str "horse", .str "turned", .str "horses"]))] [c12] = .ok (.str "ups") [c12] := hofx rfl (ev_call (vs := [.int h, off, odd]) (st1 := [c12]) rfl (by simp [FY.runB, FY.execs, FY.exec, FY.ev, FY.evL, FY.evAnd, FY.evOr, FY.R.bind, FY.R.to, FY.RS.seq, FY.liftO, FY.getV, FY.getRef, FY.opSem, FY.one, FY.two, FY.three, FY.addD, FY.subD, FY.fdivD, FY.modD, FY.mulD, FY.negD, FY.notD, FY.ordD, FY.ixD, FY.absD, FY.toInt, FY.lenD, FY.tru, FY.isiB, FY.clsOf, FY.subCl, FY.opEsc, FY.mkG, FY.mkH, FY.esc, FY.escL, FY.escEL, FY.escE, FY.frzE, FY.ownFree, FY.setPar, FY.isNone, FY.ixI, L2.ixN, FY.meOk, FY.tgSet, FY.tgsSet, FY.wipeE, FY.tgSlots, FY.tgsSlots, FY.itSem, FY.compA, FY.compLoop, FY.compF, FY.evTests, FY.R.noX, FY.intsOf, FY.blsOf, FY.blsF, FY.intsF, FY.slD, FY.intD, FY.tupleD, FY.listD]) (meet_u h off odd _ h1 h2 noff)) w_ups
  refine execs_nx (env1 := [s0, .val (.ref 0), e2, .val (.int h), .val (.int u), .val (.int horse), (.val (.tup [.int t, .int b])), .val (.int t), .val (.int b), (.val (.tup [P2 (hs h horse t b), P2 (shr ((u * t) % b) b)])), (.val (.int (1 + d6))), (.val (.tup [.int p, .int r])), (.own (.lst ((W h p r).map D.int))), y13, y14, (.val (P2 (shr ((h * p) % r) (h * r)))), (.val (.int (at_ : Int))), .val bad, .val off, .val last, .val wrong, .val odd, (.own (.lst [.str "horses", .str "ups", .str "horse", .str "turned", .str "horses", .str "ups"]))]) (st1 := [c12]) (exec_app (l := [.str "horses", .str "ups", .str "horse", .str "turned", .str "horses"]) rfl v5 rfl (by unfold szL; decide)) ?_
  have v6 : ev G_law (.hof 0 (.call 5 [(.var 3), (.var 4), (.var 21)]) []) [s0, .val (.ref 0), e2, .val (.int h), .val (.int u), .val (.int horse), (.val (.tup [.int t, .int b])), .val (.int t), .val (.int b), (.val (.tup [P2 (hs h horse t b), P2 (shr ((u * t) % b) b)])), (.val (.int (1 + d6))), (.val (.tup [.int p, .int r])), (.own (.lst ((W h p r).map D.int))), y13, y14, (.val (P2 (shr ((h * p) % r) (h * r)))), (.val (.int (at_ : Int))), .val bad, .val off, .val last, .val wrong, .val odd, (.own (.lst [.str "horses", .str "ups", .str "horse", .str "turned", .str "horses", .str "ups"]))] [c12] = .ok (.str "stand") [c12] := hofx rfl (ev_call (vs := [.int h, .int u, odd]) (st1 := [c12]) rfl (by simp [FY.runB, FY.execs, FY.exec, FY.ev, FY.evL, FY.evAnd, FY.evOr, FY.R.bind, FY.R.to, FY.RS.seq, FY.liftO, FY.getV, FY.getRef, FY.opSem, FY.one, FY.two, FY.three, FY.addD, FY.subD, FY.fdivD, FY.modD, FY.mulD, FY.negD, FY.notD, FY.ordD, FY.ixD, FY.absD, FY.toInt, FY.lenD, FY.tru, FY.isiB, FY.clsOf, FY.subCl, FY.opEsc, FY.mkG, FY.mkH, FY.esc, FY.escL, FY.escEL, FY.escE, FY.frzE, FY.ownFree, FY.setPar, FY.isNone, FY.ixI, L2.ixN, FY.meOk, FY.tgSet, FY.tgsSet, FY.wipeE, FY.tgSlots, FY.tgsSlots, FY.itSem, FY.compA, FY.compLoop, FY.compF, FY.evTests, FY.R.noX, FY.intsOf, FY.blsOf, FY.blsF, FY.intsF, FY.slD, FY.intD, FY.tupleD, FY.listD]) (meet_w h u odd _ h1 h2 u0 u4 nodd)) w_stand
  refine execs_nx (env1 := [s0, .val (.ref 0), e2, .val (.int h), .val (.int u), .val (.int horse), (.val (.tup [.int t, .int b])), .val (.int t), .val (.int b), (.val (.tup [P2 (hs h horse t b), P2 (shr ((u * t) % b) b)])), (.val (.int (1 + d6))), (.val (.tup [.int p, .int r])), (.own (.lst ((W h p r).map D.int))), y13, y14, (.val (P2 (shr ((h * p) % r) (h * r)))), (.val (.int (at_ : Int))), .val bad, .val off, .val last, .val wrong, .val odd, (.own (.lst [.str "horses", .str "ups", .str "horse", .str "turned", .str "horses", .str "ups", .str "stand"]))]) (st1 := [c12]) (exec_app (l := [.str "horses", .str "ups", .str "horse", .str "turned", .str "horses", .str "ups"]) rfl v6 rfl (by unfold szL; decide)) ?_
  have v7 : ev G_law (.hof 0 (.call 6 [(.var 17), (.var 18)]) []) [s0, .val (.ref 0), e2, .val (.int h), .val (.int u), .val (.int horse), (.val (.tup [.int t, .int b])), .val (.int t), .val (.int b), (.val (.tup [P2 (hs h horse t b), P2 (shr ((u * t) % b) b)])), (.val (.int (1 + d6))), (.val (.tup [.int p, .int r])), (.own (.lst ((W h p r).map D.int))), y13, y14, (.val (P2 (shr ((h * p) % r) (h * r)))), (.val (.int (at_ : Int))), .val bad, .val off, .val last, .val wrong, .val odd, (.own (.lst [.str "horses", .str "ups", .str "horse", .str "turned", .str "horses", .str "ups", .str "stand"]))] [c12] = .ok (.str "horses") [c12] := hofx rfl (ev_call (vs := [bad, off]) (st1 := [c12]) rfl (by simp [FY.runB, FY.execs, FY.exec, FY.ev, FY.evL, FY.evAnd, FY.evOr, FY.R.bind, FY.R.to, FY.RS.seq, FY.liftO, FY.getV, FY.getRef, FY.opSem, FY.one, FY.two, FY.three, FY.addD, FY.subD, FY.fdivD, FY.modD, FY.mulD, FY.negD, FY.notD, FY.ordD, FY.ixD, FY.absD, FY.toInt, FY.lenD, FY.tru, FY.isiB, FY.clsOf, FY.subCl, FY.opEsc, FY.mkG, FY.mkH, FY.esc, FY.escL, FY.escEL, FY.escE, FY.frzE, FY.ownFree, FY.setPar, FY.isNone, FY.ixI, L2.ixN, FY.meOk, FY.tgSet, FY.tgsSet, FY.wipeE, FY.tgSlots, FY.tgsSlots, FY.itSem, FY.compA, FY.compLoop, FY.compF, FY.evTests, FY.R.noX, FY.intsOf, FY.blsOf, FY.blsF, FY.intsF, FY.slD, FY.intD, FY.tupleD, FY.listD]) (same_h bad off _ nbad)) w_horses
  refine execs_nx (env1 := [s0, .val (.ref 0), e2, .val (.int h), .val (.int u), .val (.int horse), (.val (.tup [.int t, .int b])), .val (.int t), .val (.int b), (.val (.tup [P2 (hs h horse t b), P2 (shr ((u * t) % b) b)])), (.val (.int (1 + d6))), (.val (.tup [.int p, .int r])), (.own (.lst ((W h p r).map D.int))), y13, y14, (.val (P2 (shr ((h * p) % r) (h * r)))), (.val (.int (at_ : Int))), .val bad, .val off, .val last, .val wrong, .val odd, (.own (.lst [.str "horses", .str "ups", .str "horse", .str "turned", .str "horses", .str "ups", .str "stand", .str "horses"]))]) (st1 := [c12]) (exec_app (l := [.str "horses", .str "ups", .str "horse", .str "turned", .str "horses", .str "ups", .str "stand"]) rfl v7 rfl (by unfold szL; decide)) ?_
  have v8 : ev G_law (.hof 0 (.call 6 [(.var 3), (.var 18)]) []) [s0, .val (.ref 0), e2, .val (.int h), .val (.int u), .val (.int horse), (.val (.tup [.int t, .int b])), .val (.int t), .val (.int b), (.val (.tup [P2 (hs h horse t b), P2 (shr ((u * t) % b) b)])), (.val (.int (1 + d6))), (.val (.tup [.int p, .int r])), (.own (.lst ((W h p r).map D.int))), y13, y14, (.val (P2 (shr ((h * p) % r) (h * r)))), (.val (.int (at_ : Int))), .val bad, .val off, .val last, .val wrong, .val odd, (.own (.lst [.str "horses", .str "ups", .str "horse", .str "turned", .str "horses", .str "ups", .str "stand", .str "horses"]))] [c12] = .ok (.str "ups") [c12] := hofx rfl (ev_call (vs := [.int h, off]) (st1 := [c12]) rfl (by simp [FY.runB, FY.execs, FY.exec, FY.ev, FY.evL, FY.evAnd, FY.evOr, FY.R.bind, FY.R.to, FY.RS.seq, FY.liftO, FY.getV, FY.getRef, FY.opSem, FY.one, FY.two, FY.three, FY.addD, FY.subD, FY.fdivD, FY.modD, FY.mulD, FY.negD, FY.notD, FY.ordD, FY.ixD, FY.absD, FY.toInt, FY.lenD, FY.tru, FY.isiB, FY.clsOf, FY.subCl, FY.opEsc, FY.mkG, FY.mkH, FY.esc, FY.escL, FY.escEL, FY.escE, FY.frzE, FY.ownFree, FY.setPar, FY.isNone, FY.ixI, L2.ixN, FY.meOk, FY.tgSet, FY.tgsSet, FY.wipeE, FY.tgSlots, FY.tgsSlots, FY.itSem, FY.compA, FY.compLoop, FY.compF, FY.evTests, FY.R.noX, FY.intsOf, FY.blsOf, FY.blsF, FY.intsF, FY.slD, FY.intD, FY.tupleD, FY.listD]) (same_u h off _ h1 h2 noff)) w_ups
  refine execs_nx (env1 := [s0, .val (.ref 0), e2, .val (.int h), .val (.int u), .val (.int horse), (.val (.tup [.int t, .int b])), .val (.int t), .val (.int b), (.val (.tup [P2 (hs h horse t b), P2 (shr ((u * t) % b) b)])), (.val (.int (1 + d6))), (.val (.tup [.int p, .int r])), (.own (.lst ((W h p r).map D.int))), y13, y14, (.val (P2 (shr ((h * p) % r) (h * r)))), (.val (.int (at_ : Int))), .val bad, .val off, .val last, .val wrong, .val odd, (.own (.lst [.str "horses", .str "ups", .str "horse", .str "turned", .str "horses", .str "ups", .str "stand", .str "horses", .str "ups"]))]) (st1 := [c12]) (exec_app (l := [.str "horses", .str "ups", .str "horse", .str "turned", .str "horses", .str "ups", .str "stand", .str "horses"]) rfl v8 rfl (by unfold szL; decide)) ?_
  exact execs_nx (exec_ifs (k := false) (d := .bl false) (st1 := [c12]) (by simp [ne_w, FY.runB, FY.execs, FY.exec, FY.ev, FY.evL, FY.evAnd, FY.evOr, FY.R.bind, FY.R.to, FY.RS.seq, FY.liftO, FY.getV, FY.getRef, FY.opSem, FY.one, FY.two, FY.three, FY.addD, FY.subD, FY.fdivD, FY.modD, FY.mulD, FY.negD, FY.notD, FY.ordD, FY.ixD, FY.absD, FY.toInt, FY.lenD, FY.tru, FY.isiB, FY.clsOf, FY.subCl, FY.opEsc, FY.mkG, FY.mkH, FY.esc, FY.escL, FY.escEL, FY.escE, FY.frzE, FY.ownFree, FY.setPar, FY.isNone, FY.ixI, L2.ixN, FY.meOk, FY.tgSet, FY.tgsSet, FY.wipeE, FY.tgSlots, FY.tgsSlots, FY.itSem, FY.compA, FY.compLoop, FY.compF, FY.evTests, FY.R.noX, FY.intsOf, FY.blsOf, FY.blsF, FY.intsF, FY.slD, FY.intD, FY.tupleD, FY.listD]) rfl rfl) rfl
end k69

end

section
set_option maxRecDepth 100000
set_option maxHeartbeats 8000000
namespace k69
open FY
theorem turns : ∀ (k : Nat) (i : Int) (c : D), HandC c → ∀ (s0 e2 e3 e4 e5 e6 e7 e8 e9 e10 e11 e12 e13 e14 e15 e16 e17 e18 e19 e20 e21 e22 : Slt), ∃ c', HandC c' ∧ ∃ f2 f3 f4 f5 f6 f7 f8 f9 f10 f11 f12 f13 f14 f15 f16 f17 f18 f19 f20 f21 f22 : Slt, floop (.nm 2) (execs G_law bodyL) (rangeD i k) [s0, .val (.ref 0), e2, e3, e4, e5, e6, e7, e8, e9, e10, e11, e12, e13, e14, e15, e16, e17, e18, e19, e20, e21, e22] [c] = .nx [s0, .val (.ref 0), f2, f3, f4, f5, f6, f7, f8, f9, f10, f11, f12, f13, f14, f15, f16, f17, f18, f19, f20, f21, f22] [c']
  | 0, i, c, hc, s0, e2, e3, e4, e5, e6, e7, e8, e9, e10, e11, e12, e13, e14, e15, e16, e17, e18, e19, e20, e21, e22 => ⟨c, hc, e2, e3, e4, e5, e6, e7, e8, e9, e10, e11, e12, e13, e14, e15, e16, e17, e18, e19, e20, e21, e22, rfl⟩
  | k + 1, i, c, hc, s0, e2, e3, e4, e5, e6, e7, e8, e9, e10, e11, e12, e13, e14, e15, e16, e17, e18, e19, e20, e21, e22 => by
    obtain ⟨c1, hc1, f2, f3, f4, f5, f6, f7, f8, f9, f10, f11, f12, f13, f14, f15, f16, f17, f18, f19, f20, f21, f22, h1⟩ := turn_ok c hc s0 (.val (.int i)) e3 e4 e5 e6 e7 e8 e9 e10 e11 e12 e13 e14 e15 e16 e17 e18 e19 e20 e21 e22
    obtain ⟨c2, hc2, g2, g3, g4, g5, g6, g7, g8, g9, g10, g11, g12, g13, g14, g15, g16, g17, g18, g19, g20, g21, g22, h2⟩ := turns k (i + 1) c1 hc1 s0 f2 f3 f4 f5 f6 f7 f8 f9 f10 f11 f12 f13 f14 f15 f16 f17 f18 f19 f20 f21 f22
    refine ⟨c2, hc2, g2, g3, g4, g5, g6, g7, g8, g9, g10, g11, g12, g13, g14, g15, g16, g17, g18, g19, g20, g21, g22, ?_⟩
    rw [rangeD]
    exact (floop_go (env1 := [s0, .val (.ref 0), .val (.int i), e3, e4, e5, e6, e7, e8, e9, e10, e11, e12, e13, e14, e15, e16, e17, e18, e19, e20, e21, e22]) (st2 := [c1]) rfl h1).trans h2
theorem plain (ns : List Int) (hl : ns.length ≤ 63) (hb : ∀ z ∈ ns, PySem.Builtin.Int.intBits z ≤ 1048576) : ∃ st, F_law [.scr (ns.map D.int)] [] = .ok (.bl true) st := by
  obtain ⟨c, h1, hc⟩ := hand_ok ns [] hl
  obtain ⟨c', hc', f2, f3, f4, f5, f6, f7, f8, f9, f10, f11, f12, f13, f14, f15, f16, f17, f18, f19, f20, f21, f22, h2⟩ := turns 5 0 c hc (.val (.scr (ns.map D.int))) .none .none .none .none .none .none .none .none .none .none .none .none .none .none .none .none .none .none .none .none .none
  refine ⟨[c'], runB_rt (.val (.scr (ns.map D.int)) :: List.replicate 22 .none) rfl ?_⟩
  rw [b_law_is]
  refine execs_nx (exec_set (ev_call (vs := [.scr (ns.map D.int)]) (st1 := []) rfl rfl h1)) ?_
  refine execs_nx (env1 := _) (exec_for (vs := [.int 5]) (st1 := [c]) (its := rangeD 0 5) rfl rfl h2) ?_
  exact execs_rt (exec_ret rfl)
end k69

end

open PySem PySem.W PyProof.Rows in
set_option maxHeartbeats 0 in
theorem PySem.Challenge.cw_fairyard_k69_whole_horses_up_and_down_holds : PySem.Challenge.rw_fairyard_k69_whole_horses_up_and_down.Holds := by
  w_on; o_law; k_head; (case hw => w_witness2)
  k_fill
  refine LamX.walk_ofOwn (l := PySem.Challenge.rw_fairyard_k69_whole_horses_up_and_down) (n := 63) (k := 8) (x := "script") (CX := fun w => L2.CX (PySem.Challenge.rw_fairyard_k69_whole_horses_up_and_down).prog w) rfl (by decide) rfl ⟨rfl, by decide, by decide⟩ (by decide +kernel) (fun w h Y => by first | exact PySem.W.km_in_of Y | exact PySem.W.kIn_of Y) ?F (fun w H s e s' z => by exact FY.cx_none z)
  case F =>
    intro w mg fa h Y KX G hmg own
    refine' k69.law_mk KX G hmg own ?z_abs ?z_all ?z_bool ?z_int ?z_isinstance ?z_len ?z_min ?z_range ?z_tuple ?c_MOST_HORSES ?c_MOST_UPS ?c_ONE ?u_ONE ?k_FairError ?k_NoGears ?k_NoHorse ?k_NoHorses ?k_NoMesh ?k_NoSpeeds ?k_NoStand ?k_NoTurned ?k_NoUps ?k_NoWheel ?k_TooMany ?b_FairError ?t_FairError ?d_FairError ?b_NoGears ?t_NoGears ?d_NoGears ?b_NoHorse ?t_NoHorse ?d_NoHorse ?b_NoHorses ?t_NoHorses ?d_NoHorses ?b_NoMesh ?t_NoMesh ?d_NoMesh ?b_NoSpeeds ?t_NoSpeeds ?d_NoSpeeds ?b_NoStand ?t_NoStand ?d_NoStand ?b_NoTurned ?t_NoTurned ?d_NoTurned ?b_NoUps ?t_NoUps ?d_NoUps ?b_NoWheel ?t_NoWheel ?d_NoWheel ?b_TooMany ?t_TooMany ?d_TooMany ?sp ?tk ?x_NoHorse ?p_NoHorse ?g_NoHorse ?y_NoHorse ?q_NoHorse ?m_NoHorse ?x_NoHorses ?p_NoHorses ?g_NoHorses ?y_NoHorses ?q_NoHorses ?m_NoHorses ?x_NoStand ?p_NoStand ?g_NoStand ?y_NoStand ?q_NoStand ?m_NoStand ?x_NoTurned ?p_NoTurned ?g_NoTurned ?y_NoTurned ?q_NoTurned ?m_NoTurned ?x_NoUps ?p_NoUps ?g_NoUps ?y_NoUps ?q_NoUps ?m_NoUps ?n_TooMany ?g_TooMany ?y_TooMany ?s_NoUps_TooMany ?v_NoUps_TooMany ?s_NoUps_NoWheel ?v_NoUps_NoWheel ?s_NoUps_NoUps ?s_NoUps_NoTurned ?v_NoUps_NoTurned ?s_NoUps_NoStand ?v_NoUps_NoStand ?s_NoUps_NoSpeeds ?v_NoUps_NoSpeeds ?s_NoUps_NoMesh ?v_NoUps_NoMesh ?s_NoUps_NoHorses ?v_NoUps_NoHorses ?s_NoUps_NoHorse ?v_NoUps_NoHorse ?s_NoUps_NoGears ?v_NoUps_NoGears ?s_NoUps_FairError ?s_NoTurned_TooMany ?v_NoTurned_TooMany ?s_NoTurned_NoWheel ?v_NoTurned_NoWheel ?s_NoTurned_NoUps ?v_NoTurned_NoUps ?s_NoTurned_NoTurned ?s_NoTurned_NoStand ?v_NoTurned_NoStand ?s_NoTurned_NoSpeeds ?v_NoTurned_NoSpeeds ?s_NoTurned_NoMesh ?v_NoTurned_NoMesh ?s_NoTurned_NoHorses ?v_NoTurned_NoHorses ?s_NoTurned_NoHorse ?v_NoTurned_NoHorse ?s_NoTurned_NoGears ?v_NoTurned_NoGears ?s_NoTurned_FairError ?s_NoStand_TooMany ?v_NoStand_TooMany ?s_NoStand_NoWheel ?v_NoStand_NoWheel ?s_NoStand_NoUps ?v_NoStand_NoUps ?s_NoStand_NoTurned ?v_NoStand_NoTurned ?s_NoStand_NoStand ?s_NoStand_NoSpeeds ?v_NoStand_NoSpeeds ?s_NoStand_NoMesh ?v_NoStand_NoMesh ?s_NoStand_NoHorses ?v_NoStand_NoHorses ?s_NoStand_NoHorse ?v_NoStand_NoHorse ?s_NoStand_NoGears ?v_NoStand_NoGears ?s_NoStand_FairError ?s_NoHorses_TooMany ?v_NoHorses_TooMany ?s_NoHorses_NoWheel ?v_NoHorses_NoWheel ?s_NoHorses_NoUps ?v_NoHorses_NoUps ?s_NoHorses_NoTurned ?v_NoHorses_NoTurned ?s_NoHorses_NoStand ?v_NoHorses_NoStand ?s_NoHorses_NoSpeeds ?v_NoHorses_NoSpeeds ?s_NoHorses_NoMesh ?v_NoHorses_NoMesh ?s_NoHorses_NoHorses ?s_NoHorses_NoHorse ?v_NoHorses_NoHorse ?s_NoHorses_NoGears ?v_NoHorses_NoGears ?s_NoHorses_FairError ?s_NoHorse_TooMany ?v_NoHorse_TooMany ?s_NoHorse_NoWheel ?v_NoHorse_NoWheel ?s_NoHorse_NoUps ?v_NoHorse_NoUps ?s_NoHorse_NoTurned ?v_NoHorse_NoTurned ?s_NoHorse_NoStand ?v_NoHorse_NoStand ?s_NoHorse_NoSpeeds ?v_NoHorse_NoSpeeds ?s_NoHorse_NoMesh ?v_NoHorse_NoMesh ?s_NoHorse_NoHorses ?v_NoHorse_NoHorses ?s_NoHorse_NoHorse ?s_NoHorse_NoGears ?v_NoHorse_NoGears ?s_NoHorse_FairError ?e_is_integer ?l_is_integer ?o_is_integer ?h_is_integer ?e_is_within ?l_is_within ?o_is_within ?h_is_within ?e_is_sized ?l_is_sized ?o_is_sized ?h_is_sized ?e_common ?l_common ?o_common ?h_common ?e_share ?l_share ?o_share ?h_share ?e_is_share ?l_is_share ?o_is_share ?h_is_share ?e_minus ?l_minus ?o_minus ?h_minus ?e_times ?l_times ?o_times ?h_times ?e_over ?l_over ?o_over ?h_over ?e_is_less ?l_is_less ?o_is_less ?h_is_less ?e_check_horses ?l_check_horses ?o_check_horses ?h_check_horses ?e_part_of ?l_part_of ?o_part_of ?h_part_of ?e_horse_stand ?l_horse_stand ?o_horse_stand ?h_horse_stand ?e_meet_first ?l_meet_first ?o_meet_first ?h_meet_first ?e_same_picture ?l_same_picture ?o_same_picture ?h_same_picture ?e__law_hand ?l__law_hand ?o__law_hand ?h__law_hand ?e__law_draw ?l__law_draw ?o__law_draw ?h__law_draw ?e__law_any ?l__law_any ?o__law_any ?h__law_any ?e__law_share ?l__law_share ?o__law_share ?h__law_share ?e__law_common ?l__law_common ?o__law_common ?h__law_common ?e__law_word ?l__law_word ?o__law_word ?h__law_word ?e__law_part ?l__law_part ?o__law_part ?h__law_part ?e_law ?l_law ?o_law ?h_law ?lc ?vp ?np ?ch k69.plain
    (case z_abs => k_is)
    (case z_all => k_is)
    (case z_bool => k_is)
    (case z_int => k_is)
    (case z_isinstance => k_is)
    (case z_len => k_is)
    (case z_min => k_is)
    (case z_range => k_is)
    (case z_tuple => k_is)
    (case c_MOST_HORSES => k_is)
    (case c_MOST_UPS => k_is)
    (case c_ONE => k_is)
    (case u_ONE => k_is)
    (case k_FairError => k_is)
    (case k_NoGears => k_is)
    (case k_NoHorse => k_is)
    (case k_NoHorses => k_is)
    (case k_NoMesh => k_is)
    (case k_NoSpeeds => k_is)
    (case k_NoStand => k_is)
    (case k_NoTurned => k_is)
    (case k_NoUps => k_is)
    (case k_NoWheel => k_is)
    (case k_TooMany => k_is)
    (case b_FairError => k_is)
    (case t_FairError => k_is)
    (case d_FairError => k_is)
    (case b_NoGears => k_is)
    (case t_NoGears => k_is)
    (case d_NoGears => k_is)
    (case b_NoHorse => k_is)
    (case t_NoHorse => k_is)
    (case d_NoHorse => k_is)
    (case b_NoHorses => k_is)
    (case t_NoHorses => k_is)
    (case d_NoHorses => k_is)
    (case b_NoMesh => k_is)
    (case t_NoMesh => k_is)
    (case d_NoMesh => k_is)
    (case b_NoSpeeds => k_is)
    (case t_NoSpeeds => k_is)
    (case d_NoSpeeds => k_is)
    (case b_NoStand => k_is)
    (case t_NoStand => k_is)
    (case d_NoStand => k_is)
    (case b_NoTurned => k_is)
    (case t_NoTurned => k_is)
    (case d_NoTurned => k_is)
    (case b_NoUps => k_is)
    (case t_NoUps => k_is)
    (case d_NoUps => k_is)
    (case b_NoWheel => k_is)
    (case t_NoWheel => k_is)
    (case d_NoWheel => k_is)
    (case b_TooMany => k_is)
    (case t_TooMany => k_is)
    (case d_TooMany => k_is)
    (case sp => k_is)
    (case tk => k_is)
    (case x_NoHorse => k_exc)
    (case p_NoHorse => k_is)
    (case g_NoHorse => k_is)
    (case y_NoHorse => k_is)
    (case q_NoHorse => k_is)
    (case m_NoHorse => k_is)
    (case x_NoHorses => k_exc)
    (case p_NoHorses => k_is)
    (case g_NoHorses => k_is)
    (case y_NoHorses => k_is)
    (case q_NoHorses => k_is)
    (case m_NoHorses => k_is)
    (case x_NoStand => k_exc)
    (case p_NoStand => k_is)
    (case g_NoStand => k_is)
    (case y_NoStand => k_is)
    (case q_NoStand => k_is)
    (case m_NoStand => k_is)
    (case x_NoTurned => k_exc)
    (case p_NoTurned => k_is)
    (case g_NoTurned => k_is)
    (case y_NoTurned => k_is)
    (case q_NoTurned => k_is)
    (case m_NoTurned => k_is)
    (case x_NoUps => k_exc)
    (case p_NoUps => k_is)
    (case g_NoUps => k_is)
    (case y_NoUps => k_is)
    (case q_NoUps => k_is)
    (case m_NoUps => k_is)
    (case n_TooMany => k_is)
    (case g_TooMany => k_is)
    (case y_TooMany => k_is)
    (case s_NoUps_TooMany => k_is)
    (case v_NoUps_TooMany => decide)
    (case s_NoUps_NoWheel => k_is)
    (case v_NoUps_NoWheel => decide)
    (case s_NoUps_NoUps => first | rfl | k_is)
    (case s_NoUps_NoTurned => k_is)
    (case v_NoUps_NoTurned => decide)
    (case s_NoUps_NoStand => k_is)
    (case v_NoUps_NoStand => decide)
    (case s_NoUps_NoSpeeds => k_is)
    (case v_NoUps_NoSpeeds => decide)
    (case s_NoUps_NoMesh => k_is)
    (case v_NoUps_NoMesh => decide)
    (case s_NoUps_NoHorses => k_is)
    (case v_NoUps_NoHorses => decide)
    (case s_NoUps_NoHorse => k_is)
    (case v_NoUps_NoHorse => decide)
    (case s_NoUps_NoGears => k_is)
    (case v_NoUps_NoGears => decide)
    (case s_NoUps_FairError => k_is)
    (case s_NoTurned_TooMany => k_is)
    (case v_NoTurned_TooMany => decide)
    (case s_NoTurned_NoWheel => k_is)
    (case v_NoTurned_NoWheel => decide)
    (case s_NoTurned_NoUps => k_is)
    (case v_NoTurned_NoUps => decide)
    (case s_NoTurned_NoTurned => first | rfl | k_is)
    (case s_NoTurned_NoStand => k_is)
    (case v_NoTurned_NoStand => decide)
    (case s_NoTurned_NoSpeeds => k_is)
    (case v_NoTurned_NoSpeeds => decide)
    (case s_NoTurned_NoMesh => k_is)
    (case v_NoTurned_NoMesh => decide)
    (case s_NoTurned_NoHorses => k_is)
    (case v_NoTurned_NoHorses => decide)
    (case s_NoTurned_NoHorse => k_is)
    (case v_NoTurned_NoHorse => decide)
    (case s_NoTurned_NoGears => k_is)
    (case v_NoTurned_NoGears => decide)
    (case s_NoTurned_FairError => k_is)
    (case s_NoStand_TooMany => k_is)
    (case v_NoStand_TooMany => decide)
    (case s_NoStand_NoWheel => k_is)
    (case v_NoStand_NoWheel => decide)
    (case s_NoStand_NoUps => k_is)
    (case v_NoStand_NoUps => decide)
    (case s_NoStand_NoTurned => k_is)
    (case v_NoStand_NoTurned => decide)
    (case s_NoStand_NoStand => first | rfl | k_is)
    (case s_NoStand_NoSpeeds => k_is)
    (case v_NoStand_NoSpeeds => decide)
    (case s_NoStand_NoMesh => k_is)
    (case v_NoStand_NoMesh => decide)
    (case s_NoStand_NoHorses => k_is)
    (case v_NoStand_NoHorses => decide)
    (case s_NoStand_NoHorse => k_is)
    (case v_NoStand_NoHorse => decide)
    (case s_NoStand_NoGears => k_is)
    (case v_NoStand_NoGears => decide)
    (case s_NoStand_FairError => k_is)
    (case s_NoHorses_TooMany => k_is)
    (case v_NoHorses_TooMany => decide)
    (case s_NoHorses_NoWheel => k_is)
    (case v_NoHorses_NoWheel => decide)
    (case s_NoHorses_NoUps => k_is)
    (case v_NoHorses_NoUps => decide)
    (case s_NoHorses_NoTurned => k_is)
    (case v_NoHorses_NoTurned => decide)
    (case s_NoHorses_NoStand => k_is)
    (case v_NoHorses_NoStand => decide)
    (case s_NoHorses_NoSpeeds => k_is)
    (case v_NoHorses_NoSpeeds => decide)
    (case s_NoHorses_NoMesh => k_is)
    (case v_NoHorses_NoMesh => decide)
    (case s_NoHorses_NoHorses => first | rfl | k_is)
    (case s_NoHorses_NoHorse => k_is)
    (case v_NoHorses_NoHorse => decide)
    (case s_NoHorses_NoGears => k_is)
    (case v_NoHorses_NoGears => decide)
    (case s_NoHorses_FairError => k_is)
    (case s_NoHorse_TooMany => k_is)
    (case v_NoHorse_TooMany => decide)
    (case s_NoHorse_NoWheel => k_is)
    (case v_NoHorse_NoWheel => decide)
    (case s_NoHorse_NoUps => k_is)
    (case v_NoHorse_NoUps => decide)
    (case s_NoHorse_NoTurned => k_is)
    (case v_NoHorse_NoTurned => decide)
    (case s_NoHorse_NoStand => k_is)
    (case v_NoHorse_NoStand => decide)
    (case s_NoHorse_NoSpeeds => k_is)
    (case v_NoHorse_NoSpeeds => decide)
    (case s_NoHorse_NoMesh => k_is)
    (case v_NoHorse_NoMesh => decide)
    (case s_NoHorse_NoHorses => k_is)
    (case v_NoHorse_NoHorses => decide)
    (case s_NoHorse_NoHorse => first | rfl | k_is)
    (case s_NoHorse_NoGears => k_is)
    (case v_NoHorse_NoGears => decide)
    (case s_NoHorse_FairError => k_is)
    (case e_is_integer => k_is)
    (case l_is_integer => k_is)
    (case o_is_integer => k_is)
    (case h_is_integer => k_is)
    (case e_is_within => k_is)
    (case l_is_within => k_is)
    (case o_is_within => k_is)
    (case h_is_within => k_is)
    (case e_is_sized => k_is)
    (case l_is_sized => k_is)
    (case o_is_sized => k_is)
    (case h_is_sized => k_is)
    (case e_common => k_is)
    (case l_common => k_is)
    (case o_common => k_is)
    (case h_common => k_is)
    (case e_share => k_is)
    (case l_share => k_is)
    (case o_share => k_is)
    (case h_share => k_is)
    (case e_is_share => k_is)
    (case l_is_share => k_is)
    (case o_is_share => k_is)
    (case h_is_share => k_is)
    (case e_minus => k_is)
    (case l_minus => k_is)
    (case o_minus => k_is)
    (case h_minus => k_is)
    (case e_times => k_is)
    (case l_times => k_is)
    (case o_times => k_is)
    (case h_times => k_is)
    (case e_over => k_is)
    (case l_over => k_is)
    (case o_over => k_is)
    (case h_over => k_is)
    (case e_is_less => k_is)
    (case l_is_less => k_is)
    (case o_is_less => k_is)
    (case h_is_less => k_is)
    (case e_check_horses => k_is)
    (case l_check_horses => k_is)
    (case o_check_horses => k_is)
    (case h_check_horses => k_is)
    (case e_part_of => k_is)
    (case l_part_of => k_is)
    (case o_part_of => k_is)
    (case h_part_of => k_is)
    (case e_horse_stand => k_is)
    (case l_horse_stand => k_is)
    (case o_horse_stand => k_is)
    (case h_horse_stand => k_is)
    (case e_meet_first => k_is)
    (case l_meet_first => k_is)
    (case o_meet_first => k_is)
    (case h_meet_first => k_is)
    (case e_same_picture => k_is)
    (case l_same_picture => k_is)
    (case o_same_picture => k_is)
    (case h_same_picture => k_is)
    (case e__law_hand => k_is)
    (case l__law_hand => k_is)
    (case o__law_hand => k_is)
    (case h__law_hand => k_is)
    (case e__law_draw => k_is)
    (case l__law_draw => k_is)
    (case o__law_draw => k_is)
    (case h__law_draw => k_is)
    (case e__law_any => k_is)
    (case l__law_any => k_is)
    (case o__law_any => k_is)
    (case h__law_any => k_is)
    (case e__law_share => k_is)
    (case l__law_share => k_is)
    (case o__law_share => k_is)
    (case h__law_share => k_is)
    (case e__law_common => k_is)
    (case l__law_common => k_is)
    (case o__law_common => k_is)
    (case h__law_common => k_is)
    (case e__law_word => k_is)
    (case l__law_word => k_is)
    (case o__law_word => k_is)
    (case h__law_word => k_is)
    (case e__law_part => k_is)
    (case l__law_part => k_is)
    (case o__law_part => k_is)
    (case h__law_part => k_is)
    (case e_law => k_is)
    (case l_law => k_is)
    (case o_law => k_is)
    (case h_law => k_is)
    (case lc => k_is)
    (case vp => rfl)
    (case np => rfl)
    (case ch => rfl)
