import PyProof.Rows.All
import Wide.All
import OpenK.AllK
import Wide.FinOn
import HandS.ForMost
import HandS.ForExc
import HandS.Deep
import HandS.TupAny
import HandS.Wide
import HandS.Style
import HandS.TupLe
import KE.DataEq
import KE.DataCmp
import KE.SortData
import KE.DataMinMax
import HandS.Text
import HandS.SetFor
import HandS.Strs
import HandS.ExcOwn
import HandS.SortInts
import KE.KTupSum
import HandS.RaiseMore
import HandS.IsInst
import PyProof.ReprRoads
import HandS.WordsExc
import HandS.Defaults
import HandS.Walk
import HandS.Zip
import HandS.HeadEnd
import HandS.HeadHook2
import KE.IntTextLaws
import HandS.Head0
import HandS.Head1
import HandS.Head2
import HandS.HeadHook1
import PySem.Challenge.RW_evenpacks_k54_texts_of_plans

section
set_option Elab.async false
set_option linter.all false
set_option maxRecDepth 100000
set_option maxHeartbeats 2000000
namespace MM
open PySem PySem.Spec PyProof.Rows L2

inductive D where
  | non | bl (b : Bool) | int (i : Int) | str (x : Str) | tup (xs : List D) | lst (xs : List D) | dct (ks : List Key) (vs : List D) | ref (a : Addr) | ty (n : String) | scr (K : PySem.W.Frag) (ns : List Int)
inductive Ob where
  | lst (xs : List D) | ins (c : Nat) (fs : List (Str × D))
abbrev Hm := Addr → Option Ob
def updm (h : Hm) (a : Addr) (o : Ob) : Hm := fun b => if b = a then some o else h b
theorem updm_same {h : Hm} {a : Addr} {o : Ob} : updm h a o a = some o := by unfold updm; rw [if_pos rfl]
theorem updm_ne {h : Hm} {a b : Addr} {o : Ob} (e : b ≠ a) : updm h a o b = h b := by unfold updm; rw [if_neg e]
theorem updm_updm {h : Hm} {a : Addr} {o u : Ob} : updm (updm h a o) a u = updm h a u := by
  funext b; unfold updm; split <;> rfl

def SqK (K : PySem.W.Frag) (a : Addr) (xs : List V) : Prop :=
  ∃ (o : Obj) (its : Array Value) (n : Nat), K.lookup a = some o ∧ o.cls = .type "list" ∧ o.dict = none ∧ o.data = .seq its n ∧ its.size ≤ sizeLine ∧ Vals xs its.toList
mutual
def Rep (H : Hp) (h : Hm) : D → V → Prop
  | .non, v => v = .non
  | .bl b, v => v = .bl b
  | .int i, v => v = .int i
  | .str x, v => v = .str x
  | .ty n, v => v = .ty n
  | .ref a, v => v = .ref a
  | .tup ds, v => ∃ a vs, v = .ref a ∧ H a = some (.tup vs) ∧ RepL H h ds vs
  | .lst ds, v => ∃ a vs, v = .ref a ∧ H a = some (.lst vs) ∧ h a = none ∧ RepL H h ds vs
  | .dct ks ds, v => ∃ a kvs, v = .ref a ∧ H a = some (.dK kvs) ∧ h a = none ∧ kvs.map (·.1) = ks ∧ RepL H h ds (kvs.map (·.2))
  | .scr K ns, v => ∃ a, v = .ref a ∧ ((∃ o, H a = some (.frz o (.lst (ns.map V.int)))) ∨ SqK K a (ns.map V.int))
def RepL (H : Hp) (h : Hm) : List D → List V → Prop
  | [], vs => vs = []
  | d :: ds, vs => ∃ v r, vs = v :: r ∧ Rep H h d v ∧ RepL H h ds r
end

structure Ext (H : Hp) (h : Hm) (H' : Hp) (h' : Hm) : Prop where
  tup : ∀ a xs, H a = some (.tup xs) → H' a = some (.tup xs)
  frz : ∀ a o u, H a = some (.frz o u) → H' a = some (.frz o u)
  lst : ∀ a xs, H a = some (.lst xs) → h a = none → H' a = some (.lst xs) ∧ h' a = none
  dct : ∀ a xs, H a = some (.dK xs) → h a = none → H' a = some (.dK xs) ∧ h' a = none
  xd : ∀ a xs, H a = some (.xd xs) → H' a = some (.xd xs)
theorem Ext.refl {H : Hp} {h : Hm} : Ext H h H h := ⟨fun _ _ e => e, fun _ _ _ e => e, fun _ _ e n => ⟨e, n⟩, fun _ _ e n => ⟨e, n⟩, fun _ _ e => e⟩
theorem Ext.trans {H1 H2 H3 : Hp} {h1 h2 h3 : Hm} (a : Ext H1 h1 H2 h2) (b : Ext H2 h2 H3 h3) : Ext H1 h1 H3 h3 :=
  ⟨fun x y e => b.tup _ _ (a.tup x y e), fun x o y e => b.frz _ _ _ (a.frz x o y e), fun x y e n => b.lst _ _ (a.lst x y e n).1 (a.lst x y e n).2, fun x y e n => b.dct _ _ (a.dct x y e n).1 (a.dct x y e n).2, fun x y e => b.xd _ _ (a.xd x y e)⟩

mutual
theorem Rep.ext {H H' : Hp} {h h' : Hm} (e : Ext H h H' h') : ∀ {d : D} {v : V}, Rep H h d v → Rep H' h' d v
  | .non, _, r => r
  | .bl _, _, r => r
  | .int _, _, r => r
  | .str _, _, r => r
  | .ty _, _, r => r
  | .ref _, _, r => r
  | .tup ds, _, ⟨a, vs, x, y, z⟩ => ⟨a, vs, x, e.tup _ _ y, RepL.ext e z⟩
  | .lst ds, _, ⟨a, vs, x, y, n, z⟩ => ⟨a, vs, x, (e.lst _ _ y n).1, (e.lst _ _ y n).2, RepL.ext e z⟩
  | .dct ks ds, _, ⟨a, vs, x, y, n, k, z⟩ => ⟨a, vs, x, (e.dct _ _ y n).1, (e.dct _ _ y n).2, k, RepL.ext e z⟩
  | .scr K ns, _, ⟨a, x, y⟩ => ⟨a, x, y.imp (fun ⟨o, z⟩ => ⟨o, e.frz _ _ _ z⟩) id⟩
theorem RepL.ext {H H' : Hp} {h h' : Hm} (e : Ext H h H' h') : ∀ {ds : List D} {vs : List V}, RepL H h ds vs → RepL H' h' ds vs
  | [], _, r => r
  | _ :: _, _, ⟨v, r, x, y, z⟩ => ⟨v, r, x, Rep.ext e y, RepL.ext e z⟩
end
section
variable {H H' : Hp} {h h' : Hm} {d : D} {v : V} {ds es : List D} {vs us : List V}
theorem RepL.nil : RepL H h [] [] := rfl
theorem RepL.cons (a : Rep H h d v) (b : RepL H h ds vs) : RepL H h (d :: ds) (v :: vs) := ⟨v, vs, rfl, a, b⟩
theorem RepL.length : ∀ {ds : List D} {vs : List V}, RepL H h ds vs → vs.length = ds.length
  | [], _, r => by rw [show _ = [] from r]; rfl
  | _ :: _, _, ⟨_, _, x, _, z⟩ => by rw [x, List.length_cons, List.length_cons, RepL.length z]
theorem RepL.append : ∀ {ds : List D} {vs : List V}, RepL H h ds vs → RepL H h es us → RepL H h (ds ++ es) (vs ++ us)
  | [], _, r, s => by rw [show _ = [] from r]; exact s
  | _ :: _, _, ⟨v, r, x, y, z⟩, s => by subst x; exact ⟨v, _, rfl, y, RepL.append z s⟩
theorem RepL.get : ∀ {ds : List D} {vs : List V} {i : Nat} {d : D}, RepL H h ds vs → ds[i]? = some d → ∃ v, vs[i]? = some v ∧ Rep H h d v
  | [], _, _, _, _, e => by simp at e
  | _ :: _, _, 0, _, ⟨v, r, x, y, _⟩, e => by subst x; simp at e; subst e; exact ⟨v, rfl, y⟩
  | _ :: _, _, i + 1, d, ⟨v, r, x, _, z⟩, e => by
    subst x
    obtain ⟨u, a, b⟩ := RepL.get (i := i) (d := d) z (by simpa using e)
    exact ⟨u, by simpa using a, b⟩
theorem RepL.get' : ∀ {ds : List D} {vs : List V} {i : Nat} {v : V}, RepL H h ds vs → vs[i]? = some v → ∃ d, ds[i]? = some d ∧ Rep H h d v
  | [], _, _, _, r, e => by rw [show _ = [] from r] at e; simp at e
  | d :: _, _, 0, _, ⟨v, r, x, y, _⟩, e => by subst x; simp at e; subst e; exact ⟨d, rfl, y⟩
  | _ :: _, _, i + 1, d, ⟨v, r, x, _, z⟩, e => by
    subst x
    obtain ⟨u, a, b⟩ := RepL.get' (i := i) z (by simpa using e)
    exact ⟨u, by simpa using a, b⟩
theorem RepL.take : ∀ {ds : List D} {vs : List V} (n : Nat), RepL H h ds vs → RepL H h (ds.take n) (vs.take n)
  | _, _, 0, _ => rfl
  | [], _, n + 1, r => by rw [show _ = [] from r]; rfl
  | _ :: _, _, n + 1, ⟨v, r, x, y, z⟩ => by subst x; exact ⟨v, _, rfl, y, RepL.take n z⟩
theorem RepL.drop : ∀ {ds : List D} {vs : List V} (n : Nat), RepL H h ds vs → RepL H h (ds.drop n) (vs.drop n)
  | _, _, 0, r => r
  | [], _, n + 1, r => by rw [show _ = [] from r]; rfl
  | _ :: _, _, n + 1, ⟨v, r, x, y, z⟩ => by subst x; exact RepL.drop n z
theorem RepL.reverse : ∀ {ds : List D} {vs : List V}, RepL H h ds vs → RepL H h ds.reverse vs.reverse
  | [], _, r => by rw [show _ = [] from r]; rfl
  | _ :: _, _, ⟨v, r, x, y, z⟩ => by
    subst x
    rw [List.reverse_cons, List.reverse_cons]
    exact (RepL.reverse z).append ⟨v, [], rfl, y, rfl⟩
theorem RepL.set (r : Rep H h d v) : ∀ {ds : List D} {vs : List V} (i : Nat), RepL H h ds vs → RepL H h (ds.set i d) (vs.set i v)
  | [], _, _, e => by rw [show _ = [] from e]; rfl
  | _ :: _, _, 0, ⟨_, w, x, _, z⟩ => by subst x; exact ⟨v, w, rfl, r, z⟩
  | _ :: _, _, i + 1, ⟨u, w, x, y, z⟩ => by subst x; exact ⟨u, _, rfl, y, RepL.set r i z⟩
theorem RepL.eraseIdx : ∀ {ds : List D} {vs : List V} (i : Nat), RepL H h ds vs → RepL H h (ds.eraseIdx i) (vs.eraseIdx i)
  | [], _, _, e => by rw [show _ = [] from e]; rfl
  | _ :: _, _, 0, ⟨_, w, x, _, z⟩ => by subst x; exact z
  | _ :: _, _, i + 1, ⟨u, w, x, y, z⟩ => by subst x; exact ⟨u, _, rfl, y, RepL.eraseIdx i z⟩
theorem RepL.dropLast (r : RepL H h ds vs) : RepL H h ds.dropLast vs.dropLast := by
  rw [List.dropLast_eq_take, List.dropLast_eq_take, r.length]
  exact r.take _
theorem RepL.replicate (r : RepL H h ds vs) : ∀ n : Nat, RepL H h (List.replicate n ds).flatten (List.replicate n vs).flatten
  | 0 => rfl
  | n + 1 => by
    rw [List.replicate_succ, List.replicate_succ, List.flatten_cons, List.flatten_cons]
    exact r.append (RepL.replicate r n)
theorem RepL.isEmpty (r : RepL H h ds vs) : vs.isEmpty = ds.isEmpty := by
  have e := r.length
  cases ds with
  | nil => cases vs with
    | nil => rfl
    | cons _ _ => cases e
  | cons _ _ => cases vs with
    | nil => cases e
    | cons _ _ => rfl
theorem RepL.ints : ∀ {ns : List Int} {vs : List V}, RepL H h (ns.map D.int) vs → vs = ns.map V.int
  | [], _, r => r
  | n :: ns, _, ⟨v, r, x, y, z⟩ => by rw [x, RepL.ints z, show v = .int n from y]; rfl
theorem RepL.bools : ∀ {ns : List Bool} {vs : List V}, RepL H h (ns.map D.bl) vs → vs = ns.map V.bl
  | [], _, r => r
  | n :: ns, _, ⟨v, r, x, y, z⟩ => by rw [x, RepL.bools z, show v = .bl n from y]; rfl
theorem RepL.strs : ∀ {ns : List Str} {vs : List V}, RepL H h (ns.map D.str) vs → vs = ns.map V.str
  | [], _, r => r
  | n :: ns, _, ⟨v, r, x, y, z⟩ => by rw [x, RepL.strs z, show v = .str n from y]; rfl
theorem RepL.of_ints : ∀ (ns : List Int), RepL H h (ns.map D.int) (ns.map V.int)
  | [] => rfl
  | n :: ns => ⟨_, _, rfl, rfl, RepL.of_ints ns⟩
theorem RepL.of_strs : ∀ (ns : List Str), RepL H h (ns.map D.str) (ns.map V.str)
  | [] => rfl
  | n :: ns => ⟨_, _, rfl, rfl, RepL.of_strs ns⟩
end

abbrev Cad := Nat → Addr
section
variable (cad : Cad)
def RepOb (H : Hp) (h : Hm) (a : Addr) : Ob → Prop
  | .lst ds => ∃ vs, H a = some (.lst vs) ∧ RepL H h ds vs
  | .ins c fs => ∃ dx vs, H a = some (.ins (cad c) dx vs) ∧ vs.map (·.1) = fs.map (·.1) ∧ RepL H h (fs.map (·.2)) (vs.map (·.2))
def RepH (H : Hp) (h : Hm) : Prop := ∀ a o, h a = some o → RepOb cad H h a o
inductive EC where
  | own (c : Nat) | bi (n : String)
  deriving DecidableEq
structure Ex where
  c : EC
  fs : List (Str × D)
def EC.val : EC → Value
  | .own c => .ref (cad c)
  | .bi n => .type n
def RepEx (H : Hp) (h : Hm) (x : Ex) (cls : Value) (d : Option Addr) : Prop :=
  cls = x.c.val cad ∧ match x.fs, d with
    | [], none => True
    | fs, some dx => ∃ vs, H dx = some (.xd vs) ∧ vs.map (·.1) = fs.map (·.1) ∧ RepL H h (fs.map (·.2)) (vs.map (·.2))
    | _, none => False
end
section
variable {cad : Cad} {H H' : Hp} {h h' : Hm} {a : Addr} {o : Ob}
theorem RepOb.tracked (r : RepOb cad H h a o) : ∃ u, H a = some u := by
  cases o with
  | lst ds => obtain ⟨vs, e, _⟩ := r; exact ⟨_, e⟩
  | ins c fs => obtain ⟨dx, vs, e, _⟩ := r; exact ⟨_, e⟩
theorem RepH.fresh (r : RepH cad H h) (e : H a = none) : h a = none := by
  cases q : h a with
  | none => rfl
  | some o => obtain ⟨u, z⟩ := (r a o q).tracked; rw [e] at z; cases z
theorem Ext.fresh {u : HO} (n : H a = none) : Ext H h (upd H a u) h :=
  ⟨fun b xs e => by rw [upd_ne (ne_of_none e n)]; exact e, fun b o xs e => by rw [upd_ne (ne_of_none e n)]; exact e, fun b xs e k => ⟨by rw [upd_ne (ne_of_none e n)]; exact e, k⟩, fun b xs e k => ⟨by rw [upd_ne (ne_of_none e n)]; exact e, k⟩,
    fun b xs e => by rw [upd_ne (ne_of_none e n)]; exact e⟩
theorem Ext.freshM {u : HO} (n : H a = none) : Ext H h (upd H a u) (updm h a o) :=
  ⟨fun b xs e => by rw [upd_ne (ne_of_none e n)]; exact e, fun b o xs e => by rw [upd_ne (ne_of_none e n)]; exact e, fun b xs e k => ⟨by rw [upd_ne (ne_of_none e n)]; exact e, by rw [updm_ne (ne_of_none e n)]; exact k⟩,
    fun b xs e k => ⟨by rw [upd_ne (ne_of_none e n)]; exact e, by rw [updm_ne (ne_of_none e n)]; exact k⟩, fun b xs e => by rw [upd_ne (ne_of_none e n)]; exact e⟩
def Wr : HO → Prop
  | .lst _ => True
  | .ins _ _ _ => True
  | _ => False
theorem Ext.write {u w : HO} {o' : Ob} (e : H a = some w) (hw : Wr w) (k : h a = some o) : Ext H h (upd H a u) (updm h a o') := by
  refine ⟨fun b xs q => ?_, fun b o xs q => ?_, fun b xs q n => ?_, fun b xs q n => ?_, fun b xs q => ?_⟩
  · rw [upd_ne (fun z => by rw [z, e] at q; cases q; exact hw)]; exact q
  · rw [upd_ne (fun z => by rw [z, e] at q; cases q; exact hw)]; exact q
  · have z : b ≠ a := fun z => by rw [z, k] at n; cases n
    rw [upd_ne z, updm_ne z]; exact ⟨q, n⟩
  · have z : b ≠ a := fun z => by rw [z, k] at n; cases n
    rw [upd_ne z, updm_ne z]; exact ⟨q, n⟩
  · rw [upd_ne (fun z => by rw [z, e] at q; cases q; exact hw)]; exact q
theorem RepOb.ext {u : HO} (e : Ext H h H' h') (q : ∀ u, H a = some u → H' a = some u) (r : RepOb cad H h a o) : RepOb cad H' h' a o := by
  cases o with
  | lst ds => obtain ⟨vs, x, y⟩ := r; exact ⟨vs, q _ x, RepL.ext e y⟩
  | ins c fs => obtain ⟨dx, vs, x, n, y⟩ := r; exact ⟨dx, vs, q _ x, n, RepL.ext e y⟩
theorem RepH.fresh_ok {u : HO} (r : RepH cad H h) (n : H a = none) : RepH cad (upd H a u) h := fun b o e =>
  (r b o e).ext (u := u) (Ext.fresh n) fun w q => by rw [upd_ne (ne_of_none q n)]; exact q
theorem RepH.freshM_ok {u : HO} (r : RepH cad H h) (n : H a = none) (new : RepOb cad (upd H a u) (updm h a o) a o) : RepH cad (upd H a u) (updm h a o) := fun b o' e => by
  by_cases z : b = a
  · subst z; rw [updm_same] at e; cases e; exact new
  · rw [updm_ne z] at e
    exact (r b o' e).ext (u := u) (Ext.freshM n) fun w q => by rw [upd_ne z]; exact q
theorem RepH.write_ok {u w : HO} {o' : Ob} (r : RepH cad H h) (e : H a = some w) (hw : Wr w) (k : h a = some o) (new : RepOb cad (upd H a u) (updm h a o') a o') : RepH cad (upd H a u) (updm h a o') := fun b o1 q => by
  by_cases z : b = a
  · subst z; rw [updm_same] at q; cases q; exact new
  · rw [updm_ne z] at q
    exact (r b o1 q).ext (u := u) (Ext.write e hw k) fun w q => by rw [upd_ne z]; exact q
theorem Ext.forget (k : ∀ b, h' b = none ∨ h' b = h b) : Ext H h H h' :=
  ⟨fun _ _ e => e, fun _ _ _ e => e, fun b _ e n => ⟨e, (k b).elim id fun z => z.trans n⟩, fun b _ e n => ⟨e, (k b).elim id fun z => z.trans n⟩, fun _ _ e => e⟩
theorem RepH.forget (r : RepH cad H h) (k : ∀ b, h' b = none ∨ h' b = h b) : RepH cad H h' := fun b o e => by
  rcases k b with z | z
  · rw [z] at e; cases e
  · rw [z] at e; exact (r b o e).ext (u := .lst []) (Ext.forget k) fun _ q => q
theorem RepEx.ext {x : Ex} {cls : Value} {d : Option Addr} (e : Ext H h H' h') (r : RepEx cad H h x cls d) : RepEx cad H' h' x cls d := by
  obtain ⟨a, b⟩ := r
  refine ⟨a, ?_⟩
  cases d with
  | none =>
    cases q : x.fs with
    | nil => trivial
    | cons f r => rw [q] at b; exact b.elim
  | some dx =>
    cases q : x.fs with
    | nil => rw [q] at b; obtain ⟨vs, x1, x2, x3⟩ := b; exact ⟨vs, e.xd _ _ x1, x2, RepL.ext e x3⟩
    | cons f r => rw [q] at b; obtain ⟨vs, x1, x2, x3⟩ := b; exact ⟨vs, e.xd _ _ x1, x2, RepL.ext e x3⟩
end
end MM
end

section
set_option Elab.async false
set_option linter.all false
set_option maxRecDepth 100000
set_option maxHeartbeats 2000000
namespace MM
open PySem PySem.Spec PyProof.Rows L2

abbrev Kx := D → Hm → Prop
abbrev EX := Ex → Hm → Prop
abbrev Sl := List (Option D)
abbrev Mx := Sl → Hm → Kx → EX → Prop
abbrev Ma := Sl → Hm → (List D → Hm → Prop) → EX → Prop
abbrev Mt := Sl → Hm → (Bool → Hm → Prop) → EX → Prop

def slot : Sl → Nat → Option D
  | [], _ => none
  | o :: _, 0 => o
  | _ :: r, i + 1 => slot r i
def put : Sl → Nat → D → Sl
  | [], _, _ => []
  | _ :: r, 0, d => some d :: r
  | o :: r, i + 1, d => o :: put r i d
def clr : Sl → Nat → Sl
  | [], _ => []
  | _ :: r, 0 => none :: r
  | o :: r, i + 1 => o :: clr r i
def wip (σ : Sl) : List Nat → Sl
  | [] => σ
  | v :: vs => clr (wip σ vs) v

def RepS (H : Hp) (h : Hm) : Sl → L2.St → Prop
  | [], s => s = []
  | o :: r, s => ∃ x t, s = x :: t ∧ (∀ d, o = some d → ∃ v, x = some v ∧ Rep H h d v) ∧ RepS H h r t
section
variable {H H' : Hp} {h h' : Hm} {d : D} {v : V} {σ : Sl} {σm : L2.St}
theorem RepS.get : ∀ {σ : Sl} {σm : L2.St} {i : Nat} {d : D}, RepS H h σ σm → slot σ i = some d → ∃ v, σm[i]? = some (some v) ∧ Rep H h d v
  | [], _, _, _, _, e => by cases e
  | o :: r, _, 0, d, ⟨x, t, z, k, _⟩, e => by
    subst z
    obtain ⟨v, a, b⟩ := k d e
    exact ⟨v, by rw [a]; rfl, b⟩
  | o :: r, _, i + 1, d, ⟨x, t, z, _, q⟩, e => by
    subst z
    obtain ⟨v, a, b⟩ := RepS.get (i := i) (d := d) q e
    exact ⟨v, by simpa using a, b⟩
theorem RepS.put (r : Rep H h d v) : ∀ {σ : Sl} {σm : L2.St} {i : Nat}, RepS H h σ σm → RepS H h (put σ i d) (σm.set i (some v))
  | [], _, _, e => by rw [show _ = [] from e]; rfl
  | o :: _, _, 0, ⟨x, t, z, k, q⟩ => by subst z; exact ⟨some v, t, rfl, fun d' e => by cases e; exact ⟨v, rfl, r⟩, q⟩
  | o :: _, _, i + 1, ⟨x, t, z, k, q⟩ => by subst z; exact ⟨x, _, rfl, k, RepS.put r q⟩
theorem RepS.clr : ∀ {σ : Sl} {σm : L2.St} {i : Nat}, RepS H h σ σm → RepS H h (clr σ i) (σm.set i none)
  | [], _, _, e => by rw [show _ = [] from e]; rfl
  | o :: _, _, 0, ⟨x, t, z, k, q⟩ => by subst z; exact ⟨none, t, rfl, (fun d' e => by cases e), q⟩
  | o :: _, _, i + 1, ⟨x, t, z, k, q⟩ => by subst z; exact ⟨x, _, rfl, k, RepS.clr q⟩
theorem RepS.wip (r : RepS H h σ σm) : ∀ vs : List Nat, RepS H h (wip σ vs) (wipe σm vs)
  | [] => r
  | v :: vs => by unfold MM.wip wipe; exact RepS.clr (RepS.wip r vs)
theorem RepS.ext (e : Ext H h H' h') : ∀ {σ : Sl} {σm : L2.St}, RepS H h σ σm → RepS H' h' σ σm
  | [], _, r => r
  | o :: _, _, ⟨x, t, z, k, q⟩ => ⟨x, t, z, fun d' w => by obtain ⟨v, a, b⟩ := k d' w; exact ⟨v, a, b.ext e⟩, RepS.ext e q⟩
theorem RepS.length : ∀ {σ : Sl} {σm : L2.St}, RepS H h σ σm → σm.length = σ.length
  | [], _, r => by rw [show _ = [] from r]; rfl
  | _ :: _, _, ⟨_, _, x, _, z⟩ => by rw [x, List.length_cons, List.length_cons, RepS.length z]
def Less : Sl → Sl → Prop
  | [], s => s = []
  | o :: r, s => ∃ x t, s = x :: t ∧ (∀ d, o = some d → x = some d) ∧ Less r t
theorem RepS.less : ∀ {σ τ : Sl} {σm : L2.St}, Less σ τ → RepS H h τ σm → RepS H h σ σm
  | [], _, _, l, r => by rw [show _ = [] from l] at r; exact r
  | o :: _, _, _, ⟨x, t, z, k, l⟩, r => by
    subst z
    obtain ⟨y, u, z, k', r⟩ := r
    exact ⟨y, u, z, fun d e => k' d (k d e), RepS.less l r⟩
def start0 (n : Nat) (ds : List D) : Sl := ds.map some ++ List.replicate n none
theorem RepS.empty : ∀ n : Nat, RepS H h (List.replicate n none) (List.replicate n none)
  | 0 => rfl
  | n + 1 => ⟨none, _, rfl, (fun d e => by cases e), RepS.empty n⟩
theorem RepS.start {N : List Str} : ∀ {ds : List D} {vs : List V} (n : Nat), RepL H h ds vs → RepS H h (start0 n ds) (vs.map some ++ List.replicate n none)
  | [], _, n, r => by rw [show _ = [] from r]; exact RepS.empty n
  | d :: ds, _, n, ⟨v, r, x, y, z⟩ => by
    subst x
    exact ⟨some v, _, rfl, fun d' e => by cases e; exact ⟨v, rfl, y⟩, RepS.start (N := N) n z⟩
end

section
variable (cad : Cad) (W : WX)
def up (m : Mx) : TE := fun σm H Qm => ∃ σ h Q EM, RepS H h σ σm ∧ RepH cad H h ∧ m σ h Q EM ∧
  (∀ d h' v H', Ext H h H' h' → RepH cad H' h' → Rep H' h' d v → Q d h' → Qm v H') ∧
  (∀ x h' cls dx H', Ext H h H' h' → RepH cad H' h' → RepEx cad H' h' x cls dx → EM x h' → W cls dx σm H')
def upA (m : Ma) : TA := fun σm H Qm => ∃ σ h Q EM, RepS H h σ σm ∧ RepH cad H h ∧ m σ h Q EM ∧
  (∀ d h' v H', Ext H h H' h' → RepH cad H' h' → RepL H' h' d v → Q d h' → Qm v H') ∧
  (∀ x h' cls dx H', Ext H h H' h' → RepH cad H' h' → RepEx cad H' h' x cls dx → EM x h' → W cls dx σm H')
def upT (m : Mt) : TT := fun σm H Qm => ∃ σ h Q EM, RepS H h σ σm ∧ RepH cad H h ∧ m σ h Q EM ∧
  (∀ b h' H', Ext H h H' h' → RepH cad H' h' → Q b h' → Qm b H') ∧
  (∀ x h' cls dx H', Ext H h H' h' → RepH cad H' h' → RepEx cad H' h' x cls dx → EM x h' → W cls dx σm H')
def upO (m : Sl → Hm → (Option Int → Hm → Prop) → EX → Prop) : TO := fun σm H Qm => ∃ σ h Q EM, RepS H h σ σm ∧ RepH cad H h ∧ m σ h Q EM ∧
  (∀ b h' H', Ext H h H' h' → RepH cad H' h' → Q b h' → Qm b H') ∧
  (∀ x h' cls dx H', Ext H h H' h' → RepH cad H' h' → RepEx cad H' h' x cls dx → EM x h' → W cls dx σm H')
end
abbrev SE (cad : Cad) (W : WX) (X : Cx) (e : Expr) (m : Mx) : Prop := PE X e (up cad W m)
abbrev SA (cad : Cad) (W : WX) (X : Cx) (es : List Expr) (m : Ma) : Prop := PA X es (upA cad W m)
abbrev ST (cad : Cad) (W : WX) (X : Cx) (e : Expr) (m : Mt) : Prop := PT X e (upT cad W m)
abbrev SW (cad : Cad) (W : WX) (X : Cx) (e : Expr) (m : Mt) : Prop := PW X e (upT cad W m)
abbrev SO (cad : Cad) (W : WX) (X : Cx) (e : Option Expr) (m : Sl → Hm → (Option Int → Hm → Prop) → EX → Prop) : Prop := PO X e (upO cad W m)

theorem pe_imp {X : Cx} {e : Expr} {t t' : TE} (p : PE X e t) (h : ∀ σ H Q, t' σ H Q → t σ H Q) : PE X e t' := ⟨fun pins s σ H Q I q => p.run pins s σ H Q I (h _ _ _ q)⟩
theorem pa_imp {X : Cx} {e : List Expr} {t t' : TA} (p : PA X e t) (h : ∀ σ H Q, t' σ H Q → t σ H Q) : PA X e t' := ⟨fun pos pins s σ H Q I q => p.run pos pins s σ H Q I (h _ _ _ q)⟩
theorem pt_imp {X : Cx} {e : Expr} {t t' : TT} (p : PT X e t) (h : ∀ σ H Q, t' σ H Q → t σ H Q) : PT X e t' := ⟨fun pins s σ H Q I q => p.run pins s σ H Q I (h _ _ _ q)⟩
theorem pw_imp {X : Cx} {e : Expr} {t t' : TT} (p : PW X e t) (h : ∀ σ H Q, t' σ H Q → t σ H Q) : PW X e t' := ⟨fun wh pins s σ H Q I q => p.run wh pins s σ H Q I (h _ _ _ q)⟩
theorem po_imp {X : Cx} {e : Option Expr} {t t' : TO} (p : PO X e t) (h : ∀ σ H Q, t' σ H Q → t σ H Q) : PO X e t' := ⟨fun pins s σ H Q I q => p.run pins s σ H Q I (h _ _ _ q)⟩

section
variable {cad : Cad} {W : WX} {X : Cx}
theorem up_then {m : Mx} {σ : Sl} {σm : L2.St} {H : Hp} {h : Hm} {Q : Kx} {EM : EX} {Qm : VK} (rs : RepS H h σ σm) (rh : RepH cad H h) (q : m σ h Q EM)
    (ex : ∀ x h' cls dx H', Ext H h H' h' → RepH cad H' h' → RepEx cad H' h' x cls dx → EM x h' → W cls dx σm H')
    (k : ∀ d h' v H', Ext H h H' h' → RepH cad H' h' → Rep H' h' d v → RepS H' h' σ σm → (∀ x h2 cls dx H2, Ext H' h' H2 h2 → RepH cad H2 h2 → RepEx cad H2 h2 x cls dx → EM x h2 → W cls dx σm H2) → Q d h' → Qm v H') : up cad W m σm H Qm :=
  ⟨σ, h, Q, EM, rs, rh, q, fun d h' v H' e r rv qd => k d h' v H' e r rv (rs.ext e) (fun x h2 cls dx H2 e2 r2 rx z => ex x h2 cls dx H2 (e.trans e2) r2 rx z) qd, ex⟩
theorem upT_then {m : Mt} {σ : Sl} {σm : L2.St} {H : Hp} {h : Hm} {Q : Bool → Hm → Prop} {EM : EX} {Qm : Bool → Hp → Prop} (rs : RepS H h σ σm) (rh : RepH cad H h) (q : m σ h Q EM)
    (ex : ∀ x h' cls dx H', Ext H h H' h' → RepH cad H' h' → RepEx cad H' h' x cls dx → EM x h' → W cls dx σm H')
    (k : ∀ d h' H', Ext H h H' h' → RepH cad H' h' → RepS H' h' σ σm → (∀ x h2 cls dx H2, Ext H' h' H2 h2 → RepH cad H2 h2 → RepEx cad H2 h2 x cls dx → EM x h2 → W cls dx σm H2) → Q d h' → Qm d H') : upT cad W m σm H Qm :=
  ⟨σ, h, Q, EM, rs, rh, q, fun d h' H' e r qd => k d h' H' e r (rs.ext e) (fun x h2 cls dx H2 e2 r2 rx z => ex x h2 cls dx H2 (e.trans e2) r2 rx z) qd, ex⟩
theorem upA_then {m : Ma} {σ : Sl} {σm : L2.St} {H : Hp} {h : Hm} {Q : List D → Hm → Prop} {EM : EX} {Qm : List V → Hp → Prop} (rs : RepS H h σ σm) (rh : RepH cad H h) (q : m σ h Q EM)
    (ex : ∀ x h' cls dx H', Ext H h H' h' → RepH cad H' h' → RepEx cad H' h' x cls dx → EM x h' → W cls dx σm H')
    (k : ∀ d h' v H', Ext H h H' h' → RepH cad H' h' → RepL H' h' d v → RepS H' h' σ σm → (∀ x h2 cls dx H2, Ext H' h' H2 h2 → RepH cad H2 h2 → RepEx cad H2 h2 x cls dx → EM x h2 → W cls dx σm H2) → Q d h' → Qm v H') : upA cad W m σm H Qm :=
  ⟨σ, h, Q, EM, rs, rh, q, fun d h' v H' e r rv qd => k d h' v H' e r rv (rs.ext e) (fun x h2 cls dx H2 e2 r2 rx z => ex x h2 cls dx H2 (e.trans e2) r2 rx z) qd, ex⟩

def mC (d : D) : Mx := fun _ h Q _ => Q d h
def mVar (i : Nat) : Mx := fun σ h Q _ => match slot σ i with | some d => Q d h | none => False
theorem se_c {e : Expr} {v : V} {d : D} (p : PE X e (tC v)) (r : ∀ H h, Rep H h d v) : SE cad W X e (mC d) :=
  pe_imp p fun σm H Qm ⟨σ, h, Q, EM, rs, rh, q, k, _⟩ => k d h v H Ext.refl rh (r H h) q
theorem se_var {i : Nat} {e : Expr} (p : PE X e (tVar i)) : SE cad W X e (mVar i) :=
  pe_imp p fun σm H Qm ⟨σ, h, Q, EM, rs, rh, q, k, _⟩ => by
    unfold mVar at q
    split at q
    · rename_i d e
      obtain ⟨v, a, b⟩ := rs.get e
      exact ⟨v, a, k d h v H Ext.refl rh b q⟩
    · exact q.elim

abbrev M2 := D → D → Hm → Kx → Prop
def mOp (s : M2) (a b : Mx) : Mx := fun σ h Q E => a σ h (fun x h1 => b σ h1 (fun y h2 => s x y h2 Q) E) E
def OpD (cad : Cad) (X : Cx) (f : Value → Value → Sem Value) (s : M2) : Prop := ∃ r : R2, OpR X f r ∧ ∀ (H : Hp) (h : Hm) (x y : D) (v u : V) (Q : Kx) (Qm : VK), RepH cad H h → Rep H h x v → Rep H h y u → s x y h Q →
  (∀ d h' w H', Ext H h H' h' → RepH cad H' h' → Rep H' h' d w → Q d h' → Qm w H') → r v u H Qm
theorem op_of {f : Value → Value → Sem Value} {s : M2} {r : R2} {a b : Expr} {e : Expr} {ma mb : Mx}
    (p : ∀ ta tb, PE X a ta → PE X b tb → PE X e (tOp r ta tb)) (hr : ∀ (H : Hp) (h : Hm) (x y : D) (v u : V) (Q : Kx) (Qm : VK), RepH cad H h → Rep H h x v → Rep H h y u → s x y h Q →
      (∀ d h' w H', Ext H h H' h' → RepH cad H' h' → Rep H' h' d w → Q d h' → Qm w H') → r v u H Qm) (ha : SE cad W X a ma) (hb : SE cad W X b mb) : SE cad W X e (mOp s ma mb) := by
  refine pe_imp (p _ _ ha hb) fun σm H Qm ⟨σ, h, Q, EM, rs, rh, q, k, ex⟩ => ?_
  refine up_then rs rh q ex fun x h1 v H1 e1 r1 rv rs1 ex1 q1 => ?_
  refine up_then rs1 r1 q1 ex1 fun y h2 u H2 e2 r2 ru rs2 ex2 q2 => ?_
  exact hr H2 h2 x y v u Q Qm r2 (rv.ext e2) ru q2 fun d h' w H' e3 r3 rw3 q3 => k d h' w H' ((e1.trans e2).trans e3) r3 rw3 q3
theorem se_bin {op : Operator} {s : M2} {a b : Expr} {ma mb : Mx} {pos : Pos} (o : OpD cad X (binaryOp op) s) (ha : SE cad W X a ma) (hb : SE cad W X b mb) : SE cad W X (.BinOp a op b pos) (mOp s ma mb) := by
  obtain ⟨r, ho, hr⟩ := o
  exact op_of (f := binaryOp op) (r := r) (fun _ _ pa pb => pe_op ho pa pb) hr ha hb
theorem se_cmp {op : CmpOp} {s : M2} {a b : Expr} {ma mb : Mx} {pos : Pos} (o : OpD cad X (compareOp op) s) (hm : behindInMarks op b = false) (ha : SE cad W X a ma) (hb : SE cad W X b mb) : SE cad W X (.Compare a [op] [b] pos) (mOp s ma mb) := by
  obtain ⟨r, ho, hr⟩ := o
  exact op_of (f := compareOp op) (r := r) (fun _ _ pa pb => pe_cmpR ho pa pb hm) hr ha hb
theorem OpD.or {f : Value → Value → Sem Value} {s s' : M2} (o : OpD cad X f s) (o' : OpD cad X f s') : OpD cad X f (fun x y h Q => s x y h Q ∨ s' x y h Q) := by
  obtain ⟨r, ho, hr⟩ := o
  obtain ⟨r', ho', hr'⟩ := o'
  refine ⟨_, ho.or ho', fun H h x y v u Q Qm rh rx ry q k => ?_⟩
  rcases q with q | q
  · exact .inl (hr H h x y v u Q Qm rh rx ry q k)
  · exact .inr (hr' H h x y v u Q Qm rh rx ry q k)
theorem OpD.imp {f : Value → Value → Sem Value} {s s' : M2} (o : OpD cad X f s) (k : ∀ x y h Q, s' x y h Q → s x y h Q) : OpD cad X f s' := by
  obtain ⟨r, ho, hr⟩ := o
  exact ⟨r, ho, fun H h x y v u Q Qm rh rx ry q => hr H h x y v u Q Qm rh rx ry (k _ _ _ _ q)⟩
def m2V (p : D → D → Option D) : M2 := fun x y h Q => ∃ d, p x y = some d ∧ Q d h

def maNil : Ma := fun _ h Q _ => Q [] h
def maCons (a : Mx) (r : Ma) : Ma := fun σ h Q E => a σ h (fun x h1 => r σ h1 (fun xs h2 => Q (x :: xs) h2) E) E
theorem sa_nil : SA cad W X [] maNil := pa_imp pa_nil fun σm H Qm ⟨σ, h, Q, EM, rs, rh, q, k, _⟩ => k [] h [] H Ext.refl rh RepL.nil q
def notStar : Expr → Bool
  | .Starred _ _ => false
  | _ => true
theorem star_of {e : Expr} {es : List Expr} {env : Env} (h : notStar e = true) : starEach (e :: es) env = (false, eval e env) :: starEach es env := by
  cases e <;> first | rfl | cases h
theorem sa_cons {e : Expr} {es : List Expr} {m : Mx} {r : Ma} (ha : SE cad W X e m) (hr : SA cad W X es r) (hs : notStar e = true) : SA cad W X (e :: es) (maCons m r) := by
  refine pa_imp (pa_cons ha hr (star_of hs)) fun σm H Qm ⟨σ, h, Q, EM, rs, rh, q, k, ex⟩ => ?_
  refine up_then rs rh q ex fun x h1 v H1 e1 r1 rv rs1 ex1 q1 => ?_
  refine upA_then rs1 r1 q1 ex1 fun y h2 u H2 e2 r2 ru rs2 ex2 q2 => ?_
  exact k (x :: y) h2 (v :: u) H2 (e1.trans e2) r2 (RepL.cons (rv.ext e2) ru) q2
def mTup (a : Ma) : Mx := fun σ h Q E => a σ h (fun xs h1 => xs.length ≤ sizeLine ∧ Q (.tup xs) h1) E
def newL (b : Bool) (xs : List D) (h : Hm) (Q : Kx) : Prop := match b with
  | true => ∀ p, h p = none → Q (.ref p) (updm h p (.lst xs))
  | false => Q (.lst xs) h
def mLst (b : Bool) (a : Ma) : Mx := fun σ h Q E => a σ h (fun xs h1 => xs.length ≤ sizeLine ∧ newL b xs h1 Q) E
theorem newL_ok {b : Bool} {H : Hp} {h : Hm} {xs : List D} {vs : List V} {Q : Kx} {Qm : VK} (rh : RepH cad H h) (r : RepL H h xs vs) (q : newL b xs h Q)
    (k : ∀ d h' w H', Ext H h H' h' → RepH cad H' h' → Rep H' h' d w → Q d h' → Qm w H') : ∀ p, H p = none → Qm (.ref p) (upd H p (.lst vs)) := by
  intro p n
  cases b with
  | true =>
    refine k (.ref p) (updm h p (.lst xs)) (.ref p) _ (Ext.freshM n) (rh.freshM_ok n ?_) rfl (q p (rh.fresh n))
    exact ⟨vs, upd_same, RepL.ext (Ext.freshM n) r⟩
  | false => exact k (.lst xs) h (.ref p) _ (Ext.fresh n) (rh.fresh_ok n) ⟨p, vs, rfl, upd_same, rh.fresh n, RepL.ext (Ext.fresh n) r⟩ q
theorem newT_ok {H : Hp} {h : Hm} {xs : List D} {vs : List V} {Q : Kx} {Qm : VK} (rh : RepH cad H h) (r : RepL H h xs vs) (q : Q (.tup xs) h)
    (k : ∀ d h' w H', Ext H h H' h' → RepH cad H' h' → Rep H' h' d w → Q d h' → Qm w H') : ∀ p, H p = none → Qm (.ref p) (upd H p (.tup vs)) := fun p n =>
  k (.tup xs) h (.ref p) _ (Ext.fresh n) (rh.fresh_ok n) ⟨p, vs, rfl, upd_same, RepL.ext (Ext.fresh n) r⟩ q
theorem se_tup {es : List Expr} {m : Ma} {x1} {pos : Pos} (ha : SA cad W X es m) : SE cad W X (.Tuple es x1 pos) (mTup m) := by
  refine pe_imp (pe_tup ha) fun σm H Qm ⟨σ, h, Q, EM, rs, rh, q, k, ex⟩ => ?_
  refine upA_then rs rh q ex fun y h2 u H2 e2 r2 ru rs2 ex2 q2 => ?_
  refine ⟨by rw [ru.length]; exact q2.1, newT_ok r2 ru q2.2 fun d h' w H' e3 r3 rw3 q3 => k d h' w H' (e2.trans e3) r3 rw3 q3⟩
theorem se_lst {b : Bool} {es : List Expr} {m : Ma} {pos : Pos} (ha : SA cad W X es m) : SE cad W X (.List es pos) (mLst b m) := by
  refine pe_imp (pe_lst ha) fun σm H Qm ⟨σ, h, Q, EM, rs, rh, q, k, ex⟩ => ?_
  refine upA_then rs rh q ex fun y h2 u H2 e2 r2 ru rs2 ex2 q2 => ?_
  refine ⟨by rw [ru.length]; exact q2.1, newL_ok r2 ru q2.2 fun d h' w H' e3 r3 rw3 q3 => k d h' w H' (e2.trans e3) r3 rw3 q3⟩
end
end MM
end

section
set_option Elab.async false
set_option linter.all false
set_option maxRecDepth 100000
set_option maxHeartbeats 2000000
namespace MM
open PySem PySem.Spec PyProof.Rows L2

def mapO {α β : Type} (f : α → Option β) : List α → Option (List β)
  | [] => some []
  | x :: r => match f x, mapO f r with
    | some y, some ys => some (y :: ys)
    | _, _ => none
def keyD : Key → PyData
  | .inl i => .int i
  | .inr x => .str x
def pyF (dk : Bool) (h : Hm) : Nat → D → Option PyData
  | _, .non => some .none
  | _, .bl b => some (.bool b)
  | _, .int i => some (.int i)
  | _, .str x => some (.str x)
  | n + 1, .tup xs => (mapO (pyF dk h n) xs).map .tuple
  | n + 1, .lst xs => (mapO (pyF dk h n) xs).map .list
  | n + 1, .ref a => match h a with
    | some (.lst xs) => (mapO (pyF dk h n) xs).map .list
    | _ => none
  | n + 1, .dct ks vs => match dk with
    | true => (mapO (pyF dk h n) vs).map fun ps => .dict ((ks.map keyD).zip ps)
    | false => none
  | _, _ => none
abbrev py (h : Hm) (d : D) : Option PyData := pyF false h 60 d
theorem mapO_len {α β : Type} {f : α → Option β} : ∀ {xs : List α} {ys : List β}, mapO f xs = some ys → ys.length = xs.length
  | [], _, e => by cases e; rfl
  | x :: r, ys, e => by
    unfold mapO at e
    split at e
    · rename_i y zs h1 h2
      cases e
      rw [List.length_cons, List.length_cons, mapO_len h2]
    · cases e
theorem mapO_map {α β γ : Type} {f : α → Option β} {g : γ → α} {k : γ → β} : ∀ {xs : List γ}, (∀ x ∈ xs, f (g x) = some (k x)) → mapO f (xs.map g) = some (xs.map k)
  | [], _ => rfl
  | x :: r, e => by
    show (match f (g x), mapO f (r.map g) with | some y, some ys => some (y :: ys) | _, _ => none) = _
    rw [e x List.mem_cons_self, mapO_map fun y hy => e y (List.mem_cons_of_mem _ hy)]
    rfl
theorem pyF_plain {h : Hm} : ∀ {n : Nat} {d : D} {p : PyData}, pyF false h n d = some p → p.plain = true ∧ p.depth ≤ n := by
  intro n
  induction n with
  | zero => intro d p e; cases d <;> first | (cases e; exact ⟨rfl, Nat.zero_le _⟩) | cases e
  | succ n ih =>
    have all : ∀ {xs : List D} {ps : List PyData}, mapO (pyF false h n) xs = some ps → PyData.plainAll ps = true ∧ PyData.depthAll ps ≤ n := by
      intro xs
      induction xs with
      | nil => intro ps e; cases e; exact ⟨rfl, Nat.zero_le _⟩
      | cons x r ihx =>
        intro ps e
        unfold mapO at e
        split at e
        · rename_i y zs h1 h2
          cases e
          obtain ⟨a, b⟩ := ih h1
          obtain ⟨c, d⟩ := ihx h2
          refine ⟨by show (y.plain && PyData.plainAll zs) = true; rw [a, c]; rfl, ?_⟩
          show max y.depth (PyData.depthAll zs) ≤ n
          omega
        · cases e
    intro d p e
    cases d with
    | tup xs =>
      obtain ⟨ps, h1, rfl⟩ := Option.map_eq_some_iff.mp (show (mapO (pyF false h n) xs).map .tuple = some p from e)
      obtain ⟨a, b⟩ := all h1
      exact ⟨a, Nat.succ_le_succ b⟩
    | lst xs =>
      obtain ⟨ps, h1, rfl⟩ := Option.map_eq_some_iff.mp (show (mapO (pyF false h n) xs).map .list = some p from e)
      obtain ⟨a, b⟩ := all h1
      exact ⟨a, Nat.succ_le_succ b⟩
    | ref a =>
      have e' : (match h a with | some (.lst xs) => (mapO (pyF false h n) xs).map .list | _ => none) = some p := e
      split at e'
      · obtain ⟨ps, h1, rfl⟩ := Option.map_eq_some_iff.mp e'
        obtain ⟨a, b⟩ := all h1
        exact ⟨a, Nat.succ_le_succ b⟩
      · cases e'
    | dct ks vs => cases e
    | scr K ns => cases e
    | ty t => cases e
    | non => cases e; exact ⟨rfl, Nat.zero_le _⟩
    | bl b => cases e; exact ⟨rfl, Nat.zero_le _⟩
    | int i => cases e; exact ⟨rfl, Nat.zero_le _⟩
    | str x => cases e; exact ⟨rfl, Nat.zero_le _⟩

section
variable {X : Cx} {pins : List (Addr × Obj)} {σ : L2.St} {H : Hp} {s : Shared} {cad : Cad} {h : Hm}
theorem keys_read {P : Program} {w : World} {hp : Heap} : ∀ {es : List DictEntry} {kvs : List (Key × Value)}, PySem.Pairs (mixKind P w) es kvs → ReadsAll hp (es.map (·.key)) ((kvs.map (·.1)).map keyD) []
  | _, _, .nil => .nil
  | e :: es, kv :: kvs, .cons hk _ r => by
    have z := keys_read (hp := hp) r
    have q : Reads hp e.key (keyD kv.1) [] := by
      rcases keyIs_shape (show keyIs kv.1 e.key = true from hk) with ⟨i, t, e1, e2⟩ | ⟨x, t, e1, e2⟩
      · rw [e1, e2]; exact .int _ _
      · rw [e1, e2]; exact .str _ _
    exact .cons q z
theorem vals_of_pairs {P : Program} {w : World} : ∀ {es : List DictEntry} {kvs : List (Key × Value)}, PySem.Pairs (mixKind P w) es kvs → es.map (·.val) = kvs.map (·.2)
  | _, _, .nil => rfl
  | e :: es, kv :: kvs, .cons _ hv r => by rw [List.map_cons, List.map_cons, vals_of_pairs r, hv]
theorem KV.snd : ∀ {kvs : List (Key × V)} {vs : List (Key × Value)}, KV kvs vs → Vals (kvs.map (·.2)) (vs.map (·.2)) ∧ kvs.map (·.1) = vs.map (·.1)
  | _, _, .nil => ⟨.nil, rfl⟩
  | _, _, .cons a r => by
    obtain ⟨x, y⟩ := KV.snd r
    exact ⟨.cons a.2 x, by rw [List.map_cons, List.map_cons, y, a.1]⟩
theorem rep_reads' (I : Inv X pins σ H s) (rh : RepH cad H h) {dk : Bool} : ∀ {n : Nat} {d : D} {p : PyData} {v : V} {u : Value}, pyF dk h n d = some p → Rep H h d v → RelV v u → ∃ as, Reads s.heap u p as ∧ ∀ a ∈ as, H a ≠ none := by
  intro n
  induction n with
  | zero =>
    intro d p v u e r rv
    cases d <;> first
      | (cases e; cases (show v = _ from r); first | (cases (show u = _ from rv); exact ⟨[], by constructor, fun _ z => nomatch z⟩) | (obtain ⟨t, z⟩ := rv; cases z; exact ⟨[], by constructor, fun _ z => nomatch z⟩))
      | cases e
  | succ n ih =>
    have all : ∀ {xs : List D} {ps : List PyData} {vs : List V} {us : List Value}, mapO (pyF dk h n) xs = some ps → RepL H h xs vs → Vals vs us → ∃ as, ReadsAll s.heap us ps as ∧ ∀ a ∈ as, H a ≠ none := by
      intro xs
      induction xs with
      | nil => intro ps vs us e r rv; cases e; cases (show vs = [] from r); cases rv; exact ⟨_, .nil, fun _ z => nomatch z⟩
      | cons x xs ihx =>
        intro ps vs us e r rv
        unfold mapO at e
        split at e
        · rename_i y zs h1 h2
          cases e
          obtain ⟨v, vr, rfl, r1, r2⟩ := r
          cases rv with
          | cons q1 q2 =>
            obtain ⟨as, z1, t1⟩ := ih h1 r1 q1
            obtain ⟨bs, z2, t2⟩ := ihx h2 r2 q2
            exact ⟨_, .cons z1 z2, fun a z => (List.mem_append.mp z).elim (t1 a) (t2 a)⟩
        · cases e
    intro d p v u e r rv
    cases d with
    | tup xs =>
      obtain ⟨ps, h1, rfl⟩ := Option.map_eq_some_iff.mp (show (mapO (pyF dk h n) xs).map .tuple = some p from e)
      obtain ⟨a, vs, rfl, ha, rl⟩ := r
      cases rv
      obtain ⟨its, rits, ⟨o, ho, hc, m, hd⟩, _⟩ := I.tuple (SqT.of ha)
      obtain ⟨as, z, t⟩ := all h1 rl rits
      exact ⟨_, .tuple ho hc hd z, t⟩
    | lst xs =>
      obtain ⟨ps, h1, rfl⟩ := Option.map_eq_some_iff.mp (show (mapO (pyF dk h n) xs).map .list = some p from e)
      obtain ⟨a, vs, rfl, ha, _, rl⟩ := r
      cases rv
      obtain ⟨its, rits, ⟨o, m, ho, hc, _, hd⟩, _⟩ := I.list (SqL.of ha)
      obtain ⟨as, z, t⟩ := all h1 rl rits
      exact ⟨_, .list ho hc hd z, fun b q => (List.mem_cons.mp q).elim (fun q => by rw [q, ha]; exact nofun) (t b)⟩
    | ref a =>
      have e' : (match h a with | some (.lst xs) => (mapO (pyF dk h n) xs).map .list | _ => none) = some p := e
      split at e'
      · rename_i xs hx
        obtain ⟨ps, h1, rfl⟩ := Option.map_eq_some_iff.mp e'
        obtain ⟨vs, ha, rl⟩ := rh a _ hx
        cases (show v = _ from r)
        cases rv
        obtain ⟨its, rits, ⟨o, m, ho, hc, _, hd⟩, _⟩ := I.list (SqL.of ha)
        obtain ⟨as, z, t⟩ := all h1 rl rits
        exact ⟨_, .list ho hc hd z, fun b q => (List.mem_cons.mp q).elim (fun q => by rw [q, ha]; exact nofun) (t b)⟩
      · cases e'
    | dct ks vs =>
      cases dk with
      | false => cases e
      | true =>
        obtain ⟨ps, h1, rfl⟩ := Option.map_eq_some_iff.mp (show (mapO (pyF true h n) vs).map (fun ps => PyData.dict ((ks.map keyD).zip ps)) = some p from e)
        obtain ⟨a, kvs, rfl, ha, _, hk, rl⟩ := r
        cases rv
        obtain ⟨_, _, us, kv, o, es, ep, ho, hc, hd, _, pr, _⟩ := (show ObjOk X.prog X.w H s.heap a (.dK kvs) from I.hok a _ ha)
        obtain ⟨kv2, ke⟩ := KV.snd kv
        have z1 := keys_read (hp := s.heap) pr
        obtain ⟨bs, z2, t⟩ := all h1 rl kv2
        have hl : ks.length = ps.length := by rw [mapO_len h1, ← rl.length, List.length_map, ← hk, List.length_map]
        refine ⟨_, Reads.dict ho hc.1 hd (as := []) (bs := bs) ?_ ?_, fun b q => (List.mem_cons.mp q).elim (fun q => by rw [q, ha]; exact nofun) (t b)⟩
        · rw [List.map_fst_zip (by rw [List.length_map]; omega), ← hk, ke]; exact z1
        · rw [List.map_snd_zip (by rw [List.length_map]; omega), vals_of_pairs pr]; exact z2
    | scr K ns => cases e
    | ty t => cases e
    | non => cases e; cases (show v = _ from r); cases (show u = _ from rv); exact ⟨_, .none, fun _ z => nomatch z⟩
    | bl b => cases e; cases (show v = _ from r); cases (show u = _ from rv); exact ⟨_, .bool _, fun _ z => nomatch z⟩
    | int i => cases e; cases (show v = _ from r); obtain ⟨t, z⟩ := rv; cases z; exact ⟨_, .int _ _, fun _ z => nomatch z⟩
    | str x => cases e; cases (show v = _ from r); obtain ⟨t, z⟩ := rv; cases z; exact ⟨_, .str _ _, fun _ z => nomatch z⟩
theorem rep_reads (I : Inv X pins σ H s) (rh : RepH cad H h) {dk : Bool} {n : Nat} {d : D} {p : PyData} {v : V} {u : Value} (e : pyF dk h n d = some p) (r : Rep H h d v) (rv : RelV v u) : ∃ as, Reads s.heap u p as :=
  let ⟨as, z, _⟩ := rep_reads' I rh e r rv; ⟨as, z⟩
end

def lis (h : Hm) : D → Option (List D)
  | .lst xs => some xs
  | .ref a => match h a with
    | some (.lst xs) => some xs
    | _ => none
  | _ => none
def sqs (h : Hm) : D → Option (List D)
  | .tup xs => some xs
  | .lst xs => some xs
  | .ref a => match h a with
    | some (.lst xs) => some xs
    | _ => none
  | _ => none
theorem lis_rep {cad : Cad} {H : Hp} {h : Hm} {d : D} {v : V} {xs : List D} (rh : RepH cad H h) (r : Rep H h d v) (e : lis h d = some xs) : ∃ a vs, v = .ref a ∧ H a = some (.lst vs) ∧ RepL H h xs vs := by
  cases d with
  | lst ys => cases e; obtain ⟨a, vs, x, y, _, z⟩ := r; exact ⟨a, vs, x, y, z⟩
  | ref a =>
    have e' : (match h a with | some (.lst xs) => some xs | _ => none) = some xs := e
    split at e'
    · rename_i ys hy
      cases e'
      obtain ⟨vs, x, y⟩ := rh a _ hy
      exact ⟨a, vs, r, x, y⟩
    · cases e'
  | _ => cases e
theorem sqs_rep {cad : Cad} {H : Hp} {h : Hm} {d : D} {v : V} {xs : List D} (rh : RepH cad H h) (r : Rep H h d v) (e : sqs h d = some xs) : ∃ a vs, v = .ref a ∧ (H a = some (.lst vs) ∨ H a = some (.tup vs)) ∧ RepL H h xs vs := by
  cases d with
  | tup ys => cases e; obtain ⟨a, vs, x, y, z⟩ := r; exact ⟨a, vs, x, .inr y, z⟩
  | lst ys => cases e; obtain ⟨a, vs, x, y, _, z⟩ := r; exact ⟨a, vs, x, .inl y, z⟩
  | ref a =>
    have e' : (match h a with | some (.lst xs) => some xs | _ => none) = some xs := e
    split at e'
    · rename_i ys hy
      cases e'
      obtain ⟨vs, x, y⟩ := rh a _ hy
      exact ⟨a, vs, r, .inl x, y⟩
    · cases e'
  | _ => cases e

def sAdd (b : Bool) : M2 := fun x y h Q => match x, y with
  | .int i, .int j => Q (.int (i + j)) h
  | .str s, .str t => s.length + t.length ≤ sizeLine ∧ Q (.str (s ++ t)) h
  | .tup xs, .tup ys => xs.length + ys.length ≤ sizeLine ∧ Q (.tup (xs ++ ys)) h
  | x, y => match lis h x, lis h y with
    | some xs, some ys => xs.length + ys.length ≤ sizeLine ∧ newL b (xs ++ ys) h Q
    | _, _ => False
def s2I (C : Int → Int → Prop) (g : Int → Int → D) : M2 := fun x y h Q => match x, y with
  | .int i, .int j => C i j ∧ Q (g i j) h
  | _, _ => False
def sMul (b : Bool) : M2 := fun x y h Q => match x, y with
  | .int i, .int j => (CMulW i j ∨ CMul i j) ∧ Q (.int (i * j)) h
  | x, .int k => match lis h x with
    | some xs => (-(2 ^ 63) ≤ k ∧ k < 2 ^ 63 ∧ xs.length * k.toNat ≤ sizeLine) ∧ newL b (List.replicate k.toNat xs).flatten h Q
    | _ => False
  | _, _ => False
section
variable {cad : Cad} {X : Cx}
theorem op_2I {f : Value → Value → Sem Value} {C : Int → Int → Prop} {g : Int → Int → Int} (o : OpR X f (rI C fun i j => .int (g i j))) : OpD cad X f (s2I C fun i j => .int (g i j)) := by
  refine ⟨_, o, fun H h x y v u Q Qm rh rx ry q k => ?_⟩
  unfold s2I at q
  split at q
  · cases (show v = _ from rx); cases (show u = _ from ry)
    exact ⟨_, _, rfl, rfl, q.1, k (.int _) h _ H Ext.refl rh rfl q.2⟩
  · exact q.elim
theorem op_2B {f : Value → Value → Sem Value} {g : Int → Int → Bool} (o : OpR X f (rI0 fun i j => .bl (g i j))) : OpD cad X f (s2I (fun _ _ => True) fun i j => .bl (g i j)) := by
  refine ⟨_, o, fun H h x y v u Q Qm rh rx ry q k => ?_⟩
  unfold s2I at q
  split at q
  · cases (show v = _ from rx); cases (show u = _ from ry)
    exact ⟨_, _, rfl, rfl, k (.bl _) h _ H Ext.refl rh rfl q.2⟩
  · exact q.elim
theorem od_add {b : Bool} : OpD cad X (binaryOp .Add) (sAdd b) := by
  refine ⟨_, ((op_add (X := X)).or op_add_str).or (op_catA.or op_cat), fun H h x y v u Q Qm rh rx ry q k => ?_⟩
  unfold sAdd at q
  split at q
  · cases (show v = _ from rx); cases (show u = _ from ry)
    exact .inl (.inl ⟨_, _, rfl, rfl, k (.int _) h _ H Ext.refl rh rfl q⟩)
  · cases (show v = _ from rx); cases (show u = _ from ry)
    exact .inl (.inr ⟨_, _, rfl, rfl, q.1, k (.str _) h _ H Ext.refl rh rfl q.2⟩)
  · rename_i xs ys
    obtain ⟨a, vs, e1, h1, r1⟩ := rx
    obtain ⟨b, us, e2, h2, r2⟩ := ry
    refine .inr (.inl ⟨a, b, vs, us, e1, e2, SqT.of h1, SqT.of h2, by rw [r1.length, r2.length]; exact q.1, fun z => ?_, fun _ z => ?_, fun _ _ => ?_⟩)
    · subst z
      have e : xs = [] := List.eq_nil_of_length_eq_zero (by rw [← r1.length]; rfl)
      subst e
      exact k (.tup _) h _ H Ext.refl rh ⟨b, us, rfl, h2, r2⟩ q.2
    · subst z
      have e : ys = [] := List.eq_nil_of_length_eq_zero (by rw [← r2.length]; rfl)
      subst e
      have z := q.2
      rw [List.append_nil] at z
      exact k (.tup _) h _ H Ext.refl rh ⟨a, vs, rfl, h1, r1⟩ z
    · exact newT_ok rh (r1.append r2) q.2 k
  · split at q
    · rename_i xs ys e1 e2
      obtain ⟨a, vs, e1, h1, r1⟩ := lis_rep rh rx e1
      obtain ⟨b, us, e2, h2, r2⟩ := lis_rep rh ry e2
      refine .inr (.inr ⟨a, b, vs, us, e1, e2, h1, h2, ?_, newL_ok rh (r1.append r2) q.2 k⟩)
      rw [r1.length, r2.length]; exact q.1
    · exact q.elim
theorem od_mul {b : Bool} : OpD cad X (binaryOp .Mult) (sMul b) := by
  refine ⟨_, ((op_mulW (X := X)).or op_mul).or op_rep, fun H h x y v u Q Qm rh rx ry q k => ?_⟩
  unfold sMul at q
  split at q
  · cases (show v = _ from rx); cases (show u = _ from ry)
    rcases q with ⟨c | c, q⟩
    · exact .inl (.inl ⟨_, _, rfl, rfl, c, k (.int _) h _ H Ext.refl rh rfl q⟩)
    · exact .inl (.inr ⟨_, _, rfl, rfl, c, k (.int _) h _ H Ext.refl rh rfl q⟩)
  · split at q
    · rename_i xs e1
      obtain ⟨a, vs, e1, h1, r1⟩ := lis_rep rh rx e1
      cases (show u = _ from ry)
      refine .inr ⟨a, _, vs, e1, rfl, h1, q.1.1, q.1.2.1, ?_, newL_ok rh (r1.replicate _) q.2 k⟩
      rw [r1.length]; exact q.1.2.2
    · exact q.elim
  · exact q.elim
abbrev sSub : M2 := s2I (fun _ _ => True) fun i j => .int (i - j)
theorem od_sub : OpD cad X (binaryOp .Sub) sSub := by
  refine ⟨_, op_sub (X := X), fun H h x y v u Q Qm rh rx ry q k => ?_⟩
  unfold sSub s2I at q
  split at q
  · cases (show v = _ from rx); cases (show u = _ from ry)
    exact ⟨_, _, rfl, rfl, k (.int _) h _ H Ext.refl rh rfl q.2⟩
  · exact q.elim
abbrev sFdiv : M2 := s2I CDivW fun i j => .int (i / j)
abbrev sMod : M2 := s2I (fun _ j => 0 < j) fun i j => .int (i % j)
abbrev sPow : M2 := s2I CPow fun i j => .int (i ^ j.toNat)
theorem od_fdiv : OpD cad X (binaryOp .FloorDiv) sFdiv := op_2I op_fdivW
theorem od_mod : OpD cad X (binaryOp .Mod) sMod := op_2I op_mod
theorem od_pow : OpD cad X (binaryOp .Pow) sPow := op_2I op_pow

def sEq : M2 := fun x y h Q => match py h x, py h y with
  | some p, some q => Q (.bl (p.eqv q)) h
  | _, _ => False
def sNe : M2 := fun x y h Q => match py h x, py h y with
  | some p, some q => Q (.bl (!p.eqv q)) h
  | _, _ => False
def rRd (f : Value → Value → Sem Value) (X : Cx) (p q : PyData) (k : Bool) : Prop := ∀ (pins : List (Addr × Obj)) (s : Shared) (v u : Value) (as bs : List Addr) (Q : Value → Shared → Prop), Reads s.heap v p as → Reads s.heap u q bs → Q (.bool k) s → wpAny (model X.prog X.w) X.A (f v u) Q X.xe s
theorem od_data {f : Value → Value → Sem Value} {C : PyData → PyData → Prop} {g : PyData → PyData → Bool}
    (o : ∀ p q, p.plain = true → q.plain = true → p.depth ≤ 60 → q.depth ≤ 60 → C p q → rRd f X p q (g p q)) : OpD cad X f (fun x y h Q => match py h x, py h y with | some p, some q => C p q ∧ Q (.bl (g p q)) h | _, _ => False) := by
  refine ⟨fun v u H Qm => ∃ (h : Hm) (x y : D) (p q : PyData), RepH cad H h ∧ Rep H h x v ∧ Rep H h y u ∧ py h x = some p ∧ py h y = some q ∧ C p q ∧ Qm (.bl (g p q)) H, ?_, fun H h x y v u Q Qm rh rx ry q k => ?_⟩
  · intro pins s σ H x y v u Q I rx ry ⟨h, dx, dy, p, q, rh, r1, r2, e1, e2, c, qq⟩
    obtain ⟨as, z1⟩ := rep_reads I rh e1 r1 rx
    obtain ⟨bs, z2⟩ := rep_reads I rh e2 r2 ry
    obtain ⟨a1, a2⟩ := pyF_plain e1
    obtain ⟨b1, b2⟩ := pyF_plain e2
    exact o p q a1 b1 a2 b2 c pins s v u as bs _ z1 z2 ⟨.bl _, H, I, rfl, qq⟩
  · dsimp only at q
    split at q
    · rename_i p1 p2 e1 e2
      exact ⟨h, x, y, p1, p2, rh, rx, ry, e1, e2, q.1, k (.bl _) h _ H Ext.refl rh rfl q.2⟩
    · exact q.elim
variable (hu : X.A.units + 64 < cLine)
include hu
theorem od_eq : OpD cad X (compareOp .Eq) sEq := (od_data (C := fun _ _ => True) (g := PyData.eqv) fun p q a b c d _ pins s v u as bs Q r1 r2 k => SeqAt.eq_plain r1 r2 a b (by omega) k).imp fun x y h Q q => by
  unfold sEq at q; split at q
  · exact ⟨trivial, q⟩
  · exact q
theorem od_ne : OpD cad X (compareOp .NotEq) sNe := (od_data (C := fun _ _ => True) (g := fun p q => !PyData.eqv p q) fun p q a b c d _ pins s v u as bs Q r1 r2 k => SeqAt.ne_plain r1 r2 a b (by omega) k).imp fun x y h Q q => by
  unfold sNe at q; split at q
  · exact ⟨trivial, q⟩
  · exact q
def sCmp (gi : Int → Int → Bool) (g : PyData → PyData → Bool) : M2 := fun x y h Q => match x, y with
  | .int i, .int j => Q (.bl (gi i j)) h
  | x, y => match py h x, py h y with
    | some p, some q => (PySem.W.alike p q = true ∧ p ≠ .none) ∧ Q (.bl (g p q)) h
    | _, _ => False
omit hu in
theorem od_cmp {f : Value → Value → Sem Value} {gi : Int → Int → Bool} {g : PyData → PyData → Bool} (oi : OpR X f (rI0 fun i j => .bl (gi i j)))
    (o : ∀ p q, p.plain = true → q.plain = true → p.depth ≤ 60 → q.depth ≤ 60 → (PySem.W.alike p q = true ∧ p ≠ .none) → rRd f X p q (g p q)) : OpD cad X f (sCmp gi g) :=
  ((op_2B oi).or (od_data o)).imp fun x y h Q q => by
    unfold sCmp at q
    split at q
    · exact .inl ⟨trivial, q⟩
    · exact .inr q
abbrev sLt : M2 := sCmp (fun i j => decide (i < j)) PySem.W.dataLt
abbrev sGt : M2 := sCmp (fun i j => decide (j < i)) fun p q => PySem.W.dataLt q p
abbrev sLe : M2 := sCmp (fun i j => decide (i ≤ j)) fun p q => !PySem.W.dataLt q p
abbrev sGe : M2 := sCmp (fun i j => decide (j ≤ i)) fun p q => !PySem.W.dataLt p q
theorem od_lt : OpD cad X (compareOp .Lt) sLt := od_cmp op_lt fun p q a b c d e pins s v u as bs Q r1 r2 k => PySem.W.lt_data r1 r2 e.1 e.2 (by omega) k
theorem od_gt : OpD cad X (compareOp .Gt) sGt := od_cmp op_gt fun p q a b c d e pins s v u as bs Q r1 r2 k => PySem.W.gt_data r1 r2 e.1 e.2 (by omega) k
theorem od_le : OpD cad X (compareOp .LtE) sLe := od_cmp op_le fun p q a b c d e pins s v u as bs Q r1 r2 k => PySem.W.le_data r1 r2 e.1 e.2 (by omega) k
theorem od_ge : OpD cad X (compareOp .GtE) sGe := od_cmp op_ge fun p q a b c d e pins s v u as bs Q r1 r2 k => PySem.W.ge_data r1 r2 e.1 e.2 (by omega) k
def sIn (neg : Bool) : M2 := fun x y h Q => match py h x, py h y with
  | some p, some (.list ps) => Q (.bl (neg != ps.any fun z => z.eqv p)) h
  | some p, some (.tuple ps) => Q (.bl (neg != ps.any fun z => z.eqv p)) h
  | _, _ => False
def seqData : PyData → Option (List PyData)
  | .list ps => some ps
  | .tuple ps => some ps
  | _ => none
theorem od_in : OpD cad X (compareOp .In) (sIn false) := (od_data (C := fun _ q => (seqData q).isSome = true) (g := fun p q => ((seqData q).getD []).any fun z => z.eqv p) (fun p q a b c d e pins s v u as bs Q r1 r2 k => by
    cases q with
    | list ps => exact SeqAt.in_list_data r2 r1 b a (by have : (PyData.list ps).depth = PyData.depthAll ps + 1 := rfl; omega) k
    | tuple ps => exact SeqAt.in_tuple_data r2 r1 b a (by have : (PyData.tuple ps).depth = PyData.depthAll ps + 1 := rfl; omega) k
    | _ => cases e)).imp fun x y h Q q => by
  unfold sIn at q
  split at q
  · rename_i e1 e2; rw [e1, e2]; exact ⟨rfl, by simpa [seqData] using q⟩
  · rename_i e1 e2; rw [e1, e2]; exact ⟨rfl, by simpa [seqData] using q⟩
  · exact q.elim
theorem od_notin : OpD cad X (compareOp .NotIn) (sIn true) := (od_data (C := fun _ q => (seqData q).isSome = true) (g := fun p q => !((seqData q).getD []).any fun z => z.eqv p) (fun p q a b c d e pins s v u as bs Q r1 r2 k => by
    cases q with
    | list ps => exact SeqAt.notIn_list_data r2 r1 b a (by have : (PyData.list ps).depth = PyData.depthAll ps + 1 := rfl; omega) k
    | tuple ps => exact SeqAt.notIn_tuple_data r2 r1 b a (by have : (PyData.tuple ps).depth = PyData.depthAll ps + 1 := rfl; omega) k
    | _ => cases e)).imp fun x y h Q q => by
  unfold sIn at q
  split at q
  · rename_i e1 e2; rw [e1, e2]; exact ⟨rfl, by simpa [seqData] using q⟩
  · rename_i e1 e2; rw [e1, e2]; exact ⟨rfl, by simpa [seqData] using q⟩
  · exact q.elim
omit hu
def isNon : D → Bool
  | .non => true
  | _ => false
theorem rep_non {H : Hp} {h : Hm} {d : D} {v : V} (r : Rep H h d v) : decide (v = .non) = isNon d := by
  cases d with
  | non => cases (show v = _ from r); rfl
  | bl b => cases (show v = _ from r); rfl
  | int i => cases (show v = _ from r); rfl
  | str x => cases (show v = _ from r); rfl
  | ty x => cases (show v = _ from r); rfl
  | ref a => cases (show v = _ from r); rfl
  | tup xs => obtain ⟨a, _, rfl, _⟩ := r; rfl
  | lst xs => obtain ⟨a, _, rfl, _⟩ := r; rfl
  | dct ks xs => obtain ⟨a, _, rfl, _⟩ := r; rfl
  | scr K xs => obtain ⟨a, rfl, _⟩ := r; rfl
def sIs (neg : Bool) : M2 := fun x y h Q => match y with
  | .non => Q (.bl (neg != isNon x)) h
  | .bl b => match x with
    | .bl a => Q (.bl (neg != decide (a = b))) h
    | _ => False
  | _ => False
theorem od_is : OpD cad X (compareOp .Is) (sIs false) := by
  refine ⟨_, (op_isN (X := X)).or op_isBl, fun H h x y v u Q Qm rh rx ry q k => ?_⟩
  unfold sIs at q
  split at q
  · cases (show u = _ from ry)
    exact .inl ⟨rfl, k _ h _ H Ext.refl rh (by rw [rep_non rx]; show _ = _; simp) q⟩
  · split at q
    · cases (show v = _ from rx); cases (show u = _ from ry)
      exact .inr ⟨_, _, rfl, rfl, k _ h _ H Ext.refl rh (by show _ = _; simp) q⟩
    · exact q.elim
  · exact q.elim
theorem od_isnot : OpD cad X (compareOp .IsNot) (sIs true) := by
  refine ⟨_, (op_notN (X := X)).or op_notBl, fun H h x y v u Q Qm rh rx ry q k => ?_⟩
  unfold sIs at q
  split at q
  · cases (show u = _ from ry)
    exact .inl ⟨rfl, k _ h _ H Ext.refl rh (by rw [rep_non rx]; show _ = _; simp) q⟩
  · split at q
    · cases (show v = _ from rx); cases (show u = _ from ry)
      exact .inr ⟨_, _, rfl, rfl, k _ h _ H Ext.refl rh (by show _ = _; simp) q⟩
    · exact q.elim
  · exact q.elim
end
end MM
end

section
set_option Elab.async false
set_option linter.all false
set_option maxRecDepth 100000
set_option maxHeartbeats 2000000
namespace MM
open PySem PySem.Spec PyProof.Rows L2

section
variable {cad : Cad} {W : WX} {X : Cx}
def notSlice : Expr → Bool
  | .Slice .. => false
  | _ => true
theorem plain_of {b : Expr} (h : notSlice b = true) : PlainIx b := fun o i => by
  cases b <;> first | rfl | cases h
def sIdx : M2 := fun x y h Q => match y with
  | .int i => match x with
    | .str z => z.length ≤ sizeLine ∧ match atI z.cps.toList i with
      | some c => Q (.str ⟨#[c]⟩) h
      | none => False
    | x => match sqs h x with
      | some xs => match atI xs i with
        | some d => Q d h
        | none => False
      | none => False
  | _ => False
theorem atI_rep {H : Hp} {h : Hm} {xs : List D} {vs : List V} {i : Int} {d : D} (r : RepL H h xs vs) (e : atI xs i = some d) : ∃ v, atI vs i = some v ∧ Rep H h d v := by
  unfold atI at e ⊢
  rw [r.length]
  cases q : ixN xs.length i with
  | none => rw [q] at e; cases e
  | some j =>
    rw [q] at e
    exact r.get (show xs[j]? = some d from e)
theorem sIdx_ok {H : Hp} {h : Hm} {x y : D} {v u : V} {Q : Kx} {Qm : VK} (rh : RepH cad H h) (rx : Rep H h x v) (ry : Rep H h y u) (q : sIdx x y h Q)
    (k : ∀ d h' w H', Ext H h H' h' → RepH cad H' h' → Rep H' h' d w → Q d h' → Qm w H') : rIx X.K v u H Qm := by
  unfold sIdx at q
  split at q
  · rename_i i
    cases (show u = _ from ry)
    split at q
    · cases (show v = _ from rx)
      obtain ⟨z, q⟩ := q
      split at q
      · rename_i c e
        exact .inr (.inr ⟨_, _, c, rfl, rfl, z, e, k (.str _) h _ H Ext.refl rh rfl q⟩)
      · exact q.elim
    · split at q
      · rename_i xs e
        obtain ⟨a, vs, rfl, ha, r⟩ := sqs_rep rh rx e
        split at q
        · rename_i d e2
          obtain ⟨w, e3, rw3⟩ := atI_rep r e2
          rcases ha with ha | ha
          · exact .inl ⟨a, vs, i, w, rfl, rfl, SqL.of ha, e3, k d h w H Ext.refl rh rw3 q⟩
          · exact .inr (.inl ⟨a, vs, i, w, rfl, rfl, SqT.of ha, e3, k d h w H Ext.refl rh rw3 q⟩)
        · exact q.elim
      · exact q.elim
  · exact q.elim
theorem se_idx {a b : Expr} {ma mb : Mx} {pos : Pos} (hs : notSlice b = true) (ha : SE cad W X a ma) (hb : SE cad W X b mb) : SE cad W X (.Subscript a b pos) (mOp sIdx ma mb) :=
  op_of (f := fun _ _ => pure .none) (r := rIx X.K) (fun _ _ pa pb => pe_ix ix_seq pa pb (plain_of hs)) (fun H h x y v u Q Qm rh rx ry q k => sIdx_ok rh rx ry q k) ha hb

abbrev Mo := Sl → Hm → (Option Int → Hm → Prop) → EX → Prop
def moNone : Mo := fun _ h Q _ => Q none h
def moSome (m : Mx) : Mo := fun σ h Q E => m σ h (fun d h1 => match d with | .int i => Q (some i) h1 | _ => False) E
theorem so_none : SO cad W X none moNone := po_imp po_none fun σm H Qm ⟨σ, h, Q, EM, rs, rh, q, k, _⟩ => k none h H Ext.refl rh q
theorem so_some {e : Expr} {m : Mx} (p : SE cad W X e m) : SO cad W X (some e) (moSome m) := by
  refine po_imp (po_some p) fun σm H Qm ⟨σ, h, Q, EM, rs, rh, q, k, ex⟩ => ?_
  refine up_then rs rh q ex fun x h1 v H1 e1 r1 rv rs1 ex1 q1 => ?_
  split at q1
  · cases (show v = _ from rv)
    exact ⟨_, rfl, k _ h1 H1 e1 r1 q1⟩
  · exact q1.elim
theorem upO_then {m : Mo} {σ : Sl} {σm : L2.St} {H : Hp} {h : Hm} {Q : Option Int → Hm → Prop} {EM : EX} {Qm : Option Int → Hp → Prop} (rs : RepS H h σ σm) (rh : RepH cad H h) (q : m σ h Q EM)
    (ex : ∀ x h' cls dx H', Ext H h H' h' → RepH cad H' h' → RepEx cad H' h' x cls dx → EM x h' → W cls dx σm H')
    (k : ∀ d h' H', Ext H h H' h' → RepH cad H' h' → RepS H' h' σ σm → (∀ x h2 cls dx H2, Ext H' h' H2 h2 → RepH cad H2 h2 → RepEx cad H2 h2 x cls dx → EM x h2 → W cls dx σm H2) → Q d h' → Qm d H') : upO cad W m σm H Qm :=
  ⟨σ, h, Q, EM, rs, rh, q, fun d h' H' e r qd => k d h' H' e r (rs.ext e) (fun x h2 cls dx H2 e2 r2 rx z => ex x h2 cls dx H2 (e.trans e2) r2 rx z) qd, ex⟩
def cutD {α : Type} (xs : List α) (lo hi : Option Int) : List α := (xs.drop (HT.sIx xs.length 0 lo)).take (HT.sIx xs.length xs.length hi - HT.sIx xs.length 0 lo)
theorem cut_rep {H : Hp} {h : Hm} {xs : List D} {vs : List V} {lo hi : Option Int} (r : RepL H h xs vs) : RepL H h (cutD xs lo hi) (cutV vs lo hi) := by
  unfold cutD cutV
  rw [r.length]
  exact (r.drop _).take _
def sSl (K : PySem.W.Frag) (b : Bool) (x : D) (lo hi : Option Int) (h : Hm) (Q : Kx) : Prop := match x with
  | .str z => z.length ≤ sizeLine ∧ Q (.str (cutS z lo hi)) h
  | .tup xs => Q (.tup (cutD xs lo hi)) h
  | .scr K' ns => K' = K ∧ newL b ((cutD ns lo hi).map D.int) h Q
  | x => match lis h x with
    | some xs => newL b (cutD xs lo hi) h Q
    | none => False
def mSl (K : PySem.W.Frag) (b : Bool) (a : Mx) (l u : Mo) : Mx := fun σ h Q E => a σ h (fun x h1 => l σ h1 (fun lo h2 => u σ h2 (fun hi h3 => sSl K b x lo hi h3 Q) E) E) E
theorem cutV_map {ns : List Int} {lo hi : Option Int} : cutV (ns.map V.int) lo hi = (cutD ns lo hi).map V.int := by
  unfold cutV cutD
  rw [List.length_map, List.map_take, List.map_drop]
theorem cutV_all {xs : List V} {lo hi : Option Int} (h : HT.sIx xs.length 0 lo = 0 ∧ HT.sIx xs.length xs.length hi = xs.length) : cutV xs lo hi = xs := by
  unfold cutV
  rw [h.1, h.2, Nat.sub_zero, List.drop_zero, List.take_length]
theorem se_slice {b : Bool} {e : Expr} {lo hi : Option Expr} {m : Mx} {l u : Mo} {pos p2 : Pos} (he : SE cad W X e m) (hl : SO cad W X lo l) (hu : SO cad W X hi u) : SE cad W X (.Subscript e (.Slice lo hi none p2) pos) (mSl X.K b m l u) := by
  refine pe_imp (pe_slice ((sl_list (X := X)).or (sl_tupA.or sl_str)) he hl hu) fun σm H Qm ⟨σ, h, Q, EM, rs, rh, q, k, ex⟩ => ?_
  refine up_then rs rh q ex fun x h1 v H1 e1 r1 rv rs1 ex1 q1 => ?_
  refine upO_then rs1 r1 q1 ex1 fun lo h2 H2 e2 r2 rs2 ex2 q2 => ?_
  refine upO_then rs2 r2 q2 ex2 fun hi h3 H3 e3 r3 rs3 ex3 q3 => ?_
  have rv3 := rv.ext (e2.trans e3)
  have e03 := e1.trans (e2.trans e3)
  have k3 : ∀ d h' w H', Ext H3 h3 H' h' → RepH cad H' h' → Rep H' h' d w → Q d h' → Qm w H' := fun d h' w H' ee rr ww z => k d h' w H' (e03.trans ee) rr ww z
  unfold sSl at q3
  split at q3
  · cases (show v = _ from rv3)
    exact .inr (.inr ⟨_, rfl, q3.1, k3 (.str _) h3 _ H3 Ext.refl r3 rfl q3.2⟩)
  · obtain ⟨a, vs, rfl, ha, r⟩ := rv3
    refine .inr (.inl ⟨a, vs, rfl, SqT.of ha, fun z => ?_, fun _ => newT_ok r3 (cut_rep r) q3 k3⟩)
    have c := cut_rep (lo := lo) (hi := hi) r
    rw [cutV_all z] at c
    exact k3 (.tup _) h3 _ H3 Ext.refl r3 ⟨a, vs, rfl, ha, c⟩ q3
  · rename_i K' ns
    obtain ⟨a, rfl, ha⟩ := rv3
    obtain ⟨rfl, q3⟩ := q3
    refine .inl ⟨a, ns.map V.int, rfl, ha.elim (fun ⟨o, z⟩ => .inl (.inr ⟨o, z⟩)) fun z => .inr z, ?_⟩
    rw [cutV_map]
    exact newL_ok r3 (RepL.of_ints _) q3 k3
  · split at q3
    · rename_i xs e
      obtain ⟨a, vs, rfl, ha, r⟩ := lis_rep r3 rv3 e
      exact .inl ⟨a, vs, rfl, SqL.of ha, newL_ok r3 (cut_rep r) q3 k3⟩
    · exact q3.elim

def mNeg (a : Mx) : Mx := fun σ h Q E => a σ h (fun x h1 => match x with | .int i => Q (.int (-i)) h1 | _ => False) E
theorem se_neg {e : Expr} {m : Mx} {pos : Pos} (he : SE cad W X e m) : SE cad W X (.UnaryOp .USub e pos) (mNeg m) := by
  refine pe_imp (pe_un un_neg he) fun σm H Qm ⟨σ, h, Q, EM, rs, rh, q, k, ex⟩ => ?_
  refine up_then rs rh q ex fun x h1 v H1 e1 r1 rv rs1 ex1 q1 => ?_
  split at q1
  · cases (show v = _ from rv)
    exact ⟨_, rfl, k (.int _) h1 _ H1 e1 r1 rfl q1⟩
  · exact q1.elim

def onB (Q : Bool → Hm → Prop) : Kx := fun d h => match d with | .bl b => Q b h | _ => False
def mtOf (m : Mx) : Mt := fun σ h Q E => m σ h (onB Q) E
theorem onB_ok {Q : Bool → Hm → Prop} {d : D} {h : Hm} (q : onB Q d h) : ∃ b, d = .bl b ∧ Q b h := by
  unfold onB at q
  split at q
  · exact ⟨_, rfl, q⟩
  · exact q.elim
theorem tst_up {m : Mx} : ∀ σm H Qm, upT cad W (mtOf m) σm H Qm → tTest (up cad W m) σm H Qm := fun σm H Qm ⟨σ, h, Q, EM, rs, rh, q, k, ex⟩ =>
  up_then rs rh q ex fun x h1 v H1 e1 r1 rv rs1 ex1 q1 => by
    obtain ⟨b, rfl, q2⟩ := onB_ok q1
    exact ⟨b, rv, k b h1 H1 e1 r1 q2⟩
def plainTest : Expr → Bool
  | .UnaryOp .Not _ _ => false
  | .BoolOp .. => false
  | .IfExp .. => false
  | .Compare .. => false
  | _ => true
theorem st_val {e : Expr} {m : Mx} (h : SE cad W X e m) (hp : plainTest e = true) : ST cad W X e (mtOf m) := by
  refine pt_imp (pt_val h fun whole => ?_) tst_up
  cases e with
  | UnaryOp op x p => cases op <;> first | rfl | cases hp
  | BoolOp => cases hp
  | IfExp => cases hp
  | Compare => cases hp
  | _ => rfl
theorem st_cmp {op : CmpOp} {s : M2} {a b : Expr} {ma mb : Mx} {pos : Pos} (o : OpD cad X (compareOp op) s) (hm : behindInMarks op b = false) (ha : SE cad W X a ma) (hb : SE cad W X b mb) : ST cad W X (.Compare a [op] [b] pos) (mtOf (mOp s ma mb)) := by
  obtain ⟨r, ho, hr⟩ := o
  refine pt_imp (pt_cmpR ho ha hb hm) fun σm H Qm ⟨σ, h, Q, EM, rs, rh, q, k, ex⟩ => ?_
  refine up_then rs rh q ex fun x h1 v H1 e1 r1 rv rs1 ex1 q1 => ?_
  refine up_then rs1 r1 q1 ex1 fun y h2 u H2 e2 r2 ru rs2 ex2 q2 => ?_
  refine hr H2 h2 x y v u _ _ r2 (rv.ext e2) ru q2 fun d h' w H' e3 r3 rw3 q3 => ?_
  obtain ⟨b, rfl, q4⟩ := onB_ok q3
  exact ⟨b, rw3, k b h' H' ((e1.trans e2).trans e3) r3 q4⟩
def mChain (s s' : M2) (a b c : Mx) : Mx := fun σ h Q E => a σ h (fun x h1 => b σ h1 (fun y h2 => s x y h2 (onB fun k h3 => match k with
  | true => c σ h3 (fun w h4 => s' y w h4 Q) E
  | false => Q (.bl false) h3)) E) E
theorem chain_up {op op' : CmpOp} {s s' : M2} {r r' : R2} {ma mb mc : Mx} {σm : L2.St} {H : Hp} {Qm : VK}
    (hr : ∀ (H : Hp) (h : Hm) (x y : D) (v u : V) (Q : Kx) (Qm : VK), RepH cad H h → Rep H h x v → Rep H h y u → s x y h Q → (∀ d h' w H', Ext H h H' h' → RepH cad H' h' → Rep H' h' d w → Q d h' → Qm w H') → r v u H Qm)
    (hr' : ∀ (H : Hp) (h : Hm) (x y : D) (v u : V) (Q : Kx) (Qm : VK), RepH cad H h → Rep H h x v → Rep H h y u → s' x y h Q → (∀ d h' w H', Ext H h H' h' → RepH cad H' h' → Rep H' h' d w → Q d h' → Qm w H') → r' v u H Qm)
    (q : up cad W (mChain s s' ma mb mc) σm H Qm) : tChain r r' (up cad W ma) (up cad W mb) (up cad W mc) σm H Qm := by
  obtain ⟨σ, h, Q, EM, rs, rh, q, k, ex⟩ := q
  refine up_then rs rh q ex fun x h1 v H1 e1 r1 rv rs1 ex1 q1 => ?_
  refine up_then rs1 r1 q1 ex1 fun y h2 u H2 e2 r2 ru rs2 ex2 q2 => ?_
  refine hr H2 h2 x y v u _ _ r2 (rv.ext e2) ru q2 fun d h' w H' e3 r3 rw3 q3 => ?_
  obtain ⟨b, rfl, q4⟩ := onB_ok q3
  refine ⟨b, rw3, ?_⟩
  have e03 := (e1.trans e2).trans e3
  cases b with
  | true =>
    rw [if_pos rfl]
    refine up_then (rs2.ext e3) r3 q4 (fun x h2 cls dx H2 ee rr rx z => ex2 x h2 cls dx H2 (e3.trans ee) rr rx z) fun z h4 w4 H4 e4 r4 rw4 rs4 ex4 q5 => ?_
    exact hr' H4 h4 y z u w4 Q Qm r4 (ru.ext (e3.trans e4)) rw4 q5 fun d5 h5 w5 H5 e5 r5 rw5 q6 => k d5 h5 w5 H5 ((e03.trans e4).trans e5) r5 rw5 q6
  | false =>
    rw [if_neg Bool.false_ne_true]
    exact k (.bl false) h' _ H' e03 r3 rfl q4
theorem se_chain {op op' : CmpOp} {s s' : M2} {a b c : Expr} {ma mb mc : Mx} {pos : Pos} (o : OpD cad X (compareOp op) s) (o' : OpD cad X (compareOp op') s') (hm : lastMarks [op, op'] [b, c] = false)
    (ha : SE cad W X a ma) (hb : SE cad W X b mb) (hc : SE cad W X c mc) : SE cad W X (.Compare a [op, op'] [b, c] pos) (mChain s s' ma mb mc) := by
  obtain ⟨r, ho, hr⟩ := o
  obtain ⟨r', ho', hr'⟩ := o'
  exact pe_imp (pe_chain ho ho' ha hb hc hm) fun σm H Qm q => chain_up (op := op) (op' := op') hr hr' q
theorem st_chain {op op' : CmpOp} {s s' : M2} {a b c : Expr} {ma mb mc : Mx} {pos : Pos} (o : OpD cad X (compareOp op) s) (o' : OpD cad X (compareOp op') s') (hm : lastMarks [op, op'] [b, c] = false)
    (ha : SE cad W X a ma) (hb : SE cad W X b mb) (hc : SE cad W X c mc) : ST cad W X (.Compare a [op, op'] [b, c] pos) (mtOf (mChain s s' ma mb mc)) := by
  obtain ⟨r, ho, hr⟩ := o
  obtain ⟨r', ho', hr'⟩ := o'
  refine pt_imp (pt_chain ho ho' ha hb hc hm) fun σm H Qm ⟨σ, h, Q, EM, rs, rh, q, k, ex⟩ => ?_
  refine chain_up (op := op) (op' := op') hr hr' ⟨σ, h, onB Q, EM, rs, rh, q, fun d h' v H' e r rv z => ?_, ex⟩
  obtain ⟨b, rfl, q4⟩ := onB_ok z
  exact ⟨b, rv, k b h' H' e r q4⟩
def mtNot (m : Mt) : Mt := fun σ h Q E => m σ h (fun b h1 => Q (!b) h1) E
theorem st_not {e : Expr} {m : Mt} {pos : Pos} (h : ST cad W X e m) : ST cad W X (.UnaryOp .Not e pos) (mtNot m) :=
  pt_imp (pt_not h) fun σm H Qm ⟨σ, h, Q, EM, rs, rh, q, k, ex⟩ => ⟨σ, h, _, EM, rs, rh, q, fun b h' H' e r z => k _ h' H' e r z, ex⟩
def mtAnd (a b : Mt) : Mt := fun σ h Q E => a σ h (fun k h1 => match k with | true => b σ h1 Q E | false => Q false h1) E
def mtOr (a b : Mt) : Mt := fun σ h Q E => a σ h (fun k h1 => match k with | true => Q true h1 | false => b σ h1 Q E) E
theorem sw_and1 {e : Expr} {m : Mt} {pos : Pos} (h : ST cad W X e m) : SW cad W X (.BoolOp .And [e] pos) m := pw_and1 h
theorem sw_or1 {e : Expr} {m : Mt} {pos : Pos} (h : ST cad W X e m) : SW cad W X (.BoolOp .Or [e] pos) m := pw_or1 h
theorem sw_and {a b : Expr} {r : List Expr} {m n : Mt} {pos : Pos} (ha : ST cad W X a m) (hb : SW cad W X (.BoolOp .And (b :: r) pos) n) : SW cad W X (.BoolOp .And (a :: b :: r) pos) (mtAnd m n) := by
  refine pw_imp (pw_and ha hb) fun σm H Qm ⟨σ, h, Q, EM, rs, rh, q, k, ex⟩ => ?_
  refine upT_then rs rh q ex fun x h1 H1 e1 r1 rs1 ex1 q1 => ?_
  cases x with
  | true => rw [if_pos rfl]; exact ⟨σ, h1, Q, EM, rs1, r1, q1, fun b h' H' e r z => k b h' H' (e1.trans e) r z, ex1⟩
  | false => rw [if_neg Bool.false_ne_true]; exact k false h1 H1 e1 r1 q1
theorem sw_or {a b : Expr} {r : List Expr} {m n : Mt} {pos : Pos} (ha : ST cad W X a m) (hb : SW cad W X (.BoolOp .Or (b :: r) pos) n) : SW cad W X (.BoolOp .Or (a :: b :: r) pos) (mtOr m n) := by
  refine pw_imp (pw_or ha hb) fun σm H Qm ⟨σ, h, Q, EM, rs, rh, q, k, ex⟩ => ?_
  refine upT_then rs rh q ex fun x h1 H1 e1 r1 rs1 ex1 q1 => ?_
  cases x with
  | true => rw [if_pos rfl]; exact k true h1 H1 e1 r1 q1
  | false => rw [if_neg Bool.false_ne_true]; exact ⟨σ, h1, Q, EM, rs1, r1, q1, fun b h' H' e r z => k b h' H' (e1.trans e) r z, ex1⟩
theorem st_of_sw {e : Expr} {m : Mt} (h : SW cad W X e m) : ST cad W X e m := PW.pt h
def mNot (m : Mx) : Mx := fun σ h Q E => m σ h (onB fun b h1 => Q (.bl (!b)) h1) E
theorem se_not {e : Expr} {m : Mx} {pos : Pos} (he : SE cad W X e m) : SE cad W X (.UnaryOp .Not e pos) (mNot m) := by
  refine pe_imp (pe_not he) fun σm H Qm ⟨σ, h, Q, EM, rs, rh, q, k, ex⟩ => ?_
  refine up_then rs rh q ex fun x h1 v H1 e1 r1 rv rs1 ex1 q1 => ?_
  obtain ⟨b, rfl, q2⟩ := onB_ok q1
  exact ⟨b, rv, k (.bl _) h1 _ H1 e1 r1 rfl q2⟩
def mAnd (a b : Mx) : Mx := fun σ h Q E => a σ h (onB fun k h1 => match k with | true => b σ h1 Q E | false => Q (.bl false) h1) E
def mOr (a b : Mx) : Mx := fun σ h Q E => a σ h (onB fun k h1 => match k with | true => Q (.bl true) h1 | false => b σ h1 Q E) E
theorem se_one {op} {e : Expr} {m : Mx} {pos : Pos} (h : SE cad W X e m) : SE cad W X (.BoolOp op [e] pos) m := pe_one h
theorem se_and {a b : Expr} {r : List Expr} {m n : Mx} {pos : Pos} (ha : SE cad W X a m) (hb : SE cad W X (.BoolOp .And (b :: r) pos) n) : SE cad W X (.BoolOp .And (a :: b :: r) pos) (mAnd m n) := by
  refine pe_imp (pe_and ha hb) fun σm H Qm ⟨σ, h, Q, EM, rs, rh, q, k, ex⟩ => ?_
  refine up_then rs rh q ex fun x h1 v H1 e1 r1 rv rs1 ex1 q1 => ?_
  obtain ⟨b, rfl, q2⟩ := onB_ok q1
  refine ⟨b, rv, ?_⟩
  cases b with
  | true => rw [if_pos rfl]; exact ⟨σ, h1, Q, EM, rs1, r1, q2, fun d h' w H' e r rr z => k d h' w H' (e1.trans e) r rr z, ex1⟩
  | false => rw [if_neg Bool.false_ne_true]; exact k (.bl false) h1 _ H1 e1 r1 rfl q2
theorem se_or {a b : Expr} {r : List Expr} {m n : Mx} {pos : Pos} (ha : SE cad W X a m) (hb : SE cad W X (.BoolOp .Or (b :: r) pos) n) : SE cad W X (.BoolOp .Or (a :: b :: r) pos) (mOr m n) := by
  refine pe_imp (pe_or ha hb) fun σm H Qm ⟨σ, h, Q, EM, rs, rh, q, k, ex⟩ => ?_
  refine up_then rs rh q ex fun x h1 v H1 e1 r1 rv rs1 ex1 q1 => ?_
  obtain ⟨b, rfl, q2⟩ := onB_ok q1
  refine ⟨b, rv, ?_⟩
  cases b with
  | true => rw [if_pos rfl]; exact k (.bl true) h1 _ H1 e1 r1 rfl q2
  | false => rw [if_neg Bool.false_ne_true]; exact ⟨σ, h1, Q, EM, rs1, r1, q2, fun d h' w H' e r rr z => k d h' w H' (e1.trans e) r rr z, ex1⟩
def mIte (t : Mt) (a b : Mx) : Mx := fun σ h Q E => t σ h (fun k h1 => match k with | true => a σ h1 Q E | false => b σ h1 Q E) E
theorem se_ite {t a b : Expr} {mt : Mt} {m n : Mx} {pos : Pos} (ht : ST cad W X t mt) (ha : SE cad W X a m) (hb : SE cad W X b n) : SE cad W X (.IfExp t a b pos) (mIte mt m n) := by
  refine pe_imp (pe_ifExp ht ha hb) fun σm H Qm ⟨σ, h, Q, EM, rs, rh, q, k, ex⟩ => ?_
  refine upT_then rs rh q ex fun x h1 H1 e1 r1 rs1 ex1 q1 => ?_
  cases x with
  | true => rw [if_pos rfl]; exact ⟨σ, h1, Q, EM, rs1, r1, q1, fun d h' w H' e r rr z => k d h' w H' (e1.trans e) r rr z, ex1⟩
  | false => rw [if_neg Bool.false_ne_true]; exact ⟨σ, h1, Q, EM, rs1, r1, q1, fun d h' w H' e r rr z => k d h' w H' (e1.trans e) r rr z, ex1⟩
def mtIte (t a b : Mt) : Mt := fun σ h Q E => t σ h (fun k h1 => match k with | true => a σ h1 Q E | false => b σ h1 Q E) E
theorem pt_ite {t a b : Expr} {tt ta tb : TT} {pos : Pos} (ht : PT X t tt) (ha : PT X a ta) (hb : PT X b tb) : PT X (.IfExp t a b pos) (fun σ H Q => tt σ H fun c H1 => if c = true then ta σ H1 Q else tb σ H1 Q) := by
  refine ⟨fun pins s σ H Q I h => ?_⟩
  refine isTrue_IfExp (thn (ht.run pins s σ H _ I h) fun c s1 ⟨H1, I1, q1⟩ => ?_)
  cases c with
  | true => exact ha.run pins s1 σ H1 Q I1 q1
  | false => exact hb.run pins s1 σ H1 Q I1 q1
theorem st_ite {t a b : Expr} {mt m n : Mt} {pos : Pos} (ht : ST cad W X t mt) (ha : ST cad W X a m) (hb : ST cad W X b n) : ST cad W X (.IfExp t a b pos) (mtIte mt m n) := by
  refine pt_imp (pt_ite ht ha hb) fun σm H Qm ⟨σ, h, Q, EM, rs, rh, q, k, ex⟩ => ?_
  refine upT_then rs rh q ex fun x h1 H1 e1 r1 rs1 ex1 q1 => ?_
  cases x with
  | true => rw [if_pos rfl]; exact ⟨σ, h1, Q, EM, rs1, r1, q1, fun b h' H' e r z => k b h' H' (e1.trans e) r z, ex1⟩
  | false => rw [if_neg Bool.false_ne_true]; exact ⟨σ, h1, Q, EM, rs1, r1, q1, fun b h' H' e r z => k b h' H' (e1.trans e) r z, ex1⟩
end
end MM
end

section
set_option Elab.async false
set_option linter.all false
set_option maxRecDepth 100000
set_option maxHeartbeats 4000000
namespace MM
open PySem PySem.Spec PyProof.Rows L2 PySem.W PySem.SeqAt

theorem hok_laid {P : Program} {w : World} {H : Hp} {h h' : Heap} {a : Addr} {o : HO} (x : HOk P w H h) (k : ∀ b u, h.get? b = some u → h'.get? b = some u) (hn : H a = none) (new : ObjOk P w (upd H a o) h' a o) : HOk P w (upd H a o) h' := fun b u e => by
  by_cases hb : b = a
  · rw [hb, upd_same] at e; cases e; rw [hb]; exact new
  · rw [upd_ne hb] at e
    exact (x b u e).stay (fun c v _ q => k c v q) (fun c q => by rw [upd_ne (ne_of_none q hn)]; exact q) fun c xs q => by rw [upd_ne (ne_of_none q hn)]; exact q
theorem un_laid {fs ex : List Addr} {H : Hp} {h h' : Heap} {a : Addr} {o : HO} (k : ∀ b u, h.get? b = some u → h'.get? b = some u) (hp : h.get? a = none) (hn : H a = none) : Un fs ex H (upd H a o) h h' where
  keep := fun b u q _ _ _ => k b u q
  slot := fun b u q _ _ _ => ⟨u.slots, k b u q⟩
  free := fun b u q n _ => by rw [upd_ne (fun z => by rw [z, hp] at q; cases q)]; exact n
  there := fun b u q _ => ⟨u, k b u q⟩
  tups := fun b xs q => by rw [upd_ne (ne_of_none q hn)]; exact q
  frzs := fun b u xs q => by rw [upd_ne (ne_of_none q hn)]; exact q
  tbls := fun b ps q => ⟨#[], by rw [upd_ne (ne_of_none q hn), q]; simp⟩
theorem free_of {P : Program} {w : World} {H : Hp} {h : Heap} {a : Addr} (x : HOk P w H h) (hp : h.get? a = none) : H a = none := by
  cases q : H a with
  | none => rfl
  | some u => obtain ⟨o, e⟩ := objOk_get (x a u q); rw [hp] at e; cases e
theorem inv_laid {X : Cx} {pins : List (Addr × Obj)} {σ : L2.St} {H : Hp} {s : Shared} {h' : Heap} {a : Addr} {o : HO} {t' : Nat} (I : Inv X pins σ H s) (k : ∀ b u, s.heap.get? b = some u → h'.get? b = some u) (hp : s.heap.get? a = none)
    (new : ObjOk X.prog X.w (upd H a o) h' a o) : Inv X pins σ (upd H a o) { s with heap := h', toks := t' } :=
  I.un (un_laid k hp (free_of I.hok hp)) (hok_laid I.hok k (free_of I.hok hp) new)
section
variable {prog : Program} {w : World} {A : Around} {E : Value → Shared → Prop} {s : Shared}
theorem sorted_any {β : Type} {R : Value → β → Prop} {enc : β → PyData} {bs : List β} {l : Addr} {T : String} {o : Obj} {vs : List Value} {n : Nat} {Q : Value → Shared → Prop} (hT : T = "list" ∨ T = "tuple")
    (ho : s.heap.get? l = some o) (hc : o.cls = .type T) (hd : o.data = .seq vs.toArray n) (e : EachIs R vs bs) (er : EachIs (fun v b => ∃ as, Reads s.heap v (enc b) as) vs bs) (hal : AllAlike (bs.map enc)) (hk : Sortable (bs.map enc))
    (hL : bs.length ≤ sizeLine) (hu : ∀ b ∈ bs, A.units + 2 + (enc b).depth < cLine)
    (h : ∀ (out : List Value) (p : Addr) (h' : Heap) (c : Nat), out.length = bs.length → EachIs R out (bs.mergeSort (dataLe false enc)) → s.heap.get? p = none → (∀ b o', s.heap.get? b = some o' → h'.get? b = some o') →
      h'.get? p = some (seqObj "list" out.toArray c) → Q (.ref p) { s with heap := h' }) :
    wpAny (model prog w) A (call (.builtin "sorted") [.ref l]) Q E s := by
  have hlen : vs.length ≤ sizeLine := by rw [e.length]; exact hL
  refine Calls.call_function_entry kind_sorted plain_sorted entry_sorted (args_sorted1 _) ?_
  unfold Builtin.«sorted»
  refine wpAny_bind (m := checkCount "sorted" 1 1 _) (wpAny_pure ?_)
  refine wpAny_bind (PySem.wpAny_collect_seq l hT ho hc hd (fun h1 k1 => ?_) (by simpa using hlen))
  show wpAny (model prog w) A.in1 (newList vs >>= _) _ _ _
  refine wpAny_bind (wpAny_newList ?_ hlen)
  have at1 : (h1.push { cls := .type "list", data := .seq vs.toArray }).get? h1.objs.size = some (seqObj "list" vs.toArray 0) := Heap.get?_push_size _ rfl
  have er' : EachIs (fun v b => ∃ as, Reads (sortingHeap (h1.push { cls := .type "list", data := .seq vs.toArray }) h1.objs.size vs) v (enc b) as) vs bs := er.mono fun _ _ ⟨as, r⟩ => ⟨as, PyProof.Rows.Reads.keeps (fun b ob q => by
    have q1 := k1 b ob q
    exact sortingHeap_old (Nat.ne_of_lt (Heap.lt_size q1)) (Heap.get?_push_of_some _ q1)) r⟩
  have S := SortsAt.data (prog := prog) (w := w) (A := A.in1.in1) (s := { s with heap := sortingHeap (h1.push { cls := .type "list", data := .seq vs.toArray }) h1.objs.size vs }) (each_map (R := fun v d => ∃ as, Reads (sortingHeap (h1.push { cls := .type "list", data := .seq vs.toArray }) h1.objs.size vs) v d as) enc er') hal hk (bound_map hu)
  obtain ⟨c, hat⟩ := sortedHeap_at (vs := vs) (out := (sortVals (dataKind (sortingHeap (h1.push { cls := .type "list", data := .seq vs.toArray }) h1.objs.size vs) (bs.map enc)) false vs vs).toArray) at1
  refine wpAny_bind (wpAny_holding (wpAny_call_entry_kw slot_list_sort ⟨_, at1, rfl⟩ entry_list_sort (list_sort_vals (s := { s with heap := h1.push { cls := .type "list", data := .seq vs.toArray } }) at1 S hlen ⟨_, rfl, ?_⟩) (args_list_sort _)))
  refine wpAny_pure ⟨_, rfl, h _ _ _ c (by rw [sortVals_length false rfl]; exact e.length) (sortVals_data false e er' hal) ?_ (fun b o' q => ?_) hat⟩
  · cases q : s.heap.get? h1.objs.size with
    | none => rfl
    | some u => exact absurd (Heap.lt_size (k1 _ _ q)) (Nat.lt_irrefl _)
  · have q1 := k1 b o' q
    have hb := Heap.lt_size q1
    rw [sortedHeap_old (Nat.ne_of_lt hb) (by rw [Heap.size_push]; exact Nat.lt_succ_of_lt hb)]
    exact Heap.get?_push_of_some _ q1
end
end MM
end

section
set_option Elab.async false
set_option linter.all false
set_option maxRecDepth 100000
set_option maxHeartbeats 4000000
namespace MM
open PySem PySem.Spec PyProof.Rows L2
section
variable {P : Program} {w : World} {A : Around} {E : Value → Shared → Prop} {s : Shared}
abbrev noneSet (w : World) : Obj := { cls := .type "set", dict := none, data := .set #[] 0 (.fresh 0 0 (!w.params.followText "set-order")) }
theorem ints_at {items : Array Value} {ns : List Int} (e : items.size = ns.length) (hi : IntsAre items.toList ns) (i : Nat) (v : Value) (hv : items[i]? = some v) : ∃ k t, ns[i]? = some k ∧ v = .int k t := by
  have h : i < ns.length := by rw [← e]; exact (Array.getElem?_eq_some_iff.mp hv).1
  obtain ⟨t, q⟩ := IntsAre.int_at hi i v (by rw [Array.getElem?_toList]; exact hv)
  exact ⟨ns[i], t, List.getElem?_eq_getElem h, by rw [q, List.getD_eq_getElem?_getD, List.getElem?_eq_getElem h]; rfl⟩
theorem set_of_list {l : Addr} {items : Array Value} (ns : List Int) {Q : Value → Shared → Prop} (hh : A.handled = none) (hl : s.heap.IsList l items) (hit : IntsAre items.toList ns) (hb : ns.length + 1 < scanBound)
    (h : ∀ (h' : Heap) (tk c : Nat), SetR w h' s.heap.objs.size (fun j => decide (j ∈ ns)) c → c ≤ ns.length → (∀ b o, s.heap.get? b = some o → h'.get? b = some o) → Q (.ref s.heap.objs.size) { s with heap := h', toks := tk }) :
    wpAny (model P w) A (call (.type "set") [.ref l]) Q E s := by
  have sz : items.size = ns.length := by have q := IntsAre.length hit; rw [Array.length_toList] at q; exact q
  obtain ⟨c, tl, mro⟩ := PySem.F.called_set.mro
  have made := PySem.F.called_set.made; have sub := PySem.F.called_set.sub
  have h1 := PySem.F.called_set.notType; have h2 := PySem.F.called_set.canCreate
  have tc := PySem.F.typeCall_set_1 (.ref l)
  refine wpAny_call (codeAny_of_tree ?_)
  show wpAny _ _ (callAny (.type "set") _) _ _ _
  refine wpAny_pure ⟨Code.quiet_builtin _ (by decide +kernel), codeAny_builtin PySem.F.entry_type_call ?_⟩
  rw [Around.under_plain (weight_type_call_type "set" [.ref l] []) rfl]
  repeat (any_goals (first | assumption | wp_step))
  refine codeAny_mono (code_set_led1 (.ref l) (E := E) (Q₁ := fun v s₁ => v = .ref s.heap.objs.size ∧ s₁ = { s with heap := s.heap.push (noneSet w) }) ⟨rfl, rfl⟩) fun r s₁ hr => ?_
  cases r with
  | error e => exact hr
  | ok fl =>
    cases fl with
    | ret obj =>
      obtain ⟨e1, e2⟩ := hr
      subst e1; subst e2
      have at0 : (s.heap.push (noneSet w)).get? s.heap.objs.size = some (noneSet w) := Heap.get?_push_size _ rfl
      have ty0 : Shared.TypeIs { s with heap := s.heap.push (noneSet w) } (.ref s.heap.objs.size) "set" := ⟨_, at0, rfl⟩
      have l1 := PySem.F.called_set.init.lookup; have l2 := PySem.F.called_set.init.bind (.ref s.heap.objs.size)
      repeat (any_goals (first | assumption | wp_step))
      refine codeAny_mono (codeAny_call_builtin (R := wants (fun r s₂ => r = .none ∧ ∃ h' tk c, s₂ = { s with heap := h', toks := tk } ∧ SetR w h' s.heap.objs.size (fun j => decide (j ∈ ns)) c ∧ c ≤ ns.length ∧ (∀ b o, s.heap.get? b = some o → h'.get? b = some o)) E)
        PySem.F.called_set.init.plain PySem.F.entry_set_init (check_set_init_1 ty0 ?_)) fun r₂ s₂ hr₂ => ?_
      · obtain ⟨⟨oc, od, odt, osl⟩, hol, q1, nl, q2⟩ := hl
        simp only at q1 q2
        subst q1; subst q2
        have hol' : (s.heap.push (noneSet w)).get? l = some { cls := .type "list", dict := od, data := .seq items nl, slots := osl } := Heap.get?_push_of_some _ hol
        have s1 := PySem.F.sub_list_set; have s2 := PySem.F.sub_list_frozenset
        have ne1 : (Value.type "list" == Value.type "dict") = false := by decide
        have hl1 : (s.heap.push (noneSet w)).IsList l items := ⟨_, hol', rfl, nl, rfl⟩
        have small : l < s.heap.objs.size := Heap.lt_size hol
        unfold Builtin.«set.__init__» noKeywords Builtin.Frozenset.updateFrom
        generalize hPI : pyIter = PI
        wp_walk
        subst hPI
        refine wpAny_pyIter_list hl1 (wpAny_bind (wpAny_runValue ?_))
        have calm : A.in1.in1.in1.handled = none := by simp [hh]
        have up : (s.heap.push (noneSet w)).objs.size = s.heap.objs.size + 1 := Heap.size_push ..
        have apart : l ≠ (s.heap.push (noneSet w)).objs.size := by rw [up]; exact Nat.ne_of_lt (Nat.lt_succ_of_lt small)
        have off : s.heap.objs.size ∉ [(s.heap.push (noneSet w)).objs.size, l] := by
          rw [up]; simp only [List.mem_cons, List.not_mem_nil, or_false, not_or]
          exact ⟨Nat.ne_of_lt (Nat.lt_succ_self _), Nat.ne_of_gt small⟩
        refine set_update_ints ((Walks.list calm _ l apart items).toS) s.heap.objs.size off ns sz hb (ints_at sz hit) (items.size - 0) 0 _ (by omega) (Nat.zero_le _) ⟨⟨_, Heap.get?_push_size _ rfl, rfl, rfl⟩, (hl1.push _)⟩ ?s0 ?hR
        case s0 => exact ⟨0, Nat.le_refl 0, setR_new_at (Heap.get?_push_of_some _ at0)⟩
        case hR =>
          intro s' c' hm hc' hS'
          obtain ⟨h', g2, d', tk', os'⟩ := s'
          cases (show g2 = s.gens from hm.gens); cases (show d' = s.drawn from hm.drawn); cases (show os' = s.os from hm.os)
          show wpAny _ _ _ _ _ _
          refine wpAny_pure ?_
          show wpAny _ _ (ret Value.none) _ _ _
          rw [sz] at hc'
          refine wpAny_pure ⟨rfl, h', tk', c', rfl, hS', hc', fun b o e => ?_⟩
          have b0 : b < s.heap.objs.size := Heap.lt_size e
          refine hm.heap b o ?_ (Heap.get?_push_of_some _ (Heap.get?_push_of_some _ e))
          rw [up]; simp only [List.mem_cons, List.not_mem_nil, or_false, not_or]
          exact ⟨Nat.ne_of_lt b0, Nat.ne_of_lt (Nat.lt_succ_of_lt b0)⟩
      · cases r₂ with
        | error e => exact hr₂
        | ok fl₂ =>
          cases fl₂ with
          | ret v₂ =>
            obtain ⟨e1, h', tk, c, e2, hS, hc, hk⟩ := hr₂
            subst e1; subst e2
            repeat (any_goals (first | assumption | wp_step))
            exact h h' tk c hS hc hk
          | _ => exact hr₂
    | _ => exact hr
end
end MM
end

section
set_option Elab.async false
set_option linter.all false
set_option maxRecDepth 100000
set_option maxHeartbeats 4000000
namespace MM
open PySem PySem.Spec PyProof.Rows L2

abbrev M1s := List D → Hm → Kx → Prop
def CallD (cad : Cad) (X : Cx) (f : Value) (s : M1s) : Prop := ∃ r : List V → Hp → VK → Prop, CallR X f r ∧ ∀ (H : Hp) (h : Hm) (xs : List D) (vs : List V) (Q : Kx) (Qm : VK), RepH cad H h → RepL H h xs vs → s xs h Q →
  (∀ d h' w H', Ext H h H' h' → RepH cad H' h' → Rep H' h' d w → Q d h' → Qm w H') → r vs H Qm
def mCall (s : M1s) (a : Ma) : Mx := fun σ h Q E => a σ h (fun xs h1 => s xs h1 Q) E
section
variable {cad : Cad} {W : WX} {X : Cx}
theorem call_of {s : M1s} {e : Expr} {es : List Expr} {ma : Ma} {r : List V → Hp → VK → Prop} (p : ∀ t, PA X es t → PE X e (tCB r t)) (hr : ∀ (H : Hp) (h : Hm) (xs : List D) (vs : List V) (Q : Kx) (Qm : VK), RepH cad H h → RepL H h xs vs → s xs h Q →
    (∀ d h' w H', Ext H h H' h' → RepH cad H' h' → Rep H' h' d w → Q d h' → Qm w H') → r vs H Qm) (ha : SA cad W X es ma) : SE cad W X e (mCall s ma) := by
  refine pe_imp (p _ ha) fun σm H Qm ⟨σ, h, Q, EM, rs, rh, q, k, ex⟩ => ?_
  refine upA_then rs rh q ex fun xs h1 vs H1 e1 r1 rv rs1 ex1 q1 => ?_
  exact hr H1 h1 xs vs Q Qm r1 rv q1 fun d h' w H' e3 r3 rw3 q3 => k d h' w H' (e1.trans e3) r3 rw3 q3
theorem noStar_plain {es : List Expr} {env : Env} {pos : Pos} (h : es.all notStar = true) : (backTo pos (starEach es env)).any (·.1) = false := by
  have key : ∀ es : List Expr, es.all notStar = true → (starEach es env).any (·.1) = false := by
    intro es
    induction es with
    | nil => intro _; rfl
    | cons e r ih =>
      intro h
      rw [List.all_cons, Bool.and_eq_true] at h
      rw [star_of h.1, List.any_cons, ih h.2]
      rfl
  have k := key es h
  cases es with
  | nil => rfl
  | cons e r =>
    rw [List.all_cons, Bool.and_eq_true] at h
    rw [star_of h.1] at k ⊢
    have e1 : ∀ l : List (Bool × Sem Value), l.any (·.1) = (l.map (·.1)).any id := fun l => by simp [List.any_map]
    have e2 : (backTo pos ((false, eval e env) :: starEach r env)).map (·.1) = ((false, eval e env) :: starEach r env).map (·.1) := by unfold backTo; simp
    rw [e1, e2, ← e1]
    exact k
theorem se_bi {id : String} {x : Str} {s : M1s} {e : Expr} {es : List Expr} {ma : Ma} {p pos : Pos} (o : CallD cad X (.builtin id) s) (hg : Gl X x) (hm : X.mg x = none) (hv : bootBuiltins x = some (.builtin id)) (hn : x ≠ "__name__") (hd : (x == ("__debug__" : Str)) = false)
    (hs : (e :: es).all notStar = true) (ha : SA cad W X (e :: es) ma) : SE cad W X (.Call (.Name x p) (e :: es) [] pos) (mCall s ma) := by
  obtain ⟨r, ho, hr⟩ := o
  have hs' := hs
  rw [List.all_cons, Bool.and_eq_true] at hs'
  exact call_of (fun t pa => pe_callB ho hg hm hv pa hn hd (star_of hs'.1) (noStar_plain hs'.2)) hr ha
theorem se_ty {T : String} {x : Str} {s : M1s} {e : Expr} {es : List Expr} {ma : Ma} {p pos : Pos} (o : CallD cad X (.type T) s) (hg : Gl X x) (hm : X.mg x = none) (hv : bootBuiltins x = some (.type T)) (hn : x ≠ "__name__") (hd : (x == ("__debug__" : Str)) = false)
    (hs : (e :: es).all notStar = true) (ha : SA cad W X (e :: es) ma) : SE cad W X (.Call (.Name x p) (e :: es) [] pos) (mCall s ma) := by
  obtain ⟨r, ho, hr⟩ := o
  have hs' := hs
  rw [List.all_cons, Bool.and_eq_true] at hs'
  exact call_of (fun t pa => pe_callTy ho hg hm hv pa hn hd (star_of hs'.1) (noStar_plain hs'.2)) hr ha

def intsOf : List D → Option (List Int)
  | [] => some []
  | .int i :: r => (intsOf r).map (i :: ·)
  | _ => none
def boolsOf : List D → Option (List Bool)
  | [] => some []
  | .bl i :: r => (boolsOf r).map (i :: ·)
  | _ => none
theorem intsOf_eq : ∀ {xs : List D} {ns : List Int}, intsOf xs = some ns → xs = ns.map D.int
  | [], _, e => by cases e; rfl
  | .int i :: r, _, e => by
    obtain ⟨ms, h1, rfl⟩ := Option.map_eq_some_iff.mp (show (intsOf r).map (i :: ·) = some _ from e)
    rw [intsOf_eq h1]; rfl
  | .non :: _, _, e | .bl _ :: _, _, e | .str _ :: _, _, e | .tup _ :: _, _, e | .lst _ :: _, _, e | .dct _ _ :: _, _, e | .ref _ :: _, _, e | .ty _ :: _, _, e | .scr _ _ :: _, _, e => by cases e
theorem boolsOf_eq : ∀ {xs : List D} {ns : List Bool}, boolsOf xs = some ns → xs = ns.map D.bl
  | [], _, e => by cases e; rfl
  | .bl i :: r, _, e => by
    obtain ⟨ms, h1, rfl⟩ := Option.map_eq_some_iff.mp (show (boolsOf r).map (i :: ·) = some _ from e)
    rw [boolsOf_eq h1]; rfl
  | .non :: _, _, e | .int _ :: _, _, e | .str _ :: _, _, e | .tup _ :: _, _, e | .lst _ :: _, _, e | .dct _ _ :: _, _, e | .ref _ :: _, _, e | .ty _ :: _, _, e | .scr _ _ :: _, _, e => by cases e
theorem intsOf_map (ns : List Int) : intsOf (ns.map D.int) = some ns := by
  induction ns with
  | nil => rfl
  | cons n r ih => show (intsOf (r.map D.int)).map (n :: ·) = _; rw [ih]; rfl
theorem boolsOf_map (ns : List Bool) : boolsOf (ns.map D.bl) = some ns := by
  induction ns with
  | nil => rfl
  | cons n r ih => show (boolsOf (r.map D.bl)).map (n :: ·) = _; rw [ih]; rfl
def s1 (f : D → Hm → Kx → Prop) : M1s := fun xs h Q => match xs with
  | [x] => f x h Q
  | _ => False
theorem rep1 {H : Hp} {h : Hm} {x : D} {vs : List V} (r : RepL H h [x] vs) : ∃ v, vs = [v] ∧ Rep H h x v := by
  obtain ⟨v, t, e, a, b⟩ := r
  cases (show t = [] from b)
  exact ⟨v, e, a⟩
theorem cd_1 {f : Value} {s : D → Hm → Kx → Prop} {r : List V → Hp → VK → Prop} (o : CallR X f r) (k : ∀ (H : Hp) (h : Hm) (x : D) (v : V) (Q : Kx) (Qm : VK), RepH cad H h → Rep H h x v → s x h Q →
    (∀ d h' w H', Ext H h H' h' → RepH cad H' h' → Rep H' h' d w → Q d h' → Qm w H') → r [v] H Qm) : CallD cad X f (s1 s) := by
  refine ⟨r, o, fun H h xs vs Q Qm rh rx q kk => ?_⟩
  unfold s1 at q
  split at q
  · obtain ⟨v, rfl, rv⟩ := rep1 rx
    exact k H h _ v Q Qm rh rv q kk
  · exact q.elim
def sLen : D → Hm → Kx → Prop := fun x h Q => match x with
  | .str z => z.length ≤ sizeLine ∧ Q (.int z.length) h
  | x => match sqs h x with
    | some xs => Q (.int xs.length) h
    | none => False
theorem cd_len : CallD cad X (.builtin "len") (s1 sLen) := cd_1 (call_len_seq.or call_len_str) fun H h x v Q Qm rh rx q k => by
  unfold sLen at q
  split at q
  · cases (show v = _ from rx)
    exact .inr ⟨_, rfl, q.1, k (.int _) h _ H Ext.refl rh rfl q.2⟩
  · split at q
    · rename_i xs e
      obtain ⟨a, vs, rfl, ha, r⟩ := sqs_rep rh rx e
      refine .inl ⟨a, vs, rfl, ha.elim (fun z => .inl (SqL.of z)) (fun z => .inr (SqT.of z)), ?_⟩
      rw [r.length]
      exact k (.int _) h _ H Ext.refl rh rfl q
    · exact q.elim
def rSumT (K : PySem.W.Frag) : List V → Hp → VK → Prop := fun vs H Q => ∃ (a : Addr) (ns : List Int), vs = [V.ref a] ∧ SqT K H a (ns.map V.int) ∧ Q (.int ns.sum) H
theorem cr_sumT (hc : X.calm = true) : CallR X (.builtin "sum") (rSumT X.K) := by
  intro pins s σ H vs us Q I r h
  obtain ⟨a, ns, rfl, hs, q⟩ := h
  obtain ⟨its, rv, hl, _⟩ := I.tuple hs
  rw [Vals.ref1 r]
  have hi := rv.ints
  obtain ⟨xs, e⟩ := hi.allInts.items
  have hn : numsOf (intItems xs).toList = ns := by rw [← e]; exact hi.numsOf
  rw [nums_intItems] at hn
  rw [e] at hl
  refine PySem.W.ktm_sumG (I.ok.hd hc) hl fun h' tk t' hk => ?_
  rw [preSum_eq, List.take_of_length_le (by simp), hn]
  exact ⟨.int _, H, I.kept hk, ⟨_, rfl⟩, q⟩
def sSum : D → Hm → Kx → Prop := fun x h Q => match sqs h x with
  | some xs => match intsOf xs with
    | some ns => Q (.int ns.sum) h
    | none => False
  | none => False
theorem cd_sum (hc : X.calm = true) : CallD cad X (.builtin "sum") (s1 sSum) := cd_1 ((cr_sum hc).or (cr_sumT hc)) fun H h x v Q Qm rh rx q k => by
  unfold sSum at q
  split at q
  · rename_i xs e
    split at q
    · rename_i ns e2
      obtain ⟨a, vs, rfl, ha, r⟩ := sqs_rep rh rx e
      rw [intsOf_eq e2] at r
      cases r.ints
      rcases ha with ha | ha
      · exact .inl ⟨a, ns, rfl, SqL.of ha, k (.int _) h _ H Ext.refl rh rfl q⟩
      · exact .inr ⟨a, ns, rfl, SqT.of ha, k (.int _) h _ H Ext.refl rh rfl q⟩
    · exact q.elim
  · exact q.elim
def sBools (f : List Bool → Bool) : D → Hm → Kx → Prop := fun x h Q => match lis h x with
  | some xs => match boolsOf xs with
    | some bs => Q (.bl (f bs)) h
    | none => False
  | none => False
theorem cd_any (hc : X.calm = true) : CallD cad X (.builtin "any") (s1 (sBools fun bs => bs.any id)) := cd_1 (cr_any hc) fun H h x v Q Qm rh rx q k => by
  unfold sBools at q
  split at q
  · rename_i xs e
    split at q
    · rename_i ns e2
      obtain ⟨a, vs, rfl, ha, r⟩ := lis_rep rh rx e
      rw [boolsOf_eq e2] at r
      cases r.bools
      exact ⟨a, ns, rfl, SqL.of ha, k (.bl _) h _ H Ext.refl rh rfl q⟩
    · exact q.elim
  · exact q.elim
theorem cd_all (hc : X.calm = true) : CallD cad X (.builtin "all") (s1 (sBools fun bs => bs.all id)) := cd_1 (cr_all hc) fun H h x v Q Qm rh rx q k => by
  unfold sBools at q
  split at q
  · rename_i xs e
    split at q
    · rename_i ns e2
      obtain ⟨a, vs, rfl, ha, r⟩ := lis_rep rh rx e
      rw [boolsOf_eq e2] at r
      cases r.bools
      exact ⟨a, ns, rfl, SqL.of ha, k (.bl _) h _ H Ext.refl rh rfl q⟩
    · exact q.elim
  · exact q.elim
def sAbs : D → Hm → Kx → Prop := fun x h Q => match x with
  | .int i => Q (.int (if i < 0 then -i else i)) h
  | _ => False
theorem cd_abs : CallD cad X (.builtin "abs") (s1 sAbs) := cd_1 call_abs fun H h x v Q Qm rh rx q k => by
  unfold sAbs at q
  split at q
  · cases (show v = _ from rx)
    exact ⟨_, rfl, k (.int _) h _ H Ext.refl rh rfl q⟩
  · exact q.elim
def sMin : M1s := fun xs h Q => match xs with
  | [.int i, .int j] => Q (.int (if j < i then j else i)) h
  | [x] => match lis h x with
    | some xs => match intsOf xs with
      | some ns => 0 < ns.length ∧ ∀ m, m ∈ ns → (∀ y ∈ ns, m ≤ y) → Q (.int m) h
      | none => False
    | none => False
  | _ => False
def sMax : M1s := fun xs h Q => match xs with
  | [.int i, .int j] => Q (.int (if j > i then j else i)) h
  | [x] => match lis h x with
    | some xs => match intsOf xs with
      | some ns => 0 < ns.length ∧ ∀ m, m ∈ ns → (∀ y ∈ ns, y ≤ m) → Q (.int m) h
      | none => False
    | none => False
  | _ => False
theorem cd_min (hc : X.calm = true) : CallD cad X (.builtin "min") sMin := by
  refine ⟨_, (call_min2 hc).or (cr_min hc), fun H h xs vs Q Qm rh rx q k => ?_⟩
  unfold sMin at q
  split at q
  · obtain ⟨v, r, rfl, e1, v2, r2, rfl, e2, e3⟩ := rx
    cases (show v = _ from e1); cases (show v2 = _ from e2); cases (show r2 = [] from e3)
    exact .inl ⟨_, _, rfl, k (.int _) h _ H Ext.refl rh rfl q⟩
  · obtain ⟨v, rfl, rv⟩ := rep1 rx
    split at q
    · rename_i xs e
      split at q
      · rename_i ns e2
        obtain ⟨a, vs, rfl, ha, r⟩ := lis_rep rh rv e
        rw [intsOf_eq e2] at r
        cases r.ints
        exact .inr ⟨a, ns, rfl, SqL.of ha, q.1, fun m h1 h2 => k (.int m) h _ H Ext.refl rh rfl (q.2 m h1 h2)⟩
      · exact q.elim
    · exact q.elim
  · exact q.elim
theorem cd_max (hc : X.calm = true) : CallD cad X (.builtin "max") sMax := by
  refine ⟨_, (call_max2 hc).or (cr_max hc), fun H h xs vs Q Qm rh rx q k => ?_⟩
  unfold sMax at q
  split at q
  · obtain ⟨v, r, rfl, e1, v2, r2, rfl, e2, e3⟩ := rx
    cases (show v = _ from e1); cases (show v2 = _ from e2); cases (show r2 = [] from e3)
    exact .inl ⟨_, _, rfl, k (.int _) h _ H Ext.refl rh rfl q⟩
  · obtain ⟨v, rfl, rv⟩ := rep1 rx
    split at q
    · rename_i xs e
      split at q
      · rename_i ns e2
        obtain ⟨a, vs, rfl, ha, r⟩ := lis_rep rh rv e
        rw [intsOf_eq e2] at r
        cases r.ints
        exact .inr ⟨a, ns, rfl, SqL.of ha, q.1, fun m h1 h2 => k (.int m) h _ H Ext.refl rh rfl (q.2 m h1 h2)⟩
      · exact q.elim
    · exact q.elim
  · exact q.elim
def sTup : D → Hm → Kx → Prop := fun x h Q => match sqs h x with
  | some xs => Q (.tup xs) h
  | none => False
theorem cd_tuple : CallD cad X (.type "tuple") (s1 sTup) := cd_1 call_tuple_of fun H h x v Q Qm rh rx q k => by
  unfold sTup at q
  split at q
  · rename_i xs e
    obtain ⟨a, vs, rfl, ha, r⟩ := sqs_rep rh rx e
    rcases ha with ha | ha
    · exact ⟨a, vs, rfl, .inl ⟨SqL.of ha, newT_ok rh r q k⟩⟩
    · exact ⟨a, vs, rfl, .inr ⟨SqT.of ha, k (.tup xs) h _ H Ext.refl rh ⟨a, vs, rfl, ha, r⟩ q⟩⟩
  · exact q.elim
def sLst (b : Bool) : D → Hm → Kx → Prop := fun x h Q => match sqs h x with
  | some xs => newL b xs h Q
  | none => False
theorem cd_list {b : Bool} : CallD cad X (.type "list") (s1 (sLst b)) := cd_1 call_list_of fun H h x v Q Qm rh rx q k => by
  unfold sLst at q
  split at q
  · rename_i xs e
    obtain ⟨a, vs, rfl, ha, r⟩ := sqs_rep rh rx e
    exact ⟨a, vs, rfl, ha.elim (fun z => .inl (SqL.of z)) (fun z => .inr (SqT.of z)), newL_ok rh r q k⟩
  · exact q.elim
def sStr : D → Hm → Kx → Prop := fun x h Q => match x with
  | .int i => i.natAbs.log2 < 1920 ∧ Q (.str (toString i : String)) h
  | .str z => Q (.str z) h
  | _ => False
theorem cd_str : CallD cad X (.type "str") (s1 sStr) := cd_1 (call_str_int.or SkE.call_str_str) fun H h x v Q Qm rh rx q k => by
  unfold sStr at q
  split at q
  · cases (show v = _ from rx)
    exact .inl ⟨_, rfl, q.1, k (.str _) h _ H Ext.refl rh rfl q.2⟩
  · cases (show v = _ from rx)
    exact .inr ⟨_, rfl, k (.str _) h _ H Ext.refl rh rfl q⟩
  · exact q.elim
def sInt : D → Hm → Kx → Prop := fun x h Q => match x with
  | .int i => Q (.int i) h
  | .bl b => Q (.int (if b then 1 else 0)) h
  | .str z => match PySem.intText? z with
    | some n => z.length ≤ 640 ∧ Q (.int n) h
    | none => False
  | _ => False
theorem cd_int : CallD cad X (.type "int") (s1 sInt) := cd_1 (call_int1.or call_int_str) fun H h x v Q Qm rh rx q k => by
  unfold sInt at q
  split at q
  · cases (show v = _ from rx)
    exact .inl (.inl ⟨_, rfl, k (.int _) h _ H Ext.refl rh rfl q⟩)
  · cases (show v = _ from rx)
    exact .inl (.inr ⟨_, rfl, k (.int _) h _ H Ext.refl rh rfl q⟩)
  · cases (show v = _ from rx)
    split at q
    · rename_i n e
      exact .inr ⟨_, n, rfl, e, q.1, k (.int _) h _ H Ext.refl rh rfl q.2⟩
    · exact q.elim
  · exact q.elim
def sRepr : D → Hm → Kx → Prop := fun x h Q => match pyF true h 60 x with
  | some p => (p.showable = true ∧ p.shown.length ≤ sizeLine ∧ p.depth ≤ 60) ∧ Q (.str p.shown) h
  | none => False
theorem cd_repr (hu : X.A.units + 64 < cLine) (hg : X.A.guards = some []) (hS : ∃ o, X.base.get? sysModules = some o) : CallD cad X (.builtin "repr") (s1 sRepr) := by
  refine cd_1 (r := fun vs H Qm => ∃ (h : Hm) (x : D) (v : V) (p : PyData), vs = [v] ∧ RepH cad H h ∧ Rep H h x v ∧ pyF true h 60 x = some p ∧ p.showable = true ∧ p.shown.length ≤ sizeLine ∧ p.depth ≤ 60 ∧ Qm (.str p.shown) H) ?_ fun H h x v Q Qm rh rx q k => ?_
  · intro pins s σ H xs us Q I r ⟨h, x, v, p, e1, rh, rx, e, s1, s2, s3, q⟩
    subst e1
    obtain ⟨u, rfl, ru⟩ := vals1 r
    obtain ⟨as, rd, tr⟩ := rep_reads' I rh e rx ru
    have fin : ∀ (h' : Heap) (u : Tok) (tk : Nat), (∀ b o, s.heap.get? b = some o → h'.get? b = some o) → EP X pins σ Q (.str p.shown u) { s with heap := h', toks := tk } := fun h' u tk kp => ⟨.str _, H, I.kept kp, ⟨_, rfl⟩, q⟩
    have here : ∀ (u : Tok) (tk : Nat), EP X pins σ Q (.str p.shown u) { s with toks := tk } := fun u tk => fin s.heap u tk fun _ _ z => z
    cases rd with
    | none => exact PySem.P.repr_of_none (here _ _)
    | bool b => exact PySem.P.repr_of_bool (here _ _)
    | int i t => exact PySem.P.repr_of_int (of_decide_eq_true s1) (here _ _)
    | str z t => exact PySem.P.repr_of_str (here _ _) s2
    | list a b c d => exact PySem.repr_of_reads' (.list a b c d) s1 (fun _ z => by obtain ⟨o, ho⟩ := hS; exact tr _ z (I.bs _ _ ho).2) hg (by omega) (fun _ _ z => z) fin s2
    | tuple a b c d => exact PySem.repr_of_reads' (.tuple a b c d) s1 (fun _ z => by obtain ⟨o, ho⟩ := hS; exact tr _ z (I.bs _ _ ho).2) hg (by omega) (fun _ _ z => z) fin s2
    | dict a b c d f => exact PySem.repr_of_reads' (.dict a b c d f) s1 (fun _ z => by obtain ⟨o, ho⟩ := hS; exact tr _ z (I.bs _ _ ho).2) hg (by omega) (fun _ _ z => z) fin s2
  · unfold sRepr at q
    split at q
    · rename_i p e
      exact ⟨h, x, v, p, rfl, rh, rx, e, q.1.1, q.1.2.1, q.1.2.2, k (.str _) h _ H Ext.refl rh rfl q.2⟩
    · exact q.elim
def pyD (h : Hm) (d : D) : PyData := (py h d).getD .none
def leD (h : Hm) (x y : D) : Bool := !PySem.W.dataLt (pyD h y) (pyD h x)
def srt (h : Hm) (xs : List D) : List D := xs.mergeSort (leD h)
def sSorted (b : Bool) : D → Hm → Kx → Prop := fun x h Q => match sqs h x with
  | some xs => ((∀ d ∈ xs, (py h d).isSome = true) ∧ PySem.W.AllAlike (xs.map (pyD h)) ∧ PySem.W.Sortable (xs.map (pyD h))) ∧ newL b (srt h xs) h Q
  | none => False
theorem each_rep {H : Hp} {h : Hm} : ∀ {ds : List D} {vs : List V} {us : List Value}, RepL H h ds vs → Vals vs us → PySem.W.EachIs (fun u d => ∃ v, RelV v u ∧ Rep H h d v) us ds
  | [], _, _, r, q => by cases (show _ = [] from r); cases q; exact .nil
  | d :: ds, _, _, ⟨v, r, e, a, b⟩, q => by
    subst e
    cases q with
    | cons q1 q2 => exact .cons ⟨v, q1, a⟩ (each_rep b q2)
theorem of_each {H : Hp} {h : Hm} : ∀ {us : List Value} {ds : List D}, PySem.W.EachIs (fun u d => ∃ v, RelV v u ∧ Rep H h d v) us ds → ∃ vs, RepL H h ds vs ∧ Vals vs us
  | _, _, .nil => ⟨[], rfl, .nil⟩
  | _, _, .cons ⟨v, a, b⟩ t => by
    obtain ⟨vs, r, q⟩ := of_each t
    exact ⟨v :: vs, ⟨v, vs, rfl, b, r⟩, .cons a q⟩
theorem each_imp {α β : Type} {R S : α → β → Prop} : ∀ {xs : List α} {ys : List β}, PySem.W.EachIs R xs ys → (∀ x y, y ∈ ys → R x y → S x y) → PySem.W.EachIs S xs ys
  | _, _, .nil, _ => .nil
  | _, _, .cons a t, k => .cons (k _ _ List.mem_cons_self a) (each_imp t fun x y m r => k x y (List.mem_cons_of_mem _ m) r)
theorem cd_sorted {b : Bool} (hu : X.A.units + 64 < cLine) : CallD cad X (.builtin "sorted") (s1 (sSorted b)) := by
  refine cd_1 (r := fun vs H Qm => ∃ (h : Hm) (a : Addr) (ds : List D) (ws : List V), vs = [.ref a] ∧ RepH cad H h ∧ (H a = some (.lst ws) ∨ H a = some (.tup ws)) ∧ RepL H h ds ws ∧ (∀ d ∈ ds, (py h d).isSome = true) ∧
      PySem.W.AllAlike (ds.map (pyD h)) ∧ PySem.W.Sortable (ds.map (pyD h)) ∧ ∀ us p, RepL H h (srt h ds) us → H p = none → Qm (.ref p) (upd H p (.lst us))) ?_ fun H h x v Q Qm rh rx q k => ?_
  · intro pins s σ H xs us Q I r ⟨h, a, ds, ws, e1, rh, ha, rl, hpy, hal, hsr, q⟩
    subst e1
    rw [Vals.ref1 r]
    have go : ∀ (its : List Value) (T : String) (o : Obj) (n : Nat), (T = "list" ∨ T = "tuple") → s.heap.get? a = some o → o.cls = .type T → o.data = .seq its.toArray n → Vals ws its → its.length ≤ sizeLine →
        wpAny (model X.prog X.w) X.A (call (.builtin "sorted") [.ref a]) (EP X pins σ Q) X.xe s := fun its T o n hT ho hc hd rv hz => by
      have e0 := each_rep rl rv
      have dep : ∀ d ∈ ds, (pyD h d).depth ≤ 60 := fun d hd => by
        have z := hpy d hd
        cases q : py h d with
        | none => rw [q] at z; cases z
        | some p => unfold pyD; rw [q]; exact (pyF_plain q).2
      refine sorted_any (enc := pyD h) (R := fun u d => ∃ v, RelV v u ∧ Rep H h d v) hT ho hc hd e0 (each_imp e0 fun u d hd ⟨v, q1, q2⟩ => ?_) hal hsr (by rw [← rl.length, rv.length]; exact hz) (fun d hd => by have := dep d hd; omega) fun out p h' c ho' hout hp hk hat => ?_
      · have z := hpy d hd
        cases q : py h d with
        | none => rw [q] at z; cases z
        | some p => unfold pyD; rw [q]; exact rep_reads I rh q q2 q1
      · obtain ⟨us', r', v'⟩ := of_each hout
        have hlen : us'.length ≤ sizeLine := by rw [v'.length, ho', ← rl.length, rv.length]; exact hz
        exact ⟨.ref p, _, inv_laid (t' := s.toks) (o := .lst us') I hk hp ⟨hlen, out, c, v', hat⟩, rfl, q us' p r' (free_of I.hok hp)⟩
    rcases ha with ha | ha
    · obtain ⟨its, rv, ⟨o, n, ho, hc, _, hd⟩, hz⟩ := I.list (SqL.of ha)
      exact go its "list" o n (.inl rfl) ho hc hd rv (by rw [← rv.length]; exact hz)
    · obtain ⟨its, rv, ⟨o, ho, hc, n, hd⟩, hz⟩ := I.tuple (SqT.of ha)
      exact go its "tuple" o n (.inr rfl) ho hc hd rv (by rw [← rv.length]; exact hz)
  · unfold sSorted at q
    split at q
    · rename_i xs e
      obtain ⟨a, vs, rfl, ha, r⟩ := sqs_rep rh rx e
      exact ⟨h, a, xs, vs, rfl, rh, ha, r, q.1.1, q.1.2.1, q.1.2.2, fun us p ru n => newL_ok rh ru q.2 k p n⟩
    · exact q.elim
end
end MM
end

section
set_option Elab.async false
set_option linter.all false
set_option maxRecDepth 100000
set_option maxHeartbeats 4000000
namespace MM
open PySem PySem.Spec PyProof.Rows L2

section
variable {cad : Cad} {W : WX} {X : Cx}
def rSetOf (w : World) (K : PySem.W.Frag) : List V → Hp → VK → Prop := fun vs H Q => ∃ (l : Addr) (ns : List Int), vs = [.ref l] ∧ (SqL K H l (ns.map V.int) ∨ SqT K H l (ns.map V.int)) ∧ ns.length ≤ 1000 ∧
  ∀ c p, c ≤ ns.length → H p = none → Q (.ref p) (upd H p (SetO w p (fun j => decide (j ∈ ns)) c))
theorem cr_setOf (hc : X.calm = true) : CallR X (.type "set") (rSetOf X.w X.K) := by
  intro pins s σ H vs us Q I r h
  obtain ⟨l, ns, rfl, hl, hn, q⟩ := h
  rw [Vals.ref1 r]
  have fin : ∀ (h' : Heap) (tk c : Nat), SetR X.w h' s.heap.objs.size (fun j => decide (j ∈ ns)) c → c ≤ ns.length → (∀ b o, s.heap.get? b = some o → h'.get? b = some o) → EP X pins σ Q (.ref s.heap.objs.size) { s with heap := h', toks := tk } := fun h' tk c R hcn k =>
    ⟨.ref _, _, I.laid (t' := tk) k (Nat.le_refl _) (setO_new R), rfl, q c _ hcn (I.hok.fresh (Nat.le_refl _))⟩
  rcases hl with hl | hl
  · obtain ⟨its, rv, pl, hz⟩ := I.list hl
    exact set_of_list ns (I.ok.hd hc) pl.isList (ints_of_vals rv) (by unfold scanBound; omega) fin
  · obtain ⟨its, rv, pt, hz⟩ := I.tuple hl
    exact call_set_tupI ns (I.ok.hd hc) (show s.heap.IsTuple l its.toArray from pt) (ints_of_vals rv) (by unfold scanBound; omega) fin
def sSortedSet (b : Bool) : D → Hm → Kx → Prop := fun x h Q => match sqs h x with
  | some xs => match intsOf xs with
    | some ns => ns.length < 64 ∧ ∀ out : List Int, out.Pairwise (· < ·) → (∀ k, k ∈ out ↔ k ∈ ns) → newL b (out.map D.int) h Q
    | none => False
  | none => False
def mSortedSet (b : Bool) (a : Mx) : Mx := fun σ h Q E => a σ h (fun x h1 => sSortedSet b x h1 Q) E
theorem se_sortedSet {b : Bool} {e : Expr} {m : Mx} {p p2 pos pos2 : Pos} (hc : X.calm = true) (g1 : Gl X "sorted") (m1 : X.mg "sorted" = none) (g2 : Gl X "set") (m2 : X.mg "set" = none) (hs : notStar e = true) (he : SE cad W X e m) :
    SE cad W X (.Call (.Name "sorted" p) [.Call (.Name "set" p2) [e] [] pos2] [] pos) (mSortedSet b m) := by
  refine pe_imp (pe_callB (cr_sortedSet hc) g1 m1 boot_sorted (pa_cons (pe_callTy (cr_setOf hc) g2 m2 boot_set (pa_cons he pa_nil (star_of hs)) (by decide) (by decide) (star_of hs) (by rfl)) pa_nil)) fun σm H Qm ⟨σ, h, Q, EM, rs, rh, q, k, ex⟩ => ?_
  show up cad W m σm H _
  refine up_then rs rh q ex fun x h1 v H1 e1 r1 rv rs1 ex1 q1 => ?_
  unfold sSortedSet at q1
  split at q1
  · rename_i xs e
    split at q1
    · rename_i ns e2
      obtain ⟨a, vs, rfl, ha, r⟩ := sqs_rep r1 rv e
      rw [intsOf_eq e2] at r
      cases r.ints
      refine ⟨a, ns, rfl, ha.imp SqL.of SqT.of, by have := q1.1; omega, fun c p hcn np => ⟨p, _, c, rfl, upd_same, by have := q1.1; omega, fun out p2 hpw hm hl np2 => ?_⟩⟩
      have e2' : Ext H1 h1 (upd H1 p (SetO X.w p (fun j => decide (j ∈ ns)) c)) h1 := Ext.fresh np
      refine newL_ok (r1.fresh_ok np) (RepL.of_ints out) (q1.2 out hpw fun k => by rw [hm k, decide_eq_true_eq]) (fun d h' w H' e3 r3 rw3 z => k d h' w H' ((e1.trans e2').trans e3) r3 rw3 z) p2 np2
    · exact q1.elim
  · exact q1.elim

def tyOf (h : Hm) : D → Option String
  | .non => some "NoneType"
  | .bl _ => some "bool"
  | .int _ => some "int"
  | .str _ => some "str"
  | .tup _ => some "tuple"
  | .lst _ => some "list"
  | .dct _ _ => some "dict"
  | .ref a => match h a with
    | some (.lst _) => some "list"
    | _ => none
  | _ => none
def sIsi : M1s := fun xs h Q => match xs with
  | [x, .ty T] => match tyOf h x with
    | some t => match kitB t T with
      | some b => Q (.bl b) h
      | none => False
    | none => False
  | _ => False
theorem tyOf_rep {K : PySem.W.Frag} {H : Hp} {h : Hm} {d : D} {v : V} {t : String} (rh : RepH cad H h) (r : Rep H h d v) (e : tyOf h d = some t) : TyX K H v (.type t) := by
  cases d with
  | non => cases e; cases (show v = _ from r); exact .base .non
  | bl b => cases e; cases (show v = _ from r); exact .base (.bl b)
  | int i => cases e; cases (show v = _ from r); exact .base (.int i)
  | str z => cases e; cases (show v = _ from r); exact .base (.str z)
  | tup xs => cases e; obtain ⟨a, vs, rfl, ha, _⟩ := r; exact .base (.tup ha)
  | lst xs => cases e; obtain ⟨a, vs, rfl, ha, _, _⟩ := r; exact .base (.lst ha)
  | dct ks ds => cases e; obtain ⟨a, vs, rfl, ha, _⟩ := r; exact .base (.dK ha)
  | ref a =>
    cases (show v = _ from r)
    have e' : (match h a with | some (.lst _) => some "list" | _ => none) = some t := e
    clear e
    split at e'
    · rename_i xs ha
      cases e'
      obtain ⟨vs, hv, _⟩ := rh a _ ha
      exact .base (.lst hv)
    · cases e'
  | ty n => cases e
  | scr K ns => cases e
theorem cd_isi : CallD cad X (.builtin "isinstance") sIsi := by
  refine ⟨_, call_isi, fun H h xs vs Q Qm rh rx q k => ?_⟩
  unfold sIsi at q
  split at q
  · rename_i x T
    split at q
    · rename_i t e1
      split at q
      · rename_i b e2
        obtain ⟨v, r, rfl, a, u, r', rfl, b', c⟩ := rx
        cases (show r' = [] from c)
        cases (show u = _ from b')
        exact ⟨v, _, _, _, b, rfl, .ty T, tyOf_rep rh a e1, kit_ty e2, k (.bl b) h _ H Ext.refl rh rfl q⟩
      · exact q.elim
    · exact q.elim
  · exact q.elim

def noCall : Expr → Bool
  | .Call .. => false
  | _ => true
theorem base_of {o : Expr} {x : Str} {env : Env} {w : Sem Value} (h : noCall o = true) : attributeBase o x env w = w := by
  cases o <;> first | rfl | cases h
abbrev M2s := D → List D → Hm → Kx → Prop
def mM0 (s : M2s) (a : Mx) : Mx := fun σ h Q E => a σ h (fun x h1 => s x [] h1 Q) E
def mM1 (s : M2s) (a b : Mx) : Mx := fun σ h Q E => a σ h (fun x h1 => match x with
  | .str z => b σ h1 (fun y h2 => s (.str z) [y] h2 Q) E
  | _ => False) E
def strsOf : List D → Option (List Str)
  | [] => some []
  | .str i :: r => (strsOf r).map (i :: ·)
  | _ => none
theorem strsOf_eq : ∀ {xs : List D} {ns : List Str}, strsOf xs = some ns → xs = ns.map D.str
  | [], _, e => by cases e; rfl
  | .str i :: r, _, e => by
    obtain ⟨ms, h1, rfl⟩ := Option.map_eq_some_iff.mp (show (strsOf r).map (i :: ·) = some _ from e)
    rw [strsOf_eq h1]; rfl
  | .non :: _, _, e | .bl _ :: _, _, e | .int _ :: _, _, e | .tup _ :: _, _, e | .lst _ :: _, _, e | .dct _ _ :: _, _, e | .ref _ :: _, _, e | .ty _ :: _, _, e | .scr _ _ :: _, _, e => by cases e
def sSplit (b : Bool) : M2s := fun x ys h Q => match x, ys with
  | .str a, [.str z] => ((z.length == 0) = false ∧ a.length + 2 ≤ sizeLine) ∧ newL b ((Txt.split a z).map D.str) h Q
  | _, _ => False
def sJoin : M2s := fun x ys h Q => match x, ys with
  | .str a, [y] => match sqs h y with
    | some xs => match strsOf xs with
      | some zs => (zs.map (·.length)).sum + zs.length * a.length ≤ 16777216 ∧ Q (.str (Txt.join a zs)) h
      | none => False
    | none => False
  | _, _ => False
theorem m1_up {s : M2s} {a b : Mx} {r : V → List V → Hp → VK → Prop} (hr : ∀ (H : Hp) (h : Hm) (z : Str) (y : D) (u : V) (Q : Kx) (Qm : VK), RepH cad H h → Rep H h y u → s (.str z) [y] h Q →
      (∀ d h' w H', Ext H h H' h' → RepH cad H' h' → Rep H' h' d w → Q d h' → Qm w H') → r (.str z) [u] H Qm) : ∀ σm H Qm, up cad W (mM1 s a b) σm H Qm → tM1 r (up cad W a) (up cad W b) σm H Qm := fun σm H Qm ⟨σ, h, Q, EM, rs, rh, q, k, ex⟩ => by
  refine up_then rs rh q ex fun x h1 v H1 e1 r1 rv rs1 ex1 q1 => ?_
  split at q1
  · cases (show v = _ from rv)
    refine ⟨⟨_, rfl⟩, up_then rs1 r1 q1 ex1 fun y h2 u H2 e2 r2 ru rs2 ex2 q2 => ?_⟩
    exact hr H2 h2 _ y u Q Qm r2 ru q2 fun d h' w H' e r rr z => k d h' w H' ((e1.trans e2).trans e) r rr z
  · exact q1.elim
theorem newS_ok {b : Bool} {H : Hp} {h : Hm} {ys : List Str} {Q : Kx} {Qm : VK} (rh : RepH cad H h) (q : newL b (ys.map D.str) h Q) (k : ∀ d h' w H', Ext H h H' h' → RepH cad H' h' → Rep H' h' d w → Q d h' → Qm w H') : rNewStrs ys H Qm :=
  newL_ok rh (RepL.of_strs ys) q k
theorem se_split {b : Bool} {o e : Expr} {ma mb : Mx} {apos pos : Pos} (ho : SE cad W X o ma) (he : SE cad W X e mb) (hs : notStar e = true) (hb : noCall o = true) (hl : (apos.endLine == pos.line) = true) :
    SE cad W X (.Call (.Attribute o "split" apos) [e] [] pos) (mM1 (sSplit b) ma mb) :=
  pe_imp (pe_split ho he (star_of hs) (base_of hb) hl) (m1_up fun H h z y u Q Qm rh ru q k => by
    unfold sSplit at q
    split at q
    · rename_i h1 h2
      cases h1; cases h2
      cases (show u = _ from ru)
      exact ⟨_, _, rfl, rfl, q.1.1, q.1.2, newS_ok rh q.2 k⟩
    · exact q.elim)
theorem se_join {o e : Expr} {ma mb : Mx} {apos pos : Pos} (ho : SE cad W X o ma) (he : SE cad W X e mb) (hs : notStar e = true) (hb : noCall o = true) (hl : (apos.endLine == pos.line) = true) :
    SE cad W X (.Call (.Attribute o "join" apos) [e] [] pos) (mM1 sJoin ma mb) :=
  pe_imp (pe_join ho he (star_of hs) (base_of hb) hl) (m1_up fun H h z y u Q Qm rh ru q k => by
    have q' : (match sqs h y with
      | some xs => match strsOf xs with
        | some zs => (zs.map (·.length)).sum + zs.length * z.length ≤ 16777216 ∧ Q (.str (Txt.join z zs)) h
        | none => False
      | none => False) := q
    clear q
    split at q'
    · rename_i xs e
      split at q'
      · rename_i zs e2
        obtain ⟨p, vs, rfl, ha, r⟩ := sqs_rep rh ru e
        rw [strsOf_eq e2] at r
        cases r.strs
        exact ⟨_, p, zs, rfl, rfl, ha.imp SqL.of SqT.of, q'.1, k (.str _) h _ H Ext.refl rh rfl q'.2⟩
      · exact q'.elim
    · exact q'.elim)
def mB0 (s : M2s) (a : Mx) : Mx := fun σ h Q E => a σ h (fun x h1 => (∃ p xs, x = .ref p ∧ h1 p = some (.lst xs)) ∧ s x [] h1 Q) E
def mB1 (s : M2s) (a : Mx) (b : Ma) : Mx := fun σ h Q E => a σ h (fun x h1 => (∃ p xs, x = .ref p ∧ h1 p = some (.lst xs)) ∧ b σ h1 (fun ys h2 => s x ys h2 Q) E) E
def MetD (cad : Cad) (X : Cx) (id : String) (s : M2s) : Prop := ∃ r : V → List V → Hp → VK → Prop, MtR X id r ∧ ∀ (H : Hp) (h : Hm) (x : D) (v : V) (ys : List D) (us : List V) (Q : Kx) (Qm : VK), RepH cad H h → Rep H h x v → RepL H h ys us → s x ys h Q →
  (∀ d h' w H', Ext H h H' h' → RepH cad H' h' → Rep H' h' d w → Q d h' → Qm w H') → r v us H Qm
theorem notStar_few {es : List Expr} {cpos : Pos} {env : Env} (h : es.all notStar = true) (hn : es.length < 30) : ((backTo cpos (starEach es env)).all (fun x => !x.1) && (backToKw cpos (keywordEach [] env)).all (fun x => x.1.isSome)
      && decide (es.length + ([] : List Keyword).length + (if ([] : List Keyword).isEmpty then 0 else 1) < 30)) = true := by
  have h1 := noStar_plain (env := env) (pos := cpos) h
  have h2 : (backTo cpos (starEach es env)).all (fun x => !x.1) = true := by
    rw [List.any_eq_false] at h1
    rw [List.all_eq_true]
    intro x hx
    have := h1 x hx
    cases e : x.1
    · rfl
    · exact absurd e this
  rw [h2]
  have h3 : (backToKw cpos (keywordEach [] env)).all (fun x => x.1.isSome) = true := rfl
  rw [h3, Bool.true_and, Bool.true_and, decide_eq_true_eq]
  simpa using hn
theorem se_bm {id : String} {name : Str} {s : M2s} {o e : Expr} {es : List Expr} {ma : Mx} {mb : Ma} {apos pos : Pos} (slot : Slot "list" name id) (hty : typeOf (.builtin id) = pure (.type "method_descriptor")) (om : MetD cad X id s) (ho : SE cad W X o ma) (ha : SA cad W X (e :: es) mb)
    (hs : (e :: es).all notStar = true) (hn : (e :: es).length < 30) (hb : noCall o = true) (hl : (apos.endLine == pos.line) = true) : SE cad W X (.Call (.Attribute o name apos) (e :: es) [] pos) (mB1 s ma mb) := by
  obtain ⟨r, hm, hr⟩ := om
  have hs' := hs
  rw [List.all_cons, Bool.and_eq_true] at hs'
  refine pe_imp (pe_bm F.plainAttrs_list slot hty hm ho ha (base_of hb) (notStar_few hs hn) hl (star_of hs'.1) (noStar_plain hs'.2)) fun σm H Qm ⟨σ, h, Q, EM, rs, rh, q, k, ex⟩ => ?_
  refine up_then rs rh q ex fun x h1 v H1 e1 r1 rv rs1 ex1 q1 => ?_
  obtain ⟨⟨p, xs, rfl, hp⟩, q1⟩ := q1
  cases (show v = _ from rv)
  obtain ⟨vs, hv, _⟩ := r1 p _ hp
  refine ⟨.inl ⟨rfl, vs, .of hv⟩, upA_then rs1 r1 q1 ex1 fun ys h2 us H2 e2 r2 ru rs2 ex2 q2 => ?_⟩
  exact hr H2 h2 (.ref p) (.ref p) ys us Q Qm r2 rfl ru q2 fun d h' w H' e r rr z => k d h' w H' ((e1.trans e2).trans e) r rr z
theorem se_bm0 {id : String} {name : Str} {s : M2s} {o : Expr} {ma : Mx} {apos pos : Pos} (slot : Slot "list" name id) (hty : typeOf (.builtin id) = pure (.type "method_descriptor")) (om : MetD cad X id s) (ho : SE cad W X o ma)
    (hb : noCall o = true) (hl : (apos.endLine == pos.line) = true) : SE cad W X (.Call (.Attribute o name apos) [] [] pos) (mB0 s ma) := by
  obtain ⟨r, hm, hr⟩ := om
  refine pe_imp (pe_bm0 F.plainAttrs_list slot hty hm ho (base_of hb) hl) fun σm H Qm ⟨σ, h, Q, EM, rs, rh, q, k, ex⟩ => ?_
  refine up_then rs rh q ex fun x h1 v H1 e1 r1 rv rs1 ex1 q1 => ?_
  obtain ⟨⟨p, xs, rfl, hp⟩, q1⟩ := q1
  cases (show v = _ from rv)
  obtain ⟨vs, hv, _⟩ := r1 p _ hp
  exact ⟨.inl ⟨rfl, vs, .of hv⟩, hr H1 h1 (.ref p) (.ref p) [] [] Q Qm r1 rfl RepL.nil q1 fun d h' w H' e r rr z => k d h' w H' (e1.trans e) r rr z⟩
def sAppend : M2s := fun x ys h Q => match x, ys with
  | .ref p, [y] => match h p with
    | some (.lst xs) => xs.length < sizeLine ∧ Q .non (updm h p (.lst (xs ++ [y])))
    | _ => False
  | _, _ => False
theorem md_append : MetD cad X "list.append" sAppend := by
  refine ⟨_, mt_append, fun H h x v ys us Q Qm rh rx ry q k => ?_⟩
  unfold sAppend at q
  split at q
  · rename_i p y
    cases (show v = _ from rx)
    obtain ⟨u, rfl, ru⟩ := rep1 ry
    split at q
    · rename_i xs hp
      obtain ⟨vs, hv, rl⟩ := rh p _ hp
      have e3 : Ext H h (upd H p (.lst (vs ++ [u]))) (updm h p (.lst (xs ++ [y]))) := Ext.write hv trivial hp
      exact ⟨p, vs, u, rfl, rfl, hv, by rw [rl.length]; exact q.1, k .non _ _ _ e3 (rh.write_ok hv trivial hp ⟨_, upd_same, RepL.ext e3 (rl.append (RepL.cons ru RepL.nil))⟩) rfl q.2⟩
    · exact q.elim
  · exact q.elim
def sPop : M2s := fun x ys h Q => match x, ys with
  | .ref p, [] => match h p with
    | some (.lst xs) => match xs[xs.length - 1]? with
      | some y => Q y (updm h p (.lst xs.dropLast))
      | none => False
    | _ => False
  | _, _ => False
theorem md_pop : MetD cad X "list.pop" sPop := by
  refine ⟨_, mt_pop, fun H h x v ys us Q Qm rh rx ry q k => ?_⟩
  unfold sPop at q
  split at q
  · rename_i p
    cases (show v = _ from rx)
    cases (show us = [] from ry)
    split at q
    · rename_i xs hp
      split at q
      · rename_i y hy
        obtain ⟨vs, hv, rl⟩ := rh p _ hp
        have e3 : Ext H h (upd H p (.lst vs.dropLast)) (updm h p (.lst xs.dropLast)) := Ext.write hv trivial hp
        obtain ⟨u, hu, ru⟩ := rl.get hy
        exact ⟨p, vs, u, rfl, rfl, hv, by rw [rl.length]; exact hu, k y _ u _ e3 (rh.write_ok hv trivial hp ⟨_, upd_same, RepL.ext e3 rl.dropLast⟩) (ru.ext e3) q⟩
      · exact q.elim
    · exact q.elim
  · exact q.elim
end
end MM
end

section
set_option Elab.async false
set_option linter.all false
set_option maxRecDepth 100000
set_option maxHeartbeats 4000000
namespace MM
open PySem PySem.Spec PyProof.Rows L2

abbrev Ph := List D → Hm → Kx → EX → Prop
structure FnG (P : Program) (w : World) (K : PySem.W.Frag) (mg : Str → Option Value) (base : Heap) (k : Nat) (f : Addr) (fd : FuncData) (ps : List Str) (sp : Sp) : Prop where
  len : ∀ vs H Q E, sp vs H Q E → vs.length = ps.length
  run : ∀ (A : Around) (outer : List Env) (s : Shared) (H : Hp) (args : Args) (us : List Value) (vs : List V) (Q : VK) (E : XK), Room k A → A.guards = some [] → Env0 P w K mg base A outer s H → BindsTo s fd args (ps.zip us) → Vals vs us → sp vs H Q E →
    codeAny (model P w) A (.call (.ref f) args) (CR (L2.CX P w) outer P w H s Q E) s
theorem FnG.mono {P : Program} {w : World} {K : PySem.W.Frag} {mg : Str → Option Value} {base : Heap} {j k : Nat} {f : Addr} {fd : FuncData} {ps : List Str} {sp : Sp} (F : FnG P w K mg base j f fd ps sp) (h : j ≤ k) : FnG P w K mg base k f fd ps sp :=
  ⟨F.len, fun A outer s H args us vs Q E hr => F.run A outer s H args us vs Q E (hr.mono h)⟩
theorem fnG_of {P : Program} {w : World} {K : PySem.W.Frag} {mg : Str → Option Value} {base : Heap} {x qual : Str} {params : Arguments} {body : List Stmt} {scope : Scope} {dvs : List V} {kws : List (Str × V)} {f : Addr} {fd : FuncData} {N ps : List Str} {k : Nat} {sp : Sp}
    (F : FunD K x qual params body scope dvs kws f fd) (S : FnScope N ps scope) (len : ∀ vs H Q E, sp vs H Q E → vs.length = ps.length)
    (hbody : ∀ (cdv : Value) (A : Around) (outer : List Env) (s : Shared) (H : Hp) (vs : List V) (Q : VK) (E : XK), Room k (A.deeper (envOfC qual scope s.heap.objs.size f cdv)) → (A.deeper (envOfC qual scope s.heap.objs.size f cdv)).guards = some [] → sp vs H Q E →
      ∃ t, PSs (cxOf (L2.CX P w) P w K mg base N qual scope f cdv A outer s H E) body t ∧ t { nx := fun _ H' => Q .non H', rt := Q } (start N vs) H) : FnG P w K mg base (k + 1) f fd ps sp := by
  obtain ⟨oc, od, dV, kV, doc, pm, an, cdv, ct, osl, rfl, lk, hcd, _, _⟩ := F.ex
  refine ⟨len, fun A outer s H args us vs Q E hr hgd e0 hb r hsp => ?_⟩
  have hl := len _ _ _ _ hsp
  have KX : K.In s.heap := e0.mod.kin.keeps fun b o e => (e0.bs b o e).1
  have lim : s.heap.NoLimit := e0.mod.nolimit.keeps fun b o e => (e0.bs b o e).1
  have hkind : ∀ y ∈ ps.zip us, scope.names.lookup y.1 = some .local ∨ (scope.names.lookup y.1 = some .cell ∧ ((cellsFrom (s.heap.objs.size + 1) scope.names []).lookup y.1).isSome = true) := fun ⟨n, v⟩ hy => by
    rcases S.par n (List.of_mem_zip hy).1 with q | q
    · exact .inl q
    · exact .inr ⟨q, PySem.W.cellsFrom_some _ _ _ (.inl q)⟩
  refine codeAny_call_function hr.depth (KX _ _ lk) rfl S.co S.gen rfl (PySem.W.codeRec_of KX hcd) (hb _ _ _ _ ?_)
  refine wpAny_newFunctionEnv_cells S.kind hkind fun env he s1 x => ?_
  subst he
  refine ⟨lim.keeps x.toInCall.keep, codeAny_func ?_⟩
  obtain ⟨t, ht, hq⟩ := hbody cdv A outer s H vs Q E (hr.deeper _) hgd hsp
  have I : Inv (cxOf (L2.CX P w) P w K mg base N qual scope f cdv A outer s H E) [] (start N vs) H s1 := inv_start S hr.hd e0 hl r x
  refine wpAny_mono (ht.run [] s1 (start N vs) H _ I hq) (fun fl s' hs => ?_) fun e s' hs => hs
  have fin : ∀ {σ' : L2.St} {H' : Hp} {v : V} {u : Value}, Inv (cxOf (L2.CX P w) P w K mg base N qual scope f cdv A outer s H E) [] σ' H' s' → RelV v u → Q v H' → CE outer P w H s Q u s' :=
    fun {σ' H' v u} J rv q => ⟨v, H', J.os, J.bare, J.base, J.hok, rv, q⟩
  cases fl with
  | ret u =>
    obtain ⟨v, σ', H', J, rv, q⟩ := hs
    exact fin J rv q
  | next =>
    obtain ⟨σ', H', J, q⟩ := hs
    exact fin (v := V.non) (u := Value.none) J rfl q
  | brk =>
    obtain ⟨_, _, _, q⟩ := hs
    exact False.elim q
  | cont =>
    obtain ⟨_, _, _, q⟩ := hs
    exact False.elim q

def lift (cad : Cad) (n : Nat) (Φ : Ph) : Sp := fun vs H Qm Em => vs.length = n ∧ ∃ ds h Q E, RepL H h ds vs ∧ RepH cad H h ∧ Φ ds h Q E ∧
  (∀ d h' v H', Ext H h H' h' → RepH cad H' h' → Rep H' h' d v → Q d h' → Qm v H') ∧
  (∀ x h' cls dx H', Ext H h H' h' → RepH cad H' h' → RepEx cad H' h' x cls dx → E x h' → Em cls dx H')
def mUc (n : Nat) (Φ : Ph) (a : Ma) : Mx := fun σ h Q E => a σ h (fun xs h1 => xs.length = n ∧ Φ xs h1 Q E) E

section
variable {cad : Cad} {W : WX} {X : Cx} {k : Nat} {f : Addr} {fd : FuncData} {ps : List Str} {sp : Sp}
theorem run_g {pins : List (Addr × Obj)} {σ : L2.St} {H : Hp} {s : Shared} {Q : VK} {E : XK} {us : List Value} {vs : List V} (F : FnG X.prog X.w X.K X.mg X.base k f fd ps sp) (hr : Room k X.A) (hgd : X.A.guards = some []) (hb : Binds X.K fd ps [])
    (hx : PassesAt (L2.CX X.prog X.w) X σ E) (I : Inv X pins σ H s) (r : Vals vs us) (h : sp vs H Q E) : wpAny (model X.prog X.w) X.A (call (.ref f) us) (EP X pins σ Q) X.xe s := by
  have hl : us.length = ps.length := by rw [← r.length]; exact F.len _ _ _ _ h
  have b := hb s us I.kIn (by rw [List.append_nil]; exact hl)
  rw [List.append_nil] at b
  refine wpAny_call (codeAny_mono (F.run X.A X.stack s H ⟨us, []⟩ us vs Q E hr hgd I.env0 b r h) fun r s' hq => ?_)
  cases r with
  | error e => exact hx pins H s e s' I hq
  | ok fl =>
    cases fl with
    | ret u => exact I.after hq
    | next => exact False.elim hq
    | brk => exact False.elim hq
    | cont => exact False.elim hq
theorem run_gk {pins : List (Addr × Obj)} {σ : L2.St} {H : Hp} {s : Shared} {Q : VK} {E : XK} {us ws : List Value} {vs zs : List V} {ks : List Str} {g : List Value → List Value → List Value} {gV : List V → List V → List V}
    (F : FnG X.prog X.w X.K X.mg X.base k f fd ps sp) (hr : Room k X.A) (hgd : X.A.guards = some []) (hb : KBinds X.K fd ps ks g gV)
    (hx : PassesAt (L2.CX X.prog X.w) X σ E) (I : Inv X pins σ H s) (r : Vals vs us) (rz : Vals zs ws) (h : sp (gV vs zs) H Q E) : wpAny (model X.prog X.w) X.A (call (.ref f) us (ks.zip ws)) (EP X pins σ Q) X.xe s := by
  have r2 := hb.rel r rz
  have hl : (g us ws).length = ps.length := by rw [← r2.length]; exact F.len _ _ _ _ h
  refine wpAny_call (codeAny_mono (F.run X.A X.stack s H ⟨us, ks.zip ws⟩ (g us ws) (gV vs zs) Q E hr hgd I.env0 (hb.to s us ws I.kIn hl) r2 h) fun r s' hq => ?_)
  cases r with
  | error e => exact hx pins H s e s' I hq
  | ok fl =>
    cases fl with
    | ret u => exact I.after hq
    | next => exact False.elim hq
    | brk => exact False.elim hq
    | cont => exact False.elim hq
def tCallG (sp : Sp) (W : WX) (t : TA) : TE := fun σ H Q => t σ H fun vs H1 => sp vs H1 Q (WE W σ)
theorem pe_g {x : Str} {p pos : Pos} {e : Expr} {es : List Expr} {t : TA} (F : FnG X.prog X.w X.K X.mg X.base k f fd ps sp) (hr : Room k X.A) (hgd : X.A.guards = some []) (hg : Gl X x) (hm : X.mg x = some (.ref f)) (hk : PySem.W.keepIn X.K (.ref f) = true)
    (hb : Binds X.K fd ps []) (tk : Takes X W) (ha : PA X (e :: es) t) (hdb : (x == ("__debug__" : Str)) = false) (hs : (e :: es).all notStar = true) : PE X (.Call (.Name x p) (e :: es) [] pos) (tCallG sp W t) := by
  refine ⟨fun pins s σ H Q I h => ?_⟩
  refine wpAny_Call_Name_kw (ld_glob I hg hm ?_ hdb)
  have hx := passAt tk σ
  rw [List.all_cons, Bool.and_eq_true] at hs
  refine PySem.W.callWith_K (h₀ := X.base) I.ok.mod.kin hk (thn (ha.run pos pins s σ H _ I h) fun us s1 ⟨vs, H1, I1, r, q⟩ => ⟨I1.kIn, ?_⟩) (star_of hs.1) (noStar_plain hs.2)
  exact run_g F hr hgd hb hx I1 r q
theorem pe_g0 {x : Str} {p pos : Pos} (F : FnG X.prog X.w X.K X.mg X.base k f fd ps sp) (hr : Room k X.A) (hgd : X.A.guards = some []) (hg : Gl X x) (hm : X.mg x = some (.ref f)) (hk : PySem.W.keepIn X.K (.ref f) = true)
    (hb : Binds X.K fd ps []) (tk : Takes X W) (hdb : (x == ("__debug__" : Str)) = false) : PE X (.Call (.Name x p) [] [] pos) (tCallG sp W tNil) := by
  refine ⟨fun pins s σ H Q I h => ?_⟩
  refine wpAny_Call_Name_kw (ld_glob I hg hm ?_ hdb)
  exact PySem.W.callWith_K0 I.kIn hk (run_g (us := []) F hr hgd hb (passAt tk σ) I .nil h)
def tCallGK (sp : Sp) (gV : List V → List V → List V) (W : WX) (t tk : TA) : TE := fun σ H Q => t σ H fun vs H1 => tk σ H1 fun zs H2 => sp (gV vs zs) H2 Q (WE W σ)
def kwVals (kws : List Keyword) : List Expr := kws.map (·.value)
theorem up_call {n : Nat} {Φ : Ph} {a : Ma} {σm : L2.St} {H : Hp} {Qm : VK} (q : up cad W (mUc n Φ a) σm H Qm) : tCallG (lift cad n Φ) W (upA cad W a) σm H Qm := by
  obtain ⟨σ, h, Q, EM, rs, rh, q, k, ex⟩ := q
  refine upA_then rs rh q ex fun xs h1 vs H1 e1 r1 rv rs1 ex1 q1 => ?_
  exact ⟨by rw [rv.length]; exact q1.1, xs, h1, Q, EM, rv, r1, q1.2, fun d h' v H' e r rr z => k d h' v H' (e1.trans e) r rr z, fun x h' cls dx H' e r rx z => ex1 x h' cls dx H' e r rx z⟩
theorem se_uc {x : Str} {p pos : Pos} {e : Expr} {es : List Expr} {a : Ma} {n : Nat} {Φ : Ph} (F : FnG X.prog X.w X.K X.mg X.base k f fd ps (lift cad n Φ)) (hr : Room k X.A) (hgd : X.A.guards = some []) (hg : Gl X x) (hm : X.mg x = some (.ref f)) (hk : PySem.W.keepIn X.K (.ref f) = true)
    (hb : Binds X.K fd ps []) (tk : Takes X W) (ha : SA cad W X (e :: es) a) (hdb : (x == ("__debug__" : Str)) = false) (hs : (e :: es).all notStar = true) : SE cad W X (.Call (.Name x p) (e :: es) [] pos) (mUc n Φ a) :=
  pe_imp (pe_g F hr hgd hg hm hk hb tk ha hdb hs) fun _ _ _ q => up_call q
theorem se_uc0 {x : Str} {p pos : Pos} {n : Nat} {Φ : Ph} (F : FnG X.prog X.w X.K X.mg X.base k f fd ps (lift cad n Φ)) (hr : Room k X.A) (hgd : X.A.guards = some []) (hg : Gl X x) (hm : X.mg x = some (.ref f)) (hk : PySem.W.keepIn X.K (.ref f) = true)
    (hb : Binds X.K fd ps []) (tk : Takes X W) (hdb : (x == ("__debug__" : Str)) = false) : SE cad W X (.Call (.Name x p) [] [] pos) (mUc n Φ maNil) :=
  pe_imp (pe_g0 F hr hgd hg hm hk hb tk hdb) fun σm H Qm ⟨σ, h, Q, EM, rs, rh, q, k, ex⟩ => ⟨q.1, [], h, Q, EM, RepL.nil, rh, q.2, k, ex⟩
end
end MM
end

section
set_option Elab.async false
set_option linter.all false
set_option maxRecDepth 100000
set_option maxHeartbeats 4000000
namespace MM
open PySem PySem.Spec PyProof.Rows L2

theorem kw_names {env : Env} {pos : Pos} : ∀ kws : List Keyword, (backToKw pos (keywordEach kws env)).map (·.1) = kws.map (·.arg)
  | [] => rfl
  | ⟨n, e, p⟩ :: r => by
    have ih := kw_names (env := env) (pos := pos) r
    unfold backToKw at ih ⊢
    show n :: _ = n :: _
    rw [ih]
theorem kw_all {env : Env} {pos : Pos} {kws : List Keyword} {ks : List Str} (h : kws.map (·.arg) = ks.map some) : (backToKw pos (keywordEach kws env)).all (·.1.isSome) = true ∧ (backToKw pos (keywordEach kws env)).filterMap (·.1) = ks ∧ (backToKw pos (keywordEach kws env)).any (·.1.isNone) = false := by
  have e := (kw_names (env := env) (pos := pos) kws).trans h
  generalize backToKw pos (keywordEach kws env) = l at e
  clear h
  induction l generalizing ks with
  | nil =>
    cases ks with
    | nil => exact ⟨rfl, rfl, rfl⟩
    | cons k r => cases e
  | cons x l ih =>
    cases ks with
    | nil => cases e
    | cons k r =>
      obtain ⟨a, b⟩ := x
      simp only [List.map_cons, List.cons.injEq] at e
      obtain ⟨h1, h2⟩ := e
      subst h1
      obtain ⟨i1, i2, i3⟩ := ih h2
      refine ⟨by simp [i1], by simp [i2], by simp [i3]⟩

def perm {α : Type} (d : α) (pm : List Nat) (xs : List α) : List α := pm.map fun j => xs.getD j d
theorem perm_rep {H : Hp} {h : Hm} {xs : List D} {vs : List V} (r : RepL H h xs vs) : ∀ pm : List Nat, RepL H h (perm D.non pm xs) (perm V.non pm vs)
  | [] => rfl
  | j :: pm => by
    refine ⟨_, _, rfl, ?_, perm_rep r pm⟩
    show Rep H h (xs.getD j D.non) (vs.getD j V.non)
    rw [List.getD_eq_getElem?_getD, List.getD_eq_getElem?_getD]
    cases e : xs[j]? with
    | none =>
      have z : vs[j]? = none := by
        rw [List.getElem?_eq_none_iff] at e ⊢
        rw [r.length]; exact e
      rw [z]
      exact rfl
    | some x =>
      obtain ⟨v, a, b⟩ := r.get e
      rw [a]
      exact b
theorem perm_vals {vs : List V} {us : List Value} (r : Vals vs us) : ∀ pm : List Nat, Vals (perm V.non pm vs) (perm Value.none pm us)
  | [] => .nil
  | j :: pm => by
    refine .cons ?_ (perm_vals r pm)
    show RelV (vs.getD j V.non) (us.getD j Value.none)
    rw [List.getD_eq_getElem?_getD, List.getD_eq_getElem?_getD]
    cases e : vs[j]? with
    | none => rw [Vals.none_of r e]; exact rfl
    | some x =>
      obtain ⟨v, a, b⟩ := Vals.get r e
      rw [a]
      exact b
def KwOk (K : PySem.W.Frag) (fd : FuncData) (ps ks : List Str) (pm : List Nat) : Prop :=
  pm.length = ps.length ∧ ∀ (s : Shared) (ws : List Value), K.In s.heap → ws.length = ks.length → BindsTo s fd ⟨[], ks.zip ws⟩ (ps.zip (perm Value.none pm ws))
def mUk (n : Nat) (pm : List Nat) (Φ : Ph) (a : Ma) : Mx := fun σ h Q E => a σ h (fun xs h1 => xs.length = n ∧ Φ (perm D.non pm xs) h1 Q E) E
abbrev SK (cad : Cad) (W : WX) (X : Cx) (kws : List Keyword) (m : Ma) : Prop := PK X kws (upA cad W m)
theorem pk_imp {X : Cx} {e : List Keyword} {t t' : TA} (p : PK X e t) (h : ∀ σ H Q, t' σ H Q → t σ H Q) : PK X e t' := ⟨fun pos pins s σ H Q I q => p.run pos pins s σ H Q I (h _ _ _ q)⟩
section
variable {cad : Cad} {W : WX} {X : Cx} {k : Nat} {f : Addr} {fd : FuncData} {ps ks : List Str} {sp : Sp} {pm : List Nat}
theorem sk_nil : SK cad W X [] maNil := pk_imp pk_nil fun σm H Qm ⟨σ, h, Q, EM, rs, rh, q, k, _⟩ => k [] h [] H Ext.refl rh RepL.nil q
theorem sk_cons {nm : Option Str} {e : Expr} {kpos : Pos} {kws : List Keyword} {m : Mx} {r : Ma} (ha : SE cad W X e m) (hr : SK cad W X kws r) : SK cad W X (⟨nm, e, kpos⟩ :: kws) (maCons m r) := by
  refine pk_imp (pk_cons ha hr) fun σm H Qm ⟨σ, h, Q, EM, rs, rh, q, k, ex⟩ => ?_
  refine up_then rs rh q ex fun x h1 v H1 e1 r1 rv rs1 ex1 q1 => ?_
  refine upA_then rs1 r1 q1 ex1 fun y h2 u H2 e2 r2 ru rs2 ex2 q2 => ?_
  exact k (x :: y) h2 (v :: u) H2 (e1.trans e2) r2 (RepL.cons (rv.ext e2) ru) q2
theorem se_uk {x : Str} {p pos : Pos} {kws : List Keyword} {a : Ma} {n : Nat} {Φ : Ph} (F : FnG X.prog X.w X.K X.mg X.base k f fd ps (lift cad n Φ)) (hr : Room k X.A) (hgd : X.A.guards = some []) (hg : Gl X x) (hm : X.mg x = some (.ref f)) (hk : PySem.W.keepIn X.K (.ref f) = true)
    (hb : KwOk X.K fd ps ks pm) (hnp : n = ps.length) (tk : Takes X W) (hn : kws.map (·.arg) = ks.map some) (ha : SK cad W X kws a) (hdb : (x == ("__debug__" : Str)) = false) : SE cad W X (.Call (.Name x p) [] kws pos) (mUk ks.length pm Φ a) := by
  obtain ⟨a1, a2, a3⟩ := kw_all (env := X.env) (pos := pos) hn
  refine pe_imp (t := fun σm H Q => upA cad W a σm H fun zs H1 => zs.length = ks.length ∧ lift cad n Φ (perm V.non pm zs) H1 Q (WE W σm)) ⟨fun pins s σ H Q I h => ?_⟩ fun σm H Qm ⟨σ, h, Q, EM, rs, rh, q, k, ex⟩ => ?_
  · refine wpAny_Call_Name_kw (ld_glob I hg hm ?_ hdb)
    refine PySem.W.callWith_KW0 (h₀ := X.base) I.ok.mod.kin hk a1 (thn (ha.run pos pins s σ H _ I h) fun ws s1 ⟨zs, H1, I1, rz, hl, q⟩ => ⟨I1.kIn, ?_⟩) (by rw [a3]; rfl)
    rw [a2]
    have hz : ws.length = ks.length := by rw [← rz.length]; exact hl
    show wpAny _ _ (call (.ref f) [] (ks.zip ws)) _ _ _
    refine wpAny_call (codeAny_mono (F.run X.A X.stack s1 H1 ⟨[], ks.zip ws⟩ (perm Value.none pm ws) (perm V.non pm zs) Q (WE W σ) hr hgd I1.env0 (hb.2 s1 ws I1.kIn hz) (perm_vals rz pm) q) fun r s' hq => ?_)
    cases r with
    | error e => exact passAt tk σ pins H1 s1 e s' I1 hq
    | ok fl =>
      cases fl with
      | ret u => exact I1.after hq
      | next => exact False.elim hq
      | brk => exact False.elim hq
      | cont => exact False.elim hq
  · have hpl : ∀ zs : List V, (perm V.non pm zs).length = ps.length := fun zs => by unfold perm; rw [List.length_map]; exact hb.1
    refine upA_then rs rh q ex fun xs h1 vs H1 e1 r1 rv rs1 ex1 q1 => ?_
    refine ⟨by rw [rv.length]; exact q1.1, ?_⟩
    exact ⟨by rw [hpl, hnp], _, h1, Q, EM, perm_rep rv pm, r1, q1.2, fun d h' v H' e r rr z => k d h' v H' (e1.trans e) r rr z, fun x h' cls dx H' e r rx z => ex1 x h' cls dx H' e r rx z⟩
end
end MM
end

section
set_option Elab.async false
set_option linter.all false
set_option maxRecDepth 100000
set_option maxHeartbeats 4000000
namespace MM
open PySem PySem.Spec PyProof.Rows L2

abbrev Mi := Sl → Hm → (List D → (Hm → Prop) → Hm → Prop) → EX → Prop
structure Goes (cad : Cad) (J : It) (xs : List D) (kp : Hm → Prop) (H1 : Hp) (h1 : Hm) : Prop where
  go : ∀ i H h d, Ext H1 h1 H h → RepH cad H h → kp h → xs[i]? = some d → J.go i H ∧ ∀ x H', J.yld i H x H' → Ext H h H' h ∧ RepH cad H' h ∧ Rep H' h d x
  stop : ∀ H h, Ext H1 h1 H h → RepH cad H h → kp h → J.stop xs.length H
def upI (cad : Cad) (W : WX) (m : Mi) : TI := fun σm H R => ∃ σ h Q EM, RepS H h σ σm ∧ RepH cad H h ∧ m σ h Q EM ∧
  (∀ xs kp h' J H', Ext H h H' h' → RepH cad H' h' → Goes cad J xs kp H' h' → Q xs kp h' → R J H') ∧
  (∀ x h' cls dx H', Ext H h H' h' → RepH cad H' h' → RepEx cad H' h' x cls dx → EM x h' → W cls dx σm H')
abbrev SI (cad : Cad) (W : WX) (X : Cx) (tg e : Expr) (m : Mi) : Prop := PI X tg e (upI cad W m)
theorem pi_imp {X : Cx} {tg e : Expr} {t t' : TI} (p : PI X tg e t) (h : ∀ σ H Q, t' σ H Q → t σ H Q) : PI X tg e t' := ⟨fun pins s σ H Q I q => p.run pins s σ H Q I (h _ _ _ q)⟩

def iAny (K : PySem.W.Frag) (tl : TE) : TI := fun σ H R => tl σ H fun x H1 => (∃ a, x = .ref a ∧ (∃ xs, SqL K H1 a xs) ∧ R (Itl K a) H1) ∨ (∃ a, x = .ref a ∧ (∃ xs, SqT K H1 a xs) ∧ R (Itt K a) H1) ∨ (∃ z, x = .str z ∧ R (Its z) H1)
theorem pi_any {X : Cx} {tg l : Expr} {tl : TE} (hl : PE X l tl) : PI X tg l (iAny X.K tl) := by
  refine ⟨fun pins s σ H R I h => ?_⟩
  refine thn (hl.run pins s σ H _ I h) fun v s1 ⟨x, H1, I1, r1, q1⟩ => ?_
  rcases q1 with ⟨a, e, ⟨xs, hq⟩, q⟩ | ⟨a, e, ⟨xs, hq⟩, q⟩ | ⟨z, e, q⟩
  · subst e
    cases r1
    obtain ⟨its, rv, p, hz⟩ := I1.list hq
    refine wpAny_pyIter_list p.isList ?_
    exact pi_one (tk := s1.toks) I1 _ (turn_list a _) ⟨_, Heap.get?_push_size _ rfl, rfl, rfl⟩ q
  · subst e
    cases r1
    obtain ⟨its, rv, p, hz⟩ := I1.tuple hq
    refine wpAny_pyIter_tuple (show s1.heap.IsTuple a its.toArray from p) ?_
    exact pi_one (tk := s1.toks) I1 _ (turn_tuple a _) ⟨_, Heap.get?_push_size _ rfl, rfl, rfl⟩ q
  · subst e
    obtain ⟨t, rfl⟩ := r1
    cases ha : z.cps.all (· < 128)
    · exact wpAny_pyIter_wide ha (pi_one (tk := s1.toks) I1 _ (turn_str _ z t "str_iterator" (.inr rfl)) ⟨_, Heap.get?_push_size _ rfl, rfl, rfl⟩ q)
    · exact wpAny_pyIter_ascii ha (pi_one (tk := s1.toks) I1 _ (turn_str _ z t "str_ascii_iterator" (.inl rfl)) ⟨_, Heap.get?_push_size _ rfl, rfl, rfl⟩ q)
def signs (z : Str) : List D := z.cps.toList.map fun c => D.str ⟨#[c]⟩
def miSeq (a : Mx) : Mi := fun σ h R E => a σ h (fun d h1 => match d with
  | .tup xs => R xs (fun _ => True) h1
  | .lst xs => R xs (fun _ => True) h1
  | .str z => R (signs z) (fun _ => True) h1
  | .ref p => match h1 p with
    | some (.lst xs) => R xs (fun h => h p = some (.lst xs)) h1
    | _ => False
  | _ => False) E
section
variable {cad : Cad} {W : WX} {X : Cx} {K : PySem.W.Frag}
theorem goes_list {a : Addr} {xs : List D} {kp : Hm → Prop} {H1 : Hp} {h1 : Hm} (k : ∀ H h, Ext H1 h1 H h → RepH cad H h → kp h → ∃ vs, H a = some (.lst vs) ∧ RepL H h xs vs) : Goes cad (Itl K a) xs kp H1 h1 := by
  refine ⟨fun i H h d e r kk hd => ?_, fun H h e r kk => ?_⟩
  · obtain ⟨vs, ha, rl⟩ := k H h e r kk
    obtain ⟨v, hv, rv⟩ := rl.get hd
    have hlt : i < vs.length := by rw [rl.length]; exact (List.getElem?_eq_some_iff.mp hd).1
    refine ⟨walk_list.goes i H hlt (SqL.of ha), fun x H' y => ?_⟩
    obtain ⟨e1, e2⟩ := walk_list.yields i H x H' hlt (SqL.of ha) y
    subst e1
    rw [hv] at e2; cases e2
    exact ⟨Ext.refl, r, rv⟩
  · obtain ⟨vs, ha, rl⟩ := k H h e r kk
    rw [← rl.length]
    exact walk_list.stops H (SqL.of ha)
theorem goes_tup {a : Addr} {xs : List D} {kp : Hm → Prop} {H1 : Hp} {h1 : Hm} (k : ∀ H h, Ext H1 h1 H h → RepH cad H h → kp h → ∃ vs, H a = some (.tup vs) ∧ RepL H h xs vs) : Goes cad (Itt K a) xs kp H1 h1 := by
  refine ⟨fun i H h d e r kk hd => ?_, fun H h e r kk => ?_⟩
  · obtain ⟨vs, ha, rl⟩ := k H h e r kk
    obtain ⟨v, hv, rv⟩ := rl.get hd
    have hlt : i < vs.length := by rw [rl.length]; exact (List.getElem?_eq_some_iff.mp hd).1
    refine ⟨walk_tup.goes i H hlt (SqT.of ha), fun x H' y => ?_⟩
    obtain ⟨e1, e2⟩ := walk_tup.yields i H x H' hlt (SqT.of ha) y
    subst e1
    rw [hv] at e2; cases e2
    exact ⟨Ext.refl, r, rv⟩
  · obtain ⟨vs, ha, rl⟩ := k H h e r kk
    rw [← rl.length]
    exact walk_tup.stops H (SqT.of ha)
theorem goes_str {z : Str} {kp : Hm → Prop} {H1 : Hp} {h1 : Hm} : Goes cad (Its z) (signs z) kp H1 h1 := by
  have hl : (signs z).length = z.cps.size := by unfold signs; rw [List.length_map, Array.length_toList]
  refine ⟨fun i H h d e r kk hd => ?_, fun H h e r kk => ?_⟩
  · have hlt : i < z.cps.size := by rw [← hl]; exact (List.getElem?_eq_some_iff.mp hd).1
    refine ⟨hlt, fun x H' ⟨e1, c, e2, e3⟩ => ?_⟩
    subst e1 e3
    refine ⟨Ext.refl, r, ?_⟩
    unfold signs at hd
    rw [List.getElem?_map, Array.getElem?_toList, e2] at hd
    cases hd
    rfl
  · rw [hl]; exact Nat.le_refl z.cps.size
theorem si_seq {tg e : Expr} {m : Mx} (he : SE cad W X e m) : SI cad W X tg e (miSeq m) := by
  refine pi_imp (pi_any he) fun σm H R ⟨σ, h, Q, EM, rs, rh, q, k, ex⟩ => ?_
  refine up_then rs rh q ex fun d h1 v H1 e1 r1 rv rs1 ex1 q1 => ?_
  split at q1
  · obtain ⟨a, vs, rfl, ha, rl⟩ := rv
    exact .inr (.inl ⟨a, rfl, ⟨vs, SqT.of ha⟩, k _ _ h1 _ H1 e1 r1 (goes_tup fun H2 h2 e2 r2 _ => ⟨vs, e2.tup _ _ ha, rl.ext e2⟩) q1⟩)
  · obtain ⟨a, vs, rfl, ha, hn, rl⟩ := rv
    exact .inl ⟨a, rfl, ⟨vs, SqL.of ha⟩, k _ _ h1 _ H1 e1 r1 (goes_list fun H2 h2 e2 r2 _ => ⟨vs, (e2.lst _ _ ha hn).1, rl.ext e2⟩) q1⟩
  · cases (show v = _ from rv)
    exact .inr (.inr ⟨_, rfl, k _ _ h1 _ H1 e1 r1 goes_str q1⟩)
  · rename_i p
    cases (show v = _ from rv)
    split at q1
    · rename_i xs hp
      obtain ⟨vs, ha, rl⟩ := r1 p _ hp
      exact .inl ⟨p, rfl, ⟨vs, SqL.of ha⟩, k _ _ h1 _ H1 e1 r1 (goes_list fun H2 h2 e2 r2 kk => r2 p (.lst xs) kk) q1⟩
    · exact q1.elim
  · exact q1.elim

def rangeD (lo : Int) (n : Nat) : List D := (List.range n).map fun i => D.int (lo + (i : Nat))
theorem rangeD_get {lo : Int} {n i : Nat} {d : D} (h : (rangeD lo n)[i]? = some d) : i < n ∧ d = .int (lo + (i : Nat)) := by
  unfold rangeD at h
  rw [List.getElem?_map] at h
  by_cases hi : i < n
  · rw [List.getElem?_range hi] at h
    cases h
    exact ⟨hi, rfl⟩
  · rw [List.getElem?_eq_none (by simpa using hi)] at h
    cases h
theorem goes_range {lo : Int} {n : Nat} {kp : Hm → Prop} {H1 : Hp} {h1 : Hm} : Goes cad (Itr lo n) (rangeD lo n) kp H1 h1 := by
  refine ⟨fun i H h d e r kk hd => ?_, fun H h e r kk => ?_⟩
  · obtain ⟨hi, rfl⟩ := rangeD_get hd
    refine ⟨hi, fun x H' ⟨e1, e2⟩ => ?_⟩
    subst e1 e2
    exact ⟨Ext.refl, r, rfl⟩
  · show n ≤ (rangeD lo n).length
    unfold rangeD
    simp
def miRng1 (a : Ma) : Mi := fun σ h R E => a σ h (fun xs h1 => match xs with
  | [.int j] => (-(2 ^ 62) ≤ j ∧ j < 2 ^ 62) ∧ R (rangeD 0 j.toNat) (fun _ => True) h1
  | _ => False) E
def miRng2 (a : Ma) : Mi := fun σ h R E => a σ h (fun xs h1 => match xs with
  | [.int i, .int j] => (-(2 ^ 62) ≤ i ∧ i < 2 ^ 62 ∧ -(2 ^ 62) ≤ j ∧ j < 2 ^ 62) ∧ R (rangeD i (j - i).toNat) (fun _ => True) h1
  | _ => False) E
theorem si_rng1 {tg a : Expr} {m : Ma} {p pos : Pos} (hg : Gl X "range") (hm : X.mg "range" = none) (hs : notStar a = true) (ha : SA cad W X [a] m) : SI cad W X tg (.Call (.Name "range" p) [a] [] pos) (miRng1 m) := by
  refine pi_imp (pi_range1 hg hm ha (star_of hs)) fun σm H R ⟨σ, h, Q, EM, rs, rh, q, k, ex⟩ => ?_
  refine upA_then rs rh q ex fun xs h1 vs H1 e1 r1 rv rs1 ex1 q1 => ?_
  split at q1
  · rename_i j
    obtain ⟨v, rfl, rv'⟩ := rep1 rv
    cases (show v = _ from rv')
    exact ⟨j, rfl, q1.1.1, q1.1.2, k _ _ h1 _ H1 e1 r1 goes_range q1.2⟩
  · exact q1.elim
theorem si_rng2 {tg a b : Expr} {m : Ma} {p pos : Pos} (hg : Gl X "range") (hm : X.mg "range" = none) (hs : notStar a = true) (hs2 : notStar b = true) (ha : SA cad W X [a, b] m) : SI cad W X tg (.Call (.Name "range" p) [a, b] [] pos) (miRng2 m) := by
  refine pi_imp (pi_range2 hg hm ha (by rw [star_of hs, star_of hs2]; rfl) (star_of hs2)) fun σm H R ⟨σ, h, Q, EM, rs, rh, q, k, ex⟩ => ?_
  refine upA_then rs rh q ex fun xs h1 vs H1 e1 r1 rv rs1 ex1 q1 => ?_
  split at q1
  · rename_i i j
    obtain ⟨v, r, rfl, e1', v2, r2, rfl, e2', e3'⟩ := rv
    cases (show v = _ from e1'); cases (show v2 = _ from e2'); cases (show r2 = [] from e3')
    exact ⟨i, j, rfl, q1.1, k _ _ h1 _ H1 e1 r1 goes_range q1.2⟩
  · exact q1.elim

theorem pair_rep {H H' : Hp} {h : Hm} {T : Addr} {x y : D} {v u : V} (rh : RepH cad H h) (n : H T = none) (e : H' = upd H T (.tup [v, u])) (rx : Rep H h x v) (ry : Rep H h y u) : Ext H h H' h ∧ RepH cad H' h ∧ Rep H' h (.tup [x, y]) (.ref T) := by
  subst e
  have e1 : Ext H h (upd H T (.tup [v, u])) h := Ext.fresh n
  exact ⟨e1, rh.fresh_ok n, T, _, rfl, upd_same, v, [u], rfl, rx.ext e1, u, [], rfl, ry.ext e1, rfl⟩
def enumD (xs : List D) : List D := xs.zipIdx.map fun p => D.tup [.int (p.2 : Nat), p.1]
theorem enumD_get {xs : List D} {i : Nat} {d : D} (h : (enumD xs)[i]? = some d) : ∃ x, xs[i]? = some x ∧ d = .tup [.int (i : Nat), x] := by
  unfold enumD at h
  rw [List.getElem?_map, List.getElem?_zipIdx] at h
  cases e : xs[i]? with
  | none => rw [e] at h; cases h
  | some x => rw [e] at h; cases h; exact ⟨x, rfl, by simp⟩
theorem enumD_len {xs : List D} : (enumD xs).length = xs.length := by unfold enumD; simp
theorem goes_enum {a : Addr} {xs : List D} {kp : Hm → Prop} {H1 : Hp} {h1 : Hm} (k : ∀ H h, Ext H1 h1 H h → RepH cad H h → kp h → ∃ vs, H a = some (.lst vs) ∧ RepL H h xs vs) : Goes cad (Ite K a) (enumD xs) kp H1 h1 := by
  refine ⟨fun i H h d e r kk hd => ?_, fun H h e r kk => ?_⟩
  · obtain ⟨vs, ha, rl⟩ := k H h e r kk
    obtain ⟨x, hx, rfl⟩ := enumD_get hd
    obtain ⟨v, hv, rv⟩ := rl.get hx
    have hlt : i < vs.length := by rw [rl.length]; exact (List.getElem?_eq_some_iff.mp hx).1
    refine ⟨walk_enum.goes i H hlt (SqL.of ha), fun x H' y => ?_⟩
    obtain ⟨T, x', y', rfl, e2, e3, e4, e5⟩ := walk_enum.yields i H x H' hlt (SqL.of ha) y
    cases e4
    cases hv.symm.trans e5
    exact pair_rep r e2 e3 rfl rv
  · obtain ⟨vs, ha, rl⟩ := k H h e r kk
    rw [enumD_len, ← rl.length]
    exact walk_enum.stops H (SqL.of ha)
def onLst (d : D) (h : Hm) (R : List D → (Hm → Prop) → Prop) : Prop := match d with
  | .lst xs => R xs (fun _ => True)
  | .ref p => match h p with
    | some (.lst xs) => R xs (fun h => h p = some (.lst xs))
    | _ => False
  | _ => False
theorem onLst_ok {H1 : Hp} {h1 : Hm} {d : D} {v : V} {R : List D → (Hm → Prop) → Prop} (rh : RepH cad H1 h1) (rv : Rep H1 h1 d v) (q : onLst d h1 R) : ∃ a vs xs kp, v = .ref a ∧ H1 a = some (.lst vs) ∧ R xs kp ∧
    ∀ H h, Ext H1 h1 H h → RepH cad H h → kp h → ∃ vs, H a = some (.lst vs) ∧ RepL H h xs vs := by
  unfold onLst at q
  split at q
  · obtain ⟨a, vs, rfl, ha, hn, rl⟩ := rv
    exact ⟨a, vs, _, _, rfl, ha, q, fun H2 h2 e2 r2 _ => ⟨vs, (e2.lst _ _ ha hn).1, rl.ext e2⟩⟩
  · rename_i p
    cases (show v = _ from rv)
    split at q
    · rename_i xs hp
      obtain ⟨vs, ha, rl⟩ := rh p _ hp
      exact ⟨p, vs, xs, _, rfl, ha, q, fun H2 h2 e2 r2 kk => r2 p (.lst xs) kk⟩
    · exact q.elim
  · exact q.elim
def miEnum (a : Ma) : Mi := fun σ h R E => a σ h (fun xs h1 => match xs with
  | [d] => onLst d h1 fun xs kp => R (enumD xs) kp h1
  | _ => False) E
theorem si_enum {elts : List Expr} {kk : Nat} {tpos : Pos} {a : Expr} {m : Ma} {p pos : Pos} (hg : Gl X "enumerate") (hm : X.mg "enumerate" = none) (hs : notStar a = true) (ha : SA cad W X [a] m) : SI cad W X (.Tuple elts kk tpos) (.Call (.Name "enumerate" p) [a] [] pos) (miEnum m) := by
  refine pi_imp (pi_enum hg hm ha (star_of hs)) fun σm H R ⟨σ, h, Q, EM, rs, rh, q, k, ex⟩ => ?_
  refine upA_then rs rh q ex fun xs h1 vs H1 e1 r1 rv rs1 ex1 q1 => ?_
  split at q1
  · obtain ⟨v, rfl, rv'⟩ := rep1 rv
    obtain ⟨a, vs, xs, kp, rfl, ha, q2, kg⟩ := onLst_ok r1 rv' q1
    exact ⟨a, vs, rfl, SqL.of ha, k _ _ h1 _ H1 e1 r1 (goes_enum kg) q2⟩
  · exact q1.elim
def zipD (xs ys : List D) : List D := (xs.zip ys).map fun p => D.tup [p.1, p.2]
theorem zipD_get {xs ys : List D} {i : Nat} {d : D} (h : (zipD xs ys)[i]? = some d) : ∃ x y, xs[i]? = some x ∧ ys[i]? = some y ∧ d = .tup [x, y] := by
  unfold zipD at h
  rw [List.getElem?_map] at h
  obtain ⟨⟨x, y⟩, h1, rfl⟩ := Option.map_eq_some_iff.mp h
  obtain ⟨h2, h3⟩ := List.getElem?_zip_eq_some.mp h1
  exact ⟨x, y, h2, h3, rfl⟩
theorem zipD_len {xs ys : List D} : (zipD xs ys).length = min xs.length ys.length := by unfold zipD; simp
theorem walk_zipT {a b : Addr} {xs ys : List V} {n : Nat} (hn : n = min xs.length ys.length) : Walk (RZ.ItzT K a b) n (fun H => SqT K H a xs ∧ SqT K H b ys) (YPair (fun i => xs[i]?) (fun i => ys[i]?)) := by
  subst hn
  refine ⟨fun i _ hi q => ?_, fun _ q => ⟨xs, ys, q.1, q.2, by omega⟩, fun i H v H' _ q y => ?_⟩
  · have h1 : i < xs.length := by omega
    have h2 : i < ys.length := by omega
    exact ⟨xs, ys, xs[i], ys[i], q.1, q.2, by simp [h1], by simp [h2]⟩
  · obtain ⟨T, x, z, h1, h2, h3, h4, h5⟩ := y
    exact ⟨T, x, z, h1, h2, h3, h4 xs q.1, h5 ys q.2⟩
theorem goes_zipW {J : It} {G : List V → List V → Hp → Prop} {xs ys : List D} {kp : Hm → Prop} {H1 : Hp} {h1 : Hm} (w : ∀ vs us : List V, Walk J (min vs.length us.length) (G vs us) (YPair (fun i => vs[i]?) (fun i => us[i]?)))
    (k : ∀ H h, Ext H1 h1 H h → RepH cad H h → kp h → ∃ vs us, G vs us H ∧ RepL H h xs vs ∧ RepL H h ys us) : Goes cad J (zipD xs ys) kp H1 h1 := by
  refine ⟨fun i H h d e r kk hd => ?_, fun H h e r kk => ?_⟩
  · obtain ⟨vs, us, hG, rl, rl2⟩ := k H h e r kk
    obtain ⟨x, y, hx, hy, rfl⟩ := zipD_get hd
    obtain ⟨v, hv, rv⟩ := rl.get hx
    obtain ⟨u, hu, ru⟩ := rl2.get hy
    have hlt : i < min vs.length us.length := by
      have h1 := (List.getElem?_eq_some_iff.mp hv).1
      have h2 := (List.getElem?_eq_some_iff.mp hu).1
      omega
    refine ⟨(w vs us).goes i H hlt hG, fun x H' y => ?_⟩
    obtain ⟨T, x', y', rfl, e2, e3, e4, e5⟩ := (w vs us).yields i H x H' hlt hG y
    cases hv.symm.trans e4
    cases hu.symm.trans e5
    exact pair_rep r e2 e3 rv ru
  · obtain ⟨vs, us, hG, rl, rl2⟩ := k H h e r kk
    rw [zipD_len, ← rl.length, ← rl2.length]
    exact (w vs us).stops H hG
def miZip (a : Ma) : Mi := fun σ h R E => a σ h (fun xs h1 => match xs with
  | [.tup xs, .tup ys] => R (zipD xs ys) (fun _ => True) h1
  | [d, e] => onLst d h1 fun xs kp => onLst e h1 fun ys kp' => R (zipD xs ys) (fun h => kp h ∧ kp' h) h1
  | _ => False) E
theorem rep2 {H : Hp} {h : Hm} {d e : D} {vs : List V} (r : RepL H h [d, e] vs) : ∃ v u, vs = [v, u] ∧ Rep H h d v ∧ Rep H h e u := by
  obtain ⟨v, r, rfl, a, u, r', rfl, b, c⟩ := r
  cases (show r' = [] from c)
  exact ⟨v, u, rfl, a, b⟩
theorem si_zip {elts : List Expr} {kk : Nat} {tpos : Pos} {a b : Expr} {m : Ma} {p pos : Pos} (hg : Gl X "zip") (hm : X.mg "zip" = none) (hs : notStar a = true) (hs2 : notStar b = true) (ha : SA cad W X [a, b] m) : SI cad W X (.Tuple elts kk tpos) (.Call (.Name "zip" p) [a, b] [] pos) (miZip m) := by
  refine pi_imp (RZ.pi_zipA hg hm ha (star_of hs) (by rw [star_of hs2]; rfl)) fun σm H R ⟨σ, h, Q, EM, rs, rh, q, k, ex⟩ => ?_
  refine upA_then rs rh q ex fun xs h1 vs H1 e1 r1 rv rs1 ex1 q1 => ?_
  split at q1
  · obtain ⟨v, u, rfl, rv', ru⟩ := rep2 rv
    obtain ⟨a, vs, rfl, ha, rl⟩ := rv'
    obtain ⟨b, us, rfl, hb, rl2⟩ := ru
    exact ⟨a, b, vs, us, rfl, .inr ⟨SqT.of ha, SqT.of hb, k _ _ h1 _ H1 e1 r1 (goes_zipW (fun vs us => walk_zipT rfl) fun H2 h2 e2 r2 _ => ⟨vs, us, ⟨SqT.of (e2.tup _ _ ha), SqT.of (e2.tup _ _ hb)⟩, rl.ext e2, rl2.ext e2⟩) q1⟩⟩
  · obtain ⟨v, u, rfl, rv', ru⟩ := rep2 rv
    obtain ⟨a, vs, xs, kp, rfl, ha, q2, kg⟩ := onLst_ok r1 rv' q1
    obtain ⟨b, us, ys, kp', rfl, hb, q3, kg'⟩ := onLst_ok r1 ru q2
    refine ⟨a, b, vs, us, rfl, .inl ⟨SqL.of ha, SqL.of hb, k _ _ h1 _ H1 e1 r1 (goes_zipW (fun vs us => walk_zip rfl) fun H2 h2 e2 r2 kk => ?_) q3⟩⟩
    obtain ⟨vs', a1, a2⟩ := kg H2 h2 e2 r2 kk.1
    obtain ⟨us', b1, b2⟩ := kg' H2 h2 e2 r2 kk.2
    exact ⟨vs', us', ⟨SqL.of a1, SqL.of b1⟩, a2, b2⟩
  · exact q1.elim
end
end MM
end

section
set_option Elab.async false
set_option linter.all false
set_option maxRecDepth 100000
set_option maxHeartbeats 4000000
namespace MM
open PySem PySem.Spec PyProof.Rows L2

abbrev Mg := D → Sl → Hm → (Sl → Hm → Prop) → Prop
abbrev Mgs := List D → Sl → Hm → (Sl → Hm → Prop) → Prop
def noE : EX := fun _ _ => False
def Wip (sl : List Nat) (σm σm' : L2.St) : Prop := ∀ vs : List Nat, (∀ i ∈ sl, i ∈ vs) → wipe σm' vs = wipe σm vs
def upG (cad : Cad) (m : Mg) (sl : List Nat) : TG := fun v σm H Q => ∃ σ h d P, RepS H h σ σm ∧ RepH cad H h ∧ Rep H h d v ∧ m d σ h P ∧
  (∀ σ' h' σm' H', Ext H h H' h' → RepH cad H' h' → RepS H' h' σ' σm' → Wip sl σm σm' → P σ' h' → Q σm' H')
def upGs (cad : Cad) (m : Mgs) (sl : List Nat) : TGs := fun vs σm H Q => ∃ σ h ds P, RepS H h σ σm ∧ RepH cad H h ∧ RepL H h ds vs ∧ m ds σ h P ∧
  (∀ σ' h' σm' H', Ext H h H' h' → RepH cad H' h' → RepS H' h' σ' σm' → Wip sl σm σm' → P σ' h' → Q σm' H')
abbrev SG (cad : Cad) (X : Cx) (tg : Expr) (m : Mg) (sl : List Nat) : Prop := PG X tg (upG cad m sl)
abbrev SGs (cad : Cad) (X : Cx) (tg : List Expr) (m : Mgs) (sl : List Nat) : Prop := PGs X tg (upGs cad m sl)
theorem pg_imp {X : Cx} {tg : Expr} {t t' : TG} (p : PG X tg t) (h : ∀ v σ H Q, t' v σ H Q → t v σ H Q) : PG X tg t' := ⟨fun pins s σ H v u Q I r q => p.run pins s σ H v u Q I r (h _ _ _ _ q)⟩
theorem pgs_imp {X : Cx} {tg : List Expr} {t t' : TGs} (p : PGs X tg t) (h : ∀ v σ H Q, t' v σ H Q → t v σ H Q) : PGs X tg t' := ⟨fun pins s σ H v u Q I r q => p.run pins s σ H v u Q I r (h _ _ _ _ q)⟩
theorem Wip.refl {sl : List Nat} {σm : L2.St} : Wip sl σm σm := fun _ _ => rfl
theorem Wip.trans {sl : List Nat} {a b c : L2.St} (p : Wip sl a b) (q : Wip sl b c) : Wip sl a c := fun vs h => (q vs h).trans (p vs h)
theorem Wip.mono {sl sl' : List Nat} {a b : L2.St} (p : Wip sl a b) (h : ∀ i ∈ sl, i ∈ sl') : Wip sl' a b := fun vs k => p vs fun i hi => k i (h i hi)
theorem wipe_set_ne {v : Option V} {i : Nat} : ∀ {vs : List Nat} {σ : L2.St}, i ∉ vs → wipe (σ.set i v) vs = (wipe σ vs).set i v
  | [], _, _ => rfl
  | x :: vs, σ, h => by
    unfold wipe
    rw [wipe_set_ne (fun z => h (List.mem_cons_of_mem _ z)), List.set_comm _ _ (fun z => h (by rw [z]; exact List.mem_cons_self))]
theorem wipe_set {v : Option V} {i : Nat} : ∀ {vs : List Nat} {σ : L2.St}, i ∈ vs → wipe (σ.set i v) vs = wipe σ vs
  | x :: vs, σ, h => by
    unfold wipe
    by_cases hv : i ∈ vs
    · rw [wipe_set hv]
    · rcases List.mem_cons.mp h with e | e
      · subst e
        rw [wipe_set_ne hv, List.set_set]
      · exact absurd e hv
theorem wipe_wipe {vs : List Nat} {σ : L2.St} : ∀ {us : List Nat}, (∀ i ∈ us, i ∈ vs) → wipe (wipe σ us) vs = wipe σ vs
  | [], _ => rfl
  | u :: us, h => by
    show wipe ((wipe σ us).set u none) vs = _
    rw [wipe_set (h u List.mem_cons_self)]
    exact wipe_wipe fun i hi => h i (List.mem_cons_of_mem _ hi)
theorem Wip.set {v : Option V} {i : Nat} {σ : L2.St} : Wip [i] σ (σ.set i v) := fun vs h => wipe_set (h i List.mem_cons_self)

def mgName (i : Nat) : Mg := fun d σ h P => P (put σ i d) h
def mgTup (n : Nat) (m : Mgs) : Mg := fun d σ h P => match d with
  | .tup xs => xs.length = n ∧ m xs σ h P
  | _ => False
def mgsNil : Mgs := fun ds σ h P => ds = [] ∧ P σ h
def mgsCons (m : Mg) (r : Mgs) : Mgs := fun ds σ h P => match ds with
  | d :: ds => m d σ h (fun σ1 h1 => r ds σ1 h1 P)
  | [] => False
def sSet (o i d : D) (h : Hm) (P : Hm → Prop) : Prop := match o with
  | .ref p => match h p with
    | some (.lst xs) => match i with
      | .int j => match ixN xs.length j with
        | some n => P (updm h p (.lst (xs.set n d)))
        | none => False
      | _ => False
    | _ => False
  | _ => False
def mgSub (a b : Mx) : Mg := fun d σ h P => a σ h (fun o h1 => b σ h1 (fun i h2 => sSet o i d h2 (fun h3 => P σ h3)) noE) noE
section
variable {cad : Cad} {W : WX} {X : Cx}
theorem sg_name {i : Nat} {x : Str} {pos : Pos} (hN : X.N.Nodup) (hi : X.N[i]? = some x) (hx : Loc X.env.scope x) (hf : X.fn x = true ∨ X.env.scope.names.lookup x = some .local) : SG cad X (.Name x pos) (mgName i) [i] :=
  pg_imp (pg_name hN hi hx hf) fun v σm H Q ⟨σ, h, d, P, rs, rh, rv, q, k⟩ => k _ h _ H Ext.refl rh (rs.put rv) Wip.set q
theorem sgs_nil : SGs cad X [] mgsNil [] := pgs_imp pgs_nil fun v σm H Q ⟨σ, h, ds, P, rs, rh, rv, q, k⟩ => by
  obtain ⟨rfl, q⟩ := q
  exact ⟨rv, k σ h σm H Ext.refl rh rs Wip.refl q⟩
theorem each_of {e : Expr} {es : List Expr} {env : Env} (h : notStar e = true) : assignEach (e :: es) env = (false, assign e env) :: assignEach es env := by
  cases e <;> first | rfl | cases h
theorem sgs_cons {e : Expr} {es : List Expr} {m : Mg} {r : Mgs} {sl sl' : List Nat} (h1 : SG cad X e m sl) (h2 : SGs cad X es r sl') (hs : notStar e = true) : SGs cad X (e :: es) (mgsCons m r) (sl ++ sl') := by
  refine pgs_imp (pgs_cons h1 h2 (by rw [each_of hs]; rfl)) fun v σm H Q ⟨σ, h, ds, P, rs, rh, rv, q, k⟩ => ?_
  cases ds with
  | nil => exact q.elim
  | cons d ds =>
    obtain ⟨v, r, rfl, a, b⟩ := rv
    refine ⟨v, r, rfl, σ, h, d, _, rs, rh, a, q, fun σ1 h1 σm1 H1 e1 r1 rs1 w1 q1 => ?_⟩
    exact ⟨σ1, h1, ds, P, rs1, r1, b.ext e1, q1, fun σ2 h2 σm2 H2 e2 r2 rs2 w2 q2 => k σ2 h2 σm2 H2 (e1.trans e2) r2 rs2 ((w1.mono fun i hi => List.mem_append_left _ hi).trans (w2.mono fun i hi => List.mem_append_right _ hi)) q2⟩
theorem each_plain {env : Env} : ∀ {es : List Expr}, es.all notStar = true → (assignEach es env).length = es.length ∧ (assignEach es env).findIdx? (·.1) = none
  | [], _ => ⟨rfl, rfl⟩
  | e :: es, h => by
    rw [List.all_cons, Bool.and_eq_true] at h
    obtain ⟨a, b⟩ := each_plain (env := env) h.2
    rw [each_of h.1]
    refine ⟨by rw [List.length_cons, List.length_cons, a], ?_⟩
    rw [List.findIdx?_cons, b]
    rfl
theorem sg_tup {es : List Expr} {kk : Nat} {pos : Pos} {m : Mgs} {sl : List Nat} (hc : X.calm = true) (h : SGs cad X es m sl) (hs : es.all notStar = true) : SG cad X (.Tuple es kk pos) (mgTup es.length m) sl := by
  refine pg_imp (pg_tup hc h (each_plain hs).1 (each_plain hs).2) fun v σm H Q ⟨σ, h, d, P, rs, rh, rv, q, k⟩ => ?_
  unfold mgTup at q
  split at q
  · obtain ⟨a, vs, rfl, ha, rl⟩ := rv
    exact ⟨a, vs, rfl, SqT.of ha, by rw [rl.length]; exact q.1, σ, h, _, P, rs, rh, rl, q.2, k⟩
  · exact q.elim
theorem sg_sub {o i : Expr} {pos : Pos} {mo mi : Mx} (ho : SE cad W X o mo) (hi : SE cad W X i mi) (hs : notSlice i = true) : SG cad X (.Subscript o i pos) (mgSub mo mi) [] := by
  refine pg_imp (pg_sub ho hi set_list (fun v => by cases i <;> first | rfl | cases hs)) fun v σm H Q ⟨σ, h, d, P, rs, rh, rv, q, k⟩ => ?_
  refine up_then rs rh q (fun _ _ _ _ _ _ _ _ z => z.elim) fun x h1 u H1 e1 r1 ru rs1 ex1 q1 => ?_
  refine up_then rs1 r1 q1 (fun _ _ _ _ _ _ _ _ z => z.elim) fun y h2 u2 H2 e2 r2 ru2 rs2 ex2 q2 => ?_
  unfold sSet at q2
  split at q2
  · rename_i p
    cases (show u = _ from ru)
    split at q2
    · rename_i xs hp
      split at q2
      · rename_i j
        cases (show u2 = _ from ru2)
        split at q2
        · rename_i n hn
          obtain ⟨vs, ha, rl⟩ := r2 p _ hp
          refine ⟨p, vs, j, n, rfl, rfl, ha, by rw [rl.length]; exact hn, ?_⟩
          have e3 : Ext H2 h2 (upd H2 p (.lst (vs.set n v))) (updm h2 p (.lst (xs.set n d))) := Ext.write ha trivial hp
          have rv2 := rv.ext (e1.trans e2)
          exact k σ _ σm _ ((e1.trans e2).trans e3) (r2.write_ok ha trivial hp ⟨_, upd_same, RepL.ext e3 (RepL.set rv2 n rl)⟩) (rs2.ext e3) Wip.refl q2
        · exact q2.elim
      · exact q2.elim
    · exact q2.elim
  · exact q2.elim
end

def rmm (h : Hm) (a : Addr) : Hm := fun b => if b = a then none else h b
theorem rmm_same {h : Hm} {a : Addr} : rmm h a a = none := if_pos rfl
theorem rmm_or {h : Hm} {a : Addr} : ∀ b, rmm h a b = none ∨ rmm h a b = h b := fun b => by
  unfold rmm; split
  · exact .inl rfl
  · exact .inr rfl
theorem rmm_updm {h : Hm} {a : Addr} {o : Ob} (n : h a = none) : rmm (updm h a o) a = h := by
  funext b; unfold rmm updm
  split
  · rename_i e; rw [e, n]
  · rfl
def finL (b : Bool) (p : Addr) (acc : List D) (h : Hm) (Q : Kx) : Prop := match b with
  | true => Q (.ref p) h
  | false => Q (.lst acc) (rmm h p)
def compW (b : Bool) (p : Addr) (kp : Hm → Prop) (tg : Mg) (own : List Nat) (mt : Mt) (me : Mx) (σ : Sl) (Q : Kx) : List D → List D → Hm → Prop
  | [], acc, h => kp h ∧ h p = some (.lst acc) ∧ finL b p acc h Q
  | x :: xs, acc, h => kp h ∧ tg x (wip σ own) h (fun σ1 h1 => mt σ1 h1 (fun c h2 => match c with
      | true => me σ1 h2 (fun y h3 => h3 p = some (.lst acc) ∧ acc.length < sizeLine ∧ compW b p kp tg own mt me σ Q xs (acc ++ [y]) (updm h3 p (.lst (acc ++ [y])))) noE
      | false => compW b p kp tg own mt me σ Q xs acc h2) noE)
def mComp (b : Bool) (mi : Mi) (tg : Mg) (own : List Nat) (mt : Mt) (me : Mx) : Mx := fun σ h Q E => mi σ h (fun xs kp h1 => ∀ p, h1 p = none → compW b p kp tg own mt me σ Q xs [] (updm h1 p (.lst []))) E
def W0 : WX := fun _ _ _ _ => False
theorem pts_imp {X : Cx} {e : List Expr} {t t' : TT} (p : PTs X e t) (h : ∀ σ H Q, t' σ H Q → t σ H Q) : PTs X e t' := ⟨fun pins s σ H Q I q => p.run pins s σ H Q I (h _ _ _ q)⟩
def mtYes : Mt := fun _ h Q _ => Q true h
section
variable {cad : Cad} {W : WX} {X : Cx}
theorem lc_up {b : Bool} {mi : Mi} {tg : Mg} {sl : List Nat} {own : List Nat} {mt : Mt} {me : Mx} (hsl : ∀ i ∈ sl, i ∈ own) {σm : L2.St} {H : Hp} {Qm : VK} (q : up cad W (mComp b mi tg own mt me) σm H Qm) :
    tLc (upI cad W mi) (upG cad tg sl) (upT cad W0 mt) (up cad W0 me) own σm H Qm := by
  obtain ⟨σ, h, Q, EM, rs, rh, q, k, ex⟩ := q
  refine ⟨σ, h, _, EM, rs, rh, q, fun xs kp h1 J H1 e1 r1 go q1 Da nD => ?_, ex⟩
  have n1 : h1 Da = none := r1.fresh nD
  refine ⟨fun i m H2 => ∃ h2 acc, m = xs.length - i ∧ i ≤ xs.length ∧ Ext H1 h1 H2 h2 ∧ RepH cad H2 h2 ∧ compW b Da kp tg own mt me σ Q (xs.drop i) acc h2, ⟨xs.length, updm h1 Da (.lst []), [], by simp, Nat.zero_le _, Ext.freshM nD, r1.freshM_ok nD ⟨[], upd_same, RepL.nil⟩, q1 Da n1⟩, ?_⟩
  rintro i m H2 ⟨h2, acc, rfl, hi, e2, r2, q2⟩
  by_cases hlt : i < xs.length
  · right
    have hx : xs.drop i = xs[i] :: xs.drop (i + 1) := List.drop_eq_getElem_cons hlt
    rw [hx] at q2
    obtain ⟨kk, q2⟩ := q2
    obtain ⟨g1, g2⟩ := go.go i H2 h2 xs[i] e2 r2 kk (by simp [hlt])
    refine ⟨g1, fun H' => ∃ h' acc', Ext H1 h1 H' h' ∧ RepH cad H' h' ∧ compW b Da kp tg own mt me σ Q (xs.drop (i + 1)) acc' h', fun H' ⟨h', acc', a1, a2, a3⟩ => ⟨xs.length - (i + 1), by omega, h', acc', rfl, hlt, a1, a2, a3⟩, fun x H' y => ?_⟩
    obtain ⟨e3, r3, rx⟩ := g2 x H' y
    have rs3 : RepS H' h2 σ σm := rs.ext ((e1.trans e2).trans e3)
    refine ⟨wip σ own, h2, _, _, rs3.wip own, r3, rx, q2, fun σ4 h4 σm4 H4 e4 r4 rs4 w4 q4 => ⟨?_, ?_⟩⟩
    · exact (w4 own hsl).trans (wipe_wipe fun _ z => z)
    · refine ⟨σ4, h4, _, noE, rs4, r4, q4, fun c h5 H5 e5 r5 q5 => ?_, fun _ _ _ _ _ _ _ _ z => z.elim⟩
      have e25 := ((e2.trans e3).trans e4).trans e5
      cases c with
      | true =>
        show ite _ _ _
        rw [if_pos rfl]
        refine ⟨σ4, h5, _, noE, rs4.ext e5, r5, q5, fun d h6 v H6 e6 r6 rv q6 => ?_, fun _ _ _ _ _ _ _ _ z => z.elim⟩
        obtain ⟨hD, hl, q6⟩ := q6
        obtain ⟨vs, ha, rl⟩ := r6 Da _ hD
        have e7 : Ext H6 h6 (upd H6 Da (.lst (vs ++ [v]))) (updm h6 Da (.lst (acc ++ [d]))) := Ext.write ha trivial hD
        exact ⟨vs, ha, by rw [rl.length]; exact hl, _, _, (e25.trans e6).trans e7, r6.write_ok ha trivial hD ⟨_, upd_same, RepL.ext e7 (rl.append (RepL.cons rv RepL.nil))⟩, q6⟩
      | false =>
        show ite _ _ _
        rw [if_neg Bool.false_ne_true]
        exact ⟨h5, acc, e25, r5, q5⟩
  · left
    have e : i = xs.length := by omega
    subst e
    rw [List.drop_length] at q2
    obtain ⟨kk, hD, q2⟩ := q2
    refine ⟨go.stop H2 h2 e2 r2 kk, ?_⟩
    obtain ⟨vs, ha, rl⟩ := r2 Da _ hD
    cases b with
    | true => exact k (.ref Da) h2 _ H2 (e1.trans e2) r2 rfl q2
    | false =>
      have e3 : Ext H2 h2 H2 (rmm h2 Da) := Ext.forget rmm_or
      exact k (.lst acc) _ _ H2 ((e1.trans e2).trans e3) (r2.forget rmm_or) ⟨Da, vs, rfl, ha, rmm_same, rl.ext e3⟩ q2
theorem se_comp {b : Bool} {elt tg iter : Expr} {ifs : List Expr} {scope : Scope} {own : List (Str × Nat)} {pos : Pos} {mi : Mi} {mg : Mg} {sl : List Nat} {mt : Mt} {me : Mx} (hc : X.calm = true) (hN : X.N.Nodup) (hi : SI cad W X tg iter mi)
    (ok : BlkOk X.N X.env.scope scope own) (hg : ∀ (s : Shared) (H : Hp) (C : Addr) (cl : List (Str × Addr)) (fp : List Addr), SG cad (X.blk s H scope (compEnvC scope cl C X.env) fp) tg mg sl)
    (ht : ∀ (s : Shared) (H : Hp) (C : Addr) (cl : List (Str × Addr)) (fp : List Addr), PTs (X.blk s H scope (compEnvC scope cl C X.env) fp) ifs (upT cad W0 mt))
    (he : ∀ (s : Shared) (H : Hp) (C : Addr) (cl : List (Str × Addr)) (fp : List Addr), SE cad W0 (X.blk s H scope (compEnvC scope cl C X.env) fp) elt me) (hs : ∀ x, foldedSetIterable iter X.env x = pure x) (hsl : ∀ i ∈ sl, i ∈ own.map (·.2)) :
    SE cad W X (.ListComp elt [⟨tg, iter, ifs, 0⟩] scope pos) (mComp b mi mg (own.map (·.2)) mt me) :=
  pe_imp (pe_lc hc hN hi ok hg ht he hs) fun σm H Qm q => lc_up hsl q
theorem pts_none : PTs X [] (upT cad W mtYes) := pts_imp pts_nil fun σm H Q ⟨σ, h, Q', EM, rs, rh, q, k, _⟩ => k true h H Ext.refl rh q
end
end MM
end

section
set_option Elab.async false
set_option linter.all false
set_option maxRecDepth 100000
set_option maxHeartbeats 4000000
namespace MM
open PySem PySem.Spec PyProof.Rows L2

structure Me where
  nx : Sl → Hm → Prop
  rt : Kx
  bk : Sl → Hm → Prop
  ct : Sl → Hm → Prop
abbrev EXs := Ex → Sl → Hm → Prop
abbrev Ms := Me → EXs → Sl → Hm → Prop
section
variable (cad : Cad) (W : WX)
structure Cont (E : Me) (EM : EXs) (De : Ends) (H : Hp) (h : Hm) : Prop where
  nx : ∀ σ' h' σm' H', Ext H h H' h' → RepH cad H' h' → RepS H' h' σ' σm' → E.nx σ' h' → De.nx σm' H'
  rt : ∀ d h' v H', Ext H h H' h' → RepH cad H' h' → Rep H' h' d v → E.rt d h' → De.rt v H'
  bk : ∀ σ' h' σm' H', Ext H h H' h' → RepH cad H' h' → RepS H' h' σ' σm' → E.bk σ' h' → De.bk σm' H'
  ct : ∀ σ' h' σm' H', Ext H h H' h' → RepH cad H' h' → RepS H' h' σ' σm' → E.ct σ' h' → De.ct σm' H'
  ex : ∀ x σ' h' cls dx σm' H', Ext H h H' h' → RepH cad H' h' → RepS H' h' σ' σm' → RepEx cad H' h' x cls dx → EM x σ' h' → W cls dx σm' H'
def upS (m : Ms) : TS := fun De σm H => ∃ σ h E EM, RepS H h σ σm ∧ RepH cad H h ∧ m E EM σ h ∧ Cont cad W E EM De H h
end
abbrev SS (cad : Cad) (W : WX) (X : Cx) (st : Stmt) (m : Ms) : Prop := PS X st (upS cad W m)
abbrev SSs (cad : Cad) (W : WX) (X : Cx) (st : List Stmt) (m : Ms) : Prop := PSs X st (upS cad W m)
theorem Cont.ext {cad : Cad} {W : WX} {E : Me} {EM : EXs} {De : Ends} {H H' : Hp} {h h' : Hm} (c : Cont cad W E EM De H h) (e : Ext H h H' h') : Cont cad W E EM De H' h' :=
  ⟨fun a b d f g => c.nx a b d f (e.trans g), fun a b d f g => c.rt a b d f (e.trans g), fun a b d f g => c.bk a b d f (e.trans g), fun a b d f g => c.ct a b d f (e.trans g), fun a b d f g i j k => c.ex a b d f g i j (e.trans k)⟩
theorem Cont.exE {cad : Cad} {W : WX} {E : Me} {EM : EXs} {De : Ends} {H : Hp} {h : Hm} {σ : Sl} {σm : L2.St} (c : Cont cad W E EM De H h) (rs : RepS H h σ σm) :
    ∀ x h' cls dx H', Ext H h H' h' → RepH cad H' h' → RepEx cad H' h' x cls dx → EM x σ h' → W cls dx σm H' := fun x h' cls dx H' e r rx z => c.ex x σ h' cls dx σm H' e r (rs.ext e) rx z
theorem ps_imp {X : Cx} {st : Stmt} {t t' : TS} (p : PS X st t) (h : ∀ D σ H, t' D σ H → t D σ H) : PS X st t' := ⟨fun pins s σ H D I q => p.run pins s σ H D I (h _ _ _ q)⟩
theorem pss_imp {X : Cx} {st : List Stmt} {t t' : TS} (p : PSs X st t) (h : ∀ D σ H, t' D σ H → t D σ H) : PSs X st t' := ⟨fun pins s σ H D I q => p.run pins s σ H D I (h _ _ _ q)⟩

def msNext : Ms := fun E _ σ h => E.nx σ h
def msSeq (a b : Ms) : Ms := fun E EM σ h => a { E with nx := fun σ1 h1 => b E EM σ1 h1 } EM σ h
def msNever : Ms := fun _ _ _ _ => False
def msBrk : Ms := fun E _ σ h => E.bk σ h
def msCnt : Ms := fun E _ σ h => E.ct σ h
def msExpr (m : Mx) : Ms := fun E EM σ h => m σ h (fun _ h1 => E.nx σ h1) (fun x h1 => EM x σ h1)
def msRet (m : Mx) : Ms := fun E EM σ h => m σ h E.rt (fun x h1 => EM x σ h1)
def msRetN : Ms := fun E _ _ h => E.rt .non h
def msAsg (m : Mx) (g : Mg) : Ms := fun E EM σ h => m σ h (fun d h1 => g d σ h1 E.nx) (fun x h1 => EM x σ h1)
def msIf (t : Mt) (a b : Ms) : Ms := fun E EM σ h => t σ h (fun k h1 => match k with | true => a E EM σ h1 | false => b E EM σ h1) (fun x h1 => EM x σ h1)
def msPar (i j : Nat) (a : Ma) : Ms := fun E EM σ h => a σ h (fun xs h1 => match xs with | [d, e] => E.nx (put (put σ i d) j e) h1 | _ => False) (fun x h1 => EM x σ h1)
def forW (kp : Hm → Prop) (g : Mg) (mb : Ms) (E : Me) (EM : EXs) : List D → Sl → Hm → Prop
  | [], σ, h => kp h ∧ E.nx σ h
  | x :: xs, σ, h => kp h ∧ g x σ h (fun σ1 h1 => mb { nx := forW kp g mb E EM xs, rt := E.rt, bk := E.nx, ct := forW kp g mb E EM xs } EM σ1 h1)
def msFor (mi : Mi) (g : Mg) (mb : Ms) : Ms := fun E EM σ h => mi σ h (fun xs kp h1 => forW kp g mb E EM xs σ h1) (fun x h1 => EM x σ h1)
def msWhile (t : Mt) (mb : Ms) : Ms := fun E EM σ h => ∃ I : Nat → Sl → Hm → Prop, (∃ n, I n σ h) ∧ ∀ n σ h, I n σ h → t σ h (fun k h1 => match k with
  | true => mb { nx := fun σ' h' => ∃ n', n' < n ∧ I n' σ' h', rt := E.rt, bk := E.nx, ct := fun σ' h' => ∃ n', n' < n ∧ I n' σ' h' } EM σ h1
  | false => E.nx σ h1) (fun x h1 => EM x σ h1)

section
variable {cad : Cad} {W : WX} {X : Cx}
theorem ss_nil : SSs cad W X [] msNext := pss_imp pss_nil fun De σm H ⟨σ, h, E, EM, rs, rh, q, c⟩ => c.nx σ h σm H Ext.refl rh rs q
theorem ss_cons {st : Stmt} {r : List Stmt} {a b : Ms} (h1 : SS cad W X st a) (h2 : SSs cad W X r b) : SSs cad W X (st :: r) (msSeq a b) :=
  pss_imp (pss_cons h1 h2) fun De σm H ⟨σ, h, E, EM, rs, rh, q, c⟩ =>
    ⟨σ, h, _, EM, rs, rh, q, fun σ' h' σm' H' e r rs' z => ⟨σ', h', E, EM, rs', r, z, c.ext e⟩, c.rt, c.bk, c.ct, c.ex⟩
theorem ss_never {st : Stmt} : SS cad W X st msNever := ps_imp ps_never fun De σm H ⟨σ, h, E, EM, rs, rh, q, c⟩ => q.elim
theorem ss_pass {pos : Pos} : SS cad W X (.Pass pos) msNext := ps_imp ps_pass fun De σm H ⟨σ, h, E, EM, rs, rh, q, c⟩ => c.nx σ h σm H Ext.refl rh rs q
theorem ss_brk {pos : Pos} : SS cad W X (.Break pos) msBrk := ps_imp ps_break fun De σm H ⟨σ, h, E, EM, rs, rh, q, c⟩ => c.bk σ h σm H Ext.refl rh rs q
theorem ss_cnt {pos : Pos} : SS cad W X (.Continue pos) msCnt := ps_imp ps_continue fun De σm H ⟨σ, h, E, EM, rs, rh, q, c⟩ => c.ct σ h σm H Ext.refl rh rs q
def notComp : Expr → Bool
  | .ListComp .. => false
  | .SetComp .. => false
  | .DictComp .. => false
  | _ => true
theorem swaps_of {e : Expr} {t : Option Expr} {n : Nat} {env : Env} (h : notComp e = true) : swapsWith e t n env = pure false := by
  cases e <;> first | rfl | cases h
theorem ss_expr {e : Expr} {pos : Pos} {m : Mx} (he : SE cad W X e m) (hs : notComp e = true) : SS cad W X (.Expr e pos) (msExpr m) :=
  ps_imp (ps_expr he (swaps_of hs)) fun De σm H ⟨σ, h, E, EM, rs, rh, q, c⟩ =>
    ⟨σ, h, _, _, rs, rh, q, fun d h' v H' e r rv z => c.nx σ h' σm H' e r (rs.ext e) z, c.exE rs⟩
theorem ss_ret {e : Expr} {pos : Pos} {m : Mx} (he : SE cad W X e m) : SS cad W X (.Return (some e) pos) (msRet m) :=
  ps_imp (ps_ret he) fun De σm H ⟨σ, h, E, EM, rs, rh, q, c⟩ => ⟨σ, h, _, _, rs, rh, q, fun d h' v H' e r rv z => c.rt d h' v H' e r rv z, c.exE rs⟩
theorem ss_retN {pos : Pos} : SS cad W X (.Return none pos) msRetN := ps_imp ps_retN fun De σm H ⟨σ, h, E, EM, rs, rh, q, c⟩ => c.rt .non h _ H Ext.refl rh rfl q
theorem asg_up {m : Mx} {g : Mg} {sl : List Nat} {te : TE} (hte : ∀ σm H Q, up cad W m σm H Q → te σm H Q) : ∀ De σm H, upS cad W (msAsg m g) De σm H → tAsg te (upG cad g sl) De σm H := fun De σm H ⟨σ, h, E, EM, rs, rh, q, c⟩ =>
  hte _ _ _ ⟨σ, h, _, _, rs, rh, q, fun d h' v H' e r rv z => ⟨σ, h', d, _, rs.ext e, r, rv, z, fun σ2 h2 σm2 H2 e2 r2 rs2 _ z2 => c.nx σ2 h2 σm2 H2 (e.trans e2) r2 rs2 z2⟩, c.exE rs⟩
theorem ss_asg {tg e : Expr} {pos : Pos} {m : Mx} {g : Mg} {sl : List Nat} (he : SE cad W X e m) (hg : SG cad X tg g sl) (hs : notComp e = true) (hw : swappedStores [tg] e X.env = pure none) (ht : notStar tg = true) : SS cad W X (.Assign [tg] e pos) (msAsg m g) :=
  ps_imp (ps_asg he hg (swaps_of hs) hw (by rw [each_of ht]; rfl)) (asg_up fun _ _ _ z => z)
theorem par_up {i j : Nat} {a : Ma} : ∀ De σm H, upS cad W (msPar i j a) De σm H → tPar i j (upA cad W a) De σm H := fun De σm H ⟨σ, h, E, EM, rs, rh, q, c⟩ =>
  ⟨σ, h, _, _, rs, rh, q, fun ds h' vs H' e r rv z => by
    split at z
    · obtain ⟨v, u, rfl, a, b⟩ := rep2 rv
      exact ⟨v, u, rfl, c.nx _ h' _ H' e r (((rs.ext e).put a).put b) z⟩
    · exact z.elim, c.exE rs⟩
theorem ss_par {i j : Nat} {x y : Str} {a b : Expr} {ma : Ma} {px py pt pos : Pos} {kt k2 pt2} (hc : X.calm = true) (hN : X.N.Nodup) (hi : X.N[i]? = some x) (hj : X.N[j]? = some y) (hij : i ≠ j)
    (hx : X.env.scope.names.lookup x = some .local) (hy : X.env.scope.names.lookup y = some .local) (ha : SA cad W X [a, b] ma)
    (hw : swappedStores [.Tuple [.Name x px, .Name y py] kt pt] (.Tuple [a, b] k2 pt2) X.env = pure (some [x, y])) :
    SS cad W X (.Assign [.Tuple [.Name x px, .Name y py] kt pt] (.Tuple [a, b] k2 pt2) pos) (msPar i j ma) :=
  ps_imp (ps_par hc hN hi hj hij hx hy ha hw) par_up
theorem ss_if {t : Expr} {a b : List Stmt} {pos : Pos} {mt : Mt} {m n : Ms} (ht : ST cad W X t mt) (ha : SSs cad W X a m) (hb : SSs cad W X b n) : SS cad W X (.If t a b pos) (msIf mt m n) :=
  ps_imp (ps_if ht ha hb) fun De σm H ⟨σ, h, E, EM, rs, rh, q, c⟩ => ⟨σ, h, _, _, rs, rh, q, fun k h' H' e r z => by
    cases k with
    | true => rw [if_pos rfl]; exact ⟨σ, h', E, EM, rs.ext e, r, z, c.ext e⟩
    | false => rw [if_neg Bool.false_ne_true]; exact ⟨σ, h', E, EM, rs.ext e, r, z, c.ext e⟩, c.exE rs⟩
theorem for_up {mi : Mi} {g : Mg} {sl : List Nat} {mb : Ms} : ∀ De σm H, upS cad W (msFor mi g mb) De σm H → tFor (upI cad W mi) (upG cad g sl) (upS cad W mb) De σm H := by
  rintro De σm H ⟨σ, h, E, EM, rs, rh, q, c⟩
  refine ⟨σ, h, _, _, rs, rh, q, fun xs kp h1 J H1 e1 r1 go q1 => ?_, c.exE rs⟩
  refine ⟨fun i m σm2 H2 => ∃ σ2 h2, m = xs.length - i ∧ i ≤ xs.length ∧ Ext H1 h1 H2 h2 ∧ RepH cad H2 h2 ∧ RepS H2 h2 σ2 σm2 ∧ forW kp g mb E EM (xs.drop i) σ2 h2, ⟨xs.length, σ, h1, by simp, Nat.zero_le _, Ext.refl, r1, rs.ext e1, q1⟩, ?_⟩
  rintro i m σm2 H2 ⟨σ2, h2, rfl, hi, e2, r2, rs2, q2⟩
  by_cases hlt : i < xs.length
  · right
    have hx : xs.drop i = xs[i] :: xs.drop (i + 1) := List.drop_eq_getElem_cons hlt
    rw [hx] at q2
    obtain ⟨kk, q2⟩ := q2
    obtain ⟨g1, g2⟩ := go.go i H2 h2 xs[i] e2 r2 kk (by simp [hlt])
    refine ⟨g1, fun σm' H' => ∃ σ' h', Ext H1 h1 H' h' ∧ RepH cad H' h' ∧ RepS H' h' σ' σm' ∧ forW kp g mb E EM (xs.drop (i + 1)) σ' h', fun σm' H' ⟨σ', h', a1, a2, a3, a4⟩ => ⟨xs.length - (i + 1), by omega, σ', h', rfl, hlt, a1, a2, a3, a4⟩, fun x H' y => ?_⟩
    obtain ⟨e3, r3, rx⟩ := g2 x H' y
    refine ⟨σ2, h2, _, _, rs2.ext e3, r3, rx, q2, fun σ4 h4 σm4 H4 e4 r4 rs4 _ q4 => ⟨σ4, h4, _, EM, rs4, r4, q4, ?_⟩⟩
    have e24 := (e2.trans e3).trans e4
    have e14 := e1.trans e24
    exact ⟨fun σ' h' σm' H' e r rs z => ⟨σ', h', e24.trans e, r, rs, z⟩, fun d h' v H' e => c.rt d h' v H' (e14.trans e), fun σ' h' σm' H' e r rs z => c.nx σ' h' σm' H' (e14.trans e) r rs z,
      fun σ' h' σm' H' e r rs z => ⟨σ', h', e24.trans e, r, rs, z⟩, fun x σ' h' cls dx σm' H' e => c.ex x σ' h' cls dx σm' H' (e14.trans e)⟩
  · left
    have e : i = xs.length := by omega
    subst e
    rw [List.drop_length] at q2
    exact ⟨go.stop H2 h2 e2 r2 q2.1, c.nx σ2 h2 σm2 H2 (e1.trans e2) r2 rs2 q2.2⟩
theorem ss_for {iter tg : Expr} {body : List Stmt} {pos : Pos} {mi : Mi} {g : Mg} {sl : List Nat} {mb : Ms} (hp : PassesOwn (model X.prog X.w) X.A X.env X.xe) (hc : X.calm = true) (hi : SI cad W X tg iter mi) (hg : SG cad X tg g sl) (hb : SSs cad W X body mb)
    (hs : ∀ x, foldedSetIterable iter X.env x = pure x) : SS cad W X (.For tg iter body [] pos) (msFor mi g mb) := ps_imp (ps_for hp hc hi hg hb hs) for_up
theorem while_up {t : Mt} {mb : Ms} : ∀ De σm H, upS cad W (msWhile t mb) De σm H → tWhile (upT cad W t) (upS cad W mb) De σm H := by
  rintro De σm H ⟨σ, h, E, EM, rs, rh, ⟨I, ⟨n0, q0⟩, turn⟩, c⟩
  refine ⟨fun m σm2 H2 => ∃ σ2 h2, Ext H h H2 h2 ∧ RepH cad H2 h2 ∧ RepS H2 h2 σ2 σm2 ∧ I m σ2 h2, ⟨n0, σ, h, Ext.refl, rh, rs, q0⟩, ?_⟩
  rintro m σm2 H2 ⟨σ2, h2, e2, r2, rs2, q2⟩
  refine ⟨σ2, h2, _, _, rs2, r2, turn m σ2 h2 q2, fun k h3 H3 e3 r3 q3 => ?_, (c.ext e2).exE rs2⟩
  have e23 := e2.trans e3
  cases k with
  | true =>
    show ite _ _ _
    rw [if_pos rfl]
    refine ⟨fun σm' H' => ∃ n' σ' h', n' < m ∧ Ext H h H' h' ∧ RepH cad H' h' ∧ RepS H' h' σ' σm' ∧ I n' σ' h', fun σm' H' ⟨n', σ', h', l, a1, a2, a3, a4⟩ => ⟨n', l, σ', h', a1, a2, a3, a4⟩, σ2, h3, _, EM, rs2.ext e3, r3, q3, ?_⟩
    exact ⟨fun σ' h' σm' H' e r rs ⟨n', l, z⟩ => ⟨n', σ', h', l, e23.trans e, r, rs, z⟩, fun d h' v H' e => c.rt d h' v H' (e23.trans e), fun σ' h' σm' H' e r rs z => c.nx σ' h' σm' H' (e23.trans e) r rs z,
      fun σ' h' σm' H' e r rs ⟨n', l, z⟩ => ⟨n', σ', h', l, e23.trans e, r, rs, z⟩, fun x σ' h' cls dx σm' H' e => c.ex x σ' h' cls dx σm' H' (e23.trans e)⟩
  | false =>
    show ite _ _ _
    rw [if_neg Bool.false_ne_true]
    exact c.nx σ2 h3 σm2 H3 e23 r3 (rs2.ext e3) q3
theorem ss_while {t : Expr} {body : List Stmt} {pos : Pos} {mt : Mt} {mb : Ms} (hp : PassesOwn (model X.prog X.w) X.A X.env X.xe) (ht : ST cad W X t mt) (hb : SSs cad W X body mb) : SS cad W X (.While t body [] pos) (msWhile mt mb) := ps_imp (ps_while hp ht hb) while_up
theorem ss_asgComp {b : Bool} {i : Nat} {y : Str} {py : Pos} {elt tg iter : Expr} {ifs : List Expr} {scope : Scope} {own : List (Str × Nat)} {pos spos : Pos} {mi : Mi} {mg : Mg} {sl : List Nat} {mt : Mt} {me : Mx} (hc : X.calm = true) (hN : X.N.Nodup)
    (hy : X.N[i]? = some y) (hyl : X.env.scope.names.lookup y = some .local) (hsw : swapsWith (.ListComp elt [⟨tg, iter, ifs, 0⟩] scope pos) (some (.Name y py)) spos.line X.env = pure true) (hi : SI cad W X tg iter mi)
    (ok : BlkOk X.N X.env.scope scope own) (hg : ∀ (s : Shared) (H : Hp) (C : Addr) (cl : List (Str × Addr)) (fp : List Addr), SG cad (X.blk s H scope (compEnvC scope cl C X.env) fp) tg mg sl)
    (ht : ∀ (s : Shared) (H : Hp) (C : Addr) (cl : List (Str × Addr)) (fp : List Addr), PTs (X.blk s H scope (compEnvC scope cl C X.env) fp) ifs (upT cad W0 mt))
    (he : ∀ (s : Shared) (H : Hp) (C : Addr) (cl : List (Str × Addr)) (fp : List Addr), SE cad W0 (X.blk s H scope (compEnvC scope cl C X.env) fp) elt me) (hs : ∀ x, foldedSetIterable iter X.env x = pure x) (hsl : ∀ i ∈ sl, i ∈ own.map (·.2)) :
    SS cad W X (.Assign [.Name y py] (.ListComp elt [⟨tg, iter, ifs, 0⟩] scope pos) spos) (msAsg (mComp b mi mg (own.map (·.2)) mt me) (mgName i)) := by
  refine ps_imp (ps_setLc hc hN hy hyl hsw hi ok hg ht he hs) fun De σm H ⟨σ, h, E, EM, rs, rh, q, c⟩ => ?_
  refine lc_up hsl ⟨σ, h, _, _, rs, rh, q, fun d h' v H' e r rv z => ?_, c.exE rs⟩
  exact c.nx _ h' _ H' e r ((rs.ext e).put rv) z
end
end MM
end

section
set_option Elab.async false
set_option linter.all false
set_option maxRecDepth 100000
set_option maxHeartbeats 4000000
namespace MM
open PySem PySem.Spec PyProof.Rows L2

inductive BF where
  | len | abs | sum | any | all | min | max | tuple | list (b : Bool) | str | int | repr | sorted (b : Bool) | isi
def BF.nm : BF → Str
  | .len => "len" | .abs => "abs" | .sum => "sum" | .any => "any" | .all => "all" | .min => "min" | .max => "max" | .tuple => "tuple" | .list _ => "list" | .str => "str" | .int => "int" | .repr => "repr"
  | .sorted _ => "sorted" | .isi => "isinstance"
def BF.s : BF → M1s
  | .len => s1 sLen | .abs => s1 sAbs | .sum => s1 sSum | .any => s1 (sBools fun bs => bs.any id) | .all => s1 (sBools fun bs => bs.all id) | .min => sMin | .max => sMax | .tuple => s1 sTup | .list b => s1 (sLst b)
  | .str => s1 sStr | .int => s1 sInt | .repr => s1 sRepr | .sorted b => s1 (sSorted b) | .isi => sIsi
def opS (b : Bool) : Operator → M2
  | .Add => sAdd b | .Mult => sMul b | .Sub => sSub | .FloorDiv => sFdiv | .Mod => sMod | .Pow => sPow
  | _ => fun _ _ _ _ => False
def sInS : M2 := fun x y h Q => ∃ c z, x = .str ⟨#[c]⟩ ∧ y = .str z ∧ Q (.bl (decide (c ∈ z.cps.toList))) h
def cmpS (v : Nat) : CmpOp → M2
  | .Eq => sEq | .NotEq => sNe | .Lt => sLt | .LtE => sLe | .Gt => sGt | .GtE => sGe | .Is => sIs false | .IsNot => sIs true | .NotIn => sIn true
  | .In => match v with
    | 0 => sIn false
    | _ => sInS

mutual
inductive Tg where
  | nm (i : Nat) | tp (ts : Tgs)
inductive Tgs where
  | nil | cons (t : Tg) (r : Tgs)
end
mutual
inductive ME where
  | var (i : Nat) | non | bl (b : Bool) | int (i : Int) | str (x : Str) | glo (x : Str) | ty (n : String)
  | bin (b : Bool) (o : Operator) (x y : ME) | cmp (v : Nat) (o : CmpOp) (x y : ME) | chain (o o' : CmpOp) (x y z : ME)
  | neg (x : ME) | not (x : ME) | one (x : ME) | and (x y : ME) | or (x y : ME) | ite (t : MT) (x y : ME)
  | tup (es : MEs) | lst (b : Bool) (es : MEs)
  | idx (x i : ME) | sli (b : Bool) (x : ME) (lo hi : MO)
  | call (i n : Nat) (es : MEs) | callk (j i n : Nat) (pm : List Nat) (es : MEs) | bif (f : BF) (es : MEs) | sset (b : Bool) (x : ME)
  | split (b : Bool) (o x : ME) | join (o x : ME) | append (o x : ME) | pop0 (o : ME)
  | comp (b : Bool) (it : MI) (tg : Tg) (own : List (Str × Nat)) (c : MC) (x : ME)
inductive MEs where
  | nil | cons (x : ME) (r : MEs)
inductive MO where
  | none | some (x : ME)
inductive MC where
  | none | some (x : MT)
inductive MI where
  | seq (x : ME) | rng1 (x : ME) | rng2 (x y : ME) | enum (x : ME) | zip (x y : ME)
inductive MT where
  | val (x : ME) | cmp (v : Nat) (o : CmpOp) (x y : ME) | chain (o o' : CmpOp) (x y z : ME) | not (x : MT) | one (x : MT) | and (x y : MT) | or (x y : MT) | ite (t x y : MT)
end
mutual
inductive MS where
  | never | pass | brk | cnt | expr (x : ME) | ret (x : ME) | retN
  | asg (t : Tg) (x : ME) | sub (o i x : ME) | asgc (i : Nat) (b : Bool) (it : MI) (tg : Tg) (own : List (Str × Nat)) (c : MC) (x : ME) | par (i j : Nat) (x y : ME)
  | ite (t : MT) (x y : MSs) | forr (it : MI) (tg : Tg) (x : MSs) | whil (t : MT) (x : MSs)
inductive MSs where
  | nil | cons (x : MS) (r : MSs)
end
mutual
def slT : Tg → List Nat
  | .nm i => [i]
  | .tp ts => slTs ts
def slTs : Tgs → List Nat
  | .nil => []
  | .cons t r => slT t ++ slTs r
end
def lnTs : Tgs → Nat
  | .nil => 0
  | .cons _ r => lnTs r + 1

structure Gw where
  K : PySem.W.Frag
  cn : Str → Option D
  T : Nat → Ph
structure Gn extends Gw where
  free : List Str
  cns : List Str
  fns : List (Nat × Str × Nat)
  kws : List (Nat × List Str × List Nat)

def mxNo : Mx := fun _ _ _ _ => False
mutual
def wpG : Tg → Mg
  | .nm i => mgName i
  | .tp ts => mgTup (lnTs ts) (wpGs ts)
def wpGs : Tgs → Mgs
  | .nil => mgsNil
  | .cons t r => mgsCons (wpG t) (wpGs r)
end
section
variable (G : Gw)
mutual
def wpE : ME → Mx
  | .var i => mVar i
  | .non => mC .non
  | .bl b => mC (.bl b)
  | .int i => mC (.int i)
  | .str x => mC (.str x)
  | .glo x => match G.cn x with
    | some d => mC d
    | none => mxNo
  | .ty n => mC (.ty n)
  | .bin b o x y => mOp (opS b o) (wpE x) (wpE y)
  | .cmp v o x y => mOp (cmpS v o) (wpE x) (wpE y)
  | .chain o o' x y z => mChain (cmpS 0 o) (cmpS 0 o') (wpE x) (wpE y) (wpE z)
  | .neg x => mNeg (wpE x)
  | .not x => mNot (wpE x)
  | .one x => wpE x
  | .and x y => mAnd (wpE x) (wpE y)
  | .or x y => mOr (wpE x) (wpE y)
  | .ite t x y => mIte (wpT t) (wpE x) (wpE y)
  | .tup es => mTup (wpA es)
  | .lst b es => mLst b (wpA es)
  | .idx x i => mOp sIdx (wpE x) (wpE i)
  | .sli b x lo hi => mSl G.K b (wpE x) (wpO lo) (wpO hi)
  | .call i n es => mUc n (G.T i) (wpA es)
  | .callk _ i n pm es => mUk n pm (G.T i) (wpA es)
  | .bif f es => mCall f.s (wpA es)
  | .sset b x => mSortedSet b (wpE x)
  | .split b o x => mM1 (sSplit b) (wpE o) (wpE x)
  | .join o x => mM1 sJoin (wpE o) (wpE x)
  | .append o x => mB1 sAppend (wpE o) (maCons (wpE x) maNil)
  | .pop0 o => mB0 sPop (wpE o)
  | .comp b it tg own c x => mComp b (wpI it) (wpG tg) (own.map (·.2)) (wpC c) (wpE x)
def wpA : MEs → Ma
  | .nil => maNil
  | .cons x r => maCons (wpE x) (wpA r)
def wpO : MO → Mo
  | .none => moNone
  | .some x => moSome (wpE x)
def wpC : MC → Mt
  | .none => mtYes
  | .some x => wpT x
def wpI : MI → Mi
  | .seq x => miSeq (wpE x)
  | .rng1 x => miRng1 (maCons (wpE x) maNil)
  | .rng2 x y => miRng2 (maCons (wpE x) (maCons (wpE y) maNil))
  | .enum x => miEnum (maCons (wpE x) maNil)
  | .zip x y => miZip (maCons (wpE x) (maCons (wpE y) maNil))
def wpT : MT → Mt
  | .val x => mtOf (wpE x)
  | .cmp v o x y => mtOf (mOp (cmpS v o) (wpE x) (wpE y))
  | .chain o o' x y z => mtOf (mChain (cmpS 0 o) (cmpS 0 o') (wpE x) (wpE y) (wpE z))
  | .not x => mtNot (wpT x)
  | .one x => wpT x
  | .and x y => mtAnd (wpT x) (wpT y)
  | .or x y => mtOr (wpT x) (wpT y)
  | .ite t x y => mtIte (wpT t) (wpT x) (wpT y)
end
mutual
def wpS : MS → Ms
  | .never => msNever
  | .pass => msNext
  | .brk => msBrk
  | .cnt => msCnt
  | .expr x => msExpr (wpE G x)
  | .ret x => msRet (wpE G x)
  | .retN => msRetN
  | .asg t x => msAsg (wpE G x) (wpG t)
  | .sub o i x => msAsg (wpE G x) (mgSub (wpE G o) (wpE G i))
  | .asgc i b it tg own c x => msAsg (mComp b (wpI G it) (wpG tg) (own.map (·.2)) (wpC G c) (wpE G x)) (mgName i)
  | .par i j x y => msPar i j (maCons (wpE G x) (maCons (wpE G y) maNil))
  | .ite t x y => msIf (wpT G t) (wpSs x) (wpSs y)
  | .forr it tg x => msFor (wpI G it) (wpG tg) (wpSs x)
  | .whil t x => msWhile (wpT G t) (wpSs x)
def wpSs : MSs → Ms
  | .nil => msNext
  | .cons x r => msSeq (wpS x) (wpSs r)
end
end

structure SC where
  N : List Str
  sc : Scope
  blk : Option Scope
def SC.fn (C : SC) (x : Str) : Bool := match C.blk with
  | none => true
  | some s => s.names.lookup x == some .cell
def isVis : Option NameKind → Bool
  | some .local => true
  | some .cell => true
  | some .free => true
  | _ => false
def visB (C : SC) (x : Str) : Bool := isVis (C.sc.names.lookup x)
def stB (C : SC) (x : Str) : Bool := match C.sc.names.lookup x with
  | some .local => true
  | some .cell => C.fn x
  | _ => false
def glB (C : SC) (x : Str) : Bool := (C.sc.names.lookup x == some .globalImplicit) && !(x == ("__debug__" : Str))
def bfB (G : Gn) (C : SC) (x : Str) : Bool := glB C x && G.free.contains x && !(x == ("__name__" : Str))
def tyNames : List String := ["int", "str", "bool", "tuple", "list", "dict", "object", "type"]
def nmI (C : SC) (i : Nat) (x : Str) : Bool := C.N[i]? == some x
mutual
def chkG (C : SC) : Tg → Expr → Bool
  | .nm i, e => match e with
    | .Name x _ => nmI C i x && stB C x
    | _ => false
  | .tp ts, e => match e with
    | .Tuple es _ _ => chkGs C ts es
    | _ => false
def chkGs (C : SC) : Tgs → List Expr → Bool
  | .nil, es => match es with
    | [] => true
    | _ => false
  | .cons t r, es => match es with
    | e :: es => notStar e && chkG C t e && chkGs C r es
    | _ => false
end
end MM
end

section
set_option Elab.async false
set_option linter.all false
set_option maxRecDepth 100000
set_option maxHeartbeats 8000000
namespace MM
open PySem PySem.Spec PyProof.Rows L2

def notSet : Expr → Bool
  | .Set .. => false
  | _ => true
theorem notSet_ok {e : Expr} {env : Env} (h : notSet e = true) : ∀ x, foldedSetIterable e env x = pure x := fun x => by
  cases e <;> first | rfl | cases h
def subB (a b : List Nat) : Bool := a.all fun i => b.contains i
def isTup : Expr → Bool
  | .Tuple .. => true
  | _ => false
def opOk : Operator → Bool
  | .Add | .Mult | .Sub | .FloorDiv | .Mod | .Pow => true
  | _ => false
def blkSC (C : SC) (scope : Scope) : SC := { N := C.N, sc := relS scope C.sc, blk := some scope }
section
variable (G : Gn)
mutual
def chkE : ME → SC → Expr → Bool
  | .var i, C, e => match e with
    | .Name x _ => nmI C i x && visB C x && !(x == ("__debug__" : Str)) && !(x == ("__classdict__" : Str))
    | _ => false
  | .non, _, e => match e with
    | .Constant .none _ _ => true
    | _ => false
  | .bl b, _, e => match e with
    | .Constant (.bool c) _ _ => b == c
    | _ => false
  | .int i, _, e => match e with
    | .Constant (.int c) _ _ => i == c
    | _ => false
  | .str x, _, e => match e with
    | .Constant (.str c) _ _ => x == c
    | _ => false
  | .glo y, C, e => match e with
    | .Name x _ => glB C x && (y == x) && G.cns.contains x && (G.cn x).isSome
    | _ => false
  | .ty n, C, e => match e with
    | .Name x _ => bfB G C x && (x == Str.ofString n) && tyNames.contains n
    | _ => false
  | .bin _ o x y, C, e => match e with
    | .BinOp a p b _ => opOk o && (o == p) && chkE x C a && chkE y C b
    | _ => false
  | .cmp _ o x y, C, e => match e with
    | .Compare a [p] [b] _ => (o == p) && !behindInMarks p b && chkE x C a && chkE y C b
    | _ => false
  | .chain o o' x y z, C, e => match e with
    | .Compare a [p, p'] [b, c] _ => (o == p) && (o' == p') && !lastMarks [p, p'] [b, c] && chkE x C a && chkE y C b && chkE z C c
    | _ => false
  | .neg x, C, e => match e with
    | .UnaryOp .USub a _ => chkE x C a
    | _ => false
  | .not x, C, e => match e with
    | .UnaryOp .Not a _ => chkE x C a
    | _ => false
  | .one x, C, e => match e with
    | .BoolOp _ [a] _ => chkE x C a
    | _ => false
  | .and x y, C, e => match e with
    | .BoolOp .And (a :: b :: r) p => chkE x C a && chkE y C (.BoolOp .And (b :: r) p)
    | _ => false
  | .or x y, C, e => match e with
    | .BoolOp .Or (a :: b :: r) p => chkE x C a && chkE y C (.BoolOp .Or (b :: r) p)
    | _ => false
  | .ite t x y, C, e => match e with
    | .IfExp c a b _ => chkT t C c && chkE x C a && chkE y C b
    | _ => false
  | .tup es, C, e => match e with
    | .Tuple els _ _ => chkA es C els
    | _ => false
  | .lst _ es, C, e => match e with
    | .List els _ => chkA es C els
    | _ => false
  | .idx x i, C, e => match e with
    | .Subscript a s _ => notSlice s && chkE x C a && chkE i C s
    | _ => false
  | .sli _ x lo hi, C, e => match e with
    | .Subscript a (.Slice l u none _) _ => chkE x C a && chkO lo C l && chkO hi C u
    | _ => false
  | .call i n es, C, e => match e with
    | .Call (.Name x _) args [] _ => glB C x && (G.fns.lookup i == some (x, n)) && args.all notStar && chkA es C args
    | _ => false
  | .callk j i n pm es, C, e => match e with
    | .Call (.Name x _) [] kws _ => glB C x && (match G.kws[j]?, G.fns.lookup i with
      | some (i', ks, pm'), some p => (i' == i) && (pm' == pm) && (ks.length == n) && (p.1 == x) && (kws.map (·.arg) == ks.map some)
      | _, _ => false) && chkK es C kws
    | _ => false
  | .bif f es, C, e => match e with
    | .Call (.Name x _) (a :: r) [] _ => (x == f.nm) && bfB G C x && (a :: r).all notStar && chkA es C (a :: r)
    | _ => false
  | .sset _ x, C, e => match e with
    | .Call (.Name s _) [.Call (.Name t _) [a] [] _] [] _ => (s == ("sorted" : Str)) && (t == ("set" : Str)) && bfB G C s && bfB G C t && notStar a && chkE x C a
    | _ => false
  | .split _ o x, C, e => match e with
    | .Call (.Attribute ob nm ap) [a] [] p => (nm == ("split" : Str)) && notStar a && noCall ob && (ap.endLine == p.line) && chkE o C ob && chkE x C a
    | _ => false
  | .join o x, C, e => match e with
    | .Call (.Attribute ob nm ap) [a] [] p => (nm == ("join" : Str)) && notStar a && noCall ob && (ap.endLine == p.line) && chkE o C ob && chkE x C a
    | _ => false
  | .append o x, C, e => match e with
    | .Call (.Attribute ob nm ap) [a] [] p => (nm == ("append" : Str)) && notStar a && noCall ob && (ap.endLine == p.line) && chkE o C ob && chkE x C a
    | _ => false
  | .pop0 o, C, e => match e with
    | .Call (.Attribute ob nm ap) [] [] p => (nm == ("pop" : Str)) && noCall ob && (ap.endLine == p.line) && chkE o C ob
    | _ => false
  | .comp _ it tg own c x, C, e => match e with
    | .ListComp elt [⟨t, iter, ifs, 0⟩] scope _ => chkI it C t iter && notSet iter && blkC C.N C.sc scope own && chkG (blkSC C scope) tg t && subB (slT tg) (own.map (·.2)) && chkC c (blkSC C scope) ifs && chkE x (blkSC C scope) elt
    | _ => false
def chkA : MEs → SC → List Expr → Bool
  | .nil, _, es => match es with
    | [] => true
    | _ => false
  | .cons x r, C, es => match es with
    | e :: es => notStar e && chkE x C e && chkA r C es
    | _ => false
def chkK : MEs → SC → List Keyword → Bool
  | .nil, _, es => match es with
    | [] => true
    | _ => false
  | .cons x r, C, es => match es with
    | ⟨_, e, _⟩ :: es => chkE x C e && chkK r C es
    | _ => false
def chkO : MO → SC → Option Expr → Bool
  | .none, _, e => match e with
    | none => true
    | _ => false
  | .some x, C, e => match e with
    | some e => chkE x C e
    | _ => false
def chkC : MC → SC → List Expr → Bool
  | .none, _, e => match e with
    | [] => true
    | _ => false
  | .some x, C, e => match e with
    | [e] => chkT x C e
    | _ => false
def chkI : MI → SC → Expr → Expr → Bool
  | .seq x, C, _, e => chkE x C e
  | .rng1 x, C, _, e => match e with
    | .Call (.Name s _) [a] [] _ => (s == ("range" : Str)) && bfB G C s && notStar a && chkE x C a
    | _ => false
  | .rng2 x y, C, _, e => match e with
    | .Call (.Name s _) [a, b] [] _ => (s == ("range" : Str)) && bfB G C s && notStar a && notStar b && chkE x C a && chkE y C b
    | _ => false
  | .enum x, C, t, e => match e with
    | .Call (.Name s _) [a] [] _ => (s == ("enumerate" : Str)) && bfB G C s && isTup t && notStar a && chkE x C a
    | _ => false
  | .zip x y, C, t, e => match e with
    | .Call (.Name s _) [a, b] [] _ => (s == ("zip" : Str)) && bfB G C s && isTup t && notStar a && notStar b && chkE x C a && chkE y C b
    | _ => false
def chkT : MT → SC → Expr → Bool
  | .val x, C, e => plainTest e && chkE x C e
  | .cmp _ o x y, C, e => match e with
    | .Compare a [p] [b] _ => (o == p) && !behindInMarks p b && chkE x C a && chkE y C b
    | _ => false
  | .chain o o' x y z, C, e => match e with
    | .Compare a [p, p'] [b, c] _ => (o == p) && (o' == p') && !lastMarks [p, p'] [b, c] && chkE x C a && chkE y C b && chkE z C c
    | _ => false
  | .not x, C, e => match e with
    | .UnaryOp .Not a _ => chkT x C a
    | _ => false
  | .one x, C, e => match e with
    | .BoolOp _ [a] _ => chkT x C a
    | _ => false
  | .and x y, C, e => match e with
    | .BoolOp .And (a :: b :: r) p => chkT x C a && chkT y C (.BoolOp .And (b :: r) p)
    | _ => false
  | .or x y, C, e => match e with
    | .BoolOp .Or (a :: b :: r) p => chkT x C a && chkT y C (.BoolOp .Or (b :: r) p)
    | _ => false
  | .ite t x y, C, e => match e with
    | .IfExp c a b _ => chkT t C c && chkT x C a && chkT y C b
    | _ => false
end
end
end MM
end

section
set_option Elab.async false
set_option linter.all false
set_option maxRecDepth 100000
set_option maxHeartbeats 8000000
namespace MM
open PySem PySem.Spec PyProof.Rows L2

structure At (cad : Cad) (G : Gn) (C : SC) (W : WX) (X : Cx) : Prop where
  hN : X.N = C.N
  nd : C.N.Nodup
  sc : X.env.scope = C.sc
  fn : ∀ x, X.fn x = C.fn x
  calm : X.calm = true
  tk : Takes X W
  un : X.A.units + 64 < cLine
  gd : X.A.guards = some []
  sm : ∃ o, X.base.get? sysModules = some o
  kk : X.K = G.K
  free : ∀ x, G.free.contains x = true → X.mg x = none
  cst : ∀ (x : Str) (d : D), G.cns.contains x = true → G.cn x = some d → ∃ v u, X.mg x = some u ∧ RelV v u ∧ ∀ H h, Rep H h d v
  fns : ∀ (i : Nat) (x : Str) (n : Nat), G.fns.lookup i = some (x, n) → ∃ k f fd ps, FnG X.prog X.w X.K X.mg X.base k f fd ps (lift cad n (G.T i)) ∧ n = ps.length ∧ Room k X.A ∧ X.mg x = some (.ref f) ∧ PySem.W.keepIn X.K (.ref f) = true ∧ Binds X.K fd ps [] ∧
    ∀ (j : Nat) (ks : List Str) (pm : List Nat), G.kws[j]? = some (i, ks, pm) → KwOk X.K fd ps ks pm
section
variable {cad : Cad} {G : Gn} {C : SC} {W : WX} {X : Cx}
theorem At.gl {x : Str} (A : At cad G C W X) (h : glB C x = true) : Gl X x ∧ (x == ("__debug__" : Str)) = false := by
  unfold glB at h
  simp only [Bool.and_eq_true, beq_iff_eq, Bool.not_eq_true'] at h
  refine ⟨?_, h.2⟩
  show X.env.scope.names.lookup x = _
  rw [A.sc]; exact h.1
theorem At.bf {x : Str} (A : At cad G C W X) (h : bfB G C x = true) : Gl X x ∧ (x == ("__debug__" : Str)) = false ∧ X.mg x = none ∧ x ≠ "__name__" := by
  unfold bfB at h
  simp only [Bool.and_eq_true, Bool.not_eq_true'] at h
  obtain ⟨⟨h1, h2⟩, h3⟩ := h
  obtain ⟨a, b⟩ := A.gl h1
  exact ⟨a, b, A.free x h2, fun z => by rw [z] at h3; simp at h3⟩
theorem At.blk {s : Shared} {H : Hp} {scope : Scope} {c : Addr} {cl : List (Str × Addr)} {fp : List Addr} (A : At cad G C W X) : At cad G (blkSC C scope) W0 (X.blk s H scope (compEnvC scope cl c X.env) fp) := by
  refine ⟨A.hN, A.nd, ?_, fun x => rfl, A.calm, takes0, A.un, A.gd, A.sm, A.kk, A.free, A.cst, A.fns⟩
  show relabel scope X.env = relS scope C.sc
  rw [← A.sc]; rfl
theorem vis_of {o : Option NameKind} (h : isVis o = true) : o = some .local ∨ o = some .cell ∨ o = some .free := by
  unfold isVis at h
  split at h <;> first | exact .inl rfl | exact .inr (.inl rfl) | exact .inr (.inr rfl) | cases h
theorem At.st {x : Str} (A : At cad G C W X) (h : stB C x = true) : L2.Loc X.env.scope x ∧ (X.fn x = true ∨ X.env.scope.names.lookup x = some .local) := by
  unfold stB at h
  unfold L2.Loc
  rw [A.sc, A.fn]
  split at h
  · rename_i e; rw [e]; exact ⟨.inl rfl, .inr rfl⟩
  · rename_i e; rw [e]; exact ⟨.inr rfl, .inl h⟩
  · cases h
theorem At.ix {i : Nat} {x : Str} (A : At cad G C W X) (h : nmI C i x = true) : X.N[i]? = some x := by
  unfold nmI at h
  rw [A.hN]; exact beq_iff_eq.mp h
theorem ty_boot : ∀ n ∈ tyNames, bootBuiltins (Str.ofString n) = some (.type n) := by
  intro n h
  have h' : n = "int" ∨ n = "str" ∨ n = "bool" ∨ n = "tuple" ∨ n = "list" ∨ n = "dict" ∨ n = "object" ∨ n = "type" := by simpa [tyNames] using h
  rcases h' with rfl | rfl | rfl | rfl | rfl | rfl | rfl | rfl
  · exact boot_int
  · exact boot_str
  · exact boot_bool
  · exact boot_tuple
  · exact boot_list
  · exact boot_dict
  · exact boot_object
  · exact boot_type
theorem bin_ok {b : Bool} {o : Operator} (A : At cad G C W X) (h : opOk o = true) : OpD cad X (binaryOp o) (opS b o) := by
  have hu := A.un
  cases o <;> first
    | exact od_add
    | exact od_mul
    | exact od_sub
    | exact od_fdiv
    | exact od_mod
    | exact od_pow
    | cases h
theorem od_inS : OpD cad X (compareOp .In) sInS := by
  refine ⟨_, op_in_sign, fun H h x y v u Q Qm rh rx ry ⟨c, z, e1, e2, q⟩ k => ?_⟩
  subst e1 e2
  exact ⟨c, z, rx, ry, k (.bl _) h _ H Ext.refl rh rfl q⟩
theorem cmp_ok {v : Nat} {o : CmpOp} (A : At cad G C W X) : OpD cad X (compareOp o) (cmpS v o) := by
  have hu := A.un
  cases o <;> first
    | exact od_eq hu
    | exact od_ne hu
    | exact od_lt hu
    | exact od_le hu
    | exact od_gt hu
    | exact od_ge hu
    | exact od_is
    | exact od_isnot
    | exact od_notin hu
    | skip
  cases v with
  | zero => exact od_in hu
  | succ n => exact od_inS
theorem bf_ok (A : At cad G C W X) : ∀ f : BF, (∃ id, CallD cad X (.builtin id) f.s ∧ bootBuiltins f.nm = some (.builtin id)) ∨ (∃ T, CallD cad X (.type T) f.s ∧ bootBuiltins f.nm = some (.type T))
  | .len => .inl ⟨_, cd_len, boot_len⟩
  | .abs => .inl ⟨_, cd_abs, boot_abs⟩
  | .sum => .inl ⟨_, cd_sum A.calm, boot_sum⟩
  | .any => .inl ⟨_, cd_any A.calm, boot_any⟩
  | .all => .inl ⟨_, cd_all A.calm, boot_all⟩
  | .min => .inl ⟨_, cd_min A.calm, boot_min⟩
  | .max => .inl ⟨_, cd_max A.calm, boot_max⟩
  | .tuple => .inr ⟨_, cd_tuple, boot_tuple⟩
  | .list _ => .inr ⟨_, cd_list, boot_list⟩
  | .str => .inr ⟨_, cd_str, boot_str⟩
  | .int => .inr ⟨_, cd_int, boot_int⟩
  | .repr => .inl ⟨_, cd_repr A.un A.gd A.sm, boot_repr⟩
  | .sorted _ => .inl ⟨_, cd_sorted A.un, boot_sorted⟩
  | .isi => .inl ⟨_, cd_isi, boot_isinstance⟩
theorem chkGs_star {C : SC} : ∀ {ts : Tgs} {es : List Expr}, chkGs C ts es = true → es.all notStar = true ∧ es.length = lnTs ts
  | .nil, es, h => by
    unfold chkGs at h
    split at h
    · exact ⟨rfl, rfl⟩
    · cases h
  | .cons t r, es, h => by
    unfold chkGs at h
    split at h
    · simp only [Bool.and_eq_true] at h
      obtain ⟨a, b⟩ := chkGs_star h.2
      exact ⟨by rw [List.all_cons, h.1.1, a]; rfl, by rw [List.length_cons, b]; rfl⟩
    · cases h
mutual
theorem sgT (A : At cad G C W X) : ∀ (t : Tg) {e : Expr}, chkG C t e = true → SG cad X e (wpG t) (slT t)
  | .nm i, e, h => by
    unfold chkG at h
    split at h
    · rw [Bool.and_eq_true] at h
      obtain ⟨a, b⟩ := A.st h.2
      unfold wpG slT
      exact sg_name (by rw [A.hN]; exact A.nd) (A.ix h.1) a b
    · cases h
  | .tp ts, e, h => by
    unfold chkG at h
    split at h
    · obtain ⟨a, b⟩ := chkGs_star h
      unfold wpG slT
      rw [← b]
      exact sg_tup A.calm (sgTs A ts h) a
    · cases h
theorem sgTs (A : At cad G C W X) : ∀ (ts : Tgs) {es : List Expr}, chkGs C ts es = true → SGs cad X es (wpGs ts) (slTs ts)
  | .nil, es, h => by
    unfold chkGs at h
    split at h
    · unfold wpGs slTs; exact sgs_nil
    · cases h
  | .cons t r, es, h => by
    unfold chkGs at h
    split at h
    · simp only [Bool.and_eq_true] at h
      unfold wpGs slTs
      exact sgs_cons (sgT A t h.1.2) (sgTs A r h.2) h.1.1
    · cases h
end
theorem chkA_star : ∀ {ms : MEs} {C : SC} {es : List Expr}, chkA G ms C es = true → es.all notStar = true
  | .nil, _, es, h => by
    unfold chkA at h
    split at h
    · rfl
    · cases h
  | .cons t r, _, es, h => by
    unfold chkA at h
    split at h
    · simp only [Bool.and_eq_true] at h
      rw [List.all_cons, h.1.1, chkA_star h.2]; rfl
    · cases h
theorem sub_of {a b : List Nat} (h : subB a b = true) : ∀ i ∈ a, i ∈ b := fun i hi => by
  unfold subB at h
  rw [List.all_eq_true] at h
  simpa using h i hi
end

mutual
theorem sE {cad : Cad} {G : Gn} : ∀ (m : ME) {C : SC} {W : WX} {X : Cx} {e : Expr}, At cad G C W X → chkE G m C e = true → SE cad W X e (wpE G.toGw m)
  | .var i, C, W, X, e, A, h => by
    unfold chkE at h; split at h
    · simp only [Bool.and_eq_true, Bool.not_eq_true'] at h
      obtain ⟨⟨⟨h1, h2⟩, h3⟩, h4⟩ := h
      unfold wpE
      exact se_var (pe_var (A.ix h1) (by have z := vis_of h2; rw [← A.sc] at z; exact z) h3 h4)
    · cases h
  | .non, C, W, X, e, A, h => by
    unfold chkE at h; split at h
    · unfold wpE; exact se_c (v := .non) pe_non fun _ _ => rfl
    · cases h
  | .bl b, C, W, X, e, A, h => by
    unfold chkE at h; split at h
    · rw [beq_iff_eq] at h; subst h; unfold wpE; exact se_c (v := .bl b) pe_bl fun _ _ => rfl
    · cases h
  | .int b, C, W, X, e, A, h => by
    unfold chkE at h; split at h
    · rw [beq_iff_eq] at h; subst h; unfold wpE; exact se_c (v := .int b) pe_int fun _ _ => rfl
    · cases h
  | .str b, C, W, X, e, A, h => by
    unfold chkE at h; split at h
    · rw [beq_iff_eq] at h; subst h; unfold wpE; exact se_c (v := .str b) pe_str fun _ _ => rfl
    · cases h
  | .glo y, C, W, X, e, A, h => by
    unfold chkE at h; split at h
    · simp only [Bool.and_eq_true, beq_iff_eq] at h
      obtain ⟨⟨⟨h1, h2⟩, h3⟩, h4⟩ := h
      subst h2
      obtain ⟨a, b⟩ := A.gl h1
      obtain ⟨d, hd⟩ := Option.isSome_iff_exists.mp h4
      obtain ⟨v, u, m1, m2, m3⟩ := A.cst _ d h3 hd
      unfold wpE
      rw [hd]
      exact se_c (pe_glob a m1 m2 b) m3
    · cases h
  | .ty n, C, W, X, e, A, h => by
    unfold chkE at h; split at h
    · simp only [Bool.and_eq_true, beq_iff_eq] at h
      obtain ⟨⟨h1, h2⟩, h3⟩ := h
      obtain ⟨a, b, c, d⟩ := A.bf h1
      unfold wpE
      subst h2
      exact se_c (v := .ty n) (pe_bltn a c (ty_boot n (by simpa using h3)) rfl d b) fun _ _ => rfl
    · cases h
  | .bin f o x y, C, W, X, e, A, h => by
    unfold chkE at h; split at h
    · simp only [Bool.and_eq_true, beq_iff_eq] at h
      obtain ⟨⟨⟨h1, h2⟩, h3⟩, h4⟩ := h
      subst h2
      unfold wpE
      exact se_bin (bin_ok A h1) (sE x A h3) (sE y A h4)
    · cases h
  | .cmp v o x y, C, W, X, e, A, h => by
    unfold chkE at h; split at h
    · simp only [Bool.and_eq_true, beq_iff_eq, Bool.not_eq_true'] at h
      obtain ⟨⟨⟨h1, h2⟩, h3⟩, h4⟩ := h
      subst h1
      unfold wpE
      exact se_cmp (cmp_ok A) h2 (sE x A h3) (sE y A h4)
    · cases h
  | .chain o o' x y z, C, W, X, e, A, h => by
    unfold chkE at h; split at h
    · simp only [Bool.and_eq_true, beq_iff_eq, Bool.not_eq_true'] at h
      obtain ⟨⟨⟨⟨⟨h1, h1'⟩, h2⟩, h3⟩, h4⟩, h5⟩ := h
      subst h1; subst h1'
      unfold wpE
      exact se_chain (cmp_ok A) (cmp_ok A) h2 (sE x A h3) (sE y A h4) (sE z A h5)
    · cases h
  | .neg x, C, W, X, e, A, h => by
    unfold chkE at h; split at h
    · unfold wpE; exact se_neg (sE x A h)
    · cases h
  | .not x, C, W, X, e, A, h => by
    unfold chkE at h; split at h
    · unfold wpE; exact se_not (sE x A h)
    · cases h
  | .one x, C, W, X, e, A, h => by
    unfold chkE at h; split at h
    · unfold wpE; exact se_one (sE x A h)
    · cases h
  | .and x y, C, W, X, e, A, h => by
    unfold chkE at h; split at h
    · rw [Bool.and_eq_true] at h
      unfold wpE; exact se_and (sE x A h.1) (sE y A h.2)
    · cases h
  | .or x y, C, W, X, e, A, h => by
    unfold chkE at h; split at h
    · rw [Bool.and_eq_true] at h
      unfold wpE; exact se_or (sE x A h.1) (sE y A h.2)
    · cases h
  | .ite t x y, C, W, X, e, A, h => by
    unfold chkE at h; split at h
    · simp only [Bool.and_eq_true] at h
      unfold wpE; exact se_ite (sT t A h.1.1).1 (sE x A h.1.2) (sE y A h.2)
    · cases h
  | .tup es, C, W, X, e, A, h => by
    unfold chkE at h; split at h
    · unfold wpE; exact se_tup (sA es A h)
    · cases h
  | .lst b es, C, W, X, e, A, h => by
    unfold chkE at h; split at h
    · unfold wpE; exact se_lst (sA es A h)
    · cases h
  | .idx x i, C, W, X, e, A, h => by
    unfold chkE at h; split at h
    · simp only [Bool.and_eq_true] at h
      unfold wpE; exact se_idx h.1.1 (sE x A h.1.2) (sE i A h.2)
    · cases h
  | .sli b x lo hi, C, W, X, e, A, h => by
    unfold chkE at h; split at h
    · simp only [Bool.and_eq_true] at h
      unfold wpE; rw [← A.kk]; exact se_slice (sE x A h.1.1) (sO lo A h.1.2) (sO hi A h.2)
    · cases h
  | .call i n es, C, W, X, e, A, h => by
    unfold chkE at h; split at h
    · rename_i x p args pos
      simp only [Bool.and_eq_true, beq_iff_eq] at h
      obtain ⟨⟨⟨h1, h2⟩, h3⟩, h4⟩ := h
      obtain ⟨a, b⟩ := A.gl h1
      obtain ⟨k, f, fd, ps, F, _, hr, hm, hk, hb, _⟩ := A.fns i x n h2
      unfold wpE
      cases args with
      | nil =>
        have e1 : es = .nil := by
          cases es with
          | nil => rfl
          | cons x r => unfold chkA at h4; cases h4
        subst e1
        unfold wpA
        exact se_uc0 F hr A.gd a hm hk hb A.tk b
      | cons e r => exact se_uc F hr A.gd a hm hk hb A.tk (sA es A h4) b h3
    · cases h
  | .callk j i n pm es, C, W, X, e, A, h => by
    unfold chkE at h; split at h
    · rename_i x p kws pos
      simp only [Bool.and_eq_true] at h
      obtain ⟨⟨h1, h2⟩, h4⟩ := h
      obtain ⟨a, b⟩ := A.gl h1
      split at h2
      · rename_i i' ks pm' q hj hq
        obtain ⟨y, n'⟩ := q
        simp only [Bool.and_eq_true, beq_iff_eq] at h2
        obtain ⟨⟨⟨⟨h2, h3⟩, h5⟩, h6⟩, h7⟩ := h2
        subst h2 h3 h5 h6
        obtain ⟨k, f, fd, ps, F, hn, hr, hm, hk, hb, hkw⟩ := A.fns _ _ _ hq
        unfold wpE
        exact se_uk F hr A.gd a hm hk (hkw j ks _ hj) hn A.tk h7 (sK es A h4) b
      · cases h2
    · cases h
  | .bif f es, C, W, X, e, A, h => by
    unfold chkE at h; split at h
    · simp only [Bool.and_eq_true, beq_iff_eq] at h
      obtain ⟨⟨⟨h1, h2⟩, h3⟩, h4⟩ := h
      obtain ⟨a, b, c, d⟩ := A.bf h2
      subst h1
      unfold wpE
      rcases bf_ok A f with ⟨id, o, hv⟩ | ⟨T, o, hv⟩
      · exact se_bi o a c hv d b h3 (sA es A h4)
      · exact se_ty o a c hv d b h3 (sA es A h4)
    · cases h
  | .sset b x, C, W, X, e, A, h => by
    unfold chkE at h; split at h
    · simp only [Bool.and_eq_true, beq_iff_eq] at h
      obtain ⟨⟨⟨⟨⟨h1, h2⟩, h3⟩, h4⟩, h5⟩, h6⟩ := h
      subst h1; subst h2
      obtain ⟨a, _, c, _⟩ := A.bf h3
      obtain ⟨a', _, c', _⟩ := A.bf h4
      unfold wpE
      exact se_sortedSet A.calm a c a' c' h5 (sE x A h6)
    · cases h
  | .split b o x, C, W, X, e, A, h => by
    unfold chkE at h; split at h
    · simp only [Bool.and_eq_true, beq_iff_eq] at h
      obtain ⟨⟨⟨⟨⟨h1, h2⟩, h3⟩, h4⟩, h5⟩, h6⟩ := h
      subst h1
      unfold wpE
      exact se_split (sE o A h5) (sE x A h6) h2 h3 (beq_iff_eq.mpr h4)
    · cases h
  | .join o x, C, W, X, e, A, h => by
    unfold chkE at h; split at h
    · simp only [Bool.and_eq_true, beq_iff_eq] at h
      obtain ⟨⟨⟨⟨⟨h1, h2⟩, h3⟩, h4⟩, h5⟩, h6⟩ := h
      subst h1
      unfold wpE
      exact se_join (sE o A h5) (sE x A h6) h2 h3 (beq_iff_eq.mpr h4)
    · cases h
  | .append o x, C, W, X, e, A, h => by
    unfold chkE at h; split at h
    · simp only [Bool.and_eq_true, beq_iff_eq] at h
      obtain ⟨⟨⟨⟨⟨h1, h2⟩, h3⟩, h4⟩, h5⟩, h6⟩ := h
      subst h1
      unfold wpE
      exact se_bm F.slot_list_append F.type_list_append md_append (sE o A h5) (sa_cons (sE x A h6) sa_nil h2) (by rw [List.all_cons, h2]; rfl) (by show 1 < 30; decide) h3 (beq_iff_eq.mpr h4)
    · cases h
  | .pop0 o, C, W, X, e, A, h => by
    unfold chkE at h; split at h
    · simp only [Bool.and_eq_true, beq_iff_eq] at h
      obtain ⟨⟨⟨h1, h3⟩, h4⟩, h5⟩ := h
      subst h1
      unfold wpE
      exact se_bm0 F.slot_list_pop F.type_list_pop md_pop (sE o A h5) h3 (beq_iff_eq.mpr h4)
    · cases h
  | .comp b it tg own c x, C, W, X, e, A, h => by
    unfold chkE at h; split at h
    · simp only [Bool.and_eq_true] at h
      obtain ⟨⟨⟨⟨⟨⟨h1, h2⟩, h3⟩, h4⟩, h5⟩, h6⟩, h7⟩ := h
      unfold wpE
      exact se_comp A.calm (by rw [A.hN]; exact A.nd) (sI it A h1) (by rw [A.hN, A.sc]; exact blkOk_by h3) (fun s H c cl fp => sgT A.blk tg h4) (fun s H c' cl fp => sC c A.blk h6) (fun s H c cl fp => sE x A.blk h7) (notSet_ok h2) (sub_of h5)
    · cases h
theorem sA {cad : Cad} {G : Gn} : ∀ (m : MEs) {C : SC} {W : WX} {X : Cx} {e : List Expr}, At cad G C W X → chkA G m C e = true → SA cad W X e (wpA G.toGw m)
  | .nil, C, W, X, e, A, h => by
    unfold chkA at h; split at h
    · unfold wpA; exact sa_nil
    · cases h
  | .cons x r, C, W, X, e, A, h => by
    unfold chkA at h; split at h
    · simp only [Bool.and_eq_true] at h
      unfold wpA; exact sa_cons (sE x A h.1.2) (sA r A h.2) h.1.1
    · cases h
theorem sK {cad : Cad} {G : Gn} : ∀ (m : MEs) {C : SC} {W : WX} {X : Cx} {e : List Keyword}, At cad G C W X → chkK G m C e = true → SK cad W X e (wpA G.toGw m)
  | .nil, C, W, X, e, A, h => by
    unfold chkK at h; split at h
    · unfold wpA; exact sk_nil
    · cases h
  | .cons x r, C, W, X, e, A, h => by
    unfold chkK at h; split at h
    · simp only [Bool.and_eq_true] at h
      unfold wpA; exact sk_cons (sE x A h.1) (sK r A h.2)
    · cases h
theorem sO {cad : Cad} {G : Gn} : ∀ (m : MO) {C : SC} {W : WX} {X : Cx} {e : Option Expr}, At cad G C W X → chkO G m C e = true → SO cad W X e (wpO G.toGw m)
  | .none, C, W, X, e, A, h => by
    unfold chkO at h; split at h
    · unfold wpO; exact so_none
    · cases h
  | .some x, C, W, X, e, A, h => by
    unfold chkO at h; split at h
    · unfold wpO; exact so_some (sE x A h)
    · cases h
theorem sC {cad : Cad} {G : Gn} : ∀ (m : MC) {C : SC} {W : WX} {X : Cx} {e : List Expr}, At cad G C W X → chkC G m C e = true → PTs X e (upT cad W (wpC G.toGw m))
  | .none, C, W, X, e, A, h => by
    unfold chkC at h; split at h
    · unfold wpC; exact pts_none
    · cases h
  | .some x, C, W, X, e, A, h => by
    unfold chkC at h; split at h
    · unfold wpC; exact pts_one (sT x A h).1
    · cases h
theorem sI {cad : Cad} {G : Gn} : ∀ (m : MI) {C : SC} {W : WX} {X : Cx} {t e : Expr}, At cad G C W X → chkI G m C t e = true → SI cad W X t e (wpI G.toGw m)
  | .seq x, C, W, X, t, e, A, h => by
    unfold chkI at h
    unfold wpI; exact si_seq (sE x A h)
  | .rng1 x, C, W, X, t, e, A, h => by
    unfold chkI at h; split at h
    · simp only [Bool.and_eq_true, beq_iff_eq] at h
      obtain ⟨⟨⟨h1, h2⟩, h3⟩, h4⟩ := h
      subst h1
      obtain ⟨a, b, c, d⟩ := A.bf h2
      unfold wpI; exact si_rng1 a c h3 (sa_cons (sE x A h4) sa_nil h3)
    · cases h
  | .rng2 x y, C, W, X, t, e, A, h => by
    unfold chkI at h; split at h
    · simp only [Bool.and_eq_true, beq_iff_eq] at h
      obtain ⟨⟨⟨⟨⟨h1, h2⟩, h3⟩, h3'⟩, h4⟩, h5⟩ := h
      subst h1
      obtain ⟨a, b, c, d⟩ := A.bf h2
      unfold wpI; exact si_rng2 a c h3 h3' (sa_cons (sE x A h4) (sa_cons (sE y A h5) sa_nil h3') h3)
    · cases h
  | .enum x, C, W, X, t, e, A, h => by
    unfold chkI at h; split at h
    · simp only [Bool.and_eq_true, beq_iff_eq] at h
      obtain ⟨⟨⟨⟨h1, h2⟩, h0⟩, h3⟩, h4⟩ := h
      subst h1
      obtain ⟨a, b, c, d⟩ := A.bf h2
      unfold isTup at h0
      split at h0
      · unfold wpI; exact si_enum a c h3 (sa_cons (sE x A h4) sa_nil h3)
      · cases h0
    · cases h
  | .zip x y, C, W, X, t, e, A, h => by
    unfold chkI at h; split at h
    · simp only [Bool.and_eq_true, beq_iff_eq] at h
      obtain ⟨⟨⟨⟨⟨⟨h1, h2⟩, h0⟩, h3⟩, h3'⟩, h4⟩, h5⟩ := h
      subst h1
      obtain ⟨a, b, c, d⟩ := A.bf h2
      unfold isTup at h0
      split at h0
      · unfold wpI; exact si_zip a c h3 h3' (sa_cons (sE x A h4) (sa_cons (sE y A h5) sa_nil h3') h3)
      · cases h0
    · cases h
theorem sT {cad : Cad} {G : Gn} : ∀ (m : MT) {C : SC} {W : WX} {X : Cx} {e : Expr}, At cad G C W X → chkT G m C e = true → ST cad W X e (wpT G.toGw m) ∧ (∀ o es p, e = .BoolOp o es p → SW cad W X e (wpT G.toGw m))
  | .val x, C, W, X, e, A, h => by
    unfold chkT at h
    rw [Bool.and_eq_true] at h
    unfold wpT
    refine ⟨st_val (sE x A h.2) h.1, fun o es p z => ?_⟩
    subst z
    cases h.1
  | .cmp v o x y, C, W, X, e, A, h => by
    unfold chkT at h; split at h
    · simp only [Bool.and_eq_true, beq_iff_eq, Bool.not_eq_true'] at h
      obtain ⟨⟨⟨h1, h2⟩, h3⟩, h4⟩ := h
      subst h1
      unfold wpT
      exact ⟨st_cmp (cmp_ok A) h2 (sE x A h3) (sE y A h4), fun _ _ _ z => nomatch z⟩
    · cases h
  | .chain o o' x y z, C, W, X, e, A, h => by
    unfold chkT at h; split at h
    · simp only [Bool.and_eq_true, beq_iff_eq, Bool.not_eq_true'] at h
      obtain ⟨⟨⟨⟨⟨h1, h1'⟩, h2⟩, h3⟩, h4⟩, h5⟩ := h
      subst h1; subst h1'
      unfold wpT
      exact ⟨st_chain (cmp_ok A) (cmp_ok A) h2 (sE x A h3) (sE y A h4) (sE z A h5), fun _ _ _ z => nomatch z⟩
    · cases h
  | .not x, C, W, X, e, A, h => by
    unfold chkT at h; split at h
    · unfold wpT; exact ⟨st_not (sT x A h).1, fun _ _ _ z => nomatch z⟩
    · cases h
  | .one x, C, W, X, e, A, h => by
    unfold chkT at h; split at h
    · rename_i o a p
      unfold wpT
      have s := (sT x A h).1
      cases o with
      | And => exact ⟨st_of_sw (sw_and1 s), fun _ _ _ _ => sw_and1 s⟩
      | Or => exact ⟨st_of_sw (sw_or1 s), fun _ _ _ _ => sw_or1 s⟩
    · cases h
  | .and x y, C, W, X, e, A, h => by
    unfold chkT at h; split at h
    · rw [Bool.and_eq_true] at h
      unfold wpT
      have s := sw_and (sT x A h.1).1 ((sT y A h.2).2 _ _ _ rfl)
      exact ⟨st_of_sw s, fun _ _ _ _ => s⟩
    · cases h
  | .or x y, C, W, X, e, A, h => by
    unfold chkT at h; split at h
    · rw [Bool.and_eq_true] at h
      unfold wpT
      have s := sw_or (sT x A h.1).1 ((sT y A h.2).2 _ _ _ rfl)
      exact ⟨st_of_sw s, fun _ _ _ _ => s⟩
    · cases h
  | .ite t x y, C, W, X, e, A, h => by
    unfold chkT at h; split at h
    · simp only [Bool.and_eq_true] at h
      unfold wpT
      exact ⟨st_ite (sT t A h.1.1).1 (sT x A h.1.2).1 (sT y A h.2).1, fun _ _ _ z => nomatch z⟩
    · cases h
end
end MM
end

section
set_option Elab.async false
set_option linter.all false
set_option maxRecDepth 100000
set_option maxHeartbeats 8000000
namespace MM
open PySem PySem.Spec PyProof.Rows L2

def swN : Expr → Expr → Bool
  | .Tuple ts _ _, e => match e with
    | .Tuple vs _ _ => vs.all (foldedForSure 8) || !(ts.length == 2 || ts.length == 3)
    | _ => true
  | .List .., _ => false
  | _, _ => true
theorem swN_ok {t e : Expr} {env : Env} (h : swN t e = true) : swappedStores [t] e env = pure none := by
  cases t with
  | Tuple ts k p =>
    cases e with
    | Tuple vs k' p' =>
      have h : (vs.all (foldedForSure 8) || !(ts.length == 2 || ts.length == 3)) = true := h
      rw [Bool.or_eq_true] at h
      unfold swappedStores
      dsimp only
      split
      · rfl
      · rename_i h1
        split
        · rfl
        · split
          · rfl
          · rcases h with h | h
            · rw [if_pos h]
            · rw [h, Bool.true_or, Bool.true_or] at h1
              exact absurd rfl h1
    | _ => rfl
  | List => cases h
  | _ => rfl
def swP (sc : Scope) (x y : Str) (px py : Pos) (a b : Expr) : Bool :=
  (sc.names.lookup x == some .local) && (sc.names.lookup y == some .local) && (py.line == px.line) && !(x == y) && notStar a && notStar b && !(foldedForSure 8 a && foldedForSure 8 b) && !(constantsAlone 8 a && constantsAlone 8 b)
theorem swP_ok {env : Env} {sc : Scope} {x y : Str} {px py p p' : Pos} {k k' : Nat} {a b : Expr} (hk : env.scope.kind = .function) (hs : env.scope = sc) (h : swP sc x y px py a b = true) :
    swappedStores [.Tuple [.Name x px, .Name y py] k p] (.Tuple [a, b] k' p') env = pure (some [x, y]) := by
  subst hs
  unfold swP at h
  simp only [Bool.and_eq_true, beq_iff_eq, Bool.not_eq_true'] at h
  obtain ⟨⟨⟨⟨⟨⟨⟨h1, h2⟩, h3⟩, h4⟩, h5⟩, h6⟩, h7⟩, h8⟩ := h
  have hb : env.blockKind = .function := by unfold Env.blockKind; rw [hk]; rfl
  have e1 : env.kindOf x = some .local := h1
  have e2 : env.kindOf y = some .local := h2
  have s1 : (match a with | .Starred .. => true | _ => false) = false := by cases a <;> first | rfl | cases h5
  have s2 : (match b with | .Starred .. => true | _ => false) = false := by cases b <;> first | rfl | cases h6
  have n : ([x, y] : List Str).eraseDups.length = 2 := by
    have h4' : ¬ (y = x) := fun z => by rw [z] at h4; simp at h4
    simp [List.eraseDups_cons, h4']
  unfold swappedStores
  simp [hb, e1, e2, h3, s1, s2, h7, h8, n, Expr.pos]
  intro z
  exfalso
  rcases z with z | z
  · clear s1 s2; cases a <;> first | (cases z; done) | (cases h5; done)
  · clear s1 s2; cases b <;> first | (cases z; done) | (cases h6; done)
def swC (sc scope : Scope) (y : Str) (py pos : Pos) : Bool := (sc.names.lookup y == some .local) && (py.line == pos.line) && !(scope.names.any fun p => p.1 == y && (p.2 == .local || p.2 == .cell))
theorem swC_ok {env : Env} {sc scope : Scope} {y : Str} {py pos : Pos} {n : Nat} {e : Expr} {g : List Comprehension} (hk : env.scope.kind = .function) (hs : env.scope = sc) : swapsWith (.ListComp e g scope pos) (some (.Name y py)) n env = pure (swC sc scope y py pos) := by
  subst hs
  have hb : env.blockKind = .function := by unfold Env.blockKind; rw [hk]; rfl
  unfold swapsWith swC
  simp [hb, Env.kindOf, Expr.pos]
structure AtS (cad : Cad) (G : Gn) (C : SC) (W : WX) (X : Cx) : Prop extends At cad G C W X where
  po : PassesOwn (model X.prog X.w) X.A X.env X.xe
  kd : X.env.scope.kind = .function
mutual
def chkS (G : Gn) (C : SC) : MS → Stmt → Bool
  | .never, _ => true
  | .pass, s => match s with
    | .Pass _ => true
    | _ => false
  | .brk, s => match s with
    | .Break _ => true
    | _ => false
  | .cnt, s => match s with
    | .Continue _ => true
    | _ => false
  | .expr x, s => match s with
    | .Expr e _ => notComp e && chkE G x C e
    | _ => false
  | .ret x, s => match s with
    | .Return (some e) _ => chkE G x C e
    | _ => false
  | .retN, s => match s with
    | .Return none _ => true
    | _ => false
  | .asg t x, s => match s with
    | .Assign [tg] e _ => notComp e && swN tg e && notStar tg && chkG C t tg && chkE G x C e
    | _ => false
  | .sub o i x, s => match s with
    | .Assign [.Subscript a b _] e _ => notComp e && notSlice b && chkE G o C a && chkE G i C b && chkE G x C e
    | _ => false
  | .asgc i b it tg own c x, s => match s with
    | .Assign [.Name y py] (.ListComp elt [⟨t, iter, ifs, 0⟩] scope pos) _ => nmI C i y && stB C y && chkE G (.comp b it tg own c x) C (.ListComp elt [⟨t, iter, ifs, 0⟩] scope pos)
    | _ => false
  | .par i j x y, s => match s with
    | .Assign [.Tuple [.Name a pa, .Name b pb] _ _] (.Tuple [e, f] _ _) _ => nmI C i a && nmI C j b && !(i == j) && swP C.sc a b pa pb e f && chkE G x C e && chkE G y C f
    | _ => false
  | .ite t x y, s => match s with
    | .If c a b _ => chkT G t C c && chkSs G C x a && chkSs G C y b
    | _ => false
  | .forr it tg x, s => match s with
    | .For t iter body [] _ => chkI G it C t iter && notSet iter && chkG C tg t && chkSs G C x body
    | _ => false
  | .whil t x, s => match s with
    | .While c body [] _ => chkT G t C c && chkSs G C x body
    | _ => false
def chkSs (G : Gn) (C : SC) : MSs → List Stmt → Bool
  | .nil, ss => match ss with
    | [] => true
    | _ => false
  | .cons x r, ss => match ss with
    | s :: ss => chkS G C x s && chkSs G C r ss
    | _ => false
end
theorem ss_asgW {cad : Cad} {W : WX} {X : Cx} {tg e : Expr} {pos : Pos} {m : Mx} {g : Mg} {sl : List Nat} (he : SE cad W X e m) (hg : SG cad X tg g sl) (hs : swapsWithSole [tg] e pos.line X.env = pure false) (hw : swappedStores [tg] e X.env = pure none) (ht : notStar tg = true) : SS cad W X (.Assign [tg] e pos) (msAsg m g) :=
  ps_imp (ps_asg he hg hs hw (by rw [each_of ht]; rfl)) (asg_up fun _ _ _ z => z)
mutual
theorem sS {cad : Cad} {G : Gn} {C : SC} {W : WX} {X : Cx} (A : AtS cad G C W X) : ∀ (m : MS) {s : Stmt}, chkS G C m s = true → SS cad W X s (wpS G.toGw m)
  | .never, s, h => by unfold wpS; exact ss_never
  | .pass, s, h => by
    unfold chkS at h; split at h
    · unfold wpS; exact ss_pass
    · cases h
  | .brk, s, h => by
    unfold chkS at h; split at h
    · unfold wpS; exact ss_brk
    · cases h
  | .cnt, s, h => by
    unfold chkS at h; split at h
    · unfold wpS; exact ss_cnt
    · cases h
  | .expr x, s, h => by
    unfold chkS at h; split at h
    · rw [Bool.and_eq_true] at h
      unfold wpS; exact ss_expr (sE x A.toAt h.2) h.1
    · cases h
  | .ret x, s, h => by
    unfold chkS at h; split at h
    · unfold wpS; exact ss_ret (sE x A.toAt h)
    · cases h
  | .retN, s, h => by
    unfold chkS at h; split at h
    · unfold wpS; exact ss_retN
    · cases h
  | .asg t x, s, h => by
    unfold chkS at h; split at h
    · simp only [Bool.and_eq_true] at h
      obtain ⟨⟨⟨⟨h1, h2⟩, h3⟩, h4⟩, h5⟩ := h
      unfold wpS; exact ss_asg (sE x A.toAt h5) (sgT A.toAt t h4) h1 (swN_ok h2) h3
    · cases h
  | .sub o i x, s, h => by
    unfold chkS at h; split at h
    · simp only [Bool.and_eq_true] at h
      obtain ⟨⟨⟨⟨h1, h2⟩, h3⟩, h4⟩, h5⟩ := h
      unfold wpS; exact ss_asg (sE x A.toAt h5) (sg_sub (sE o A.toAt h3) (sE i A.toAt h4) h2) h1 rfl rfl
    · cases h
  | .asgc i b it tg own c x, s, h => by
    unfold chkS at h; split at h
    · rename_i y py elt t iter ifs scope pos sp
      simp only [Bool.and_eq_true] at h
      obtain ⟨⟨h1, h0⟩, h2⟩ := h
      obtain ⟨hl, hf⟩ := A.st h0
      have hN : X.N.Nodup := by rw [A.hN]; exact A.nd
      have hi := A.ix h1
      unfold wpS
      have q := swC_ok (n := sp.line) (e := elt) (g := [⟨t, iter, ifs, 0⟩]) (scope := scope) (y := y) (py := py) (pos := pos) A.kd A.sc
      cases hb : swC C.sc scope y py pos with
      | true =>
        rw [hb] at q
        have hy : X.env.scope.names.lookup y = some .local := by
          unfold swC at hb
          simp only [Bool.and_eq_true, beq_iff_eq] at hb
          rw [A.sc]; exact hb.1.1
        have h2' := h2
        unfold chkE at h2'
        simp only [Bool.and_eq_true] at h2'
        obtain ⟨⟨⟨⟨⟨⟨g1, g2⟩, g3⟩, g4⟩, g5⟩, g6⟩, g7⟩ := h2'
        exact ss_asgComp A.calm hN hi hy q (sI it A.toAt g1) (by rw [A.hN, A.sc]; exact blkOk_by g3) (fun s H c cl fp => sgT A.toAt.blk tg g4) (fun s H c' cl fp => sC c A.toAt.blk g6) (fun s H c cl fp => sE x A.toAt.blk g7) (notSet_ok g2) (sub_of g5)
      | false =>
        rw [hb] at q
        have e1 := sE (.comp b it tg own c x) A.toAt h2
        unfold wpE at e1
        exact ss_asgW e1 (sg_name hN hi hl hf) q rfl rfl
    · cases h
  | .par i j x y, s, h => by
    unfold chkS at h; split at h
    · rename_i a pa b pb _ _ e f _ _ _
      simp only [Bool.and_eq_true, Bool.not_eq_true'] at h
      obtain ⟨⟨⟨⟨⟨h1, h2⟩, h3⟩, h4⟩, h5⟩, h6⟩ := h
      have hN : X.N.Nodup := by rw [A.hN]; exact A.nd
      have h4' := h4
      unfold swP at h4'
      simp only [Bool.and_eq_true, beq_iff_eq, Bool.not_eq_true'] at h4'
      obtain ⟨⟨⟨⟨⟨⟨⟨g1, g2⟩, g3⟩, g4⟩, g5⟩, g6⟩, g7⟩, g8⟩ := h4'
      unfold wpS
      exact ss_par A.calm hN (A.ix h1) (A.ix h2) (by simpa using h3) (by rw [A.sc]; exact g1) (by rw [A.sc]; exact g2) (sa_cons (sE x A.toAt h5) (sa_cons (sE y A.toAt h6) sa_nil g6) g5) (swP_ok A.kd A.sc h4)
    · cases h
  | .ite t x y, s, h => by
    unfold chkS at h; split at h
    · simp only [Bool.and_eq_true] at h
      unfold wpS; exact ss_if (sT t A.toAt h.1.1).1 (sSs A x h.1.2) (sSs A y h.2)
    · cases h
  | .forr it tg x, s, h => by
    unfold chkS at h; split at h
    · simp only [Bool.and_eq_true] at h
      unfold wpS; exact ss_for A.po A.calm (sI it A.toAt h.1.1.1) (sgT A.toAt tg h.1.2) (sSs A x h.2) (notSet_ok h.1.1.2)
    · cases h
  | .whil t x, s, h => by
    unfold chkS at h; split at h
    · rw [Bool.and_eq_true] at h
      unfold wpS; exact ss_while A.po (sT t A.toAt h.1).1 (sSs A x h.2)
    · cases h
theorem sSs {cad : Cad} {G : Gn} {C : SC} {W : WX} {X : Cx} (A : AtS cad G C W X) : ∀ (m : MSs) {s : List Stmt}, chkSs G C m s = true → SSs cad W X s (wpSs G.toGw m)
  | .nil, s, h => by
    unfold chkSs at h; split at h
    · unfold wpSs; exact ss_nil
    · cases h
  | .cons x r, s, h => by
    unfold chkSs at h; split at h
    · rw [Bool.and_eq_true] at h
      unfold wpSs; exact ss_cons (sS A x h.1) (sSs A r h.2)
    · cases h
end
end MM
end

section
set_option Elab.async false
set_option linter.all false
set_option maxRecDepth 100000
set_option maxHeartbeats 8000000
namespace MM
open PySem PySem.Spec PyProof.Rows L2

theorem lookup_in {β : Type} {i : Nat} {b : β} : ∀ {l : List (Nat × β)}, l.lookup i = some b → (i, b) ∈ l
  | (j, c) :: r, h => by
    rw [List.lookup_cons] at h
    cases e : i == j with
    | true => rw [e] at h; cases h; rw [beq_iff_eq.mp e]; exact List.mem_cons_self
    | false => rw [e] at h; exact List.mem_cons_of_mem _ (lookup_in h)
structure Df where
  id : Nat
  nm : Str
  args : Arguments
  body : List Stmt
  scope : Scope
  ps : List Str
  N : List Str
  ms : MSs
def fsB (N ps : List Str) (sc : Scope) : Bool :=
  (sc.kind == .function) && !sc.isCoroutine && !sc.isGenerator && decide N.Nodup && decide (N.take ps.length = ps) && ps.all (fun x => (sc.names.lookup x == some .local) || (sc.names.lookup x == some .cell)) && sc.names.all fun y => !(y.2 == .free)
theorem fs_of {N ps : List Str} {sc : Scope} (h : fsB N ps sc = true) : FnScope N ps sc := by
  unfold fsB at h
  simp only [Bool.and_eq_true, beq_iff_eq, Bool.not_eq_true', decide_eq_true_eq, List.all_eq_true, Bool.or_eq_true] at h
  obtain ⟨⟨⟨⟨⟨⟨h1, h2⟩, h3⟩, h4⟩, h5⟩, h6⟩, h7⟩ := h
  exact ⟨h1, h2, h3, h4, h5, h6, fun y hy e => by have := h7 y hy; rw [e] at this; cases this⟩
def Gn.upto (G : Gn) (j : Nat) : Gn := { G with fns := G.fns.take j }
def Df.ok (G : Gn) (j : Nat) (d : Df) : Bool := chkSs (G.upto j) ⟨d.N, d.scope, none⟩ d.ms d.body && fsB d.N d.ps d.scope && (G.fns[j]? == some (d.id, d.nm, d.ps.length))
def Df.Bnd (d : Df) : Prop := ∀ (kV doc pm : Value) (an : Option Addr) (cdv ct : Value) (us : List Value), us.length = d.ps.length → bindArgs (PySem.W.fnOf d.nm d.nm d.args d.body d.scope .none kV doc pm an cdv ct) ⟨us, []⟩ = pure (d.ps.zip us)
def Df.KBnd (d : Df) (ks : List Str) (pm : List Nat) : Prop := ∀ (kV doc pp : Value) (an : Option Addr) (cdv ct : Value) (ws : List Value), ws.length = ks.length → bindArgs (PySem.W.fnOf d.nm d.nm d.args d.body d.scope .none kV doc pp an cdv ct) ⟨[], ks.zip ws⟩ = pure (d.ps.zip (perm Value.none pm ws))
def endsF (Q : Kx) : Me := ⟨fun _ h => Q .non h, Q, fun _ _ => False, fun _ _ => False⟩
def Df.Plain (d : Df) (G : Gw) (Φ : Ph) : Prop := ∀ (ds : List D) (h : Hm) (Q : Kx) (E : EX), ds.length = d.ps.length → Φ ds h Q E → wpSs G d.ms (endsF Q) (fun x _ h => E x h) (start0 (d.N.length - d.ps.length) ds) h
theorem kwOk_of {K : PySem.W.Frag} {fd : FuncData} {f : Addr} {d : Df} {ks : List Str} {pm : List Nat} (F : FunD K d.nm d.nm d.args d.body d.scope [] [] f fd) (hl : pm.length = d.ps.length) (h : d.KBnd ks pm) : KwOk K fd d.ps ks pm := by
  obtain ⟨oc, od, dV, kV, doc, pp, an, cdv, ct, osl, rfl, lk, hcd, hD, hK⟩ := F.ex
  rcases hD with ⟨_, rfl⟩ | ⟨e, _⟩
  · exact ⟨hl, fun s ws _ hw => .of_eq (h kV doc pp an cdv ct ws hw)⟩
  · exact absurd rfl e

section
variable {P : Program} {w : World} {K : PySem.W.Frag} {mg : Str → Option Value} {base : Heap} {cad : Cad} {G : Gn} {L : List Df}
def Kept (P : Program) (w : World) (K : PySem.W.Frag) (mg : Str → Option Value) (base : Heap) (cad : Cad) (G : Gn) (i : Nat) (d : Df) : Prop :=
  ∃ f fd, FnG P w K mg base (i + 1) f fd d.ps (lift cad d.ps.length (G.T d.id)) ∧ FunD K d.nm d.nm d.args d.body d.scope [] [] f fd ∧ mg d.nm = some (.ref f) ∧ Binds K fd d.ps [] ∧ ∀ (j : Nat) (ks : List Str) (pm : List Nat), G.kws[j]? = some (d.id, ks, pm) → KwOk K fd d.ps ks pm
theorem chain (hK : G.K = K) (hsm : ∃ o, base.get? sysModules = some o) (hfree : ∀ x, G.free.contains x = true → mg x = none)
    (hcst : ∀ (x : Str) (d : D), G.cns.contains x = true → G.cn x = some d → ∃ v u, mg x = some u ∧ RelV v u ∧ ∀ H h, Rep H h d v)
    (hF : ∀ (i : Nat) (d : Df), L[i]? = some d → ∃ f fd, FunD K d.nm d.nm d.args d.body d.scope [] [] f fd ∧ mg d.nm = some (.ref f))
    (hB : ∀ (i : Nat) (d : Df), L[i]? = some d → d.Bnd)
    (hKB : ∀ (j i : Nat) (ks : List Str) (pm : List Nat), G.kws[j]? = some (i, ks, pm) → ∀ d ∈ L, d.id = i → pm.length = d.ps.length ∧ d.KBnd ks pm)
    (hC : ∀ (i : Nat) (d : Df), L[i]? = some d → d.ok G i = true) (hP : ∀ (i : Nat) (d : Df), L[i]? = some d → d.Plain G.toGw (G.T d.id)) :
    ∀ (n i : Nat), i < n → ∀ d, L[i]? = some d → Kept P w K mg base cad G i d := by
  intro n
  induction n with
  | zero => intro i hi; exact absurd hi (Nat.not_lt_zero _)
  | succ n ih =>
    intro i hi d hd
    by_cases hlt : i < n
    · exact ih i hlt d hd
    · have e : i = n := by omega
      subst e
      obtain ⟨f, fd, F, hm⟩ := hF i d hd
      have ok := hC i d hd
      unfold Df.ok at ok
      simp only [Bool.and_eq_true, beq_iff_eq] at ok
      obtain ⟨⟨ok1, ok2⟩, ok3⟩ := ok
      have S := fs_of ok2
      refine ⟨f, fd, ?_, F, hm, F.bindsN (hB i d hd), fun j ks pm hj => kwOk_of F (hKB j _ ks pm hj d (List.mem_of_getElem? hd) rfl).1 (hKB j _ ks pm hj d (List.mem_of_getElem? hd) rfl).2⟩
      refine fnG_of F S (fun vs H Q E h => h.1) fun cdv A outer s H vs Q E hr hgd hsp => ?_
      obtain ⟨hl, ds, h, Q', E', rl, rh, q, kn, kx⟩ := hsp
      have hAt : AtS cad (G.upto i) ⟨d.N, d.scope, none⟩ (fun cls dx _ H => E cls dx H) (cxOf (L2.CX P w) P w K mg base d.N d.nm d.scope f cdv A outer s H E) := by
        refine { hN := rfl, nd := S.nd, sc := rfl, fn := fun _ => rfl, calm := rfl, tk := takes_of rfl rfl rfl rfl, un := hr.units, gd := hgd, sm := hsm, kk := hK.symm, free := hfree, cst := hcst, fns := fun i' x n' he => ?_, po := passes_of rfl, kd := S.kind }
        have he : (G.fns.take i).lookup i' = some (x, n') := he
        obtain ⟨i2, hi2⟩ := List.mem_iff_getElem?.mp (lookup_in he)
        rw [List.getElem?_take] at hi2
        split at hi2
        · rename_i hlt'
          have hex : i2 < L.length := Nat.lt_trans hlt' (List.getElem?_eq_some_iff.mp hd).1
          have hd' : L[i2]? = some L[i2] := List.getElem?_eq_getElem hex
          obtain ⟨f', fd', FG, FD, hm', hb', hk'⟩ := ih i2 hlt' _ hd'
          have ok' := hC i2 _ hd'
          unfold Df.ok at ok'
          simp only [Bool.and_eq_true, beq_iff_eq] at ok'
          have e2 := ok'.2
          rw [hi2] at e2
          simp only [Option.some.injEq, Prod.mk.injEq] at e2
          obtain ⟨e3, e4, e5⟩ := e2
          subst e3 e4 e5
          exact ⟨i2 + 1, f', fd', L[i2].ps, FG, rfl, hr.mono (by omega), hm', FD.kp, hb', hk'⟩
        · cases hi2
      refine ⟨_, sSs hAt d.ms ok1, start0 (d.N.length - d.ps.length) ds, h, endsF Q', fun x _ h => E' x h, ?_, rh, hP i d hd ds h Q' E' (by rw [← rl.length]; exact hl) q, ?_⟩
      · have hs : L2.start d.N vs = vs.map some ++ List.replicate (d.N.length - d.ps.length) none := by unfold L2.start; rw [hl]
        rw [hs]
        exact RepS.start (N := d.N) _ rl
      · exact ⟨fun σ' h' σm' H' e r rs z => kn .non h' .non H' e r rfl z, fun d' h' v H' e r rv z => kn d' h' v H' e r rv z, fun σ' h' σm' H' e r rs z => z.elim, fun σ' h' σm' H' e r rs z => z.elim, fun x σ' h' cls dx σm' H' e r rs rx z => kx x h' cls dx H' e r rx z⟩
end

theorem law_callG {P : Program} {w : World} {K : PySem.W.Frag} {mg mb : Str → Option Value} {k : Nat} {fa a : Addr} {fd : FuncData} {x : Str} {sp : Sp} {s₁ : Shared} {vs : List Value} {ns : List Int}
    (KX : K.In s₁.heap) (hns : s₁.heap.Ns mainGlobals mg) (hb : s₁.heap.Ns builtinsNs mb) (hbb : ∀ x : Str, x ≠ "__name__" → mb x = bootBuiltins x) (hlim : s₁.heap.NoLimit) (hsm : ∃ m, s₁.heap.Ns sysModules m) (hg : s₁.gens = #[])
    (ha : s₁.heap.get? a = some { cls := .type "list", data := .seq vs.toArray }) (hi : IntsAre vs ns) (hl : ns.length ≤ sizeLine) (hr : Room k callerA)
    (F : ∀ base : Heap, K.In base → base.Ns mainGlobals mg → (∃ o, base.get? sysModules = some o) → FnG P w K mg base k fa fd [x] sp) (hbind : ∀ (s : Shared) (u : Value), BindsTo s fd ⟨[u], []⟩ [(x, u)])
    (hsp : ∀ H : Hp, L2.Only H → SqL K H a (ns.map V.int) → sp [.ref a] H (fun v _ => v = .bl true) fun _ _ _ => False) :
    codeAny (model P w) callerA (.call (.ref fa) ⟨[.ref a], []⟩) (fun r s' => r = .ok (.ret (.bool true)) ∧ OldK s₁.heap s'.heap ∧ s'.os = s₁.os ∧ AllBare s'.gens) s₁ := by
  have rv := L2.vals_ints hi
  have lenV := hi.length
  have core : ∀ H : Hp, L2.Only H → SqL K H a (ns.map V.int) → HOk P w H s₁.heap → (∀ b, H b ≠ none → b = a) → (H a ≠ none → K.lookup a = none) →
      codeAny (model P w) callerA (.call (.ref fa) ⟨[.ref a], []⟩) (fun r s' => r = .ok (.ret (.bool true)) ∧ OldK s₁.heap s'.heap ∧ s'.os = s₁.os ∧ AllBare s'.gens) s₁ := by
    intro H hO hS hok hA hK
    have base_of : ∀ {b : Addr} {o : Obj}, s₁.heap.get? b = some o → H b = none → (hidT s₁.heap H).get? b = some o := fun e n => hidT_get e n
    have noA : ∀ {b : Addr} {o : Obj} {es : Array DictEntry} {ep : Nat}, s₁.heap.get? b = some o → o.data = .dict es ep → H b = none := fun {b o es ep} e d => by
      cases q : H b with
      | none => rfl
      | some u =>
        have e' : b = a := hA b (by rw [q]; simp)
        subst e'
        rw [ha] at e; cases e
        have d' : Data.seq vs.toArray _ = Data.dict es ep := d
        cases d'
    have nsK : ∀ {b : Addr} {m : Str → Option Value}, s₁.heap.Ns b m → (hidT s₁.heap H).Ns b m := fun {b m} ⟨o, es, ep, e, d, r⟩ => ⟨o, es, ep, base_of e (noA e d), d, r⟩
    have hKb : K.In (hidT s₁.heap H) := fun b o e => base_of (KX b o e) (by
      cases q : H b with
      | none => rfl
      | some u =>
        have e' : b = a := hA b (by rw [q]; simp)
        subst e'
        rw [hK (by rw [q]; simp)] at e; cases e)
    have hM : Mod K mg (hidT s₁.heap H) := ⟨hKb, nsK hns, ⟨mb, nsK hb, hbb⟩, let ⟨mc, h1, h2⟩ := hlim; ⟨mc, nsK h1, h2⟩⟩
    have hsm' : ∃ o, (hidT s₁.heap H).get? sysModules = some o := by
      obtain ⟨m, hm⟩ := hsm
      obtain ⟨o, es, ep, e, _⟩ := nsK hm
      exact ⟨o, e⟩
    have e0 : Env0 P w K mg (hidT s₁.heap H) callerA [] s₁ H := ⟨rfl, hM, fun b o e => of_hidT e, Nat.le_of_eq (hidT_size _ _), trivial, fun b hb => absurd (show b ∈ ([] : List Addr) from hb) (by simp), hok, .of_eq hg⟩
    refine codeAny_mono ((F _ hKb (nsK hns) hsm').run callerA [] s₁ H ⟨[.ref a], []⟩ [.ref a] [.ref a] _ _ hr rfl e0 (hbind s₁ (.ref a)) (.cons rfl .nil) (hsp H hO hS)) fun r s' h => ?_
    cases r with
    | error e =>
      obtain ⟨_, _, _, _, _, _, _, _, _, _, _, _, z⟩ := h
      exact z.elim
    | ok fl =>
      cases fl with
      | next => exact False.elim h
      | brk => exact False.elim h
      | cont => exact False.elim h
      | ret u =>
        obtain ⟨v, H', os, bare, un, hok', r', q⟩ := h
        have q' : v = .bl true := q
        subst q'
        obtain rfl : u = Value.bool true := r'
        refine ⟨rfl, OldK.of_keep fun b o e => ?_, os, bare⟩
        cases q : H b with
        | none => exact un.keep b o e q (by intro z; exact absurd (show b ∈ ([] : List Addr) from z) (by simp)) (by simp)
        | some u =>
          rcases hO b with z | ⟨ob, xs, z⟩
          · rw [q] at z; cases z
          · have z2 := un.frzs b ob _ z
            obtain ⟨e1, _⟩ := hok b _ z
            obtain ⟨e2, _⟩ := hok' b _ z2
            rw [e] at e1; cases e1
            exact e2
  cases hk : K.lookup a with
  | some o =>
    have e := KX a o hk
    rw [ha] at e
    cases e
    refine core (fun _ => none) (fun _ => .inl rfl) (.inr ⟨_, vs.toArray, _, hk, rfl, rfl, rfl, by rw [List.size_toArray, lenV]; exact hl, by simpa using rv⟩) (fun b u z => by have z' : (none : Option HO) = some u := z; cases z') (fun b z => absurd rfl z) fun z => absurd rfl z
  | none =>
    refine core (fun b => if b = a then some (.frz { cls := .type "list", data := .seq vs.toArray } (.lst (ns.map V.int))) else none) (fun b => ?_) (.inl (.inr ⟨{ cls := .type "list", data := .seq vs.toArray }, if_pos rfl⟩)) (fun b u z => ?_) (fun b z => ?_) fun _ => hk
    · by_cases hb : b = a
      · exact .inr ⟨_, _, if_pos hb⟩
      · exact .inl (if_neg hb)
    · by_cases hb : b = a
      · have z' := (if_pos hb).symm.trans z
        cases z'
        subst hb
        exact ⟨ha, by rw [List.length_map]; exact hl, vs, _, rv, ha⟩
      · have z' := (if_neg hb).symm.trans z
        cases z'
    · by_cases hb : b = a
      · exact hb
      · exact absurd (if_neg hb) z
def phLaw (K : PySem.W.Frag) (n : Nat) : Ph := fun ds h Q _ => ∃ ns : List Int, ds = [.scr K ns] ∧ ns.length ≤ n ∧ h = (fun _ => none) ∧ ∀ h', Q (.bl true) h'
theorem phLaw_sp {K : PySem.W.Frag} {cad : Cad} {n : Nat} {H : Hp} {a : Addr} {ns : List Int} (hn : ns.length ≤ n) (hO : L2.Only H) (hS : SqL K H a (ns.map V.int)) : lift cad 1 (phLaw K n) [.ref a] H (fun v _ => v = .bl true) fun _ _ _ => False := by
  have hr : Rep H (fun _ => none) (.scr K ns) (.ref a) := by
    refine ⟨a, rfl, ?_⟩
    rcases hS with (h | ⟨o, h⟩) | h
    · rcases hO a with z | ⟨ob, xs, z⟩
      · rw [h] at z; cases z
      · rw [h] at z; cases z
    · exact .inl ⟨o, h⟩
    · exact .inr h
  have hE : RepH cad H (fun _ => none) := fun b o e => by cases e
  exact ⟨rfl, [.scr K ns], fun _ => none, fun d _ => d = .bl true, fun _ _ => False, RepL.cons hr RepL.nil, hE, ⟨ns, rfl, hn, rfl, fun _ => rfl⟩, fun d h' v H' _ _ rv e => by subst e; exact rv, fun _ _ _ _ _ _ _ _ z => z.elim⟩
theorem walk_ofG {l : PySem.W.OpenLaw} {n k : Nat} {q : Program} {loose : List Str} {XP : (Str → Option Value) → Heap → Prop} {YP : World → Heap → Prop} {d : DefRec} {x : Str} {cad : Cad}
    (hn : l.most = some n) (hn2 : n ≤ sizeLine) (hdf : d.params.defaults = []) (hr : Room k callerA) (himp : importsNone q = true)
    (F : ∀ (w : World) (mg : Str → Option Value) (fa : Addr) (h : Heap), YP w h → h.Ns mainGlobals mg → mg d.name = some (.ref fa) →
      ∃ (K : PySem.W.Frag) (fd : FuncData), K.In h ∧ (∀ (s : Shared) (u : Value), BindsTo s fd ⟨[u], []⟩ [(x, u)]) ∧
        ∀ base : Heap, K.In base → base.Ns mainGlobals mg → (∃ o, base.get? sysModules = some o) → FnG l.prog w K mg base k fa fd [x] (lift cad 1 (phLaw K n))) :
    PySem.W.WalkO q loose XP YP l.row.toRowW d [] (fun f vs => PySem.call f vs) := by
  refine Att.attach_call hn hdf fun w s₀ s₁ mg mb fa o pm cd doc a vs ns G Y ho hd hcd hmg hobj hints hlen hg => ?_
  obtain ⟨K, fd, KX, hb, hF⟩ := F w mg fa _ Y G.T.g hmg
  obtain ⟨mm, hmm, _⟩ := (G.T.seer himp).mods
  exact law_callG KX G.T.g G.T.b G.T.builtins G.T.nolimit ⟨mm, hmm⟩ hg hobj hints (Nat.le_trans hlen hn2) hr hF hb fun H hO hS => phLaw_sp hlen hO hS
end MM
namespace MM
open PySem PySem.Spec PyProof.Rows L2
theorem funD_one {K : PySem.W.Frag} {x q : Str} {pa : Arguments} {b : List Stmt} {sc : Scope} {f : Addr} {fd fd' : FuncData} (F : FunD K x q pa b sc [] [] f fd) (F' : FunD K x q pa b sc [] [] f fd') : fd = fd' := by
  obtain ⟨_, _, _, _, _, _, _, _, _, _, _, e1, _⟩ := F.ex
  obtain ⟨_, _, _, _, _, _, _, _, _, _, _, e2, _⟩ := F'.ex
  rw [e1] at e2
  simp only [Option.some.injEq, Obj.mk.injEq, Data.func.injEq] at e2
  exact e2.2.2.1
def toD (d : Df) : He.DefD := ⟨(d.nm, none), d.nm, d.nm, d.args, d.body, d.scope, [], []⟩
def cnF : Str × D → He.Fa
  | (x, .int i) => .int x i
  | (x, .str z) => .str x z
  | (x, _) => .free x
def isCn : D → Bool
  | .int _ => true
  | .str _ => true
  | _ => false
theorem fact_of {fa : List He.Fa} {fn : List He.DefD} {K : PySem.W.Frag} (c : He.SaysD fa fn K) {f : He.Fa} (h : f ∈ fa) : f.ok K = true := by
  obtain ⟨i, hi⟩ := List.mem_iff_getElem?.mp h
  exact c.fact i hi
theorem law_of {l : PySem.W.OpenLaw} {q : Program} {loose : List Str} {XP : (Str → Option Value) → Heap → Prop} {d : DefRec} (L : List Df) (G : PySem.W.Frag → Gn) (fa : List He.Fa) (nl : Nat) (dl : Df) {x : Str}
    (hn : l.most = some 63) (hdf : d.params.defaults = []) (hr : Room (nl + 1) callerA) (himp : importsNone q = true) (hl : L[nl]? = some dl) (hps : dl.ps = [x]) (hnm : d.name = dl.nm) (hT : ∀ K, (G K).T dl.id = phLaw K 63) (hK : ∀ K, (G K).K = K)
    (hfa : ∀ e ∈ L, He.Fa.glo e.nm ∈ fa) (hfr : ∀ K y, (G K).free.contains y = true → He.Fa.free y ∈ fa) (hcn : ∀ K y e, y ∈ (G K).cns → (G K).cn y = some e → isCn e = true ∧ cnF (y, e) ∈ fa)
    (hB : ∀ (i : Nat) (d : Df), L[i]? = some d → d.Bnd)
    (hKB : ∀ K (j i : Nat) (ks : List Str) (pm : List Nat), (G K).kws[j]? = some (i, ks, pm) → ∀ d ∈ L, d.id = i → pm.length = d.ps.length ∧ d.KBnd ks pm)
    (hC : ∀ K (i : Nat) (d : Df), L[i]? = some d → d.ok (G K) i = true) (hP : ∀ K (i : Nat) (d : Df), L[i]? = some d → d.Plain (G K).toGw ((G K).T d.id)) :
    PySem.W.WalkO q loose XP (fun _ h => ∃ K : PySem.W.Frag, K.In h ∧ He.SaysD fa (L.map toD) K) l.row.toRowW d [] (fun f vs => PySem.call f vs) := by
  refine walk_ofG (k := nl + 1) (n := 63) (x := x) (cad := fun _ => 0) hn (by decide) hdf hr himp fun w mg f h Y hns hmg => ?_
  obtain ⟨K, KX, c⟩ := Y
  have hF : ∀ (i : Nat) (e : Df), L[i]? = some e → ∃ f fd, FunD K e.nm e.nm e.args e.body e.scope [] [] f fd ∧ mg e.nm = some (.ref f) := fun i e he => by
    obtain ⟨fd, F⟩ := c.def_ i (d := toD e) (by rw [List.getElem?_map, he]; rfl)
    exact ⟨_, fd, F, He.glo_ok KX hns (fact_of c (hfa e (List.mem_of_getElem? he)))⟩
  obtain ⟨f', fd, F, hm⟩ := hF nl dl hl
  rw [hnm, hm] at hmg
  cases hmg
  refine ⟨K, fd, KX, fun s u => ?_, fun base kb bns hsm => ?_⟩
  · have b := F.bindsA (ps := dl.ps) (hB nl dl hl) s [u] (by rw [hps]; rfl)
    rw [hps] at b
    exact b
  · obtain ⟨f2, fd2, FG, F2, hm2, _⟩ := chain (P := l.prog) (w := w) (K := K) (mg := mg) (base := base) (cad := fun _ => 0) (G := G K) (L := L) (hK K) hsm (fun y hy => He.free_ok KX hns (fact_of c (hfr K y hy))) (fun y e hc he => by
      obtain ⟨h1, h2⟩ := hcn K y e (by simpa using hc) he
      have h3 := fact_of c h2
      cases e with
      | int i => obtain ⟨t, ht⟩ := He.int_ok KX hns h3; exact ⟨.int i, _, ht, ⟨t, rfl⟩, fun _ _ => rfl⟩
      | str z => obtain ⟨t, ht⟩ := He.str_ok KX hns h3; exact ⟨.str z, _, ht, ⟨t, rfl⟩, fun _ _ => rfl⟩
      | _ => cases h1) hF hB (hKB K) (hC K) (hP K) (nl + 1) nl (Nat.lt_succ_self _) dl hl
    rw [hm] at hm2
    cases hm2
    cases funD_one F F2
    rw [hps, hT K] at FG
    exact FG
end MM
namespace MM
def AllFrom {α : Type} (P : Nat → α → Prop) : Nat → List α → Prop
  | _, [] => True
  | i, d :: r => P i d ∧ AllFrom P (i + 1) r
theorem AllFrom.get {α : Type} {P : Nat → α → Prop} : ∀ {l : List α} {i : Nat}, AllFrom P i l → ∀ (j : Nat) (d : α), l[j]? = some d → P (i + j) d
  | _ :: _, i, h, 0, _, e => by cases e; exact h.1
  | _ :: l, i, h, j + 1, d, e => by
    have z := AllFrom.get h.2 j d (by simpa using e)
    rw [Nat.add_assoc, Nat.add_comm 1 j] at z
    exact z
theorem AllFrom.at {α : Type} {P : Nat → α → Prop} {l : List α} (h : AllFrom P 0 l) (j : Nat) (d : α) (e : l[j]? = some d) : P j d := by
  have z := h.get j d e
  rw [Nat.zero_add] at z
  exact z
end MM
end

section
set_option Elab.async false
set_option linter.all false
set_option maxRecDepth 100000
set_option maxHeartbeats 8000000
namespace KN
open MM PySem PySem.Spec PyProof.Rows L2
def b_law_deck_2 : MSs := (.cons (.ret (.lst true (.cons (.comp true (.seq (.sli false (.var 0) .none (.some (.int 63)))) (.nm 1) [("_law_cell", 1)] .none (.bif .abs (.cons (.var 1) .nil))) (.cons (.int 0) (.cons (.int 0) .nil))))) .nil)
def b_law_draw_2 : MSs := (.cons (.sub (.var 0) (.int 2) (.bin false .Add (.idx (.var 0) (.int 2)) (.int 1))) (.cons (.ite (.and (.cmp 0 .Lt (.idx (.var 0) (.int 1)) (.bif .len (.cons (.idx (.var 0) (.int 0)) .nil))) (.one (.cmp 0 .Gt (.idx (.idx (.var 0) (.int 0)) (.idx (.var 0) (.int 1))) (.int 0)))) (.cons (.asg (.nm 3) (.idx (.idx (.var 0) (.int 0)) (.idx (.var 0) (.int 1)))) (.cons (.sub (.idx (.var 0) (.int 0)) (.idx (.var 0) (.int 1)) (.bin false .FloorDiv (.var 3) (.var 1))) (.cons (.ret (.bin false .Mod (.var 3) (.var 1))) .nil))) .nil) (.cons (.sub (.var 0) (.int 1) (.bif .min (.cons (.bin false .Add (.idx (.var 0) (.int 1)) (.int 1)) (.cons (.bif .len (.cons (.idx (.var 0) (.int 0)) .nil)) .nil)))) (.cons (.asg (.nm 2) (.bin false .Mod (.bin false .Add (.bin false .Add (.bin false .Mult (.idx (.var 0) (.int 2)) (.int 7901)) (.bin false .Mult (.bif .len (.cons (.idx (.var 0) (.int 0)) .nil)) (.int 104717))) (.int 12750)) (.int 1000003))) (.cons (.ret (.bin false .Mod (.bin false .Add (.bin false .FloorDiv (.bin false .Mult (.bin false .Mult (.var 2) (.var 2)) (.var 2)) (.int 1019)) (.bin false .Mult (.idx (.var 0) (.int 2)) (.int 41))) (.var 1))) .nil)))))
def b_law_pick : MSs := (.cons (.ret (.idx (.var 1) (.call 59 2 (.cons (.var 0) (.cons (.bif .len (.cons (.var 1) .nil)) .nil))))) .nil)
def b_law_sitting : MSs := (.cons (.asg (.nm 3) (.call 59 2 (.cons (.var 0) (.cons (.var 1) .nil)))) (.cons (.asg (.nm 4) (.sset false (.comp false (.rng1 (.call 60 2 (.cons (.var 0) (.cons (.lst false (.cons (.int 1) (.cons (.int 1) (.cons (.int 2) (.cons (.int 3) .nil))))) .nil)))) (.nm 6) [("_law_turn", 6)] .none (.call 59 2 (.cons (.var 0) (.cons (.var 2) .nil)))))) (.cons (.asg (.nm 5) (.ite (.cmp 0 .Gt (.call 59 2 (.cons (.var 0) (.cons (.int 6) .nil))) (.int 0)) (.call 59 2 (.cons (.var 0) (.cons (.int 4) .nil))) (.call 59 2 (.cons (.var 0) (.cons (.int 15) .nil))))) (.cons (.ret (.tup (.cons (.var 5) (.cons (.var 3) (.cons (.bin false .Mod (.bin false .Add (.bin false .Add (.var 3) (.int 1)) (.call 59 2 (.cons (.var 0) (.cons (.bin false .Sub (.var 1) (.int 1)) .nil)))) (.var 1)) (.cons (.bif .tuple (.cons (.var 4) .nil)) .nil)))))) .nil))))
def b_law_sits : MSs := (.cons (.asgc 2 false (.seq (.var 0)) (.nm 3) [("_law_other", 3)] (.some (.cmp 0 .Eq (.idx (.var 3) (.int 0)) (.idx (.var 1) (.int 0)))) (.var 3)) (.cons (.ret (.cmp 0 .NotEq (.comp false (.seq (.var 2)) (.nm 3) [("_law_other", 3)] (.some (.or (.cmp 0 .In (.idx (.var 1) (.int 1)) (.sli false (.var 3) (.some (.int 1)) (.some (.int 3)))) (.one (.cmp 0 .In (.idx (.var 1) (.int 2)) (.sli false (.var 3) (.some (.int 1)) (.some (.int 3))))))) (.int 1)) (.lst false .nil))) .nil))
def b_law_plays_again : MSs := (.cons (.forr (.seq (.var 0)) (.nm 2) (.cons (.ite (.or (.cmp 0 .In (.idx (.var 1) (.int 1)) (.sli false (.var 2) (.some (.int 1)) (.some (.int 3)))) (.one (.cmp 0 .In (.idx (.var 1) (.int 2)) (.sli false (.var 2) (.some (.int 1)) (.some (.int 3)))))) (.cons (.ite (.cmp 0 .NotEq (.comp false (.seq (.idx (.var 1) (.int 3))) (.nm 3) [("_law_pack", 3)] (.some (.cmp 0 .In (.var 3) (.idx (.var 2) (.int 3)))) (.var 3)) (.lst false .nil)) (.cons (.ret (.bl true)) .nil) .nil) .nil) .nil) .nil)) (.cons (.ret (.bl false)) .nil))
def b_law_plan_of : MSs := (.cons (.asg (.nm 4) (.lst true .nil)) (.cons (.forr (.rng1 (.var 3)) (.nm 5) (.cons (.asg (.nm 6) (.call 68 3 (.cons (.var 0) (.cons (.var 1) (.cons (.var 2) .nil))))) (.cons (.ite (.and (.not (.val (.call 65 2 (.cons (.var 4) (.cons (.var 6) .nil))))) (.one (.not (.val (.call 66 2 (.cons (.var 4) (.cons (.var 6) .nil))))))) (.cons (.expr (.append (.var 4) (.var 6))) .nil) .nil) .nil))) (.cons (.ret (.tup (.cons (.var 1) (.cons (.var 2) (.cons (.bif .tuple (.cons (.bif (.sorted false) (.cons (.var 4) .nil)) .nil)) .nil))))) .nil)))
def b_law_ring_plan_2 : MSs := (.cons (.asg (.nm 1) (.lst true .nil)) (.cons (.forr (.rng1 (.int 9)) (.nm 2) (.cons (.expr (.append (.var 1) (.tup (.cons (.var 2) (.cons (.int 9) (.cons (.var 2) (.cons (.tup (.cons (.var 2) .nil)) .nil))))))) (.cons (.forr (.rng2 (.int 1) (.int 5)) (.nm 3) (.cons (.expr (.append (.var 1) (.tup (.cons (.var 2) (.cons (.bin false .Mod (.bin false .Add (.var 2) (.var 3)) (.int 9)) (.cons (.bin false .Mod (.bin false .Sub (.var 2) (.var 3)) (.int 9)) (.cons (.tup (.cons (.var 2) .nil)) .nil))))))) .nil)) .nil))) (.cons (.ret (.tup (.cons (.int 10) (.cons (.var 0) (.cons (.bif .tuple (.cons (.bif (.sorted false) (.cons (.var 1) .nil)) .nil)) .nil))))) .nil)))
def b_law_sitting_text : MSs := (.cons (.ret (.join (.str " ") (.comp false (.seq (.bin false .Add (.sli false (.var 0) .none (.some (.int 3))) (.idx (.var 0) (.int 3)))) (.nm 1) [("_law_figure", 1)] .none (.bif .str (.cons (.var 1) .nil))))) .nil)
def b_law_plan_text : MSs := (.cons (.ret (.join (.str "\n") (.bin false .Add (.lst false (.cons (.bin false .Add (.bin false .Add (.bin false .Add (.str "plan ") (.bif .str (.cons (.idx (.var 0) (.int 0)) .nil))) (.str " ")) (.bif .str (.cons (.idx (.var 0) (.int 1)) .nil))) .nil)) (.comp false (.seq (.idx (.var 0) (.int 2))) (.nm 1) [("_law_row", 1)] .none (.call 136 1 (.cons (.var 1) .nil)))))) .nil)
def b_law_blanked : MSs := (.cons (.asg (.nm 2) (.call 60 2 (.cons (.var 0) (.cons (.lst false (.cons (.str "") (.cons (.str "") (.cons (.str " ") (.cons (.str "  ") .nil))))) .nil)))) (.cons (.forr (.enum (.var 1)) (.tp (.cons (.nm 3) (.cons (.nm 4) .nil))) (.cons (.asg (.nm 2) (.bin false .Add (.bin false .Add (.var 2) (.ite (.cmp 0 .Gt (.var 3) (.int 0)) (.call 60 2 (.cons (.var 0) (.cons (.lst false (.cons (.str " ") (.cons (.str " ") (.cons (.str "  ") (.cons (.str "     ") .nil))))) .nil))) (.str ""))) (.var 4))) .nil)) (.cons (.ret (.bin false .Add (.var 2) (.call 60 2 (.cons (.var 0) (.cons (.lst false (.cons (.str "") (.cons (.str "") (.cons (.str " ") .nil)))) .nil))))) .nil)))
def b_sitting_text : MSs := (.cons (.ret (.join (.str " ") (.comp false (.seq (.bin false .Add (.sli false (.var 0) .none (.some (.int 3))) (.idx (.var 0) (.int 3)))) (.nm 1) [("number", 1)] .none (.bif .str (.cons (.var 1) .nil))))) .nil)
def b_plan_text : MSs := (.cons (.asg (.nm 1) (.lst false (.cons (.join (.str " ") (.lst false (.cons (.str "plan") (.cons (.bif .str (.cons (.idx (.var 0) (.int 0)) .nil)) (.cons (.bif .str (.cons (.idx (.var 0) (.int 1)) .nil)) .nil))))) .nil))) (.cons (.ret (.join (.str "\n") (.bin false .Add (.var 1) (.comp false (.seq (.idx (.var 0) (.int 2))) (.nm 2) [("sitting", 2)] .none (.call 124 1 (.cons (.var 2) .nil)))))) .nil))
def b_law_words : MSs := (.cons (.ret (.comp false (.seq (.split false (.var 0) (.str " "))) (.nm 1) [("_law_word", 1)] (.some (.cmp 0 .NotEq (.var 1) (.str ""))) (.var 1))) .nil)
def b_is_integer : MSs := (.cons (.ite (.or (.not (.val (.bif .isi (.cons (.var 0) (.cons (.ty "int") .nil))))) (.one (.val (.bif .isi (.cons (.var 0) (.cons (.ty "bool") .nil)))))) (.cons (.ret (.bl false)) .nil) .nil) (.cons (.ret (.and (.or (.cmp 0 .Is (.var 1) .non) (.one (.cmp 0 .GtE (.var 0) (.var 1)))) (.one (.or (.cmp 0 .Is (.var 2) .non) (.one (.cmp 0 .LtE (.var 0) (.var 2))))))) .nil))
def b_shares_pair : MSs := (.cons (.ret (.or (.cmp 0 .In (.idx (.var 0) (.int 1)) (.sli false (.var 1) (.some (.int 1)) (.some (.int 3)))) (.one (.cmp 0 .In (.idx (.var 0) (.int 2)) (.sli false (.var 1) (.some (.int 1)) (.some (.int 3))))))) .nil)
def b_shares_pack : MSs := (.cons (.ret (.bif .any (.cons (.comp false (.seq (.idx (.var 0) (.int 3))) (.nm 2) [("pack", 2)] .none (.cmp 0 .In (.var 2) (.idx (.var 1) (.int 3)))) .nil))) .nil)
def b_beside_word : MSs := (.cons (.asgc 2 false (.seq (.var 1)) (.nm 3) [("other", 3)] (.some (.val (.call 5 2 (.cons (.var 0) (.cons (.var 3) .nil))))) (.var 3)) (.cons (.ite (.val (.bif .any (.cons (.comp false (.seq (.var 2)) (.nm 3) [("other", 3)] .none (.cmp 0 .Eq (.idx (.var 3) (.int 0)) (.idx (.var 0) (.int 0)))) .nil))) (.cons (.ret (.str "pair")) .nil) .nil) (.cons (.ret (.ite (.val (.bif .any (.cons (.comp false (.seq (.var 2)) (.nm 3) [("other", 3)] .none (.call 6 2 (.cons (.var 0) (.cons (.var 3) .nil)))) .nil))) (.str "again") .non)) .nil)))
def b_is_sitting : MSs := (.cons (.ite (.or (.not (.val (.bif .isi (.cons (.var 2) (.cons (.ty "tuple") .nil))))) (.or (.cmp 0 .NotEq (.bif .len (.cons (.var 2) .nil)) (.int 4)) (.one (.not (.val (.call 0 3 (.cons (.idx (.var 2) (.int 0)) (.cons (.int 0) (.cons (.bin false .Sub (.glo "MAX_ROUNDS") (.int 1)) .nil))))))))) (.cons (.ret (.bl false)) .nil) .nil) (.cons (.ite (.or (.not (.val (.call 0 3 (.cons (.idx (.var 2) (.int 1)) (.cons (.int 0) (.cons (.bin false .Sub (.var 0) (.int 1)) .nil)))))) (.or (.not (.val (.call 0 3 (.cons (.idx (.var 2) (.int 2)) (.cons (.int 0) (.cons (.bin false .Sub (.var 0) (.int 1)) .nil)))))) (.one (.cmp 0 .Eq (.idx (.var 2) (.int 1)) (.idx (.var 2) (.int 2)))))) (.cons (.ret (.bl false)) .nil) .nil) (.cons (.asg (.nm 3) (.idx (.var 2) (.int 3))) (.cons (.ite (.or (.not (.val (.bif .isi (.cons (.var 3) (.cons (.ty "tuple") .nil))))) (.one (.not (.chain .LtE .LtE (.int 1) (.bif .len (.cons (.var 3) .nil)) (.glo "MAX_HELD"))))) (.cons (.ret (.bl false)) .nil) .nil) (.cons (.ite (.not (.val (.bif .all (.cons (.comp false (.seq (.var 3)) (.nm 4) [("pack", 4)] .none (.call 0 3 (.cons (.var 4) (.cons (.int 0) (.cons (.bin false .Sub (.var 1) (.int 1)) .nil))))) .nil)))) (.cons (.ret (.bl false)) .nil) .nil) (.cons (.ret (.bif .all (.cons (.comp false (.zip (.var 3) (.sli false (.var 3) (.some (.int 1)) .none)) (.tp (.cons (.nm 5) (.cons (.nm 6) .nil))) [("one", 5), ("other", 6)] .none (.cmp 0 .Lt (.var 5) (.var 6))) .nil))) .nil))))))
def b_item_word : MSs := (.cons (.asg (.nm 4) (.idx (.var 2) (.var 3))) (.cons (.ite (.not (.val (.call 4 3 (.cons (.var 0) (.cons (.var 1) (.cons (.var 4) .nil)))))) (.cons (.ret (.str "sitting")) .nil) .nil) (.cons (.ite (.and (.cmp 0 .Gt (.var 3) (.int 0)) (.one (.not (.cmp 0 .Lt (.idx (.var 2) (.bin false .Sub (.var 3) (.int 1))) (.var 4))))) (.cons (.ret (.str "order")) .nil) .nil) (.cons (.ret (.call 7 2 (.cons (.var 4) (.cons (.sli false (.var 2) .none (.some (.var 3))) .nil)))) .nil))))
def b_plan_error : MSs := (.cons (.ite (.or (.not (.val (.bif .isi (.cons (.var 0) (.cons (.ty "tuple") .nil))))) (.one (.cmp 0 .NotEq (.bif .len (.cons (.var 0) .nil)) (.int 3)))) (.cons (.ret (.tup (.cons .non (.cons (.str "plan") .nil)))) .nil) .nil) (.cons (.asg (.tp (.cons (.nm 2) (.cons (.nm 3) (.cons (.nm 4) .nil)))) (.var 0)) (.cons (.ite (.not (.val (.call 0 3 (.cons (.var 2) (.cons (.int 2) (.cons (.glo "MAX_PAIRS") .nil)))))) (.cons (.ret (.tup (.cons .non (.cons (.str "pairs") .nil)))) .nil) .nil) (.cons (.ite (.not (.val (.call 0 3 (.cons (.var 3) (.cons (.int 1) (.cons (.glo "MAX_PACKS") .nil)))))) (.cons (.ret (.tup (.cons .non (.cons (.str "packs") .nil)))) .nil) .nil) (.cons (.ite (.or (.not (.val (.bif .isi (.cons (.var 4) (.cons (.ty "tuple") .nil))))) (.one (.cmp 0 .Gt (.bif .len (.cons (.var 4) .nil)) (.glo "MAX_SITTINGS")))) (.cons (.ret (.tup (.cons .non (.cons (.str "sittings") .nil)))) .nil) .nil) (.cons (.forr (.rng1 (.bif .len (.cons (.var 4) .nil))) (.nm 1) (.cons (.asg (.nm 5) (.call 8 4 (.cons (.var 2) (.cons (.var 3) (.cons (.var 4) (.cons (.var 1) .nil)))))) (.cons (.ite (.cmp 0 .IsNot (.var 5) .non) (.cons (.ret (.tup (.cons (.var 1) (.cons (.var 5) .nil)))) .nil) .nil) .nil))) (.cons (.ret .non) .nil)))))))
def b_words_of : MSs := (.cons (.ret (.comp false (.seq (.split false (.var 0) (.str " "))) (.nm 1) [("word", 1)] (.some (.cmp 0 .NotEq (.var 1) (.str ""))) (.var 1))) .nil)
def b_is_figure : MSs := (.cons (.ite (.or (.not (.chain .LtE .LtE (.int 1) (.bif .len (.cons (.var 0) .nil)) (.int 2))) (.one (.not (.val (.bif .all (.cons (.comp false (.seq (.var 0)) (.nm 1) [("sign", 1)] .none (.cmp 1 .In (.var 1) (.glo "DIGITS"))) .nil)))))) (.cons (.ret (.bl false)) .nil) .nil) (.cons (.ret (.or (.cmp 0 .Eq (.var 0) (.str "0")) (.one (.cmp 0 .NotEq (.idx (.var 0) (.int 0)) (.str "0"))))) .nil))
def b_is_head : MSs := (.cons (.ret (.and (.cmp 0 .Eq (.bif .len (.cons (.var 0) .nil)) (.int 3)) (.and (.cmp 0 .Eq (.idx (.var 0) (.int 0)) (.str "plan")) (.one (.bif .all (.cons (.comp false (.seq (.sli false (.var 0) (.some (.int 1)) .none)) (.nm 1) [("word", 1)] .none (.call 127 1 (.cons (.var 1) .nil))) .nil)))))) .nil)
def b_is_row : MSs := (.cons (.ret (.and (.cmp 0 .GtE (.bif .len (.cons (.var 0) .nil)) (.int 4)) (.one (.bif .all (.cons (.comp false (.seq (.var 0)) (.nm 1) [("word", 1)] .none (.call 127 1 (.cons (.var 1) .nil))) .nil))))) .nil)
def b_sitting_in : MSs := (.cons (.asg (.nm 1) (.bif .tuple (.cons (.comp false (.seq (.var 0)) (.nm 2) [("word", 2)] .none (.bif .int (.cons (.var 2) .nil))) .nil))) (.cons (.ret (.bin false .Add (.sli false (.var 1) .none (.some (.int 3))) (.tup (.cons (.sli false (.var 1) (.some (.int 3)) .none) .nil)))) .nil))
def b_read_plan : MSs := (.cons (.ite (.not (.val (.bif .isi (.cons (.var 0) (.cons (.ty "str") .nil))))) (.cons .never .nil) .nil) (.cons (.asgc 1 false (.seq (.split false (.var 0) (.str "\n"))) (.nm 6) [("line", 6)] .none (.call 126 1 (.cons (.var 6) .nil))) (.cons (.forr (.enum (.var 1)) (.tp (.cons (.nm 4) (.cons (.nm 5) .nil))) (.cons (.ite (.not (.ite (.cmp 0 .Eq (.var 4) (.int 0)) (.val (.call 128 1 (.cons (.var 5) .nil))) (.val (.call 129 1 (.cons (.var 5) .nil))))) (.cons .never .nil) .nil) .nil)) (.cons (.asg (.nm 2) (.tup (.cons (.bif .int (.cons (.idx (.idx (.var 1) (.int 0)) (.int 1)) .nil)) (.cons (.bif .int (.cons (.idx (.idx (.var 1) (.int 0)) (.int 2)) .nil)) (.cons (.bif .tuple (.cons (.comp false (.seq (.sli false (.var 1) (.some (.int 1)) .none)) (.nm 5) [("words", 5)] .none (.call 130 1 (.cons (.var 5) .nil))) .nil)) .nil))))) (.cons (.asg (.nm 3) (.call 9 1 (.cons (.var 2) .nil))) (.cons (.ite (.cmp 0 .IsNot (.var 3) .non) (.cons .never .nil) .nil) (.cons (.ret (.var 2)) .nil)))))))
def b_main_k54 : MSs := (.cons (.asg (.nm 1) (.call 58 1 (.cons (.var 0) .nil))) (.cons (.forr (.rng1 (.int 8)) (.nm 2) (.cons (.asg (.nm 3) (.call 69 4 (.cons (.var 1) (.cons (.bin false .Add (.int 2) (.call 59 2 (.cons (.var 1) (.cons (.int 9) .nil)))) (.cons (.bin false .Add (.int 1) (.call 59 2 (.cons (.var 1) (.cons (.int 20) .nil)))) (.cons (.call 59 2 (.cons (.var 1) (.cons (.int 30) .nil))) .nil)))))) (.cons (.ite (.cmp 0 .Eq (.var 2) (.int 7)) (.cons (.asg (.nm 3) (.call 71 1 (.cons (.bin false .Add (.int 9) (.call 59 2 (.cons (.var 1) (.cons (.int 12) .nil)))) .nil))) .nil) .nil) (.cons (.par 6 7 (.call 137 1 (.cons (.var 3) .nil)) (.bif .repr (.cons (.var 3) .nil))) (.cons (.ite (.cmp 0 .NotEq (.bif .repr (.cons (.lst false (.cons (.call 125 1 (.cons (.var 3) .nil)) (.cons (.callk 2 125 1 [0] (.cons (.var 3) .nil)) (.cons (.bif .repr (.cons (.var 3) .nil)) .nil)))) .nil)) (.bif .repr (.cons (.lst false (.cons (.var 6) (.cons (.var 6) (.cons (.var 7) .nil)))) .nil))) (.cons (.ret (.bl false)) .nil) .nil) (.cons (.asg (.nm 4) (.join (.str "\n") (.comp false (.seq (.split false (.var 6) (.str "\n"))) (.nm 9) [("_law_line", 9)] .none (.call 139 2 (.cons (.var 1) (.cons (.call 138 1 (.cons (.var 9) .nil)) .nil)))))) (.cons (.ite (.cmp 0 .NotEq (.bif .repr (.cons (.lst false (.cons (.call 131 1 (.cons (.var 6) .nil)) (.cons (.call 131 1 (.cons (.var 4) .nil)) (.cons (.callk 1 131 1 [0] (.cons (.var 4) .nil)) .nil)))) .nil)) (.bif .repr (.cons (.lst false (.cons (.var 3) (.cons (.var 3) (.cons (.var 3) .nil)))) .nil))) (.cons (.ret (.bl false)) .nil) .nil) (.cons (.forr (.seq (.idx (.var 3) (.int 2))) (.nm 5) (.cons (.asg (.nm 8) (.call 136 1 (.cons (.var 5) .nil))) (.cons (.ite (.cmp 0 .NotEq (.bif .repr (.cons (.lst false (.cons (.call 124 1 (.cons (.var 5) .nil)) (.cons (.callk 0 124 1 [0] (.cons (.var 5) .nil)) .nil))) .nil)) (.bif .repr (.cons (.lst false (.cons (.var 8) (.cons (.var 8) .nil))) .nil))) (.cons (.ret (.bl false)) .nil) .nil) .nil))) .nil)))))))) (.cons (.ret (.bl true)) .nil)))
end KN
end

section
set_option Elab.async false
set_option linter.all false
set_option maxRecDepth 100000
set_option maxHeartbeats 8000000
namespace MM
def Pl (b : MSs) (n m : Nat) (G : Gw) (Φ : Ph) : Prop := ∀ (ds : List D) (h : Hm) (Q : Kx) (E : EX), ds.length = n → Φ ds h Q E → wpSs G b (endsF Q) (fun x _ h => E x h) (start0 m ds) h
section
variable {Q : Kx} {h : Hm} {i j : Int} {b : Bool} {d e : D}
theorem onB_bl {Q : Bool → Hm → Prop} : onB Q (.bl b) h = Q b h := rfl
theorem is_non : sIs false d .non h Q = Q (.bl (isNon d)) h := by
  unfold sIs; simp
theorem isnot_non : sIs true d .non h Q = Q (.bl (!isNon d)) h := by
  unfold sIs; simp
theorem lt_int : sLt (.int i) (.int j) h Q = Q (.bl (decide (i < j))) h := rfl
theorem le_int : sLe (.int i) (.int j) h Q = Q (.bl (decide (i ≤ j))) h := rfl
theorem gt_int : sGt (.int i) (.int j) h Q = Q (.bl (decide (j < i))) h := rfl
theorem ge_int : sGe (.int i) (.int j) h Q = Q (.bl (decide (j ≤ i))) h := rfl
theorem eqv_int : PySem.PyData.eqv (.int i) (.int j) = decide (i = j) := by show (i == j) = _; rw [Bool.beq_eq_decide_eq]
theorem eq_int : sEq (.int i) (.int j) h Q = Q (.bl (decide (i = j))) h := by
  show Q (.bl (PySem.PyData.eqv (.int i) (.int j))) h = _
  rw [eqv_int]
theorem ne_int : sNe (.int i) (.int j) h Q = Q (.bl (!decide (i = j))) h := by
  show Q (.bl (!PySem.PyData.eqv (.int i) (.int j))) h = _
  rw [eqv_int]
theorem eq_str {x y : PySem.Str} : sEq (.str x) (.str y) h Q = Q (.bl (decide (x = y))) h := by
  show Q (.bl (x == y)) h = _
  rw [Bool.beq_eq_decide_eq]
theorem ne_str {x y : PySem.Str} : sNe (.str x) (.str y) h Q = Q (.bl (!decide (x = y))) h := by
  show Q (.bl (!(x == y))) h = _
  rw [Bool.beq_eq_decide_eq]
theorem add_int {k : Bool} : sAdd k (.int i) (.int j) h Q = Q (.int (i + j)) h := rfl
theorem add_str {k : Bool} {x y : PySem.Str} : sAdd k (.str x) (.str y) h Q = (x.length + y.length ≤ PySem.sizeLine ∧ Q (.str (x ++ y)) h) := rfl
theorem add_tup {k : Bool} {x y : List D} : sAdd k (.tup x) (.tup y) h Q = (x.length + y.length ≤ PySem.sizeLine ∧ Q (.tup (x ++ y)) h) := rfl
theorem add_lst {k : Bool} {x y : List D} : sAdd k (.lst x) (.lst y) h Q = (x.length + y.length ≤ PySem.sizeLine ∧ newL k (x ++ y) h Q) := rfl
theorem sub_int : sSub (.int i) (.int j) h Q = Q (.int (i - j)) h := by
  show (True ∧ _) = _
  rw [true_and]
theorem mul_int {k : Bool} (c : L2.CMul i j) (q : Q (.int (i * j)) h) : sMul k (.int i) (.int j) h Q := ⟨.inr c, q⟩
theorem fdiv_int (h1 : 0 < j) (h2 : j.natAbs.log2 < 9000) (q : Q (.int (i / j)) h) : sFdiv (.int i) (.int j) h Q := ⟨⟨h1, h2⟩, q⟩
theorem mod_int (h1 : 0 < j) (q : Q (.int (i % j)) h) : sMod (.int i) (.int j) h Q := ⟨h1, q⟩
theorem isNon_int : isNon (.int i) = false := rfl
theorem isNon_non : isNon .non = true := rfl
theorem idx_tup {xs : List D} : sIdx (.tup xs) (.int i) h Q = (match L2.atI xs i with | some d => Q d h | none => False) := rfl
theorem idx_lst {xs : List D} : sIdx (.lst xs) (.int i) h Q = (match L2.atI xs i with | some d => Q d h | none => False) := rfl
theorem idx_ref {p : PySem.Addr} {xs : List D} (e : h p = some (.lst xs)) : sIdx (.ref p) (.int i) h Q = (match L2.atI xs i with | some d => Q d h | none => False) := by
  show (match sqs h (.ref p) with | some xs => (match L2.atI xs i with | some d => Q d h | none => False) | none => False) = _
  have z : sqs h (.ref p) = some xs := by show (match h p with | some (.lst xs) => some xs | _ => none) = _; rw [e]
  rw [z]
theorem sqs_ref {p : PySem.Addr} {xs : List D} (e : h p = some (.lst xs)) : sqs h (.ref p) = some xs := by show (match h p with | some (.lst xs) => some xs | _ => none) = _; rw [e]
theorem len_ref {p : PySem.Addr} {xs : List D} (e : h p = some (.lst xs)) : sLen (.ref p) h Q = Q (.int xs.length) h := by
  show (match sqs h (.ref p) with | some xs => Q (.int xs.length) h | none => False) = _
  rw [sqs_ref e]
theorem len_lst {xs : List D} : sLen (.lst xs) h Q = Q (.int xs.length) h := rfl
theorem len_tup {xs : List D} : sLen (.tup xs) h Q = Q (.int xs.length) h := rfl
theorem len_str {x : PySem.Str} : sLen (.str x) h Q = (x.length ≤ PySem.sizeLine ∧ Q (.int x.length) h) := rfl
theorem atI_nat {α : Type} {xs : List α} {n : Nat} : L2.atI xs (n : Int) = xs[n]? := by
  unfold L2.atI L2.ixN
  by_cases h : n < xs.length
  · rw [if_pos (by omega), if_pos (by omega)]; rfl
  · rw [if_pos (by omega), if_neg (by omega), List.getElem?_eq_none (by omega)]; rfl
theorem at0 {α : Type} {x : α} {r : List α} : L2.atI (x :: r) 0 = some x := atI_nat (n := 0)
theorem at1 {α : Type} {x y : α} {r : List α} : L2.atI (x :: y :: r) 1 = some y := atI_nat (n := 1)
theorem at2 {α : Type} {x y z : α} {r : List α} : L2.atI (x :: y :: z :: r) 2 = some z := atI_nat (n := 2)
theorem at3 {α : Type} {x y z w : α} {r : List α} : L2.atI (x :: y :: z :: w :: r) 3 = some w := atI_nat (n := 3)
end
theorem kit_tab : ∀ t ∈ ["NoneType", "bool", "int", "str", "tuple", "list", "dict"], ∀ T ∈ ["int", "bool", "str", "tuple", "list", "dict"], L2.kitB t T = some (t == T || (t == "bool" && T == "int")) := by decide +kernel
theorem tyOf_mem {h : Hm} {v : D} {t : String} (e : tyOf h v = some t) : t ∈ ["NoneType", "bool", "int", "str", "tuple", "list", "dict"] := by
  unfold tyOf at e
  split at e <;> first | (cases e; decide) | skip
  all_goals (try (split at e)) <;> first | (cases e; decide) | cases e
theorem isi_ok {h : Hm} {v : D} {t T : String} {Q : Kx} (e : tyOf h v = some t) (hT : T ∈ ["int", "bool", "str", "tuple", "list", "dict"]) (q : Q (.bl (t == T || (t == "bool" && T == "int"))) h) : sIsi [v, .ty T] h Q := by
  unfold sIsi
  simp only [e, kit_tab t (tyOf_mem e) T hT]
  exact q
theorem forW_rule {kp : Hm → Prop} {g : Mg} {mb : Ms} {E : Me} {EM : EXs} {xs : List D} {σ : Sl} {h : Hm} (I : Nat → Sl → Hm → Prop) (h0 : I 0 σ h) (hk : ∀ i σ h, I i σ h → kp h)
    (step : ∀ (i : Nat) (x : D) (σ : Sl) (h : Hm) (K : Sl → Hm → Prop), xs[i]? = some x → I i σ h → (∀ σ' h', I (i + 1) σ' h' → K σ' h') → g x σ h fun σ1 h1 => mb { nx := K, rt := E.rt, bk := E.nx, ct := K } EM σ1 h1)
    (fin : ∀ σ h, I xs.length σ h → E.nx σ h) : forW kp g mb E EM xs σ h := by
  have key : ∀ (ys : List D) (n : Nat), (∀ j, ys[j]? = xs[n + j]?) → n + ys.length = xs.length → ∀ σ h, I n σ h → forW kp g mb E EM ys σ h := by
    intro ys
    induction ys with
    | nil =>
      intro n _ hl σ h hi
      have : n = xs.length := by simpa using hl
      subst this
      exact ⟨hk _ _ _ hi, fin σ h hi⟩
    | cons y ys ih =>
      intro n hj hl σ h hi
      refine ⟨hk _ _ _ hi, step n y σ h _ ?_ hi fun σ' h' z => ih (n + 1) (fun j => ?_) (by simp at hl ⊢; omega) σ' h' z⟩
      · have := hj 0
        rw [List.getElem?_cons_zero] at this
        exact this.symm
      · have := hj (j + 1)
        rw [List.getElem?_cons_succ] at this
        rw [this]; congr 1; omega
  exact key xs 0 (fun j => by rw [Nat.zero_add]) (by simp) σ h h0
def At1 (h h' : Hm) (p : PySem.Addr) (acc : List D) : Prop := h' p = some (.lst acc) ∧ ∀ a, a ≠ p → h' a = h a
theorem At1.rmm {h h' : Hm} {p : PySem.Addr} {acc : List D} (a : At1 h h' p acc) (n : h p = none) : MM.rmm h' p = h := by
  funext b
  unfold MM.rmm
  by_cases e : b = p
  · rw [if_pos e, e, n]
  · rw [if_neg e, a.2 b e]
theorem At1.here {h : Hm} {p : PySem.Addr} {acc : List D} : At1 h (updm h p (.lst acc)) p acc := ⟨updm_same, fun _ e => updm_ne e⟩
theorem At1.push {h h' : Hm} {p : PySem.Addr} {acc acc' : List D} (a : At1 h h' p acc) : At1 h (updm h' p (.lst acc')) p acc' := ⟨updm_same, fun b e => by rw [updm_ne e, a.2 b e]⟩
theorem At1.get {h h' : Hm} {p a : PySem.Addr} {acc : List D} {o : Ob} (x : At1 h h' p acc) (n : h p = none) (e : h a = some o) : h' a = some o := by
  rw [x.2 a fun z => by rw [z, n] at e; cases e]; exact e
theorem comp_rule {b : Bool} {kp : Hm → Prop} {tg : Mg} {own : List Nat} {mt : Mt} {me : Mx} {σ : Sl} {Q : Kx} {xs : List D} {h : Hm} (I : Nat → List D → Hm → Prop) (h0 : I 0 [] h) (hk : ∀ i acc g h' p, I i acc g → g p = none → At1 g h' p acc → kp h')
    (step : ∀ (i : Nat) (x : D) (acc : List D) (g h' : Hm) (p : PySem.Addr) (K : List D → Hm → Prop), xs[i]? = some x → I i acc g → g p = none → At1 g h' p acc → (∀ acc' g' h'', I (i + 1) acc' g' → g' p = none → At1 g' h'' p acc' → K acc' h'') →
      tg x (wip σ own) h' fun σ1 h1 => mt σ1 h1 (fun c h2 => match c with
        | true => me σ1 h2 (fun y h3 => h3 p = some (.lst acc) ∧ acc.length < PySem.sizeLine ∧ K (acc ++ [y]) (updm h3 p (.lst (acc ++ [y])))) noE
        | false => K acc h2) noE)
    (fin : ∀ acc g, I xs.length acc g → match b with | true => ∀ p, g p = none → Q (.ref p) (updm g p (.lst acc)) | false => Q (.lst acc) g) : ∀ p, h p = none → compW b p kp tg own mt me σ Q xs [] (updm h p (.lst [])) := by
  intro p np
  have key : ∀ (ys : List D) (n : Nat), (∀ j, ys[j]? = xs[n + j]?) → n + ys.length = xs.length → ∀ acc g h', I n acc g → g p = none → At1 g h' p acc → compW b p kp tg own mt me σ Q ys acc h' := by
    intro ys
    induction ys with
    | nil =>
      intro n _ hl acc g h' hi ng a
      have : n = xs.length := by simpa using hl
      subst this
      refine ⟨hk _ _ _ _ _ hi ng a, a.1, ?_⟩
      have z := fin acc g hi
      cases b with
      | true =>
        have e : h' = updm g p (.lst acc) := by
          funext c
          by_cases e : c = p
          · rw [e, updm_same, a.1]
          · rw [updm_ne e, a.2 c e]
        show Q (.ref p) h'
        rw [e]
        exact z p ng
      | false =>
        show Q (.lst acc) (MM.rmm h' p)
        rw [a.rmm ng]
        exact z
    | cons y ys ih =>
      intro n hj hl acc g h' hi ng a
      refine ⟨hk _ _ _ _ _ hi ng a, step n y acc g h' p _ ?_ hi ng a fun acc' g' h'' z ng' a' => ih (n + 1) (fun j => ?_) (by simp at hl ⊢; omega) acc' g' h'' z ng' a'⟩
      · have := hj 0
        rw [List.getElem?_cons_zero] at this
        exact this.symm
      · have := hj (j + 1)
        rw [List.getElem?_cons_succ] at this
        rw [this]; congr 1; omega
  exact key xs 0 (fun j => by rw [Nat.zero_add]) (by simp) [] h _ h0 np At1.here
theorem comp_pure {kp : Hm → Prop} {tg : Mg} {own : List Nat} {mt : Mt} {me : Mx} {σ : Sl} {Q : Kx} {xs : List D} {h : Hm} (f : D → Option D) (hlen : xs.length ≤ PySem.sizeLine) (hk : ∀ h' p acc, h p = none → At1 h h' p acc → kp h')
    (step : ∀ (x : D) (h' : Hm) (p : PySem.Addr) (acc : List D) (K1 : D → Hm → Prop) (K2 : Hm → Prop), x ∈ xs → h p = none → At1 h h' p acc → (match f x with | some y => K1 y h' | none => K2 h') →
      tg x (wip σ own) h' fun σ1 h1 => mt σ1 h1 (fun c h2 => match c with
        | true => me σ1 h2 K1 noE
        | false => K2 h2) noE)
    (fin : Q (.lst (xs.filterMap f)) h) : ∀ p, h p = none → compW false p kp tg own mt me σ Q xs [] (updm h p (.lst [])) := by
  refine comp_rule (fun i acc g => i ≤ xs.length ∧ g = h ∧ acc = (xs.take i).filterMap f) ⟨Nat.zero_le _, rfl, rfl⟩ (fun i acc g h' p ⟨_, e, _⟩ ng a => hk h' p acc (by rw [← e]; exact ng) (by rw [← e]; exact a)) (fun i x acc g h' p K hx ⟨hi, e, ea⟩ ng a kk => ?_) fun acc g ⟨_, e, ea⟩ => by
    subst e
    rw [ea, List.take_length]; exact fin
  subst e
  have hlt := (List.getElem?_eq_some_iff.mp hx).1
  have hacc : acc.length < PySem.sizeLine := by
    rw [ea]
    have h1 : ((xs.take i).filterMap f).length ≤ (xs.take i).length := List.length_filterMap_le _ _
    rw [List.length_take] at h1
    omega
  have hnx : (xs.take (i + 1)).filterMap f = acc ++ (match f x with | some y => [y] | none => []) := by
    rw [List.take_add_one, hx, List.filterMap_append, ea]
    congr 1
    cases h1 : f x <;> simp [h1]
  refine step x h' p acc _ _ (List.mem_of_getElem? hx) ng a ?_
  cases e : f x with
  | some y => exact ⟨a.1, hacc, kk _ g _ ⟨hlt, rfl, by rw [hnx, e]⟩ ng a.push⟩
  | none => exact kk _ g _ ⟨hlt, rfl, by rw [hnx, e, List.append_nil]⟩ ng a
theorem comp_map {kp : Hm → Prop} {tg : Mg} {own : List Nat} {me : Mx} {σ : Sl} {Q : Kx} {xs : List D} {h : Hm} (f : D → D) (hlen : xs.length ≤ PySem.sizeLine) (hk : ∀ h' p acc, h p = none → At1 h h' p acc → kp h')
    (step : ∀ (x : D) (h' : Hm) (p : PySem.Addr) (acc : List D) (K : D → Hm → Prop), x ∈ xs → h p = none → At1 h h' p acc → K (f x) h' → tg x (wip σ own) h' fun σ1 h1 => me σ1 h1 K noE)
    (fin : Q (.lst (xs.map f)) h) : ∀ p, h p = none → compW false p kp tg own mtYes me σ Q xs [] (updm h p (.lst [])) :=
  comp_pure (fun x => some (f x)) hlen hk (fun x h' p acc K1 K2 hx ng a k => step x h' p acc K1 hx ng a k) (by rw [show (fun x => some (f x)) = some ∘ f from rfl, ← List.filterMap_map]; simpa using fin)
end MM
end

section
set_option Elab.async false
set_option linter.all false
set_option maxRecDepth 100000
set_option maxHeartbeats 8000000
namespace KN
open MM
def okD : D → Bool
  | .non => true
  | .bl _ => true
  | .int _ => true
  | .str _ => true
  | .tup xs => okDs xs
  | .lst xs => okDs xs
  | .dct _ xs => okDs xs
  | _ => false
where okDs : List D → Bool
  | [] => true
  | x :: r => okD x && okDs r
def tyD : D → String
  | .non => "NoneType"
  | .bl _ => "bool"
  | .int _ => "int"
  | .str _ => "str"
  | .tup _ => "tuple"
  | .lst _ => "list"
  | _ => "dict"
theorem ty_of {h : Hm} {v : D} (k : okD v = true) : tyOf h v = some (tyD v) := by
  cases v <;> first | rfl | cases k
theorem okDs_at : ∀ {xs : List D} {i : Nat} {x : D}, okD.okDs xs = true → xs[i]? = some x → okD x = true
  | x :: r, 0, _, h, e => by
    cases e
    unfold okD.okDs at h
    exact (Bool.and_eq_true_iff.mp h).1
  | x :: r, i + 1, y, h, e => by
    unfold okD.okDs at h
    exact okDs_at (i := i) (Bool.and_eq_true_iff.mp h).2 (by simpa using e)
theorem okDs_mem {xs : List D} {x : D} (h : okD.okDs xs = true) (e : x ∈ xs) : okD x = true := by
  obtain ⟨i, hi⟩ := List.mem_iff_getElem?.mp e
  exact okDs_at h hi

def isLim : D → Bool
  | .int _ => true
  | .non => true
  | _ => false
def inLim (i : Int) : D → D → Bool
  | .int a, .int b => decide (a ≤ i) && decide (i ≤ b)
  | .int a, _ => decide (a ≤ i)
  | _, .int b => decide (i ≤ b)
  | _, _ => true
def isIntB (v lo hi : D) : Bool := match v with
  | .int i => inLim i lo hi
  | _ => false
def ph_is_integer : Ph := fun ds h Q _ => ∃ v lo hi, ds = [v, lo, hi] ∧ okD v = true ∧ isLim lo = true ∧ isLim hi = true ∧ Q (.bl (isIntB v lo hi)) h
theorem p_is_integer {G : Gw} : Pl b_is_integer 3 0 G ph_is_integer := by
  rintro ds h Q E hl ⟨v, lo, hi, rfl, ht, h1, h2, q⟩
  simp only [b_is_integer, MM.wpSs, MM.wpS, MM.wpE, MM.wpA, MM.wpT, MM.wpI, MM.wpC, MM.wpO, MM.wpG, MM.wpGs, msNext, msSeq, msNever, msBrk, msCnt, msExpr, msRet, msRetN, msAsg, msIf, msPar, msFor, mtOr, mtAnd, mtNot, mtOf, mtIte, mtYes, mCall, maCons, maNil, mVar, mC, mOp, mTup, mLst, mUc, mUk, mAnd, mOr, mNot, mNeg, mIte, mChain, onB, mSl, moNone, moSome, mM1, mB1, mB0, mgName, mgTup, mgsCons, mgsNil, mgSub, lnTs, miSeq, miRng1, miRng2, miEnum, miZip, start0, slot, put, wip, clr, BF.s, opS, cmpS, endsF, s1, List.map_cons, List.map_nil, List.replicate, List.cons_append, List.nil_append, List.append_nil, newL, mComp, finL, mSortedSet]
  refine isi_ok (ty_of ht) (by decide) ?_
  by_cases hv : ∃ i, v = .int i
  · obtain ⟨i, rfl⟩ := hv
    simp only [onB_bl, tyD, show (("int" : String) == "int" || (("int" : String) == "bool" && ("int" : String) == "int")) = true from by decide, Bool.not_true]
    refine isi_ok (t := "int") rfl (by decide) ?_
    simp only [onB_bl, show (("int" : String) == "bool" || (("int" : String) == "bool" && ("bool" : String) == "int")) = false from by decide]
    cases lo with
    | int a =>
      cases hi with
      | int b =>
        simp only [onB_bl, is_non, isNon_int, isNon_non, ge_int, le_int]
        have q : Q (.bl (decide (a ≤ i) && decide (i ≤ b))) h := q
        cases e1 : decide (a ≤ i) <;> (rw [e1] at q; simpa using q)
      | non =>
        simp only [onB_bl, is_non, isNon_int, isNon_non, ge_int, le_int]
        have q : Q (.bl (decide (a ≤ i))) h := q
        cases e1 : decide (a ≤ i) <;> (rw [e1] at q; simpa using q)
      | _ => cases h2
    | non =>
      cases hi with
      | int b =>
        simp only [onB_bl, is_non, isNon_int, isNon_non, ge_int, le_int]
        exact q
      | non =>
        simp only [onB_bl, is_non, isNon_int, isNon_non, ge_int, le_int]
        exact q
      | _ => cases h2
    | _ => cases h1
  · have q : Q (.bl false) h := by cases v <;> first | exact q | exact absurd ⟨_, rfl⟩ hv
    cases v with
    | int i => exact absurd ⟨_, rfl⟩ hv
    | bl b =>
      simp only [onB_bl, tyD, show (("bool" : String) == "int" || (("bool" : String) == "bool" && ("int" : String) == "int")) = true from by decide, Bool.not_true]
      refine isi_ok (t := "bool") rfl (by decide) ?_
      simp only [onB_bl, show (("bool" : String) == "bool" || (("bool" : String) == "bool" && ("bool" : String) == "int")) = true from by decide]
      exact q
    | _ => first | exact q | cases ht

structure Sit where
  t : Int
  n : Int
  e : Int
  ps : List Int
  deriving DecidableEq
def Sit.d (s : Sit) : D := .tup [.int s.t, .int s.n, .int s.e, .tup (s.ps.map .int)]
def shp (a b : Sit) : Bool := decide (a.n = b.n ∨ a.n = b.e) || decide (a.e = b.n ∨ a.e = b.e)
def shk (a b : Sit) : Bool := a.ps.any fun p => decide (p ∈ b.ps)
theorem cut13 {a b c d : D} : cutD [a, b, c, d] (some 1) (some 3) = [b, c] := rfl
theorem any_int {h : Hm} {i : Int} {js : List Int} {n : Nat} : ∃ ps, mapO (pyF false h (n + 1)) (js.map D.int) = some ps ∧ (ps.any fun z => z.eqv (.int i)) = decide (i ∈ js) := by
  refine ⟨js.map .int, mapO_map fun _ _ => rfl, ?_⟩
  rw [List.any_map, Bool.eq_iff_iff, List.any_eq_true, decide_eq_true_eq]
  constructor
  · rintro ⟨x, hx, e⟩
    have : (PySem.PyData.int x).eqv (.int i) = decide (x = i) := eqv_int
    simp only [Function.comp_apply, this, decide_eq_true_eq] at e
    exact e ▸ hx
  · intro hm
    exact ⟨i, hm, by rw [Function.comp_apply, eqv_int]; simp⟩
theorem in_tup {h : Hm} {i : Int} {js : List Int} {Q : Kx} (q : Q (.bl (decide (i ∈ js))) h) : sIn false (.int i) (.tup (js.map .int)) h Q := by
  obtain ⟨ps, h1, h2⟩ := any_int (h := h) (i := i) (js := js) (n := 58)
  unfold sIn
  have e2 : py h (.tup (js.map D.int)) = some (.tuple ps) := by
    show ((mapO (pyF false h 59) (js.map D.int))|>.map PySem.PyData.tuple) = _
    rw [h1]; rfl
  have e1 : py h (.int i) = some (.int i) := rfl
  rw [e1, e2]
  simpa [h2] using q
def ph_shares_pair : Ph := fun ds h Q _ => ∃ a b : Sit, ds = [a.d, b.d] ∧ Q (.bl (shp a b)) h
theorem p_shares_pair {G : Gw} : Pl b_shares_pair 2 0 G ph_shares_pair := by
  rintro ds h Q E hl ⟨a, b, rfl, q⟩
  simp only [b_shares_pair, MM.wpSs, MM.wpS, MM.wpE, MM.wpA, MM.wpT, MM.wpI, MM.wpC, MM.wpO, MM.wpG, MM.wpGs, msNext, msSeq, msNever, msBrk, msCnt, msExpr, msRet, msRetN, msAsg, msIf, msPar, msFor, mtOr, mtAnd, mtNot, mtOf, mtIte, mtYes, mCall, maCons, maNil, mVar, mC, mOp, mTup, mLst, mUc, mUk, mAnd, mOr, mNot, mNeg, mIte, mChain, onB, mSl, moNone, moSome, mM1, mB1, mB0, mgName, mgTup, mgsCons, mgsNil, mgSub, lnTs, miSeq, miRng1, miRng2, miEnum, miZip, start0, slot, put, wip, clr, BF.s, opS, cmpS, endsF, s1, List.map_cons, List.map_nil, List.replicate, List.cons_append, List.nil_append, List.append_nil, newL, mComp, finL, mSortedSet, Sit.d, idx_tup, at1, at2, sSl, cut13]
  show sIn false (.int a.n) (.tup ([b.n, b.e].map .int)) h _
  refine in_tup ?_
  have q : Q (.bl (shp a b)) h := q
  unfold shp at q
  rw [onB_bl]
  have e1 : decide (a.n ∈ [b.n, b.e]) = decide (a.n = b.n ∨ a.n = b.e) := by simp
  have e2 : decide (a.e ∈ [b.n, b.e]) = decide (a.e = b.n ∨ a.e = b.e) := by simp
  rw [e1]
  cases e : decide (a.n = b.n ∨ a.n = b.e) with
  | true => rw [e] at q; exact q
  | false =>
    rw [e] at q
    show sIn false (.int a.e) (.tup ([b.n, b.e].map .int)) h _
    refine in_tup ?_
    rw [e2]; exact q
theorem bools_map {α : Type} (f : α → Bool) : ∀ xs : List α, boolsOf (xs.map fun x => D.bl (f x)) = some (xs.map f)
  | [] => rfl
  | x :: r => by
    show (boolsOf (r.map fun x => D.bl (f x))).map (f x :: ·) = _
    rw [bools_map f r]; rfl
theorem any_ok {α : Type} {f : α → Bool} {xs : List α} {h : Hm} {Q : Kx} (q : Q (.bl (xs.any f)) h) : sBools (fun bs => bs.any id) (.lst (xs.map fun x => D.bl (f x))) h Q := by
  show (match boolsOf (xs.map fun x => D.bl (f x)) with | some bs => Q (.bl (bs.any id)) h | none => False)
  rw [bools_map]
  simpa [List.any_map] using q
theorem all_ok {α : Type} {f : α → Bool} {xs : List α} {h : Hm} {Q : Kx} (q : Q (.bl (xs.all f)) h) : sBools (fun bs => bs.all id) (.lst (xs.map fun x => D.bl (f x))) h Q := by
  show (match boolsOf (xs.map fun x => D.bl (f x)) with | some bs => Q (.bl (bs.all id)) h | none => False)
  rw [bools_map]
  simpa [List.all_map] using q
def unI : D → Int
  | .int i => i
  | _ => 0
def ph_shares_pack : Ph := fun ds h Q _ => ∃ a b : Sit, ds = [a.d, b.d] ∧ a.ps.length ≤ 100 ∧ Q (.bl (shk a b)) h
theorem p_shares_pack {G : Gw} : Pl b_shares_pack 2 1 G ph_shares_pack := by
  rintro ds h Q E hl ⟨a, b, rfl, hn, q⟩
  simp only [b_shares_pack, MM.wpSs, MM.wpS, MM.wpE, MM.wpA, MM.wpT, MM.wpI, MM.wpC, MM.wpO, MM.wpG, MM.wpGs, msNext, msSeq, msNever, msBrk, msCnt, msExpr, msRet, msRetN, msAsg, msIf, msPar, msFor, mtOr, mtAnd, mtNot, mtOf, mtIte, mtYes, mCall, maCons, maNil, mVar, mC, mOp, mTup, mLst, mUc, mUk, mAnd, mOr, mNot, mNeg, mIte, mChain, onB, mSl, moNone, moSome, mM1, mB1, mB0, mgName, mgTup, mgsCons, mgsNil, mgSub, lnTs, miSeq, miRng1, miRng2, miEnum, miZip, start0, slot, put, wip, clr, BF.s, opS, cmpS, endsF, s1, List.map_cons, List.map_nil, List.replicate, List.cons_append, List.nil_append, List.append_nil, newL, mComp, finL, mSortedSet, Sit.d]
  show ∀ p, h p = none → compW false p _ _ _ _ _ _ _ (a.ps.map .int) [] _
  refine comp_map (f := fun x => .bl (decide (unI x ∈ b.ps))) (by rw [List.length_map]; exact Nat.le_trans hn (by decide)) (fun _ _ _ _ _ => trivial) (fun x h' p acc K hx _ _ k => ?_) ?_
  · obtain ⟨i, _, rfl⟩ := List.mem_map.mp hx
    exact in_tup k
  · rw [List.map_map]
    show sBools _ (.lst (a.ps.map fun x => D.bl (decide (x ∈ b.ps)))) h Q
    exact any_ok q
end KN
end

section
set_option Elab.async false
set_option linter.all false
set_option maxRecDepth 100000
set_option maxHeartbeats 8000000
namespace KN
open MM
theorem call_int {G : Gw} (g : G.T 0 = ph_is_integer) {v lo hi : D} {h : Hm} {Q : Kx} {E : EX} (k : okD v = true) (h1 : isLim lo = true) (h2 : isLim hi = true) (q : Q (.bl (isIntB v lo hi)) h) : [v, lo, hi].length = 3 ∧ G.T 0 [v, lo, hi] h Q E := by
  rw [g]
  exact ⟨rfl, v, lo, hi, rfl, k, h1, h2, q⟩
def ascB (js : List Int) : Bool := (js.zip js.tail).all fun p => decide (p.1 < p.2)
def isSit (pairs packs : Int) (v : D) : Bool := match v with
  | .tup [a, b, c, .tup ps] => isIntB a (.int 0) (.int 14) && isIntB b (.int 0) (.int (pairs - 1)) && isIntB c (.int 0) (.int (pairs - 1)) && !decide (unI b = unI c) && decide (1 ≤ ps.length ∧ ps.length ≤ 4) && ps.all (fun p => isIntB p (.int 0) (.int (packs - 1))) && ascB (ps.map unI)
  | _ => false
structure Sit.good (pairs packs : Int) (s : Sit) : Prop where
  t0 : 0 ≤ s.t
  t1 : s.t ≤ 14
  n0 : 0 ≤ s.n
  n1 : s.n ≤ pairs - 1
  e0 : 0 ≤ s.e
  e1 : s.e ≤ pairs - 1
  ne : s.n ≠ s.e
  l0 : 1 ≤ s.ps.length
  l1 : s.ps.length ≤ 4
  pk : ∀ p ∈ s.ps, 0 ≤ p ∧ p ≤ packs - 1
  asc : ascB s.ps = true
theorem isInt_of {v : D} {a b : Int} (h : isIntB v (.int a) (.int b) = true) : ∃ i, v = .int i ∧ a ≤ i ∧ i ≤ b := by
  cases v with
  | int i =>
    have h : (decide (a ≤ i) && decide (i ≤ b)) = true := h
    simp only [Bool.and_eq_true, decide_eq_true_eq] at h
    exact ⟨i, rfl, h.1, h.2⟩
  | _ => cases h
theorem isInt_int {i a b : Int} : isIntB (.int i) (.int a) (.int b) = (decide (a ≤ i) && decide (i ≤ b)) := rfl
theorem ints_of {ps : List D} {a b : Int} (h : ps.all (fun p => isIntB p (.int a) (.int b)) = true) : ∃ js : List Int, ps = js.map .int ∧ ∀ j ∈ js, a ≤ j ∧ j ≤ b := by
  induction ps with
  | nil => exact ⟨[], rfl, fun _ z => nomatch z⟩
  | cons p r ih =>
    rw [List.all_cons, Bool.and_eq_true] at h
    obtain ⟨i, rfl, h1, h2⟩ := isInt_of h.1
    obtain ⟨js, rfl, k⟩ := ih h.2
    refine ⟨i :: js, rfl, fun j hj => ?_⟩
    rcases List.mem_cons.mp hj with rfl | hj
    · exact ⟨h1, h2⟩
    · exact k j hj
theorem unI_map (js : List Int) : (js.map D.int).map unI = js := by
  rw [List.map_map]; exact List.map_id js
theorem isSit_of {pairs packs : Int} {v : D} (h : isSit pairs packs v = true) : ∃ s : Sit, v = s.d ∧ s.good pairs packs := by
  unfold isSit at h
  split at h
  · simp only [Bool.and_eq_true, Bool.not_eq_true', decide_eq_false_iff_not, decide_eq_true_eq] at h
    obtain ⟨⟨⟨⟨⟨⟨h1, h2⟩, h3⟩, h4⟩, h5⟩, h6⟩, h7⟩ := h
    obtain ⟨t, rfl, t0, t1⟩ := isInt_of h1
    obtain ⟨n, rfl, n0, n1⟩ := isInt_of h2
    obtain ⟨e, rfl, e0, e1⟩ := isInt_of h3
    obtain ⟨js, rfl, k⟩ := ints_of h6
    rw [unI_map] at h7
    rw [List.length_map] at h5
    exact ⟨⟨t, n, e, js⟩, rfl, t0, t1, n0, n1, e0, e1, h4, h5.1, h5.2, k, h7⟩
  · cases h
theorem isSit_d {pairs packs : Int} {s : Sit} (g : s.good pairs packs) : isSit pairs packs s.d = true := by
  obtain ⟨t0, t1, n0, n1, e0, e1, ne, l0, l1, pk, asc⟩ := g
  unfold isSit Sit.d
  simp only [isInt_int, unI_map, List.length_map, List.all_map, Bool.and_eq_true, decide_eq_true_eq, Bool.not_eq_true', decide_eq_false_iff_not, List.all_eq_true, Function.comp_apply]
  exact ⟨⟨⟨⟨⟨⟨⟨t0, t1⟩, n0, n1⟩, e0, e1⟩, ne⟩, l0, l1⟩, pk⟩, asc⟩
theorem len4 {α : Type} {xs : List α} (h : xs.length = 4) : ∃ a b c d, xs = [a, b, c, d] := by
  match xs, h with
  | [a, b, c, d], _ => exact ⟨a, b, c, d, rfl⟩
theorem len3 {α : Type} {xs : List α} (h : xs.length = 3) : ∃ a b c, xs = [a, b, c] := by
  match xs, h with
  | [a, b, c], _ => exact ⟨a, b, c, rfl⟩
theorem zip_int (xs ys : List Int) : zipD (xs.map .int) (ys.map .int) = (xs.zip ys).map fun p => D.tup [.int p.1, .int p.2] := by
  unfold zipD
  rw [List.zip_map, List.map_map]
  rfl
theorem cut1 {xs : List D} : cutD xs (some 1) none = xs.tail := by
  unfold cutD
  cases xs with
  | nil => rfl
  | cons x r =>
    have e1 : HT.sIx (x :: r).length 0 (some 1) = 1 := by
      simp [HT.sIx]
      try omega
    have e2 : HT.sIx (x :: r).length (x :: r).length none = r.length + 1 := by simp [HT.sIx]
    rw [e1, e2]
    simp
def ph_is_sitting : Ph := fun ds h Q _ => ∃ (pairs packs : Int) (v : D), ds = [.int pairs, .int packs, v] ∧ okD v = true ∧ Q (.bl (isSit pairs packs v)) h
theorem p_is_sitting {G : Gw} (g0 : G.T 0 = ph_is_integer) (g1 : G.cn "MAX_HELD" = some (.int 4)) (g2 : G.cn "MAX_ROUNDS" = some (.int 15)) : Pl b_is_sitting 3 4 G ph_is_sitting := by
  rintro ds h Q E hl ⟨pairs, packs, v, rfl, hv, q⟩
  simp only [b_is_sitting, MM.wpSs, MM.wpS, MM.wpE, MM.wpA, MM.wpT, MM.wpI, MM.wpC, MM.wpO, MM.wpG, MM.wpGs, msNext, msSeq, msNever, msBrk, msCnt, msExpr, msRet, msRetN, msAsg, msIf, msPar, msFor, mtOr, mtAnd, mtNot, mtOf, mtIte, mtYes, mCall, maCons, maNil, mVar, mC, mOp, mTup, mLst, mUc, mUk, mAnd, mOr, mNot, mNeg, mIte, mChain, onB, mSl, moNone, moSome, mM1, mB1, mB0, mgName, mgTup, mgsCons, mgsNil, mgSub, lnTs, miSeq, miRng1, miRng2, miEnum, miZip, start0, slot, put, wip, clr, BF.s, opS, cmpS, endsF, s1, List.map_cons, List.map_nil, List.replicate, List.cons_append, List.nil_append, List.append_nil, newL, mComp, finL, mSortedSet, g1, g2]
  refine isi_ok (ty_of hv) (by decide) ?_
  rw [onB_bl]
  by_cases ht : ∃ xs, v = .tup xs
  · obtain ⟨xs, rfl⟩ := ht
    have hv : okD.okDs xs = true := hv
    simp only [tyD, show (("tuple" : String) == "tuple" || (("tuple" : String) == "bool" && ("tuple" : String) == "int")) = true from by decide, Bool.not_true, len_tup, ne_int, onB_bl]
    by_cases hl4 : xs.length = 4
    · obtain ⟨a, b, c, d, rfl⟩ := len4 hl4
      have oa := okDs_at (i := 0) (x := a) hv rfl
      have ob := okDs_at (i := 1) (x := b) hv rfl
      have oc := okDs_at (i := 2) (x := c) hv rfl
      have od := okDs_at (i := 3) (x := d) hv rfl
      simp only [show (!decide (([a, b, c, d].length : Int) = 4)) = false from rfl, idx_tup, at0, at1, at2, at3, sub_int]
      refine call_int g0 oa rfl rfl ?_
      rw [onB_bl]
      cases e1 : isIntB a (.int 0) (.int (15 - 1)) with
      | false =>
        simp only [Bool.not_false]
        have : isSit pairs packs (.tup [a, b, c, d]) = false := by
          unfold isSit
          split
          · rename_i h1; simp only [D.tup.injEq, List.cons.injEq] at h1; obtain ⟨rfl, _⟩ := h1
            rw [show (14 : Int) = 15 - 1 from rfl, e1]; simp
          · rfl
        rw [this] at q; exact q
      | true =>
        simp only [Bool.not_true]
        refine call_int g0 ob rfl rfl ?_
        rw [onB_bl]
        cases e2 : isIntB b (.int 0) (.int (pairs - 1)) with
        | false =>
          simp only [Bool.not_false]
          have : isSit pairs packs (.tup [a, b, c, d]) = false := by
            unfold isSit
            split
            · rename_i h1; simp only [D.tup.injEq, List.cons.injEq] at h1; obtain ⟨_, rfl, _⟩ := h1
              rw [e2]; simp
            · rfl
          rw [this] at q; exact q
        | true =>
          simp only [Bool.not_true]
          refine call_int g0 oc rfl rfl ?_
          rw [onB_bl]
          cases e3 : isIntB c (.int 0) (.int (pairs - 1)) with
          | false =>
            simp only [Bool.not_false]
            have : isSit pairs packs (.tup [a, b, c, d]) = false := by
              unfold isSit
              split
              · rename_i h1; simp only [D.tup.injEq, List.cons.injEq] at h1; obtain ⟨_, _, rfl, _⟩ := h1
                rw [e3]; simp
              · rfl
            rw [this] at q; exact q
          | true =>
            simp only [Bool.not_true]
            obtain ⟨n, rfl, n0, n1⟩ := isInt_of e2
            obtain ⟨e, rfl, e0, e4⟩ := isInt_of e3
            rw [eq_int, onB_bl]
            by_cases hne : n = e
            · subst hne
              simp only [decide_true]
              have : isSit pairs packs (.tup [a, .int n, .int n, d]) = false := by
                unfold isSit
                split
                · rename_i h1; simp only [D.tup.injEq, List.cons.injEq] at h1; obtain ⟨_, rfl, rfl, _⟩ := h1
                  simp
                · rfl
              rw [this] at q; exact q
            · simp only [hne, decide_false]
              refine isi_ok (ty_of od) (by decide) ?_
              rw [onB_bl]
              by_cases hd : ∃ ps, d = .tup ps
              · obtain ⟨ps, rfl⟩ := hd
                have od : okD.okDs ps = true := od
                have base : isSit pairs packs (.tup [a, .int n, .int e, .tup ps]) = (decide (1 ≤ ps.length ∧ ps.length ≤ 4) && ps.all (fun p => isIntB p (.int 0) (.int (packs - 1))) && ascB (ps.map unI)) := by
                  unfold isSit
                  simp only [show (14 : Int) = 15 - 1 from rfl, e1, e2, e3, unI, hne, decide_false, Bool.not_false, Bool.true_and]
                simp only [tyD, show (("tuple" : String) == "tuple" || (("tuple" : String) == "bool" && ("tuple" : String) == "int")) = true from by decide, Bool.not_true, len_tup, le_int, onB_bl]
                by_cases l1 : (1 : Int) ≤ ps.length
                · by_cases l2 : (ps.length : Int) ≤ 4
                  · simp only [l1, l2, decide_true, Bool.not_true]
                    have hlen : ps.length ≤ PySem.sizeLine := Nat.le_trans (by omega : ps.length ≤ 4) (by decide)
                    refine comp_map (f := fun x => .bl (isIntB x (.int 0) (.int (packs - 1)))) hlen (fun _ _ _ _ _ => trivial) (fun x h' p acc K hx _ _ k => ?_) ?_
                    · simp only [MM.wpSs, MM.wpS, MM.wpE, MM.wpA, MM.wpT, MM.wpI, MM.wpC, MM.wpO, MM.wpG, MM.wpGs, msNext, msSeq, msNever, msBrk, msCnt, msExpr, msRet, msRetN, msAsg, msIf, msPar, msFor, mtOr, mtAnd, mtNot, mtOf, mtIte, mtYes, mCall, maCons, maNil, mVar, mC, mOp, mTup, mLst, mUc, mUk, mAnd, mOr, mNot, mNeg, mIte, mChain, onB, mSl, moNone, moSome, mM1, mB1, mB0, mgName, mgTup, mgsCons, mgsNil, mgSub, lnTs, miSeq, miRng1, miRng2, miEnum, miZip, start0, slot, put, wip, clr, BF.s, opS, cmpS, endsF, s1, List.map_cons, List.map_nil, List.replicate, List.cons_append, List.nil_append, List.append_nil, newL, mComp, finL, mSortedSet, sub_int]
                      exact call_int g0 (okDs_mem od hx) rfl rfl k
                    · refine all_ok (f := fun x => isIntB x (.int 0) (.int (packs - 1))) ?_
                      rw [onB_bl]
                      cases e6 : ps.all (fun x => isIntB x (.int 0) (.int (packs - 1))) with
                      | false =>
                        simp only [Bool.not_false]
                        rw [base, e6] at q
                        simpa using q
                      | true =>
                        simp only [Bool.not_true]
                        obtain ⟨js, rfl, kj⟩ := ints_of e6
                        simp only [sSl, cut1]
                        rw [← List.map_tail, zip_int]
                        refine comp_map (f := fun x => match x with | .tup [.int i, .int j] => .bl (decide (i < j)) | _ => .non) (by simp at hlen ⊢; omega) (fun _ _ _ _ _ => trivial) (fun x h' p acc K hx _ _ k => ?_) ?_
                        · obtain ⟨⟨i, j⟩, _, rfl⟩ := List.mem_map.mp hx
                          exact ⟨rfl, rfl, k⟩
                        · rw [List.map_map]
                          show sBools _ (.lst ((js.zip js.tail).map fun x => D.bl (decide (x.1 < x.2)))) h Q
                          refine all_ok (f := fun x : Int × Int => decide (x.1 < x.2)) ?_
                          rw [base, e6, unI_map] at q
                          have e7 : decide (1 ≤ (js.map D.int).length ∧ (js.map D.int).length ≤ 4) = true := decide_eq_true (by omega)
                          rw [e7] at q
                          simpa [ascB] using q
                  · simp only [l1, l2, decide_true, decide_false, Bool.not_false]
                    rw [base, decide_eq_false (by omega)] at q
                    simpa using q
                · simp only [l1, decide_false, Bool.not_false]
                  rw [base, decide_eq_false (by omega)] at q
                  simpa using q
              · have hb : (tyD d == "tuple" || (tyD d == "bool" && ("tuple" : String) == "int")) = false := by
                  cases d <;> first | rfl | exact absurd ⟨_, rfl⟩ hd | cases od
                rw [hb]
                simp only [Bool.not_false]
                have : isSit pairs packs (.tup [a, .int n, .int e, d]) = false := by
                  unfold isSit
                  split
                  · rename_i h1; simp only [D.tup.injEq, List.cons.injEq] at h1; obtain ⟨_, _, _, rfl, _⟩ := h1
                    exact absurd ⟨_, rfl⟩ hd
                  · rfl
                rw [this] at q; exact q
    · have e : decide ((xs.length : Int) = 4) = false := decide_eq_false (by omega)
      simp only [e, Bool.not_false]
      have : isSit pairs packs (.tup xs) = false := by
        unfold isSit
        split
        · rename_i h1; cases h1; exact absurd rfl hl4
        · rfl
      rw [this] at q; exact q
  · have hb : (tyD v == "tuple" || (tyD v == "bool" && ("tuple" : String) == "int")) = false := by
      cases v <;> first | rfl | exact absurd ⟨_, rfl⟩ ht | cases hv
    rw [hb]
    simp only [Bool.not_false]
    have : isSit pairs packs v = false := by
      unfold isSit
      split
      · exact absurd ⟨_, rfl⟩ ht
      · rfl
    rw [this] at q; exact q
end KN
end

section
set_option Elab.async false
set_option linter.all false
set_option maxRecDepth 100000
set_option maxHeartbeats 8000000
namespace KN
open MM
def sitP (s : Sit) : PySem.PyData := .tuple [.int s.t, .int s.n, .int s.e, .tuple (s.ps.map .int)]
theorem py_ints {h : Hm} {n : Nat} (js : List Int) : mapO (pyF false h n) (js.map D.int) = some (js.map .int) := mapO_map fun _ _ => by cases n <;> rfl
theorem py_sit {h : Hm} {k : Nat} (s : Sit) : pyF false h (k + 2) s.d = some (sitP s) := by
  show ((mapO (pyF false h (k + 1)) [.int s.t, .int s.n, .int s.e, .tup (s.ps.map .int)]).map PySem.PyData.tuple) = _
  have e : pyF false h (k + 1) (.tup (s.ps.map .int)) = some (.tuple (s.ps.map .int)) := by
    show ((mapO (pyF false h k) (s.ps.map .int)).map PySem.PyData.tuple) = _
    rw [py_ints]; rfl
  simp only [mapO, e]
  rfl
def sitLt (a b : Sit) : Bool := if a.t = b.t then (if a.n = b.n then (if a.e = b.e then decide (a.ps < b.ps) else decide (a.e < b.e)) else decide (a.n < b.n)) else decide (a.t < b.t)
theorem eqv_ints : ∀ xs ys : List Int, PySem.PyData.eqvAll (xs.map .int) (ys.map .int) = decide (xs = ys)
  | [], [] => by simp [PySem.PyData.eqvAll]
  | [], _ :: _ => by simp [PySem.PyData.eqvAll]
  | _ :: _, [] => by simp [PySem.PyData.eqvAll]
  | x :: xs, y :: ys => by
    simp only [List.map_cons, PySem.PyData.eqvAll, eqv_int, eqv_ints xs ys]
    rw [Bool.eq_iff_iff]; simp
theorem alike_ints : ∀ xs ys : List Int, PySem.W.alikeAll (xs.map .int) (ys.map .int) = true
  | [], _ => by simp [PySem.W.alikeAll]
  | _ :: _, [] => by simp [PySem.W.alikeAll]
  | x :: xs, y :: ys => by simp [PySem.W.alikeAll, PySem.W.alike, alike_ints xs ys]
theorem alike_sit (a b : Sit) : PySem.W.alike (sitP a) (sitP b) = true := by
  simp [sitP, PySem.W.alike, PySem.W.alikeAll, alike_ints]
theorem lt_sit (a b : Sit) : PySem.W.dataLt (sitP a) (sitP b) = sitLt a b := by
  have ai : ∀ i j : Int, PySem.W.alike (.int i) (.int j) = true := fun _ _ => by simp [PySem.W.alike]
  have at' : PySem.W.alike (.tuple (a.ps.map .int)) (.tuple (b.ps.map .int)) = true := by simp [PySem.W.alike, alike_ints]
  unfold sitP sitLt
  rw [PySem.W.dataLt_tuple, PySem.W.dataLt_cons (ai _ _), PySem.W.dataLt_cons (ai _ _), PySem.W.dataLt_cons (ai _ _), PySem.W.dataLt_cons at']
  simp only [eqv_int, PySem.W.dataLt_int, decide_eq_true_eq]
  have e1 : PySem.PyData.eqv (.tuple (a.ps.map .int)) (.tuple (b.ps.map .int)) = decide (a.ps = b.ps) := by rw [← eqv_ints]; simp [PySem.PyData.eqv]
  have e2 : PySem.W.dataLt (.tuple (a.ps.map .int)) (.tuple (b.ps.map .int)) = decide (a.ps < b.ps) := by rw [PySem.W.dataLt_tuple]; exact PySem.W.dataLt_ints _ _
  rw [e1, e2]
  by_cases h1 : a.ps = b.ps
  · have e3 : decide (a.ps < b.ps) = false := by rw [h1]; exact decide_eq_false (List.lt_irrefl _)
    rw [e3]
    simp only [h1, decide_true, if_true]
    rfl
  · simp only [h1, decide_false, Bool.false_eq_true, if_false]
theorem sitLt_irrefl (a : Sit) : sitLt a a = false := by
  unfold sitLt
  simp [List.lt_irrefl]
theorem sitLt_tri {a b : Sit} (h1 : sitLt a b = false) (h2 : sitLt b a = false) : a = b := by
  obtain ⟨t, n, e, ps⟩ := a
  obtain ⟨t', n', e', ps'⟩ := b
  unfold sitLt at h1 h2
  dsimp only at h1 h2
  by_cases c1 : t = t'
  · subst c1
    by_cases c2 : n = n'
    · subst c2
      by_cases c3 : e = e'
      · subst c3
        simp only [if_true, decide_eq_false_iff_not] at h1 h2
        have : ps = ps' := List.le_antisymm (List.not_lt.mp h2) (List.not_lt.mp h1)
        rw [this]
      · rw [if_pos rfl, if_pos rfl, if_neg c3] at h1
        rw [if_pos rfl, if_pos rfl, if_neg (Ne.symm c3)] at h2
        simp at h1 h2; omega
    · rw [if_pos rfl, if_neg c2] at h1
      rw [if_pos rfl, if_neg (Ne.symm c2)] at h2
      simp at h1 h2; omega
  · rw [if_neg c1] at h1
    rw [if_neg (Ne.symm c1)] at h2
    simp at h1 h2; omega
theorem lt_sits {a b : Sit} {h : Hm} {Q : Kx} (q : Q (.bl (sitLt a b)) h) : sLt a.d b.d h Q := by
  show (match py h a.d, py h b.d with | some p, some q => (PySem.W.alike p q = true ∧ p ≠ .none) ∧ Q (.bl (PySem.W.dataLt p q)) h | _, _ => False)
  rw [show py h a.d = some (sitP a) from py_sit (k := 58) a, show py h b.d = some (sitP b) from py_sit (k := 58) b]
  exact ⟨⟨alike_sit a b, fun z => nomatch z⟩, by rw [lt_sit]; exact q⟩

theorem sit_idx0 (s : Sit) : L2.atI [D.int s.t, .int s.n, .int s.e, .tup (s.ps.map .int)] 0 = some (.int s.t) := rfl
def besD (s : Sit) (os : List Sit) : D :=
  if ((os.filter (shp s)).any fun o => decide (o.t = s.t)) = true then .str "pair" else if ((os.filter (shp s)).any (shk s)) = true then .str "again" else .non
def ph_beside_word : Ph := fun ds h Q _ => ∃ (s : Sit) (os : List Sit), ds = [s.d, .tup (os.map Sit.d)] ∧ os.length ≤ 1000 ∧ s.ps.length ≤ 100 ∧ Q (besD s os) h
def unS : D → Sit
  | .tup [.int t, .int n, .int e, .tup ps] => ⟨t, n, e, ps.map unI⟩
  | _ => ⟨0, 0, 0, []⟩
theorem unS_d (s : Sit) : unS s.d = s := by
  obtain ⟨t, n, e, ps⟩ := s
  show (⟨t, n, e, (ps.map D.int).map unI⟩ : Sit) = _
  rw [unI_map]
theorem filt_sit (p : Sit → Bool) : ∀ os : List Sit, (os.map Sit.d).filterMap (fun x => if p (unS x) = true then some x else none) = (os.filter p).map Sit.d
  | [] => rfl
  | o :: os => by
    rw [List.map_cons, List.filterMap_cons, unS_d, filt_sit p os]
    cases e : p o with
    | true => rw [if_pos rfl, List.filter_cons_of_pos e]; rfl
    | false => rw [if_neg Bool.false_ne_true, List.filter_cons_of_neg (by rw [e]; exact Bool.false_ne_true)]
theorem p_beside_word {G : Gw} (g5 : G.T 5 = ph_shares_pair) (g6 : G.T 6 = ph_shares_pack) : Pl b_beside_word 2 2 G ph_beside_word := by
  rintro ds h Q E hl ⟨s, os, rfl, hn, hp, q⟩
  have hz : (1000 : Nat) ≤ PySem.sizeLine := by decide
  simp only [b_beside_word, MM.wpSs, MM.wpS, MM.wpE, MM.wpA, MM.wpT, MM.wpI, MM.wpC, MM.wpO, MM.wpG, MM.wpGs, msNext, msSeq, msNever, msBrk, msCnt, msExpr, msRet, msRetN, msAsg, msIf, msPar, msFor, mtOr, mtAnd, mtNot, mtOf, mtIte, mtYes, mCall, maCons, maNil, mVar, mC, mOp, mTup, mLst, mUc, mUk, mAnd, mOr, mNot, mNeg, mIte, mChain, onB, mSl, moNone, moSome, mM1, mB1, mB0, mgName, mgTup, mgsCons, mgsNil, mgSub, lnTs, miSeq, miRng1, miRng2, miEnum, miZip, start0, slot, put, wip, clr, BF.s, opS, cmpS, endsF, s1, List.map_cons, List.map_nil, List.replicate, List.cons_append, List.nil_append, List.append_nil, newL, mComp, finL, mSortedSet]
  refine comp_pure (f := fun x => if shp s (unS x) = true then some x else none) (by rw [List.length_map]; omega) (fun _ _ _ _ _ => trivial) (fun x h' p acc K1 K2 hx _ _ k => ?_) ?_
  · obtain ⟨o, _, rfl⟩ := List.mem_map.mp hx
    rw [unS_d] at k
    simp only [MM.wpSs, MM.wpS, MM.wpE, MM.wpA, MM.wpT, MM.wpI, MM.wpC, MM.wpO, MM.wpG, MM.wpGs, msNext, msSeq, msNever, msBrk, msCnt, msExpr, msRet, msRetN, msAsg, msIf, msPar, msFor, mtOr, mtAnd, mtNot, mtOf, mtIte, mtYes, mCall, maCons, maNil, mVar, mC, mOp, mTup, mLst, mUc, mUk, mAnd, mOr, mNot, mNeg, mIte, mChain, onB, mSl, moNone, moSome, mM1, mB1, mB0, mgName, mgTup, mgsCons, mgsNil, mgSub, lnTs, miSeq, miRng1, miRng2, miEnum, miZip, start0, slot, put, wip, clr, BF.s, opS, cmpS, endsF, s1, List.map_cons, List.map_nil, List.replicate, List.cons_append, List.nil_append, List.append_nil, newL, mComp, finL, mSortedSet, g5]
    refine ⟨rfl, s, o, rfl, ?_⟩
    rw [onB_bl]
    cases e : shp s o <;> (rw [e] at k; exact k)
  · rw [filt_sit]
    have hlen : (os.filter (shp s)).length ≤ 1000 := Nat.le_trans (List.length_filter_le _ _) hn
    simp only [MM.wpSs, MM.wpS, MM.wpE, MM.wpA, MM.wpT, MM.wpI, MM.wpC, MM.wpO, MM.wpG, MM.wpGs, msNext, msSeq, msNever, msBrk, msCnt, msExpr, msRet, msRetN, msAsg, msIf, msPar, msFor, mtOr, mtAnd, mtNot, mtOf, mtIte, mtYes, mCall, maCons, maNil, mVar, mC, mOp, mTup, mLst, mUc, mUk, mAnd, mOr, mNot, mNeg, mIte, mChain, onB, mSl, moNone, moSome, mM1, mB1, mB0, mgName, mgTup, mgsCons, mgsNil, mgSub, lnTs, miSeq, miRng1, miRng2, miEnum, miZip, start0, slot, put, wip, clr, BF.s, opS, cmpS, endsF, s1, List.map_cons, List.map_nil, List.replicate, List.cons_append, List.nil_append, List.append_nil, newL, mComp, finL, mSortedSet]
    refine comp_map (f := fun x => .bl (decide ((unS x).t = s.t))) (by rw [List.length_map]; omega) (fun _ _ _ _ _ => trivial) (fun x h' p acc K hx _ _ k => ?_) ?_
    · obtain ⟨o, _, rfl⟩ := List.mem_map.mp hx
      rw [unS_d] at k
      simp only [MM.wpSs, MM.wpS, MM.wpE, MM.wpA, MM.wpT, MM.wpI, MM.wpC, MM.wpO, MM.wpG, MM.wpGs, msNext, msSeq, msNever, msBrk, msCnt, msExpr, msRet, msRetN, msAsg, msIf, msPar, msFor, mtOr, mtAnd, mtNot, mtOf, mtIte, mtYes, mCall, maCons, maNil, mVar, mC, mOp, mTup, mLst, mUc, mUk, mAnd, mOr, mNot, mNeg, mIte, mChain, onB, mSl, moNone, moSome, mM1, mB1, mB0, mgName, mgTup, mgsCons, mgsNil, mgSub, lnTs, miSeq, miRng1, miRng2, miEnum, miZip, start0, slot, put, wip, clr, BF.s, opS, cmpS, endsF, s1, List.map_cons, List.map_nil, List.replicate, List.cons_append, List.nil_append, List.append_nil, newL, mComp, finL, mSortedSet, Sit.d, idx_tup, at0, eq_int]
      exact k
    · rw [List.map_map]
      have e1 : ((fun x => D.bl (decide ((unS x).t = s.t))) ∘ Sit.d) = fun o : Sit => D.bl (decide (o.t = s.t)) := by funext o; simp only [Function.comp_apply, unS_d]
      rw [e1]
      refine any_ok (f := fun o : Sit => decide (o.t = s.t)) ?_
      rw [onB_bl]
      unfold besD at q
      cases e2 : (os.filter (shp s)).any fun o => decide (o.t = s.t) with
      | true =>
        rw [e2, if_pos rfl] at q
        exact q
      | false =>
        rw [e2, if_neg Bool.false_ne_true] at q
        simp only [MM.wpSs, MM.wpS, MM.wpE, MM.wpA, MM.wpT, MM.wpI, MM.wpC, MM.wpO, MM.wpG, MM.wpGs, msNext, msSeq, msNever, msBrk, msCnt, msExpr, msRet, msRetN, msAsg, msIf, msPar, msFor, mtOr, mtAnd, mtNot, mtOf, mtIte, mtYes, mCall, maCons, maNil, mVar, mC, mOp, mTup, mLst, mUc, mUk, mAnd, mOr, mNot, mNeg, mIte, mChain, onB, mSl, moNone, moSome, mM1, mB1, mB0, mgName, mgTup, mgsCons, mgsNil, mgSub, lnTs, miSeq, miRng1, miRng2, miEnum, miZip, start0, slot, put, wip, clr, BF.s, opS, cmpS, endsF, s1, List.map_cons, List.map_nil, List.replicate, List.cons_append, List.nil_append, List.append_nil, newL, mComp, finL, mSortedSet]
        refine comp_map (f := fun x => .bl (shk s (unS x))) (by rw [List.length_map]; omega) (fun _ _ _ _ _ => trivial) (fun x h' p acc K hx _ _ k => ?_) ?_
        · obtain ⟨o, _, rfl⟩ := List.mem_map.mp hx
          rw [unS_d] at k
          simp only [MM.wpSs, MM.wpS, MM.wpE, MM.wpA, MM.wpT, MM.wpI, MM.wpC, MM.wpO, MM.wpG, MM.wpGs, msNext, msSeq, msNever, msBrk, msCnt, msExpr, msRet, msRetN, msAsg, msIf, msPar, msFor, mtOr, mtAnd, mtNot, mtOf, mtIte, mtYes, mCall, maCons, maNil, mVar, mC, mOp, mTup, mLst, mUc, mUk, mAnd, mOr, mNot, mNeg, mIte, mChain, onB, mSl, moNone, moSome, mM1, mB1, mB0, mgName, mgTup, mgsCons, mgsNil, mgSub, lnTs, miSeq, miRng1, miRng2, miEnum, miZip, start0, slot, put, wip, clr, BF.s, opS, cmpS, endsF, s1, List.map_cons, List.map_nil, List.replicate, List.cons_append, List.nil_append, List.append_nil, newL, mComp, finL, mSortedSet, g6]
          exact ⟨rfl, s, o, rfl, hp, k⟩
        · rw [List.map_map]
          have e1 : ((fun x => D.bl (shk s (unS x))) ∘ Sit.d) = fun o : Sit => D.bl (shk s o) := by funext o; simp only [Function.comp_apply, unS_d]
          rw [e1]
          refine any_ok (f := fun o : Sit => shk s o) ?_
          rw [onB_bl]
          cases e3 : (os.filter (shp s)).any (shk s) with
          | true => rw [e3, if_pos rfl] at q; exact q
          | false => rw [e3, if_neg Bool.false_ne_true] at q; exact q
end KN
end

section
set_option Elab.async false
set_option linter.all false
set_option maxRecDepth 100000
set_option maxHeartbeats 8000000
namespace KN
open MM
theorem cut0n {xs : List D} {n : Nat} (h : n ≤ xs.length) : cutD xs none (some (n : Int)) = xs.take n := by
  unfold cutD
  have e1 : HT.sIx xs.length 0 none = 0 := by simp [HT.sIx]
  have e2 : HT.sIx xs.length xs.length (some (n : Int)) = n := by
    simp only [HT.sIx]
    rw [if_neg (by omega)]
    omega
  rw [e1, e2]
  simp
def itemD (pairs packs : Int) (os : List Sit) (v : D) : D :=
  if isSit pairs packs v = true then (match os.getLast? with
    | some o => if sitLt o (unS v) = true then besD (unS v) os else .str "order"
    | none => besD (unS v) os) else .str "sitting"
def ph_item_word : Ph := fun ds h Q _ => ∃ (pairs packs : Int) (xs : List D) (n : Nat) (os : List Sit) (v : D), ds = [.int pairs, .int packs, .tup xs, .int n] ∧ xs.length ≤ 1000 ∧ okD v = true ∧ xs[n]? = some v ∧ xs.take n = os.map Sit.d ∧ Q (itemD pairs packs os v) h
theorem p_item_word {G : Gw} (g4 : G.T 4 = ph_is_sitting) (g7 : G.T 7 = ph_beside_word) : Pl b_item_word 4 1 G ph_item_word := by
  rintro ds h Q E hl ⟨pairs, packs, xs, n, os, v, rfl, hn, hv, hx, ho, q⟩
  have hlt := (List.getElem?_eq_some_iff.mp hx).1
  have hos : os.length = n := by
    have := congrArg List.length ho
    rw [List.length_take, List.length_map] at this
    omega
  simp only [b_item_word, MM.wpSs, MM.wpS, MM.wpE, MM.wpA, MM.wpT, MM.wpI, MM.wpC, MM.wpO, MM.wpG, MM.wpGs, msNext, msSeq, msNever, msBrk, msCnt, msExpr, msRet, msRetN, msAsg, msIf, msPar, msFor, mtOr, mtAnd, mtNot, mtOf, mtIte, mtYes, mCall, maCons, maNil, mVar, mC, mOp, mTup, mLst, mUc, mUk, mAnd, mOr, mNot, mNeg, mIte, mChain, onB, mSl, moNone, moSome, mM1, mB1, mB0, mgName, mgTup, mgsCons, mgsNil, mgSub, lnTs, miSeq, miRng1, miRng2, miEnum, miZip, start0, slot, put, wip, clr, BF.s, opS, cmpS, endsF, s1, List.map_cons, List.map_nil, List.replicate, List.cons_append, List.nil_append, List.append_nil, newL, mComp, finL, mSortedSet, g4, g7, idx_tup, atI_nat, hx]
  refine ⟨rfl, pairs, packs, v, rfl, hv, ?_⟩
  rw [onB_bl]
  unfold itemD at q
  cases e : isSit pairs packs v with
  | false =>
    rw [e] at q
    exact q
  | true =>
    rw [e, if_pos rfl] at q
    obtain ⟨s, rfl, gs⟩ := isSit_of e
    rw [unS_d] at q
    simp only [Bool.not_true, gt_int, onB_bl]
    have bes : Q (besD s os) h → [s.d, D.tup (cutD xs none (some (n : Int)))].length = 2 ∧ ph_beside_word [s.d, .tup (cutD xs none (some (n : Int)))] h Q (fun x h => E x h) := fun q => by
      rw [cut0n (Nat.le_of_lt hlt), ho]
      exact ⟨rfl, s, os, rfl, by omega, by have := gs.l1; omega, q⟩
    cases el : os.getLast? with
    | none =>
      rw [el] at q
      have : os = [] := List.getLast?_eq_none_iff.mp el
      subst this
      have hn0 : n = 0 := hos.symm
      subst hn0
      simp only [show decide ((0 : Int) < ((0 : Nat) : Int)) = false from rfl, sSl]
      exact bes q
    | some o =>
      rw [el] at q
      have q : Q (if sitLt o s = true then besD s os else .str "order") h := q
      have hpos : 0 < n := by
        cases os with
        | nil => cases el
        | cons a r => rw [← hos]; exact Nat.succ_pos _
      have ep : (n : Int) - 1 = ((n - 1 : Nat) : Int) := by omega
      have eo : xs[n - 1]? = some o.d := by
        have h1 : (xs.take n)[n - 1]? = xs[n - 1]? := List.getElem?_take_of_lt (by omega)
        rw [← h1, ho, List.getElem?_map, ← hos, ← List.getLast?_eq_getElem?, el]
        rfl
      simp only [show decide ((0 : Int) < (n : Int)) = true from decide_eq_true (by omega), sub_int, ep, idx_tup, atI_nat, eo]
      refine lt_sits ?_
      rw [onB_bl]
      cases e3 : sitLt o s with
      | true =>
        rw [e3, if_pos rfl] at q
        simp only [Bool.not_true, sSl]
        exact bes q
      | false =>
        rw [e3, if_neg Bool.false_ne_true] at q
        exact q
def scanD (pairs packs : Int) : List Sit → Nat → List D → D
  | _, _, [] => .non
  | os, n, v :: r => if isNon (itemD pairs packs os v) = true then scanD pairs packs (os ++ [unS v]) (n + 1) r else .tup [.int n, itemD pairs packs os v]
theorem scanD_nil {pairs packs : Int} {os : List Sit} {n : Nat} : scanD pairs packs os n [] = .non := by unfold scanD; rfl
theorem scanD_cons {pairs packs : Int} {os : List Sit} {n : Nat} {v : D} {r : List D} : scanD pairs packs os n (v :: r) = if isNon (itemD pairs packs os v) = true then scanD pairs packs (os ++ [unS v]) (n + 1) r else .tup [.int n, itemD pairs packs os v] := by rw [scanD]
def sitsD (pairs packs : Int) : D → D
  | .tup xs => if xs.length ≤ 45 then scanD pairs packs [] 0 xs else .tup [.non, .str "sittings"]
  | _ => .tup [.non, .str "sittings"]
def planD (v : D) : D := match v with
  | .tup [a, b, c] => if isIntB a (.int 2) (.int 10) = true then (if isIntB b (.int 1) (.int 20) = true then sitsD (unI a) (unI b) c else .tup [.non, .str "packs"]) else .tup [.non, .str "pairs"]
  | _ => .tup [.non, .str "plan"]
theorem besD_non {s : Sit} {os : List Sit} : ∀ {x : D}, besD s os = x → True := fun _ => trivial
theorem item_sit {pairs packs : Int} {os : List Sit} {v : D} (h : isNon (itemD pairs packs os v) = true) : ∃ s : Sit, v = s.d ∧ s.good pairs packs := by
  unfold itemD at h
  by_cases e : isSit pairs packs v = true
  · exact isSit_of e
  · rw [if_neg e] at h; cases h
def ph_plan_error : Ph := fun ds h Q _ => ∃ v : D, ds = [v] ∧ okD v = true ∧ Q (planD v) h
theorem p_plan_error {G : Gw} (g0 : G.T 0 = ph_is_integer) (g8 : G.T 8 = ph_item_word) (g1 : G.cn "MAX_PACKS" = some (.int 20)) (g2 : G.cn "MAX_PAIRS" = some (.int 10)) (g3 : G.cn "MAX_SITTINGS" = some (.int 45)) : Pl b_plan_error 1 5 G ph_plan_error := by
  rintro ds h Q E hl ⟨v, rfl, hv, q⟩
  simp only [b_plan_error, MM.wpSs, MM.wpS, MM.wpE, MM.wpA, MM.wpT, MM.wpI, MM.wpC, MM.wpO, MM.wpG, MM.wpGs, msNext, msSeq, msNever, msBrk, msCnt, msExpr, msRet, msRetN, msAsg, msIf, msPar, msFor, mtOr, mtAnd, mtNot, mtOf, mtIte, mtYes, mCall, maCons, maNil, mVar, mC, mOp, mTup, mLst, mUc, mUk, mAnd, mOr, mNot, mNeg, mIte, mChain, onB, mSl, moNone, moSome, mM1, mB1, mB0, mgName, mgTup, mgsCons, mgsNil, mgSub, lnTs, miSeq, miRng1, miRng2, miEnum, miZip, start0, slot, put, wip, clr, BF.s, opS, cmpS, endsF, s1, List.map_cons, List.map_nil, List.replicate, List.cons_append, List.nil_append, List.append_nil, newL, mComp, finL, mSortedSet, g1, g2, g3]
  refine isi_ok (ty_of hv) (by decide) ?_
  rw [onB_bl]
  by_cases ht : ∃ xs, v = .tup xs
  · obtain ⟨xs, rfl⟩ := ht
    have hv : okD.okDs xs = true := hv
    simp only [tyD, show (("tuple" : String) == "tuple" || (("tuple" : String) == "bool" && ("tuple" : String) == "int")) = true from by decide, Bool.not_true, len_tup, ne_int, onB_bl]
    by_cases hl3 : xs.length = 3
    · obtain ⟨a, b, c, rfl⟩ := len3 hl3
      have oa := okDs_at (i := 0) (x := a) hv rfl
      have ob := okDs_at (i := 1) (x := b) hv rfl
      have oc := okDs_at (i := 2) (x := c) hv rfl
      simp only [show (!decide (([a, b, c].length : Int) = 3)) = false from rfl]
      refine ⟨rfl, trivial, ?_⟩
      have q : Q (if isIntB a (.int 2) (.int 10) = true then (if isIntB b (.int 1) (.int 20) = true then sitsD (unI a) (unI b) c else .tup [.non, .str "packs"]) else .tup [.non, .str "pairs"]) h := q
      refine call_int g0 oa rfl rfl ?_
      rw [onB_bl]
      cases e1 : isIntB a (.int 2) (.int 10) with
      | false => rw [e1] at q; exact ⟨by decide, q⟩
      | true =>
        rw [e1, if_pos rfl] at q
        simp only [Bool.not_true]
        refine call_int g0 ob rfl rfl ?_
        rw [onB_bl]
        cases e2 : isIntB b (.int 1) (.int 20) with
        | false => rw [e2] at q; exact ⟨by decide, q⟩
        | true =>
          rw [e2, if_pos rfl] at q
          simp only [Bool.not_true]
          obtain ⟨pairs, rfl, p0, p1⟩ := isInt_of e1
          obtain ⟨packs, rfl, k0, k1⟩ := isInt_of e2
          refine isi_ok (ty_of oc) (by decide) ?_
          rw [onB_bl]
          by_cases hc : ∃ xs, c = .tup xs
          · obtain ⟨xs, rfl⟩ := hc
            have oc : okD.okDs xs = true := oc
            simp only [tyD, show (("tuple" : String) == "tuple" || (("tuple" : String) == "bool" && ("tuple" : String) == "int")) = true from by decide, Bool.not_true, len_tup, gt_int, onB_bl]
            by_cases h45 : xs.length ≤ 45
            · have q : Q (scanD pairs packs [] 0 xs) h := by simpa [sitsD, unI, h45] using q
              simp only [show decide ((45 : Int) < (xs.length : Int)) = false from decide_eq_false (by omega)]
              refine ⟨⟨by omega, by omega⟩, ?_⟩
              refine forW_rule (fun i σ h' => h' = h ∧ i ≤ xs.length ∧ (∃ o1 o5, σ = [some (.tup [.int pairs, .int packs, .tup xs]), o1, some (.int pairs), some (.int packs), some (.tup xs), o5]) ∧ ∃ os : List Sit, xs.take i = os.map Sit.d ∧ scanD pairs packs os i (xs.drop i) = scanD pairs packs [] 0 xs) ?_ (fun _ _ _ _ => trivial) (fun i x σ h' K hx I kk => ?_) (fun σ h' I => ?_)
              · exact ⟨rfl, Nat.zero_le _, ⟨_, _, rfl⟩, [], rfl, rfl⟩
              · obtain ⟨rfl, hi, ⟨o1, o5, rfl⟩, os, ho, hs⟩ := I
                obtain ⟨hlt, rfl⟩ := rangeD_get hx
                have hlt : i < xs.length := by omega
                have hxi : xs[i]? = some xs[i] := List.getElem?_eq_getElem hlt
                rw [show (0 : Int) + (i : Nat) = ((i : Nat) : Int) from Int.zero_add _]
                simp only [MM.wpSs, MM.wpS, MM.wpE, MM.wpA, MM.wpT, MM.wpI, MM.wpC, MM.wpO, MM.wpG, MM.wpGs, msNext, msSeq, msNever, msBrk, msCnt, msExpr, msRet, msRetN, msAsg, msIf, msPar, msFor, mtOr, mtAnd, mtNot, mtOf, mtIte, mtYes, mCall, maCons, maNil, mVar, mC, mOp, mTup, mLst, mUc, mUk, mAnd, mOr, mNot, mNeg, mIte, mChain, onB, mSl, moNone, moSome, mM1, mB1, mB0, mgName, mgTup, mgsCons, mgsNil, mgSub, lnTs, miSeq, miRng1, miRng2, miEnum, miZip, start0, slot, put, wip, clr, BF.s, opS, cmpS, endsF, s1, List.map_cons, List.map_nil, List.replicate, List.cons_append, List.nil_append, List.append_nil, newL, mComp, finL, mSortedSet, g8]
                refine ⟨rfl, pairs, packs, xs, i, os, xs[i], rfl, by omega, okDs_at oc hxi, hxi, ho, ?_⟩
                rw [List.drop_eq_getElem_cons hlt] at hs
                rw [scanD_cons] at hs
                simp only [isnot_non, onB_bl]
                cases e : isNon (itemD pairs packs os xs[i]) with
                | true =>
                  rw [e, if_pos rfl] at hs
                  simp only [Bool.not_true]
                  obtain ⟨s, es, _⟩ := item_sit e
                  rw [es, unS_d] at hs
                  refine kk _ _ ⟨rfl, hlt, ⟨_, _, rfl⟩, os ++ [s], ?_, hs⟩
                  rw [List.take_add_one, hxi, ho, List.map_append, es]
                  rfl
                | false =>
                  rw [e, if_neg Bool.false_ne_true] at hs
                  rw [← hs] at q
                  exact ⟨by show 2 ≤ PySem.sizeLine; decide, q⟩
              · obtain ⟨rfl, hi, ⟨o1, o5, rfl⟩, os, ho, hs⟩ := I
                have hlen : (rangeD 0 (xs.length : Int).toNat).length = xs.length := by unfold rangeD; simp
                rw [hlen, List.drop_length, scanD_nil] at hs
                rw [← hs] at q
                exact q
            · have q : Q (.tup [.non, .str "sittings"]) h := by simpa [sitsD, unI, h45] using q
              simp only [show decide ((45 : Int) < (xs.length : Int)) = true from decide_eq_true (by omega)]
              exact ⟨by show 2 ≤ PySem.sizeLine; decide, q⟩
          · have hb : (tyD c == "tuple" || (tyD c == "bool" && ("tuple" : String) == "int")) = false := by
              cases c <;> first | rfl | exact absurd ⟨_, rfl⟩ hc | cases oc
            rw [hb]
            have q : Q (.tup [.non, .str "sittings"]) h := by
              cases c <;> first | exact q | exact absurd ⟨_, rfl⟩ hc
            exact ⟨by show 2 ≤ PySem.sizeLine; decide, q⟩
    · have e : decide ((xs.length : Int) = 3) = false := decide_eq_false (by omega)
      simp only [e, Bool.not_false]
      have : planD (.tup xs) = .tup [.non, .str "plan"] := by
        unfold planD
        split
        · rename_i h1; cases h1; exact absurd rfl hl3
        · rfl
      rw [this] at q; exact ⟨by show 2 ≤ PySem.sizeLine; decide, q⟩
  · have hb : (tyD v == "tuple" || (tyD v == "bool" && ("tuple" : String) == "int")) = false := by
      cases v <;> first | rfl | exact absurd ⟨_, rfl⟩ ht | cases hv
    rw [hb]
    have : planD v = .tup [.non, .str "plan"] := by
      unfold planD
      split
      · exact absurd ⟨_, rfl⟩ ht
      · rfl
    rw [this] at q; exact ⟨by show 2 ≤ PySem.sizeLine; decide, q⟩
end KN
end

section
set_option Elab.async false
set_option linter.all false
set_option maxRecDepth 100000
set_option maxHeartbeats 8000000
namespace KN
open MM PySem
abbrev numS (i : Int) : PySem.Str := ((toString i : String) : PySem.Str)
def sml (i : Int) : Prop := 0 ≤ i ∧ i < 100
theorem numS_tl {i : Int} (h : 0 ≤ i) : TL.tl (numS i) = TL.numL i.toNat := by
  have e : i = ((i.toNat : Nat) : Int) := (Int.toNat_of_nonneg h).symm
  rw [e]
  exact TL.tl_num _
theorem len_tl (x : PySem.Str) : x.length = (TL.tl x).length := by
  show x.cps.size = x.cps.toList.length
  rw [Array.length_toList]
theorem numS_len {i : Int} (h : sml i) : (numS i).length ≤ 2 := by
  rw [len_tl, numS_tl h.1]
  exact TL.numL_len (by decide) (by have := h.2; omega)
structure Sit.small (s : Sit) : Prop where
  l : s.ps.length ≤ 4
  a : ∀ i ∈ s.t :: s.n :: s.e :: s.ps, sml i
def sitT (s : Sit) : PySem.Str := Txt.join " " ((s.t :: s.n :: s.e :: s.ps).map numS)
theorem sum_le {α : Type} {f : α → Nat} {k : Nat} : ∀ {l : List α}, (∀ x ∈ l, f x ≤ k) → (l.map f).sum ≤ k * l.length
  | [], _ => Nat.zero_le _
  | x :: r, h => by
    rw [List.map_cons, List.sum_cons, List.length_cons, Nat.mul_succ]
    have := sum_le (l := r) fun y hy => h y (List.mem_cons_of_mem _ hy)
    have := h x List.mem_cons_self
    omega
theorem str_ok {i : Int} {h : Hm} {Q : Kx} (k : sml i) (q : Q (.str (numS i)) h) : sStr (.int i) h Q := by
  refine ⟨?_, q⟩
  have : i.natAbs < 100 := by have := k.1; have := k.2; omega
  exact Nat.lt_of_le_of_lt (Nat.log2_le_self _) (by omega)
theorem strs_map (zs : List PySem.Str) : strsOf (zs.map D.str) = some zs := by
  induction zs with
  | nil => rfl
  | cons z r ih => show (strsOf (r.map D.str)).map (z :: ·) = _; rw [ih]; rfl
theorem join_ok {a : PySem.Str} {zs : List PySem.Str} {h : Hm} {Q : Kx} (l : (zs.map (·.length)).sum + zs.length * a.length ≤ 16777216) (q : Q (.str (Txt.join a zs)) h) : sJoin (.str a) [.lst (zs.map .str)] h Q := by
  show (match strsOf (zs.map D.str) with | some zs => (zs.map (·.length)).sum + zs.length * a.length ≤ 16777216 ∧ Q (.str (Txt.join a zs)) h | none => False)
  rw [strs_map]
  exact ⟨l, q⟩
theorem sit_figs (s : Sit) : cutD [D.int s.t, .int s.n, .int s.e, .tup (s.ps.map .int)] none (some 3) ++ s.ps.map .int = (s.t :: s.n :: s.e :: s.ps).map D.int := rfl
def ph_sitting_text : Ph := fun ds h Q _ => ∃ s : Sit, ds = [s.d] ∧ s.small ∧ Q (.str (sitT s)) h
theorem sit_text {K : PySem.W.Frag} {own : List Nat} {σ : Sl} {h : Hm} {Q : Kx} {s : Sit} (k : s.small) (q : Q (.str (sitT s)) h) {me : Mx} (hme : ∀ (i : Int) (h' : Hm) (L : Kx), sml i → L (.str (numS i)) h' → me (put (wip σ own) 1 (.int i)) h' L noE) :
    ∀ p, h p = none → compW false p (fun _ => True) (mgName 1) own mtYes me σ (fun y h2 => sJoin (.str " ") [y] h2 Q) ((s.t :: s.n :: s.e :: s.ps).map D.int) [] (updm h p (.lst [])) := by
  refine comp_map (f := fun x => .str (numS (unI x))) (by have := k.l; have e : (7 : Nat) ≤ PySem.sizeLine := by decide
                                                          simp only [List.length_map, List.length_cons]; omega) (fun _ _ _ _ _ => trivial) (fun x h' p acc L hx _ _ kk => ?_) ?_
  · obtain ⟨i, hi, rfl⟩ := List.mem_map.mp hx
    exact hme i h' L (k.a i hi) kk
  · rw [List.map_map]
    show sJoin (.str " ") [.lst ((s.t :: s.n :: s.e :: s.ps).map fun i => D.str (numS i))] h Q
    have e : ((s.t :: s.n :: s.e :: s.ps).map fun i => D.str (numS i)) = ((s.t :: s.n :: s.e :: s.ps).map numS).map D.str := by rw [List.map_map]; rfl
    rw [e]
    refine join_ok ?_ q
    have h1 : (((s.t :: s.n :: s.e :: s.ps).map numS).map (·.length)).sum ≤ 2 * (s.t :: s.n :: s.e :: s.ps).length := by
      rw [List.map_map]
      exact sum_le fun i hi => numS_len (k.a i hi)
    have h2 : (s.t :: s.n :: s.e :: s.ps).length ≤ 7 := by have := k.l; simp only [List.length_cons]; omega
    have h3 : ((" " : PySem.Str)).length = 1 := by decide
    rw [List.length_map, h3]
    omega
theorem p_sitting_text {G : Gw} : Pl b_sitting_text 1 1 G ph_sitting_text := by
  rintro ds h Q E hl ⟨s, rfl, k, q⟩
  simp only [b_sitting_text, MM.wpSs, MM.wpS, MM.wpE, MM.wpA, MM.wpT, MM.wpI, MM.wpC, MM.wpO, MM.wpG, MM.wpGs, msNext, msSeq, msNever, msBrk, msCnt, msExpr, msRet, msRetN, msAsg, msIf, msPar, msFor, mtOr, mtAnd, mtNot, mtOf, mtIte, mtYes, mCall, maCons, maNil, mVar, mC, mOp, mTup, mLst, mUc, mUk, mAnd, mOr, mNot, mNeg, mIte, mChain, onB, mSl, moNone, moSome, mM1, mB1, mB0, mgName, mgTup, mgsCons, mgsNil, mgSub, lnTs, miSeq, miRng1, miRng2, miEnum, miZip, start0, slot, put, wip, clr, BF.s, opS, cmpS, endsF, s1, List.map_cons, List.map_nil, List.replicate, List.cons_append, List.nil_append, List.append_nil, newL, mComp, finL, mSortedSet, Sit.d, idx_tup, at3, sSl, add_tup]
  refine ⟨by have e : (7 : Nat) ≤ PySem.sizeLine := by decide
             have := k.l; simp only [List.length_map]; show 3 + s.ps.length ≤ _; omega, ?_⟩
  rw [sit_figs]
  exact sit_text (K := G.K) k q fun i h' L hi kk => str_ok hi kk
theorem p_law_sitting_text {G : Gw} : Pl b_law_sitting_text 1 1 G ph_sitting_text := by
  rintro ds h Q E hl ⟨s, rfl, k, q⟩
  simp only [b_law_sitting_text, MM.wpSs, MM.wpS, MM.wpE, MM.wpA, MM.wpT, MM.wpI, MM.wpC, MM.wpO, MM.wpG, MM.wpGs, msNext, msSeq, msNever, msBrk, msCnt, msExpr, msRet, msRetN, msAsg, msIf, msPar, msFor, mtOr, mtAnd, mtNot, mtOf, mtIte, mtYes, mCall, maCons, maNil, mVar, mC, mOp, mTup, mLst, mUc, mUk, mAnd, mOr, mNot, mNeg, mIte, mChain, onB, mSl, moNone, moSome, mM1, mB1, mB0, mgName, mgTup, mgsCons, mgsNil, mgSub, lnTs, miSeq, miRng1, miRng2, miEnum, miZip, start0, slot, put, wip, clr, BF.s, opS, cmpS, endsF, s1, List.map_cons, List.map_nil, List.replicate, List.cons_append, List.nil_append, List.append_nil, newL, mComp, finL, mSortedSet, Sit.d, idx_tup, at3, sSl, add_tup]
  refine ⟨by have e : (7 : Nat) ≤ PySem.sizeLine := by decide
             have := k.l; simp only [List.length_map]; show 3 + s.ps.length ≤ _; omega, ?_⟩
  rw [sit_figs]
  exact sit_text (K := G.K) k q fun i h' L hi kk => str_ok hi kk

structure Plan where
  p : Int
  k : Int
  os : List Sit
def Plan.d (a : Plan) : D := .tup [.int a.p, .int a.k, .tup (a.os.map Sit.d)]
structure Plan.small (a : Plan) : Prop where
  p : sml a.p
  k : sml a.k
  l : a.os.length ≤ 45
  s : ∀ s ∈ a.os, s.small
def headT (a : Plan) : PySem.Str := Txt.join " " ["plan", numS a.p, numS a.k]
def planT (a : Plan) : PySem.Str := Txt.join "\n" (headT a :: a.os.map sitT)
theorem joinL_le (S : List Nat) : ∀ ps : List (List Nat), (TL.joinL S ps).length ≤ (ps.map List.length).sum + ps.length * S.length
  | [] => Nat.zero_le _
  | [p] => by show p.length ≤ _; simp
  | p :: q :: r => by
    have ih := joinL_le S (q :: r)
    show (p ++ (S ++ TL.joinL S (q :: r))).length ≤ _
    rw [List.length_append, List.length_append, List.map_cons, List.sum_cons, List.length_cons, Nat.add_mul]
    omega
theorem join_le {a : PySem.Str} {zs : List PySem.Str} : (Txt.join a zs).length ≤ (zs.map (·.length)).sum + zs.length * a.length := by
  rw [TL.join_eq, len_tl, TL.tl_join]
  have h1 := joinL_le (TL.tl a) (zs.map TL.tl)
  have h2 : (zs.map TL.tl).map List.length = zs.map (·.length) := by rw [List.map_map]; exact List.map_congr_left fun z _ => (len_tl z).symm
  rw [h2, List.length_map, ← len_tl] at h1
  exact h1
theorem sitT_len {s : Sit} (k : s.small) : (sitT s).length ≤ 30 := by
  refine Nat.le_trans join_le ?_
  have h1 : (((s.t :: s.n :: s.e :: s.ps).map numS).map (·.length)).sum ≤ 2 * (s.t :: s.n :: s.e :: s.ps).length := by
    rw [List.map_map]
    exact sum_le fun i hi => numS_len (k.a i hi)
  have h2 : (s.t :: s.n :: s.e :: s.ps).length ≤ 7 := by have := k.l; simp only [List.length_cons]; omega
  have h3 : ((" " : PySem.Str)).length = 1 := by decide
  rw [List.length_map, h3]
  omega
theorem headT_len {a : Plan} (k : a.small) : (headT a).length ≤ 30 := by
  refine Nat.le_trans join_le ?_
  have h1 := numS_len k.p
  have h2 := numS_len k.k
  have h3 : ((" " : PySem.Str)).length = 1 := by decide
  have h4 : (("plan" : PySem.Str)).length = 4 := by decide
  simp only [List.map_cons, List.map_nil, List.sum_cons, List.sum_nil, List.length_cons, List.length_nil, h3, h4]
  omega
def ph_plan_text : Ph := fun ds h Q _ => ∃ a : Plan, ds = [a.d] ∧ a.small ∧ Q (.str (planT a)) h
theorem lines_ok {a : Plan} (k : a.small) : (((headT a :: a.os.map sitT)).map (·.length)).sum + (headT a :: a.os.map sitT).length * (("\n" : PySem.Str)).length ≤ 16777216 := by
  have h1 : ((a.os.map sitT).map (·.length)).sum ≤ 30 * a.os.length := by
    rw [List.map_map]
    exact sum_le fun s hs => sitT_len (k.s s hs)
  have h2 := headT_len k
  have h3 := k.l
  have h4 : (("\n" : PySem.Str)).length = 1 := by decide
  rw [List.map_cons, List.sum_cons, List.length_cons, List.length_map, h4]
  omega
theorem p_plan_text {G : Gw} (g : G.T 124 = ph_sitting_text) : Pl b_plan_text 1 2 G ph_plan_text := by
  rintro ds h Q E hl ⟨a, rfl, k, q⟩
  have hz : (100 : Nat) ≤ PySem.sizeLine := by decide
  simp only [b_plan_text, MM.wpSs, MM.wpS, MM.wpE, MM.wpA, MM.wpT, MM.wpI, MM.wpC, MM.wpO, MM.wpG, MM.wpGs, msNext, msSeq, msNever, msBrk, msCnt, msExpr, msRet, msRetN, msAsg, msIf, msPar, msFor, mtOr, mtAnd, mtNot, mtOf, mtIte, mtYes, mCall, maCons, maNil, mVar, mC, mOp, mTup, mLst, mUc, mUk, mAnd, mOr, mNot, mNeg, mIte, mChain, onB, mSl, moNone, moSome, mM1, mB1, mB0, mgName, mgTup, mgsCons, mgsNil, mgSub, lnTs, miSeq, miRng1, miRng2, miEnum, miZip, start0, slot, put, wip, clr, BF.s, opS, cmpS, endsF, s1, List.map_cons, List.map_nil, List.replicate, List.cons_append, List.nil_append, List.append_nil, newL, mComp, finL, mSortedSet, Plan.d, idx_tup, at0, at1, at2]
  refine str_ok k.p (str_ok k.k ⟨by simp only [List.length_cons, List.length_nil]; omega, ?_⟩)
  refine join_ok (zs := ["plan", numS a.p, numS a.k]) ?_ ⟨by simp only [List.length_cons, List.length_nil]; omega, ?_⟩
  · have h1 := numS_len k.p
    have h2 := numS_len k.k
    have h3 : ((" " : PySem.Str)).length = 1 := by decide
    have h4 : (("plan" : PySem.Str)).length = 4 := by decide
    simp only [List.map_cons, List.map_nil, List.sum_cons, List.sum_nil, List.length_cons, List.length_nil, h3, h4]
    omega
  · refine comp_map (f := fun x => .str (sitT (unS x))) (by have := k.l; rw [List.length_map]; omega) (fun _ _ _ _ _ => trivial) (fun x h' p acc L hx _ _ kk => ?_) ?_
    · obtain ⟨s, hs, rfl⟩ := List.mem_map.mp hx
      rw [unS_d] at kk
      simp only [MM.wpSs, MM.wpS, MM.wpE, MM.wpA, MM.wpT, MM.wpI, MM.wpC, MM.wpO, MM.wpG, MM.wpGs, msNext, msSeq, msNever, msBrk, msCnt, msExpr, msRet, msRetN, msAsg, msIf, msPar, msFor, mtOr, mtAnd, mtNot, mtOf, mtIte, mtYes, mCall, maCons, maNil, mVar, mC, mOp, mTup, mLst, mUc, mUk, mAnd, mOr, mNot, mNeg, mIte, mChain, onB, mSl, moNone, moSome, mM1, mB1, mB0, mgName, mgTup, mgsCons, mgsNil, mgSub, lnTs, miSeq, miRng1, miRng2, miEnum, miZip, start0, slot, put, wip, clr, BF.s, opS, cmpS, endsF, s1, List.map_cons, List.map_nil, List.replicate, List.cons_append, List.nil_append, List.append_nil, newL, mComp, finL, mSortedSet, g]
      exact ⟨rfl, s, rfl, k.s s hs, kk⟩
    · rw [List.map_map, add_lst]
      refine ⟨by have := k.l; simp only [List.length_cons, List.length_nil, List.length_map]; omega, ?_⟩
      have e : ([D.str (Txt.join " " ["plan", numS a.p, numS a.k])] ++ a.os.map ((fun x => D.str (sitT (unS x))) ∘ Sit.d)) = (headT a :: a.os.map sitT).map D.str := by
        rw [List.map_cons, List.map_map]
        show _ :: _ = _ :: _
        congr 1
        exact List.map_congr_left fun s _ => by simp only [Function.comp_apply, unS_d]
      rw [e]
      exact join_ok (lines_ok k) q
end KN
end

section
set_option Elab.async false
set_option linter.all false
set_option maxRecDepth 100000
set_option maxHeartbeats 8000000
namespace KN
open MM PySem
theorem head_law (a : Plan) : ("plan " : Str) ++ numS a.p ++ (" " : Str) ++ numS a.k = headT a := by
  refine TL.ext_tl ?_
  unfold headT
  rw [TL.join_eq, TL.tl_join, TL.tl_append, TL.tl_append, TL.tl_append]
  show _ = TL.tl ("plan" : Str) ++ (TL.tl (" " : Str) ++ (TL.tl (numS a.p) ++ (TL.tl (" " : Str) ++ TL.tl (numS a.k))))
  have e : TL.tl ("plan " : Str) = TL.tl ("plan" : Str) ++ TL.tl (" " : Str) := by decide
  rw [e]
  simp only [List.append_assoc]
theorem len_app (x y : Str) : (x ++ y).length = x.length + y.length := by rw [len_tl, TL.tl_append, List.length_append, ← len_tl, ← len_tl]
theorem p_law_plan_text {G : Gw} (g : G.T 136 = ph_sitting_text) : Pl b_law_plan_text 1 1 G ph_plan_text := by
  rintro ds h Q E hl ⟨a, rfl, k, q⟩
  have hz : (100 : Nat) ≤ sizeLine := by decide
  have h1 := numS_len k.p
  have h2 := numS_len k.k
  have h3 : ((" " : Str)).length = 1 := by decide
  have h4 : (("plan " : Str)).length = 5 := by decide
  simp only [b_law_plan_text, MM.wpSs, MM.wpS, MM.wpE, MM.wpA, MM.wpT, MM.wpI, MM.wpC, MM.wpO, MM.wpG, MM.wpGs, msNext, msSeq, msNever, msBrk, msCnt, msExpr, msRet, msRetN, msAsg, msIf, msPar, msFor, mtOr, mtAnd, mtNot, mtOf, mtIte, mtYes, mCall, maCons, maNil, mVar, mC, mOp, mTup, mLst, mUc, mUk, mAnd, mOr, mNot, mNeg, mIte, mChain, onB, mSl, moNone, moSome, mM1, mB1, mB0, mgName, mgTup, mgsCons, mgsNil, mgSub, lnTs, miSeq, miRng1, miRng2, miEnum, miZip, start0, slot, put, wip, clr, BF.s, opS, cmpS, endsF, s1, List.map_cons, List.map_nil, List.replicate, List.cons_append, List.nil_append, List.append_nil, newL, mComp, finL, mSortedSet, Plan.d, idx_tup, at0, at1, at2]
  refine str_ok k.p ?_
  rw [add_str]
  refine ⟨by omega, ?_⟩
  rw [add_str]
  refine ⟨by rw [len_app]; omega, ?_⟩
  refine str_ok k.k ?_
  rw [add_str]
  refine ⟨by rw [len_app, len_app]; omega, ?_⟩
  rw [head_law]
  refine ⟨by simp only [List.length_cons, List.length_nil]; omega, ?_⟩
  refine comp_map (f := fun x => .str (sitT (unS x))) (by have := k.l; rw [List.length_map]; omega) (fun _ _ _ _ _ => trivial) (fun x h' p acc L hx _ _ kk => ?_) ?_
  · obtain ⟨s, hs, rfl⟩ := List.mem_map.mp hx
    rw [unS_d] at kk
    simp only [MM.wpSs, MM.wpS, MM.wpE, MM.wpA, MM.wpT, MM.wpI, MM.wpC, MM.wpO, MM.wpG, MM.wpGs, msNext, msSeq, msNever, msBrk, msCnt, msExpr, msRet, msRetN, msAsg, msIf, msPar, msFor, mtOr, mtAnd, mtNot, mtOf, mtIte, mtYes, mCall, maCons, maNil, mVar, mC, mOp, mTup, mLst, mUc, mUk, mAnd, mOr, mNot, mNeg, mIte, mChain, onB, mSl, moNone, moSome, mM1, mB1, mB0, mgName, mgTup, mgsCons, mgsNil, mgSub, lnTs, miSeq, miRng1, miRng2, miEnum, miZip, start0, slot, put, wip, clr, BF.s, opS, cmpS, endsF, s1, List.map_cons, List.map_nil, List.replicate, List.cons_append, List.nil_append, List.append_nil, newL, mComp, finL, mSortedSet, g]
    exact ⟨rfl, s, rfl, k.s s hs, kk⟩
  · rw [List.map_map, add_lst]
    refine ⟨by have := k.l; simp only [List.length_cons, List.length_nil, List.length_map]; omega, ?_⟩
    have e : ([D.str (headT a)] ++ a.os.map ((fun x => D.str (sitT (unS x))) ∘ Sit.d)) = (headT a :: a.os.map sitT).map D.str := by
      rw [List.map_cons, List.map_map]
      show _ :: _ = _ :: _
      congr 1
      exact List.map_congr_left fun s _ => by simp only [Function.comp_apply, unS_d]
    rw [e]
    exact join_ok (lines_ok k) q

def wordsL (z : Str) : List Str := (Txt.split z " ").filter fun w => !decide (w = "")
theorem joinL_mem {S p : List Nat} : ∀ {ps : List (List Nat)}, p ∈ ps → p.length ≤ (TL.joinL S ps).length
  | [q], h => by
    rcases List.mem_cons.mp h with rfl | h
    · exact Nat.le_refl _
    · cases h
  | q :: r :: t, h => by
    show _ ≤ (q ++ (S ++ TL.joinL S (r :: t))).length
    rw [List.length_append, List.length_append]
    rcases List.mem_cons.mp h with rfl | h
    · omega
    · have := joinL_mem (S := S) h
      omega
theorem split_mem {z y w : Str} (h : w ∈ Txt.split z y) : w.length ≤ z.length := by
  have e := congrArg TL.tl (StrLaws.join_split z y)
  rw [TL.tl_join] at e
  have := joinL_mem (S := TL.tl y) (List.mem_map_of_mem (f := TL.tl) h)
  rw [e] at this
  rw [len_tl, len_tl]; exact this
theorem wordsL_mem {z w : Str} (h : w ∈ wordsL z) : w.length ≤ z.length := split_mem (List.mem_filter.mp h).1
def ph_words_of : Ph := fun ds h Q _ => ∃ z : Str, ds = [.str z] ∧ z.length + 2 ≤ sizeLine ∧ Q (.lst ((wordsL z).map .str)) h
theorem filt_str (p : Str → Bool) : ∀ ws : List Str, (ws.map D.str).filterMap (fun x => match x with | .str w => if p w = true then some (D.str w) else none | _ => none) = (ws.filter p).map D.str
  | [] => rfl
  | o :: os => by
    rw [List.map_cons, List.filterMap_cons, filt_str p os]
    cases e : p o with
    | true => simp [e]
    | false => simp [e]
theorem p_words_of {G : Gw} : Pl b_words_of 1 1 G ph_words_of := by
  rintro ds h Q E hl ⟨z, rfl, hz, q⟩
  simp only [b_words_of, MM.wpSs, MM.wpS, MM.wpE, MM.wpA, MM.wpT, MM.wpI, MM.wpC, MM.wpO, MM.wpG, MM.wpGs, msNext, msSeq, msNever, msBrk, msCnt, msExpr, msRet, msRetN, msAsg, msIf, msPar, msFor, mtOr, mtAnd, mtNot, mtOf, mtIte, mtYes, mCall, maCons, maNil, mVar, mC, mOp, mTup, mLst, mUc, mUk, mAnd, mOr, mNot, mNeg, mIte, mChain, onB, mSl, moNone, moSome, mM1, mB1, mB0, mgName, mgTup, mgsCons, mgsNil, mgSub, lnTs, miSeq, miRng1, miRng2, miEnum, miZip, start0, slot, put, wip, clr, BF.s, opS, cmpS, endsF, s1, List.map_cons, List.map_nil, List.replicate, List.cons_append, List.nil_append, List.append_nil, newL, mComp, finL, mSortedSet]
  refine ⟨⟨by decide, hz⟩, ?_⟩
  have hs := PyProof.Rows.split_le z (" " : Str)
  refine comp_pure (f := fun x => match x with | .str w => if (!decide (w = "")) = true then some (.str w) else none | _ => none) (by rw [List.length_map]; omega) (fun _ _ _ _ _ => trivial) (fun x h' p acc K1 K2 hx _ _ k => ?_) ?_
  · obtain ⟨w, _, rfl⟩ := List.mem_map.mp hx
    simp only [MM.wpSs, MM.wpS, MM.wpE, MM.wpA, MM.wpT, MM.wpI, MM.wpC, MM.wpO, MM.wpG, MM.wpGs, msNext, msSeq, msNever, msBrk, msCnt, msExpr, msRet, msRetN, msAsg, msIf, msPar, msFor, mtOr, mtAnd, mtNot, mtOf, mtIte, mtYes, mCall, maCons, maNil, mVar, mC, mOp, mTup, mLst, mUc, mUk, mAnd, mOr, mNot, mNeg, mIte, mChain, onB, mSl, moNone, moSome, mM1, mB1, mB0, mgName, mgTup, mgsCons, mgsNil, mgSub, lnTs, miSeq, miRng1, miRng2, miEnum, miZip, start0, slot, put, wip, clr, BF.s, opS, cmpS, endsF, s1, List.map_cons, List.map_nil, List.replicate, List.cons_append, List.nil_append, List.append_nil, newL, mComp, finL, mSortedSet, ne_str, onB_bl]
    have k : (match (if (!decide (w = "")) = true then some (D.str w) else none) with | some y => K1 y h' | none => K2 h') := k
    cases e : !decide (w = "") with
    | true => rw [if_pos e] at k; exact k
    | false => rw [if_neg (by rw [e]; exact Bool.false_ne_true)] at k; exact k
  · rw [filt_str]; exact q
theorem p_law_words {G : Gw} : Pl b_law_words 1 1 G ph_words_of := by
  rintro ds h Q E hl ⟨z, rfl, hz, q⟩
  simp only [b_law_words, MM.wpSs, MM.wpS, MM.wpE, MM.wpA, MM.wpT, MM.wpI, MM.wpC, MM.wpO, MM.wpG, MM.wpGs, msNext, msSeq, msNever, msBrk, msCnt, msExpr, msRet, msRetN, msAsg, msIf, msPar, msFor, mtOr, mtAnd, mtNot, mtOf, mtIte, mtYes, mCall, maCons, maNil, mVar, mC, mOp, mTup, mLst, mUc, mUk, mAnd, mOr, mNot, mNeg, mIte, mChain, onB, mSl, moNone, moSome, mM1, mB1, mB0, mgName, mgTup, mgsCons, mgsNil, mgSub, lnTs, miSeq, miRng1, miRng2, miEnum, miZip, start0, slot, put, wip, clr, BF.s, opS, cmpS, endsF, s1, List.map_cons, List.map_nil, List.replicate, List.cons_append, List.nil_append, List.append_nil, newL, mComp, finL, mSortedSet]
  refine ⟨⟨by decide, hz⟩, ?_⟩
  have hs := PyProof.Rows.split_le z (" " : Str)
  refine comp_pure (f := fun x => match x with | .str w => if (!decide (w = "")) = true then some (.str w) else none | _ => none) (by rw [List.length_map]; omega) (fun _ _ _ _ _ => trivial) (fun x h' p acc K1 K2 hx _ _ k => ?_) ?_
  · obtain ⟨w, _, rfl⟩ := List.mem_map.mp hx
    simp only [MM.wpSs, MM.wpS, MM.wpE, MM.wpA, MM.wpT, MM.wpI, MM.wpC, MM.wpO, MM.wpG, MM.wpGs, msNext, msSeq, msNever, msBrk, msCnt, msExpr, msRet, msRetN, msAsg, msIf, msPar, msFor, mtOr, mtAnd, mtNot, mtOf, mtIte, mtYes, mCall, maCons, maNil, mVar, mC, mOp, mTup, mLst, mUc, mUk, mAnd, mOr, mNot, mNeg, mIte, mChain, onB, mSl, moNone, moSome, mM1, mB1, mB0, mgName, mgTup, mgsCons, mgsNil, mgSub, lnTs, miSeq, miRng1, miRng2, miEnum, miZip, start0, slot, put, wip, clr, BF.s, opS, cmpS, endsF, s1, List.map_cons, List.map_nil, List.replicate, List.cons_append, List.nil_append, List.append_nil, newL, mComp, finL, mSortedSet, ne_str, onB_bl]
    have k : (match (if (!decide (w = "")) = true then some (D.str w) else none) with | some y => K1 y h' | none => K2 h') := k
    cases e : !decide (w = "") with
    | true => rw [if_pos e] at k; exact k
    | false => rw [if_neg (by rw [e]; exact Bool.false_ne_true)] at k; exact k
  · rw [filt_str]; exact q

def dig (c : Nat) : Bool := decide (48 ≤ c) && decide (c ≤ 57)
def figB (w : Str) : Bool := match w.cps.toList with
  | [a] => dig a
  | [a, b] => dig a && dig b && !decide (a = 48)
  | _ => false
theorem dig_in (c : Nat) : decide (c ∈ (("0123456789" : Str)).cps.toList) = dig c := by
  have e : (("0123456789" : Str)).cps.toList = [48, 49, 50, 51, 52, 53, 54, 55, 56, 57] := by decide
  rw [e, Bool.eq_iff_iff, decide_eq_true_eq]
  unfold dig
  simp only [List.mem_cons, List.not_mem_nil, or_false, Bool.and_eq_true, decide_eq_true_eq]
  omega
def ph_is_figure : Ph := fun ds h Q _ => ∃ w : Str, ds = [.str w] ∧ w.length ≤ sizeLine ∧ Q (.bl (figB w)) h
def sgn : D → Nat
  | .str z => z.cps.toList.headD 0
  | _ => 0
theorem one_zero (a : Nat) : decide ((⟨#[a]⟩ : Str) = "0") = decide (a = 48) := by
  have e : (("0" : Str)) = ⟨#[48]⟩ := by decide
  rw [e]
  simp
theorem p_is_figure {G : Gw} (g : G.cn "DIGITS" = some (.str "0123456789")) : Pl b_is_figure 1 1 G ph_is_figure := by
  rintro ds h Q E hl ⟨w, rfl, hw, q⟩
  have hlen : w.length = w.cps.toList.length := len_tl w
  simp only [b_is_figure, MM.wpSs, MM.wpS, MM.wpE, MM.wpA, MM.wpT, MM.wpI, MM.wpC, MM.wpO, MM.wpG, MM.wpGs, msNext, msSeq, msNever, msBrk, msCnt, msExpr, msRet, msRetN, msAsg, msIf, msPar, msFor, mtOr, mtAnd, mtNot, mtOf, mtIte, mtYes, mCall, maCons, maNil, mVar, mC, mOp, mTup, mLst, mUc, mUk, mAnd, mOr, mNot, mNeg, mIte, mChain, onB, mSl, moNone, moSome, mM1, mB1, mB0, mgName, mgTup, mgsCons, mgsNil, mgSub, lnTs, miSeq, miRng1, miRng2, miEnum, miZip, start0, slot, put, wip, clr, BF.s, opS, cmpS, endsF, s1, List.map_cons, List.map_nil, List.replicate, List.cons_append, List.nil_append, List.append_nil, newL, mComp, finL, mSortedSet, g]
  rw [len_str]
  refine ⟨hw, ?_⟩
  rw [le_int, onB_bl]
  by_cases h1 : (1 : Int) ≤ w.length
  · simp only [h1, decide_true, le_int, onB_bl]
    by_cases h2 : (w.length : Int) ≤ 2
    · simp only [h2, decide_true, Bool.not_true]
      have hz : (2 : Nat) ≤ sizeLine := by decide
      refine comp_map (f := fun x => .bl (dig (sgn x))) (by unfold signs; rw [List.length_map]; omega) (fun _ _ _ _ _ => trivial) (fun x h' p acc L hx _ _ kk => ?_) ?_
      · obtain ⟨c, _, rfl⟩ := List.mem_map.mp hx
        simp only [MM.wpSs, MM.wpS, MM.wpE, MM.wpA, MM.wpT, MM.wpI, MM.wpC, MM.wpO, MM.wpG, MM.wpGs, msNext, msSeq, msNever, msBrk, msCnt, msExpr, msRet, msRetN, msAsg, msIf, msPar, msFor, mtOr, mtAnd, mtNot, mtOf, mtIte, mtYes, mCall, maCons, maNil, mVar, mC, mOp, mTup, mLst, mUc, mUk, mAnd, mOr, mNot, mNeg, mIte, mChain, onB, mSl, moNone, moSome, mM1, mB1, mB0, mgName, mgTup, mgsCons, mgsNil, mgSub, lnTs, miSeq, miRng1, miRng2, miEnum, miZip, start0, slot, put, wip, clr, BF.s, opS, cmpS, endsF, s1, List.map_cons, List.map_nil, List.replicate, List.cons_append, List.nil_append, List.append_nil, newL, mComp, finL, mSortedSet]
        refine ⟨c, _, rfl, rfl, ?_⟩
        rw [dig_in]
        exact kk
      · have e : (signs w).map (fun x => D.bl (dig (sgn x))) = w.cps.toList.map fun c => D.bl (dig c) := by
          unfold signs
          rw [List.map_map]
          rfl
        rw [e]
        refine all_ok (f := dig) ?_
        rw [onB_bl]
        unfold figB at q
        have fin : ∀ (a : Nat) (r : List Nat), w.cps.toList = a :: r → Q (.bl (decide (w = "0") || !decide (a = 48))) h → sEq (.str w) (.str "0") h (onB fun k h1 => match k with
            | true => Q (.bl true) h1
            | false => sIdx (.str w) (.int 0) h1 fun x h2 => sNe x (.str "0") h2 Q) := fun a r e q => by
          rw [eq_str, onB_bl]
          cases e2 : decide (w = ("0" : Str)) with
          | true => rw [e2] at q; exact q
          | false =>
            rw [e2] at q
            have e3 : L2.atI w.cps.toList 0 = some a := by rw [e]; exact at0
            show w.length ≤ sizeLine ∧ (match L2.atI w.cps.toList 0 with | some c => sNe (.str ⟨#[c]⟩) (.str "0") h Q | none => False)
            rw [e3]
            refine ⟨hw, ?_⟩
            show sNe (.str ⟨#[a]⟩) (.str "0") h Q
            rw [ne_str, one_zero]
            simpa using q
        match e3 : w.cps.toList, hlen with
        | [], hlen => rw [hlen] at h1; simp at h1
        | [a], _ =>
          rw [e3] at q
          have q : Q (.bl (dig a)) h := q
          simp only [List.all_cons, List.all_nil, Bool.and_true]
          cases ed : dig a with
          | false => rw [ed] at q; exact q
          | true =>
            rw [ed] at q
            refine fin a [] e3 ?_
            have e4 : (decide (w = ("0" : Str)) || !decide (a = 48)) = true := by
              have e5 : w = (⟨#[a]⟩ : Str) := by
                refine TL.ext_tl ?_
                show w.cps.toList = _
                rw [e3]
              rw [e5, one_zero]
              cases decide (a = 48) <;> rfl
            rw [e4]; exact q
        | [a, b], _ =>
          rw [e3] at q
          simp only [List.all_cons, List.all_nil, Bool.and_true]
          have q : Q (.bl (dig a && dig b && !decide (a = 48))) h := q
          cases ed : dig a && dig b with
          | false => rw [ed] at q; exact q
          | true =>
            rw [ed] at q
            refine fin a [b] e3 ?_
            have e4 : decide (w = ("0" : Str)) = false := by
              refine decide_eq_false fun z => ?_
              rw [z] at e3
              have : (("0" : Str)).cps.toList = [48] := by decide
              rw [this] at e3
              cases e3
            rw [e4]
            simpa using q
        | a :: b :: c :: r, hlen => rw [hlen] at h2; simp at h2; omega
    · simp only [h2, decide_false, Bool.not_false]
      have : figB w = false := by
        unfold figB
        split
        · rename_i e; rw [hlen, e] at h2; simp at h2
        · rename_i e; rw [hlen, e] at h2; simp at h2
        · rfl
      rw [this] at q; exact q
  · simp only [h1, decide_false, onB_bl, Bool.not_false]
    have : figB w = false := by
      unfold figB
      split
      · rename_i e; rw [hlen, e] at h1; simp at h1
      · rename_i e; rw [hlen, e] at h1; simp at h1
      · rfl
    rw [this] at q; exact q
end KN
end

section
set_option Elab.async false
set_option linter.all false
set_option maxRecDepth 100000
set_option maxHeartbeats 8000000
namespace KN
open MM PySem
theorem cut3 {xs : List D} (h : 3 ≤ xs.length) : cutD xs none (some 3) = xs.take 3 := cut0n (n := 3) h
theorem cutn0 {xs : List D} {n : Nat} (h : n ≤ xs.length) : cutD xs (some (n : Int)) none = xs.drop n := by
  unfold cutD
  have e1 : HT.sIx xs.length 0 (some (n : Int)) = n := by
    simp only [HT.sIx]
    rw [if_neg (by omega)]
    omega
  have e2 : HT.sIx xs.length xs.length none = xs.length := by simp [HT.sIx]
  rw [e1, e2]
  exact List.take_of_length_le (by rw [List.length_drop]; exact Nat.le_refl _)
def figV (w : Str) : Int := ((NumText.digitsVal w.cps.toList : Nat) : Int)
theorem dig_of {c : Nat} (h : dig c = true) : 48 ≤ c ∧ c ≤ 57 := by
  unfold dig at h
  simpa using h
theorem fig_of {w : Str} (h : figB w = true) : NumText.AllDigits w.cps.toList ∧ w.cps.toList ≠ [] ∧ w.length ≤ 2 := by
  have hlen : w.length = w.cps.toList.length := len_tl w
  rw [hlen]
  unfold figB at h
  split at h
  · rename_i a e
    rw [e]
    refine ⟨fun c hc => ?_, by simp, by simp⟩
    rcases List.mem_cons.mp hc with rfl | hc
    · exact dig_of h
    · cases hc
  · rename_i a b e
    rw [e]
    simp only [Bool.and_eq_true] at h
    refine ⟨fun c hc => ?_, by simp, by simp⟩
    rcases List.mem_cons.mp hc with rfl | hc
    · exact dig_of h.1.1
    · rcases List.mem_cons.mp hc with rfl | hc
      · exact dig_of h.1.2
      · cases hc
  · cases h
theorem int_ok {w : Str} {h : Hm} {Q : Kx} (f : figB w = true) (q : Q (.int (figV w)) h) : sInt (.str w) h Q := by
  obtain ⟨a, b, c⟩ := fig_of f
  have e := intText_digits a b (by omega)
  show (match intText? w with | some n => w.length ≤ 640 ∧ Q (.int n) h | none => False)
  rw [e]
  exact ⟨by omega, q⟩
def headB (ws : List Str) : Bool := match ws with
  | [a, b, c] => decide (a = "plan") && figB b && figB c
  | _ => false
def rowB (ws : List Str) : Bool := decide (4 ≤ ws.length) && ws.all figB
def unZ : D → Str
  | .str z => z
  | _ => ""
def ph_is_head : Ph := fun ds h Q _ => ∃ ws : List Str, ds = [.lst (ws.map .str)] ∧ ws.length ≤ sizeLine ∧ (∀ w ∈ ws, w.length ≤ sizeLine) ∧ Q (.bl (headB ws)) h
theorem p_is_head {G : Gw} (g : G.T 127 = ph_is_figure) : Pl b_is_head 1 1 G ph_is_head := by
  rintro ds h Q E hl ⟨ws, rfl, hz, hw, q⟩
  simp only [b_is_head, MM.wpSs, MM.wpS, MM.wpE, MM.wpA, MM.wpT, MM.wpI, MM.wpC, MM.wpO, MM.wpG, MM.wpGs, msNext, msSeq, msNever, msBrk, msCnt, msExpr, msRet, msRetN, msAsg, msIf, msPar, msFor, mtOr, mtAnd, mtNot, mtOf, mtIte, mtYes, mCall, maCons, maNil, mVar, mC, mOp, mTup, mLst, mUc, mUk, mAnd, mOr, mNot, mNeg, mIte, mChain, onB, mSl, moNone, moSome, mM1, mB1, mB0, mgName, mgTup, mgsCons, mgsNil, mgSub, lnTs, miSeq, miRng1, miRng2, miEnum, miZip, start0, slot, put, wip, clr, BF.s, opS, cmpS, endsF, s1, List.map_cons, List.map_nil, List.replicate, List.cons_append, List.nil_append, List.append_nil, newL, mComp, finL, mSortedSet, len_lst, List.length_map, eq_int, onB_bl]
  by_cases h3 : ws.length = 3
  · obtain ⟨a, b, c, rfl⟩ := len3 h3
    simp only [show decide ((([a, b, c] : List Str).length : Int) = 3) = true from rfl, List.map_cons, List.map_nil, idx_lst, at0, eq_str, onB_bl]
    have q : Q (.bl (decide (a = ("plan" : Str)) && figB b && figB c)) h := q
    cases e : decide (a = ("plan" : Str)) with
    | false => rw [e] at q; exact q
    | true =>
      rw [e] at q
      simp only [sSl, lis, cut1, List.tail_cons]
      have hw' : ∀ w ∈ [b, c], w.length ≤ sizeLine := fun w hm => hw w (List.mem_cons_of_mem _ hm)
      show ∀ p, h p = none → compW false p _ _ _ _ _ _ _ (([b, c] : List Str).map D.str) [] _
      refine comp_map (f := fun x => .bl (figB (unZ x))) (Nat.le_trans (show 2 ≤ 3 by decide) (by decide)) (fun _ _ _ _ _ => trivial) (fun x h' p acc L hx _ _ kk => ?_) ?_
      · obtain ⟨w, hm, rfl⟩ := List.mem_map.mp hx
        simp only [MM.wpSs, MM.wpS, MM.wpE, MM.wpA, MM.wpT, MM.wpI, MM.wpC, MM.wpO, MM.wpG, MM.wpGs, msNext, msSeq, msNever, msBrk, msCnt, msExpr, msRet, msRetN, msAsg, msIf, msPar, msFor, mtOr, mtAnd, mtNot, mtOf, mtIte, mtYes, mCall, maCons, maNil, mVar, mC, mOp, mTup, mLst, mUc, mUk, mAnd, mOr, mNot, mNeg, mIte, mChain, onB, mSl, moNone, moSome, mM1, mB1, mB0, mgName, mgTup, mgsCons, mgsNil, mgSub, lnTs, miSeq, miRng1, miRng2, miEnum, miZip, start0, slot, put, wip, clr, BF.s, opS, cmpS, endsF, s1, List.map_cons, List.map_nil, List.replicate, List.cons_append, List.nil_append, List.append_nil, newL, mComp, finL, mSortedSet, g]
        exact ⟨rfl, w, rfl, hw' w hm, kk⟩
      · rw [List.map_map]
        show sBools _ (.lst (([b, c] : List Str).map fun w => D.bl (figB w))) h Q
        refine all_ok (f := figB) ?_
        simpa using q
  · have e : decide ((ws.length : Int) = 3) = false := decide_eq_false (by omega)
    rw [e]
    have : headB ws = false := by
      unfold headB
      split
      · exact absurd rfl h3
      · rfl
    rw [this] at q; exact q
def ph_is_row : Ph := fun ds h Q _ => ∃ ws : List Str, ds = [.lst (ws.map .str)] ∧ ws.length ≤ sizeLine ∧ (∀ w ∈ ws, w.length ≤ sizeLine) ∧ Q (.bl (rowB ws)) h
theorem p_is_row {G : Gw} (g : G.T 127 = ph_is_figure) : Pl b_is_row 1 1 G ph_is_row := by
  rintro ds h Q E hl ⟨ws, rfl, hz, hw, q⟩
  simp only [b_is_row, MM.wpSs, MM.wpS, MM.wpE, MM.wpA, MM.wpT, MM.wpI, MM.wpC, MM.wpO, MM.wpG, MM.wpGs, msNext, msSeq, msNever, msBrk, msCnt, msExpr, msRet, msRetN, msAsg, msIf, msPar, msFor, mtOr, mtAnd, mtNot, mtOf, mtIte, mtYes, mCall, maCons, maNil, mVar, mC, mOp, mTup, mLst, mUc, mUk, mAnd, mOr, mNot, mNeg, mIte, mChain, onB, mSl, moNone, moSome, mM1, mB1, mB0, mgName, mgTup, mgsCons, mgsNil, mgSub, lnTs, miSeq, miRng1, miRng2, miEnum, miZip, start0, slot, put, wip, clr, BF.s, opS, cmpS, endsF, s1, List.map_cons, List.map_nil, List.replicate, List.cons_append, List.nil_append, List.append_nil, newL, mComp, finL, mSortedSet, len_lst, List.length_map, ge_int, onB_bl]
  unfold rowB at q
  have e : decide ((4 : Int) ≤ (ws.length : Int)) = decide (4 ≤ ws.length) := by
    rw [Bool.eq_iff_iff, decide_eq_true_eq, decide_eq_true_eq]; omega
  rw [e]
  cases e2 : decide (4 ≤ ws.length) with
  | false => rw [e2] at q; exact q
  | true =>
    rw [e2] at q
    refine comp_map (f := fun x => .bl (figB (unZ x))) (by rw [List.length_map]; exact hz) (fun _ _ _ _ _ => trivial) (fun x h' p acc L hx _ _ kk => ?_) ?_
    · obtain ⟨w, hm, rfl⟩ := List.mem_map.mp hx
      simp only [MM.wpSs, MM.wpS, MM.wpE, MM.wpA, MM.wpT, MM.wpI, MM.wpC, MM.wpO, MM.wpG, MM.wpGs, msNext, msSeq, msNever, msBrk, msCnt, msExpr, msRet, msRetN, msAsg, msIf, msPar, msFor, mtOr, mtAnd, mtNot, mtOf, mtIte, mtYes, mCall, maCons, maNil, mVar, mC, mOp, mTup, mLst, mUc, mUk, mAnd, mOr, mNot, mNeg, mIte, mChain, onB, mSl, moNone, moSome, mM1, mB1, mB0, mgName, mgTup, mgsCons, mgsNil, mgSub, lnTs, miSeq, miRng1, miRng2, miEnum, miZip, start0, slot, put, wip, clr, BF.s, opS, cmpS, endsF, s1, List.map_cons, List.map_nil, List.replicate, List.cons_append, List.nil_append, List.append_nil, newL, mComp, finL, mSortedSet, g]
      exact ⟨rfl, w, rfl, hw w hm, kk⟩
    · rw [List.map_map]
      show sBools _ (.lst (ws.map fun w => D.bl (figB w))) h Q
      refine all_ok (f := figB) ?_
      simpa using q
def sitW (ns : List Int) : D := .tup ((ns.take 3).map .int ++ [.tup ((ns.drop 3).map .int)])
def ph_sitting_in : Ph := fun ds h Q _ => ∃ ws : List Str, ds = [.lst (ws.map .str)] ∧ 3 ≤ ws.length ∧ ws.length ≤ sizeLine ∧ ws.all figB = true ∧ Q (sitW (ws.map figV)) h
theorem p_sitting_in {G : Gw} : Pl b_sitting_in 1 2 G ph_sitting_in := by
  rintro ds h Q E hl ⟨ws, rfl, h3, hz, hf, q⟩
  simp only [b_sitting_in, MM.wpSs, MM.wpS, MM.wpE, MM.wpA, MM.wpT, MM.wpI, MM.wpC, MM.wpO, MM.wpG, MM.wpGs, msNext, msSeq, msNever, msBrk, msCnt, msExpr, msRet, msRetN, msAsg, msIf, msPar, msFor, mtOr, mtAnd, mtNot, mtOf, mtIte, mtYes, mCall, maCons, maNil, mVar, mC, mOp, mTup, mLst, mUc, mUk, mAnd, mOr, mNot, mNeg, mIte, mChain, onB, mSl, moNone, moSome, mM1, mB1, mB0, mgName, mgTup, mgsCons, mgsNil, mgSub, lnTs, miSeq, miRng1, miRng2, miEnum, miZip, start0, slot, put, wip, clr, BF.s, opS, cmpS, endsF, s1, List.map_cons, List.map_nil, List.replicate, List.cons_append, List.nil_append, List.append_nil, newL, mComp, finL, mSortedSet]
  refine comp_map (f := fun x => .int (figV (unZ x))) (by rw [List.length_map]; exact hz) (fun _ _ _ _ _ => trivial) (fun x h' p acc L hx _ _ kk => ?_) ?_
  · obtain ⟨w, hm, rfl⟩ := List.mem_map.mp hx
    simp only [MM.wpSs, MM.wpS, MM.wpE, MM.wpA, MM.wpT, MM.wpI, MM.wpC, MM.wpO, MM.wpG, MM.wpGs, msNext, msSeq, msNever, msBrk, msCnt, msExpr, msRet, msRetN, msAsg, msIf, msPar, msFor, mtOr, mtAnd, mtNot, mtOf, mtIte, mtYes, mCall, maCons, maNil, mVar, mC, mOp, mTup, mLst, mUc, mUk, mAnd, mOr, mNot, mNeg, mIte, mChain, onB, mSl, moNone, moSome, mM1, mB1, mB0, mgName, mgTup, mgsCons, mgsNil, mgSub, lnTs, miSeq, miRng1, miRng2, miEnum, miZip, start0, slot, put, wip, clr, BF.s, opS, cmpS, endsF, s1, List.map_cons, List.map_nil, List.replicate, List.cons_append, List.nil_append, List.append_nil, newL, mComp, finL, mSortedSet]
    exact int_ok (List.all_eq_true.mp hf w hm) kk
  · rw [List.map_map]
    have e : (ws.map ((fun x => D.int (figV (unZ x))) ∘ D.str)) = (ws.map figV).map D.int := by rw [List.map_map]; rfl
    rw [e]
    have l3 : 3 ≤ ((ws.map figV).map D.int).length := by rw [List.length_map, List.length_map]; exact h3
    show sTup (.lst ((ws.map figV).map D.int)) h _
    unfold sTup
    simp only [sqs, sSl]
    rw [cut3 l3, show cutD ((ws.map figV).map D.int) (some 3) none = _ from cutn0 (n := 3) l3]
    have one : (1 : Nat) ≤ sizeLine := by decide
    have l4 : ((ws.map figV).map D.int).length ≤ sizeLine := by rw [List.length_map, List.length_map]; exact hz
    refine ⟨by simp only [List.length_cons, List.length_nil]; omega, ?_⟩
    rw [add_tup]
    refine ⟨by rw [List.length_take]; simp only [List.length_cons, List.length_nil]; have : (4 : Nat) ≤ sizeLine := by decide
               omega, ?_⟩
    unfold sitW at q
    rw [← List.map_take, ← List.map_drop]
    exact q

def linesL (z : Str) : List (List Str) := (Txt.split z "\n").map wordsL
def foundD (hd : List Str) (rows : List (List Str)) : D := .tup [.int (figV (hd.getD 1 "")), .int (figV (hd.getD 2 "")), .tup (rows.map fun ws => sitW (ws.map figV))]
def wsD (ws : List Str) : D := .lst (ws.map .str)
def ph_read_plan : Ph := fun ds h Q _ => ∃ (z : Str) (hd : List Str) (rows : List (List Str)), ds = [.str z] ∧ z.length + 2 ≤ sizeLine ∧ linesL z = hd :: rows ∧ headB hd = true ∧ rows.all rowB = true ∧ okD (foundD hd rows) = true ∧ planD (foundD hd rows) = .non ∧ Q (foundD hd rows) h
def unW : D → List Str
  | .lst xs => xs.map unZ
  | _ => []
theorem unW_d (ws : List Str) : unW (wsD ws) = ws := by
  show (ws.map D.str).map unZ = ws
  rw [List.map_map]; exact List.map_id ws
theorem enum_get {xs : List D} {i : Nat} {d : D} (h : (enumD xs)[i]? = some d) : ∃ x, xs[i]? = some x ∧ d = .tup [.int (i : Nat), x] := enumD_get h
theorem p_read_plan {G : Gw} (g9 : G.T 9 = ph_plan_error) (g126 : G.T 126 = ph_words_of) (g128 : G.T 128 = ph_is_head) (g129 : G.T 129 = ph_is_row) (g130 : G.T 130 = ph_sitting_in) : Pl b_read_plan 1 6 G ph_read_plan := by
  rintro ds h Q E hl ⟨z, hd, rows, rfl, hz, hlin, hhd, hrows, hok, hpl, q⟩
  have hsp := PyProof.Rows.split_le z ("\n" : Str)
  have hws : ∀ ws ∈ linesL z, ws.length ≤ sizeLine ∧ ∀ w ∈ ws, w.length ≤ sizeLine := fun ws hm => by
    obtain ⟨l, hl, rfl⟩ := List.mem_map.mp hm
    have hll := split_mem hl
    refine ⟨?_, fun w hw => by have := wordsL_mem hw; omega⟩
    have := PyProof.Rows.split_le l (" " : Str)
    have h2 : (wordsL l).length ≤ (Txt.split l " ").length := List.length_filter_le _ _
    omega
  have hlen : (linesL z).length ≤ sizeLine := by unfold linesL; rw [List.length_map]; omega
  simp only [b_read_plan, MM.wpSs, MM.wpS, MM.wpE, MM.wpA, MM.wpT, MM.wpI, MM.wpC, MM.wpO, MM.wpG, MM.wpGs, msNext, msSeq, msNever, msBrk, msCnt, msExpr, msRet, msRetN, msAsg, msIf, msPar, msFor, mtOr, mtAnd, mtNot, mtOf, mtIte, mtYes, mCall, maCons, maNil, mVar, mC, mOp, mTup, mLst, mUc, mUk, mAnd, mOr, mNot, mNeg, mIte, mChain, onB, mSl, moNone, moSome, mM1, mB1, mB0, mgName, mgTup, mgsCons, mgsNil, mgSub, lnTs, miSeq, miRng1, miRng2, miEnum, miZip, start0, slot, put, wip, clr, BF.s, opS, cmpS, endsF, s1, List.map_cons, List.map_nil, List.replicate, List.cons_append, List.nil_append, List.append_nil, newL, mComp, finL, mSortedSet]
  refine isi_ok (t := "str") rfl (by decide) ?_
  simp only [onB_bl, show (("str" : String) == "str" || (("str" : String) == "bool" && ("str" : String) == "int")) = true from by decide, Bool.not_true]
  refine ⟨⟨by decide, hz⟩, ?_⟩
  refine comp_map (f := fun x => wsD (wordsL (unZ x))) (by rw [List.length_map]; omega) (fun _ _ _ _ _ => trivial) (fun x h' p acc L hx _ _ kk => ?_) ?_
  · obtain ⟨l, hm, rfl⟩ := List.mem_map.mp hx
    simp only [MM.wpSs, MM.wpS, MM.wpE, MM.wpA, MM.wpT, MM.wpI, MM.wpC, MM.wpO, MM.wpG, MM.wpGs, msNext, msSeq, msNever, msBrk, msCnt, msExpr, msRet, msRetN, msAsg, msIf, msPar, msFor, mtOr, mtAnd, mtNot, mtOf, mtIte, mtYes, mCall, maCons, maNil, mVar, mC, mOp, mTup, mLst, mUc, mUk, mAnd, mOr, mNot, mNeg, mIte, mChain, onB, mSl, moNone, moSome, mM1, mB1, mB0, mgName, mgTup, mgsCons, mgsNil, mgSub, lnTs, miSeq, miRng1, miRng2, miEnum, miZip, start0, slot, put, wip, clr, BF.s, opS, cmpS, endsF, s1, List.map_cons, List.map_nil, List.replicate, List.cons_append, List.nil_append, List.append_nil, newL, mComp, finL, mSortedSet, g126]
    have := split_mem hm
    exact ⟨rfl, l, rfl, by omega, kk⟩
  · rw [List.map_map]
    have e : (Txt.split z "\n").map ((fun x => wsD (wordsL (unZ x))) ∘ D.str) = (linesL z).map wsD := by unfold linesL; rw [List.map_map]; rfl
    rw [e]
    simp only [MM.wpSs, MM.wpS, MM.wpE, MM.wpA, MM.wpT, MM.wpI, MM.wpC, MM.wpO, MM.wpG, MM.wpGs, msNext, msSeq, msNever, msBrk, msCnt, msExpr, msRet, msRetN, msAsg, msIf, msPar, msFor, mtOr, mtAnd, mtNot, mtOf, mtIte, mtYes, mCall, maCons, maNil, mVar, mC, mOp, mTup, mLst, mUc, mUk, mAnd, mOr, mNot, mNeg, mIte, mChain, onB, mSl, moNone, moSome, mM1, mB1, mB0, mgName, mgTup, mgsCons, mgsNil, mgSub, lnTs, miSeq, miRng1, miRng2, miEnum, miZip, start0, slot, put, wip, clr, BF.s, opS, cmpS, endsF, s1, List.map_cons, List.map_nil, List.replicate, List.cons_append, List.nil_append, List.append_nil, newL, mComp, finL, mSortedSet, onLst]
    refine forW_rule (fun i σ h' => h' = h ∧ ∃ o4 o5, σ = [some (.str z), some (.lst ((linesL z).map wsD)), none, none, o4, o5, none]) ⟨rfl, _, _, rfl⟩ (fun _ _ _ _ => trivial) (fun i x σ h' K hx I kk => ?_) (fun σ h' I => ?_)
    · obtain ⟨rfl, o4, o5, rfl⟩ := I
      obtain ⟨y, hy, rfl⟩ := enum_get hx
      rw [List.getElem?_map] at hy
      obtain ⟨ws, hws', rfl⟩ := Option.map_eq_some_iff.mp hy
      obtain ⟨w1, w2⟩ := hws ws (List.mem_of_getElem? hws')
      simp only [MM.wpSs, MM.wpS, MM.wpE, MM.wpA, MM.wpT, MM.wpI, MM.wpC, MM.wpO, MM.wpG, MM.wpGs, msNext, msSeq, msNever, msBrk, msCnt, msExpr, msRet, msRetN, msAsg, msIf, msPar, msFor, mtOr, mtAnd, mtNot, mtOf, mtIte, mtYes, mCall, maCons, maNil, mVar, mC, mOp, mTup, mLst, mUc, mUk, mAnd, mOr, mNot, mNeg, mIte, mChain, onB, mSl, moNone, moSome, mM1, mB1, mB0, mgName, mgTup, mgsCons, mgsNil, mgSub, lnTs, miSeq, miRng1, miRng2, miEnum, miZip, start0, slot, put, wip, clr, BF.s, opS, cmpS, endsF, s1, List.map_cons, List.map_nil, List.replicate, List.cons_append, List.nil_append, List.append_nil, newL, mComp, finL, mSortedSet, eq_int, onB_bl, g128, g129]
      refine ⟨rfl, trivial, ?_⟩
      have next := kk _ _ ⟨rfl, some (.int (i : Nat)), some (wsD ws), rfl⟩
      rw [hlin] at hws'
      cases i with
      | zero =>
        have e0 : hd = ws := by simpa using hws'
        subst e0
        simp only [show decide (((0 : Nat) : Int) = 0) = true from rfl]
        refine ⟨rfl, hd, rfl, w1, w2, ?_⟩
        rw [hhd]
        exact next
      | succ i =>
        have e0 : rows[i]? = some ws := by simpa using hws'
        have hr := List.all_eq_true.mp hrows ws (List.mem_of_getElem? e0)
        simp only [show decide (((i + 1 : Nat) : Int) = 0) = false from decide_eq_false (by omega)]
        refine ⟨rfl, ws, rfl, w1, w2, ?_⟩
        rw [hr]
        exact next
    · obtain ⟨rfl, o4, o5, rfl⟩ := I
      rw [hlin]
      have hd3 : ∃ b c, hd = (["plan", b, c] : List Str) ∧ figB b = true ∧ figB c = true := by
        unfold headB at hhd
        split at hhd
        · rename_i a b c
          simp only [Bool.and_eq_true, decide_eq_true_eq] at hhd
          obtain ⟨⟨rfl, h1⟩, h2⟩ := hhd
          exact ⟨b, c, rfl, h1, h2⟩
        · cases hhd
      obtain ⟨b, c, rfl, fb, fc⟩ := hd3
      have hrl : rows.length ≤ sizeLine := by
        have := hlen
        rw [hlin, List.length_cons] at this
        omega
      simp only [MM.wpSs, MM.wpS, MM.wpE, MM.wpA, MM.wpT, MM.wpI, MM.wpC, MM.wpO, MM.wpG, MM.wpGs, msNext, msSeq, msNever, msBrk, msCnt, msExpr, msRet, msRetN, msAsg, msIf, msPar, msFor, mtOr, mtAnd, mtNot, mtOf, mtIte, mtYes, mCall, maCons, maNil, mVar, mC, mOp, mTup, mLst, mUc, mUk, mAnd, mOr, mNot, mNeg, mIte, mChain, onB, mSl, moNone, moSome, mM1, mB1, mB0, mgName, mgTup, mgsCons, mgsNil, mgSub, lnTs, miSeq, miRng1, miRng2, miEnum, miZip, start0, slot, put, wip, clr, BF.s, opS, cmpS, endsF, s1, List.map_cons, List.map_nil, List.replicate, List.cons_append, List.nil_append, List.append_nil, newL, mComp, finL, mSortedSet, List.map_cons, wsD, idx_lst, at0, at1, at2]
      refine int_ok fb (int_ok fc ?_)
      simp only [sSl, lis, cut1, List.tail_cons]
      refine comp_map (f := fun x => sitW ((unW x).map figV)) (by rw [List.length_map]; exact hrl) (fun _ _ _ _ _ => trivial) (fun x h' p acc L hx _ _ kk => ?_) ?_
      · obtain ⟨ws, hm, rfl⟩ := List.mem_map.mp hx
        have hr := List.all_eq_true.mp hrows ws hm
        unfold rowB at hr
        simp only [Bool.and_eq_true, decide_eq_true_eq] at hr
        have hm2 : ws ∈ linesL z := by rw [hlin]; exact List.mem_cons_of_mem _ hm
        have kk : L (sitW ((unW (wsD ws)).map figV)) h' := kk
        rw [unW_d] at kk
        simp only [MM.wpSs, MM.wpS, MM.wpE, MM.wpA, MM.wpT, MM.wpI, MM.wpC, MM.wpO, MM.wpG, MM.wpGs, msNext, msSeq, msNever, msBrk, msCnt, msExpr, msRet, msRetN, msAsg, msIf, msPar, msFor, mtOr, mtAnd, mtNot, mtOf, mtIte, mtYes, mCall, maCons, maNil, mVar, mC, mOp, mTup, mLst, mUc, mUk, mAnd, mOr, mNot, mNeg, mIte, mChain, onB, mSl, moNone, moSome, mM1, mB1, mB0, mgName, mgTup, mgsCons, mgsNil, mgSub, lnTs, miSeq, miRng1, miRng2, miEnum, miZip, start0, slot, put, wip, clr, BF.s, opS, cmpS, endsF, s1, List.map_cons, List.map_nil, List.replicate, List.cons_append, List.nil_append, List.append_nil, newL, mComp, finL, mSortedSet, g130]
        exact ⟨rfl, ws, rfl, by omega, (hws ws hm2).1, hr.2, kk⟩
      · rw [List.map_map]
        have e4 : rows.map ((fun x => sitW ((unW x).map figV)) ∘ wsD) = rows.map fun ws => sitW (ws.map figV) := List.map_congr_left fun ws _ => by
          show sitW ((unW (wsD ws)).map figV) = _
          rw [unW_d]
        rw [e4]
        unfold sTup
        simp only [sqs, g9]
        refine ⟨Nat.le_trans (show 3 ≤ 3 by decide) (by decide), rfl, foundD ((["plan", b, c] : List Str)) rows, rfl, hok, ?_⟩
        rw [hpl]
        simp only [isnot_non, onB_bl]
        exact q
end KN
end

section
set_option Elab.async false
set_option linter.all false
set_option maxRecDepth 100000
set_option maxHeartbeats 8000000
namespace KN
open MM PySem
def Deck (h : Hm) (a b : Addr) : Prop := ∃ (cs : List Int) (i k : Int), h a = some (.lst [.ref b, .int i, .int k]) ∧ h b = some (.lst (cs.map .int)) ∧ a ≠ b ∧ 0 ≤ i ∧ i ≤ cs.length ∧ cs.length ≤ 63 ∧ ∀ c ∈ cs, 0 ≤ c
def Fs (a b : Addr) (h h' : Hm) : Prop := ∀ x, x ≠ a → x ≠ b → h' x = h x
theorem Fs.refl {a b : Addr} {h : Hm} : Fs a b h h := fun _ _ _ => rfl
theorem Fs.trans {a b : Addr} {h1 h2 h3 : Hm} (p : Fs a b h1 h2) (q : Fs a b h2 h3) : Fs a b h1 h3 := fun x n m => (q x n m).trans (p x n m)
def mOk (m : Int) : Prop := 0 < m ∧ m ≤ 100000
def ph_draw : Ph := fun ds h Q _ => ∃ (a b : Addr) (m : Int), ds = [.ref a, .int m] ∧ Deck h a b ∧ mOk m ∧ ∀ (r : Int) (h' : Hm), 0 ≤ r → r < m → Deck h' a b → Fs a b h h' → Q (.int r) h'
abbrev ph_law_draw_2 : Ph := ph_draw
theorem sSet_ok {p : Addr} {xs : List D} {j : Int} {n : Nat} {d : D} {h : Hm} {P : Hm → Prop} (e : h p = some (.lst xs)) (hj : L2.ixN xs.length j = some n) (q : P (updm h p (.lst (xs.set n d)))) : sSet (.ref p) (.int j) d h P := by
  show (match h p with | some (.lst xs) => (match L2.ixN xs.length j with | some n => P (updm h p (.lst (xs.set n d))) | none => False) | _ => False)
  rw [e]
  show (match L2.ixN xs.length j with | some n => P (updm h p (.lst (xs.set n d))) | none => False)
  rw [hj]
  exact q
theorem ixN_nat {n i : Nat} (h : i < n) : L2.ixN n (i : Int) = some i := by
  unfold L2.ixN
  rw [if_pos (by omega), if_pos (by omega)]
  rfl
theorem log2_lt {m : Int} (h : mOk m) : m.natAbs.log2 < 9000 := by
  have h1 := h.1
  have h2 := h.2
  have : m.natAbs.log2 < 17 := (Nat.log2_lt (by omega)).mpr (by omega)
  omega
def c64 (i : Int) : Prop := -(2 ^ 64) < i ∧ i < 2 ^ 64
theorem mix_ok {a b : Addr} {cs : List Int} {i k A B C F N M m : Int} {h : Hm} {Q : Kx} (ha : h a = some (.lst [.ref b, .int i, .int k])) (hb : h b = some (.lst (cs.map .int))) (hA : c64 A) (hB : c64 B) (hN : 0 < N) (hN2 : N < 2 ^ 64) (hM : mOk M) (hF : c64 F) (hm : mOk m)
    (q : ∀ r : Int, 0 ≤ r → r < m → Q (.int r) h) :
    sIdx (.ref a) (.int 2) h fun x h1 => sMul false x (.int A) h1 fun x h1 => sIdx (.ref a) (.int 0) h1 fun x_3 h1 => sLen x_3 h1 fun x_4 h1 => sMul false x_4 (.int B) h1 fun y h2 => sAdd false x y h2 fun x h1 => sAdd false x (.int C) h1 fun x h1 =>
      sMod x (.int N) h1 fun d h1 => sMul false d d h1 fun x h1 => sMul false x d h1 fun x h1 => sFdiv x (.int M) h1 fun x h1 => sIdx (.ref a) (.int 2) h1 fun x_5 h1 => sMul false x_5 (.int F) h1 fun y h2 => sAdd false x y h2 fun x h1 => sMod x (.int m) h1 Q := by
  rw [idx_ref ha, at2]
  refine mul_int (.inr hA) ?_
  rw [idx_ref ha, at0]
  show sLen (.ref b) h _
  rw [len_ref hb, List.length_map]
  refine mul_int (.inr hB) ?_
  rw [add_int, add_int]
  refine mod_int hN ?_
  have z1 := Int.emod_nonneg (k * A + ↑cs.length * B + C) (show N ≠ 0 by omega)
  have z2 := Int.emod_lt_of_pos (k * A + ↑cs.length * B + C) hN
  refine mul_int (.inl ⟨by omega, by omega⟩) ?_
  refine mul_int (.inr ⟨by omega, by omega⟩) ?_
  refine fdiv_int hM.1 (log2_lt hM) ?_
  rw [idx_ref ha, at2]
  refine mul_int (.inr hF) ?_
  rw [add_int]
  refine mod_int hm.1 ?_
  exact q _ (Int.emod_nonneg _ (by have := hm.1; omega)) (Int.emod_lt_of_pos _ hm.1)
theorem p_law_draw_2 {G : Gw} : Pl b_law_draw_2 2 2 G ph_draw := by
  rintro ds h Q E hl ⟨a, b, m, rfl, ⟨cs, i, k, ha, hb, hab, i0, i1, cl, cn⟩, hm, q⟩
  simp only [b_law_draw_2, MM.wpSs, MM.wpS, MM.wpE, MM.wpA, MM.wpT, MM.wpI, MM.wpC, MM.wpO, MM.wpG, MM.wpGs, msNext, msSeq, msNever, msBrk, msCnt, msExpr, msRet, msRetN, msAsg, msIf, msPar, msFor, mtOr, mtAnd, mtNot, mtOf, mtIte, mtYes, mCall, maCons, maNil, mVar, mC, mOp, mTup, mLst, mUc, mUk, mAnd, mOr, mNot, mNeg, mIte, mChain, onB, mSl, moNone, moSome, mM1, mB1, mB0, mgName, mgTup, mgsCons, mgsNil, mgSub, lnTs, miSeq, miRng1, miRng2, miEnum, miZip, start0, slot, put, wip, clr, BF.s, opS, cmpS, endsF, s1, List.map_cons, List.map_nil, List.replicate, List.cons_append, List.nil_append, List.append_nil, newL, mComp, finL, mSortedSet, idx_ref ha, at2, add_int]
  refine sSet_ok ha (ixN_nat (n := 3) (i := 2) (by decide)) ?_
  generalize hh1 : updm h a (.lst [.ref b, .int i, .int (k + 1)]) = h1
  have ha1 : h1 a = some (.lst [.ref b, .int i, .int (k + 1)]) := by rw [← hh1]; exact updm_same
  have hb1 : h1 b = some (.lst (cs.map .int)) := by rw [← hh1, updm_ne (Ne.symm hab)]; exact hb
  have f1 : Fs a b h h1 := fun x n _ => by rw [← hh1, updm_ne n]
  have e1 : updm h a (.lst (List.set [.ref b, .int i, .int k] 2 (.int (k + 1)))) = h1 := hh1
  rw [e1]
  simp only [idx_ref ha1, at0, at1, len_ref hb1, List.length_map, lt_int, onB_bl]
  have other : ∀ j : Int, 0 ≤ j → j ≤ cs.length → sSet (.ref a) (.int 1) (.int j) h1 fun h3 => sIdx (.ref a) (.int 2) h3 fun x h1 => sMul false x (.int 7901) h1 fun x h1 => sIdx (.ref a) (.int 0) h1 fun x_3 h1 => sLen x_3 h1 fun x_4 h1 => sMul false x_4 (.int 104717) h1 fun y h2 => sAdd false x y h2 fun x h1 => sAdd false x (.int 12750) h1 fun x h1 =>
      sMod x (.int 1000003) h1 fun d h1 => sMul false d d h1 fun x h1 => sMul false x d h1 fun x h1 => sFdiv x (.int 1019) h1 fun x h1 => sIdx (.ref a) (.int 2) h1 fun x_5 h1 => sMul false x_5 (.int 41) h1 fun y h2 => sAdd false x y h2 fun x h1 => sMod x (.int m) h1 Q := fun j j0 j1 => by
    refine sSet_ok ha1 (ixN_nat (n := 3) (i := 1) (by decide)) ?_
    have ha2 : updm h1 a (.lst (List.set [.ref b, .int i, .int (k + 1)] 1 (.int j))) a = some (.lst [.ref b, .int j, .int (k + 1)]) := updm_same
    have hb2 : updm h1 a (.lst (List.set [.ref b, .int i, .int (k + 1)] 1 (.int j))) b = some (.lst (cs.map .int)) := by rw [updm_ne (Ne.symm hab)]; exact hb1
    refine mix_ok ha2 hb2 ⟨by decide, by decide⟩ ⟨by decide, by decide⟩ (by decide) (by decide) ⟨by decide, by decide⟩ ⟨by decide, by decide⟩ hm fun r r0 r1 => q r _ r0 r1 ⟨cs, j, k + 1, ha2, hb2, hab, j0, j1, cl, cn⟩ fun x n1 n2 => by rw [updm_ne n1]; exact f1 x n1 n2
  have mn : ∀ x : Int, x = i + 1 → sMin [.int x, .int cs.length] h1 fun d h1 => sSet (.ref a) (.int 1) d h1 fun h3 => sIdx (.ref a) (.int 2) h3 fun x h1 => sMul false x (.int 7901) h1 fun x h1 => sIdx (.ref a) (.int 0) h1 fun x_3 h1 => sLen x_3 h1 fun x_4 h1 => sMul false x_4 (.int 104717) h1 fun y h2 => sAdd false x y h2 fun x h1 => sAdd false x (.int 12750) h1 fun x h1 =>
      sMod x (.int 1000003) h1 fun d h1 => sMul false d d h1 fun x h1 => sMul false x d h1 fun x h1 => sFdiv x (.int 1019) h1 fun x h1 => sIdx (.ref a) (.int 2) h1 fun x_5 h1 => sMul false x_5 (.int 41) h1 fun y h2 => sAdd false x y h2 fun x h1 => sMod x (.int m) h1 Q := fun x ex => by
    subst ex
    exact other (if (cs.length : Int) < i + 1 then (cs.length : Int) else i + 1) (by split <;> omega) (by split <;> omega)
  cases e2 : decide (i < (cs.length : Int)) with
  | false =>
    rw [add_int, idx_ref ha1, at0]
    show sLen (.ref b) h1 _
    rw [len_ref hb1, List.length_map]
    exact mn _ rfl
  | true =>
    have hlt : i < cs.length := of_decide_eq_true e2
    obtain ⟨n, rfl⟩ : ∃ n : Nat, i = n := ⟨i.toNat, (Int.toNat_of_nonneg i0).symm⟩
    have hn : n < cs.length := by omega
    have hc : (cs.map D.int)[n]? = some (.int cs[n]) := by rw [List.getElem?_map, List.getElem?_eq_getElem hn]; rfl
    simp only [idx_ref hb1, atI_nat, hc, gt_int, onB_bl]
    cases e3 : decide (0 < cs[n]) with
    | false =>
      show sIdx (.ref a) (.int 1) h1 _
      rw [idx_ref ha1, at1]
      show sAdd false (.int (n : Int)) (.int 1) h1 _
      rw [add_int, idx_ref ha1, at0]
      show sLen (.ref b) h1 _
      rw [len_ref hb1, List.length_map]
      exact mn _ rfl
    | true =>
      have hpos : 0 < cs[n] := of_decide_eq_true e3
      simp only [idx_ref ha1, idx_ref hb1, at0, at1, atI_nat, hc]
      refine fdiv_int hm.1 (log2_lt hm) ?_
      simp only [idx_ref ha1, idx_ref hb1, at0, at1, atI_nat, hc]
      refine sSet_ok hb1 (ixN_nat (n := (cs.map D.int).length) (i := n) (by rw [List.length_map]; exact hn)) ?_
      refine mod_int hm.1 ?_
      have ha2 : updm h1 b (.lst ((cs.map D.int).set n (.int (cs[n] / m)))) a = some (.lst [.ref b, .int n, .int (k + 1)]) := by rw [updm_ne hab]; exact ha1
      refine q _ _ (Int.emod_nonneg _ (by have := hm.1; omega)) (Int.emod_lt_of_pos _ hm.1) ⟨cs.set n (cs[n] / m), n, k + 1, ha2, ?_, hab, i0, by rw [List.length_set]; exact i1, by rw [List.length_set]; exact cl, fun c hcm => ?_⟩ fun x n1 n2 => by rw [updm_ne n2]; exact f1 x n1 n2
      · rw [updm_same, List.map_set]
      · rcases List.mem_or_eq_of_mem_set hcm with z | z
        · exact cn c z
        · rw [z]; exact Int.ediv_nonneg (by omega) (by have := hm.1; omega)
def ph_law_pick : Ph := fun ds h Q _ => ∃ (a b : Addr) (xs : List D), ds = [.ref a, .lst xs] ∧ Deck h a b ∧ 0 < xs.length ∧ xs.length ≤ 1000 ∧ ∀ (x : D) (h' : Hm), x ∈ xs → Deck h' a b → Fs a b h h' → Q x h'
theorem p_law_pick {G : Gw} (g : G.T 59 = ph_draw) : Pl b_law_pick 2 0 G ph_law_pick := by
  rintro ds h Q E hl ⟨a, b, xs, rfl, hd, h0, h1, q⟩
  simp only [b_law_pick, MM.wpSs, MM.wpS, MM.wpE, MM.wpA, MM.wpT, MM.wpI, MM.wpC, MM.wpO, MM.wpG, MM.wpGs, msNext, msSeq, msNever, msBrk, msCnt, msExpr, msRet, msRetN, msAsg, msIf, msPar, msFor, mtOr, mtAnd, mtNot, mtOf, mtIte, mtYes, mCall, maCons, maNil, mVar, mC, mOp, mTup, mLst, mUc, mUk, mAnd, mOr, mNot, mNeg, mIte, mChain, onB, mSl, moNone, moSome, mM1, mB1, mB0, mgName, mgTup, mgsCons, mgsNil, mgSub, lnTs, miSeq, miRng1, miRng2, miEnum, miZip, start0, slot, put, wip, clr, BF.s, opS, cmpS, endsF, s1, List.map_cons, List.map_nil, List.replicate, List.cons_append, List.nil_append, List.append_nil, newL, mComp, finL, mSortedSet, len_lst, g]
  refine ⟨rfl, a, b, xs.length, rfl, hd, ⟨by omega, by omega⟩, fun r h' r0 r1 d' f => ?_⟩
  obtain ⟨n, rfl⟩ : ∃ n : Nat, r = n := ⟨r.toNat, (Int.toNat_of_nonneg r0).symm⟩
  have hn : n < xs.length := by omega
  rw [idx_lst, atI_nat, List.getElem?_eq_getElem hn]
  exact q _ h' (List.getElem_mem hn) d' f
end KN
end

section
set_option Elab.async false
set_option linter.all false
set_option maxRecDepth 100000
set_option maxHeartbeats 8000000
namespace KN
open MM PySem
theorem Deck.ne {h : Hm} {a b p : Addr} (d : Deck h a b) (n : h p = none) : p ≠ a ∧ p ≠ b := by
  obtain ⟨cs, i, k, ha, hb, _⟩ := d
  have h1 : p ≠ a := fun e => by rw [e, ha] at n; cases n
  have h2 : p ≠ b := fun e => by rw [e, hb] at n; cases n
  exact ⟨h1, h2⟩
theorem Deck.of {h h' : Hm} {a b : Addr} (d : Deck h a b) (ea : h' a = h a) (eb : h' b = h b) : Deck h' a b := by
  obtain ⟨cs, i, k, ha, hb, r⟩ := d
  exact ⟨cs, i, k, ea.trans ha, eb.trans hb, r⟩
theorem Deck.at1 {g h' : Hm} {a b p : Addr} {acc : List D} (d : Deck g a b) (n : g p = none) (x : At1 g h' p acc) : Deck h' a b := by
  obtain ⟨na, nb⟩ := d.ne n
  exact d.of (x.2 a (Ne.symm na)) (x.2 b (Ne.symm nb))
theorem rmm_ne {h : Hm} {a b : Addr} (n : b ≠ a) : rmm h a b = h b := if_neg n
theorem deck_step {g h' h3 : Hm} {a b p : Addr} {acc : List D} (d : Deck g a b) (n : g p = none) (x : At1 g h' p acc) (d3 : Deck h3 a b) (f : Fs a b h' h3) :
    h3 p = some (.lst acc) ∧ ∀ acc', At1 (rmm h3 p) (updm h3 p (.lst acc')) p acc' ∧ Deck (rmm h3 p) a b ∧ Fs a b g (rmm h3 p) ∧ rmm h3 p p = none := by
  obtain ⟨na, nb⟩ := d.ne n
  refine ⟨(f p na nb).trans x.1, fun acc' => ⟨⟨updm_same, fun c e => by rw [updm_ne e, rmm_ne e]⟩, d3.of (rmm_ne (Ne.symm na)) (rmm_ne (Ne.symm nb)), fun c c1 c2 => ?_, rmm_same⟩⟩
  by_cases e : c = p
  · rw [e, rmm_same, n]
  · rw [rmm_ne e, f c c1 c2, x.2 c e]
theorem nd_le : ∀ {xs ys : List Int}, xs.Nodup → (∀ x ∈ xs, x ∈ ys) → xs.length ≤ ys.length
  | [], _, _, _ => Nat.zero_le _
  | x :: xs, ys, nd, h => by
    have hx := h x List.mem_cons_self
    have nd' := List.nodup_cons.mp nd
    have := nd_le (xs := xs) (ys := ys.erase x) nd'.2 fun y hy => (List.mem_erase_of_ne (fun e : y = x => nd'.1 (by rw [← e]; exact hy))).mpr (h y (List.mem_cons_of_mem _ hy))
    rw [List.length_erase_of_mem hx] at this
    have := List.length_pos_of_mem hx
    rw [List.length_cons]
    omega
theorem asc_of : ∀ {out : List Int}, out.Pairwise (· < ·) → ascB out = true
  | [], _ => rfl
  | [x], _ => rfl
  | x :: y :: r, h => by
    have ih := asc_of (out := y :: r) (List.pairwise_cons.mp h).2
    have hxy := (List.pairwise_cons.mp h).1 y List.mem_cons_self
    unfold ascB at ih ⊢
    simp only [List.tail_cons, List.zip_cons_cons, List.all_cons, Bool.and_eq_true, decide_eq_true_eq] at ih ⊢
    exact ⟨hxy, ih⟩
theorem draws_ok {G : Gw} (g59 : G.T 59 = ph_draw) {a b : Addr} {m : Int} {n : Nat} {σ : Sl} {own : List Nat} {i : Nat} {me : Mx} {h : Hm} {Q : Kx} (d : Deck h a b) (hm : mOk m) (hn : n ≤ 1000) (hme : ∀ (x : D) (h' : Hm) (L : Kx), ph_draw [.ref a, .int m] h' L noE → me (put (wip σ own) i x) h' L noE)
    (q : ∀ (ns : List Int) (h' : Hm), ns.length = n → (∀ r ∈ ns, 0 ≤ r ∧ r < m) → Deck h' a b → Fs a b h h' → Q (.lst (ns.map .int)) h') :
    ∀ p, h p = none → compW false p (fun _ => True) (mgName i) own mtYes me σ Q (rangeD 0 n) [] (updm h p (.lst [])) := by
  have hlen : (rangeD 0 n).length = n := by unfold rangeD; simp
  refine comp_rule (fun j acc g => Deck g a b ∧ Fs a b h g ∧ ∃ ns : List Int, acc = ns.map .int ∧ ns.length = j ∧ j ≤ n ∧ ∀ r ∈ ns, 0 ≤ r ∧ r < m) ⟨d, Fs.refl, [], rfl, rfl, Nat.zero_le _, fun _ z => nomatch z⟩ (fun _ _ _ _ _ _ _ _ => trivial) (fun j x acc g h' p K hx I ng at1 kk => ?_) (fun acc g I => ?_)
  · obtain ⟨dg, fg, ns, rfl, rfl, hj, hr⟩ := I
    have hlt := (List.getElem?_eq_some_iff.mp hx).1
    rw [hlen] at hlt
    refine hme x h' _ ⟨a, b, m, rfl, dg.at1 ng at1, hm, fun r h3 r0 r1 d3 f3 => ?_⟩
    obtain ⟨e1, e2⟩ := deck_step dg ng at1 d3 f3
    obtain ⟨e3, e4, e5, e6⟩ := e2 (ns.map .int ++ [.int r])
    refine ⟨e1, by rw [List.length_map]; exact Nat.lt_of_lt_of_le hlt (Nat.le_trans hn (by decide)), kk _ _ _ ⟨e4, fg.trans e5, ns ++ [r], by rw [List.map_append]; rfl, by rw [List.length_append]; rfl, hlt, fun y hy => ?_⟩ e6 e3⟩
    rcases List.mem_append.mp hy with hy | hy
    · exact hr y hy
    · rw [List.mem_singleton.mp hy]; exact ⟨r0, r1⟩
  · obtain ⟨dg, fg, ns, rfl, hl, _, hr⟩ := I
    rw [hlen] at hl
    exact q ns g hl hr dg fg
def ph_law_sitting : Ph := fun ds h Q _ => ∃ (a b : Addr) (p k : Int), ds = [.ref a, .int p, .int k] ∧ Deck h a b ∧ 2 ≤ p ∧ p ≤ 100 ∧ 1 ≤ k ∧ k ≤ 100 ∧ ∀ (s : Sit) (h' : Hm), s.good p k → Deck h' a b → Fs a b h h' → Q s.d h'
theorem p_law_sitting {G : Gw} (g59 : G.T 59 = ph_draw) (g60 : G.T 60 = ph_law_pick) : Pl b_law_sitting 3 4 G ph_law_sitting := by
  rintro ds h Q E hl ⟨a, b, p, k, rfl, d, p2, p100, k1, k100, q⟩
  simp only [b_law_sitting, MM.wpSs, MM.wpS, MM.wpE, MM.wpA, MM.wpT, MM.wpI, MM.wpC, MM.wpO, MM.wpG, MM.wpGs, msNext, msSeq, msNever, msBrk, msCnt, msExpr, msRet, msRetN, msAsg, msIf, msPar, msFor, mtOr, mtAnd, mtNot, mtOf, mtIte, mtYes, mCall, maCons, maNil, mVar, mC, mOp, mTup, mLst, mUc, mUk, mAnd, mOr, mNot, mNeg, mIte, mChain, onB, mSl, moNone, moSome, mM1, mB1, mB0, mgName, mgTup, mgsCons, mgsNil, mgSub, lnTs, miSeq, miRng1, miRng2, miEnum, miZip, start0, slot, put, wip, clr, BF.s, opS, cmpS, endsF, s1, List.map_cons, List.map_nil, List.replicate, List.cons_append, List.nil_append, List.append_nil, newL, mComp, finL, mSortedSet, g59, g60]
  refine ⟨rfl, a, b, p, rfl, d, ⟨by omega, by omega⟩, fun n h1 n0 n1 d1 f1 => ?_⟩
  refine ⟨by decide, rfl, a, b, _, rfl, d1, by decide, by decide, fun c h2 hc d2 f2 => ?_⟩
  have hcn : ∃ cn : Nat, c = .int cn ∧ 1 ≤ cn ∧ cn ≤ 3 := by
    simp only [List.mem_cons, List.not_mem_nil, or_false] at hc
    rcases hc with rfl | rfl | rfl | rfl
    · exact ⟨1, rfl, by decide, by decide⟩
    · exact ⟨1, rfl, by decide, by decide⟩
    · exact ⟨2, rfl, by decide, by decide⟩
    · exact ⟨3, rfl, by decide, by decide⟩
  obtain ⟨cn, rfl, c1, c3⟩ := hcn
  refine ⟨⟨by omega, by omega⟩, ?_⟩
  rw [Int.toNat_natCast]
  refine draws_ok g59 d2 (m := k) ⟨by omega, by omega⟩ (by omega) (fun x h' L z => ?_) fun ns h3 nl nr d3 f3 => ?_
  · simp only [MM.wpSs, MM.wpS, MM.wpE, MM.wpA, MM.wpT, MM.wpI, MM.wpC, MM.wpO, MM.wpG, MM.wpGs, msNext, msSeq, msNever, msBrk, msCnt, msExpr, msRet, msRetN, msAsg, msIf, msPar, msFor, mtOr, mtAnd, mtNot, mtOf, mtIte, mtYes, mCall, maCons, maNil, mVar, mC, mOp, mTup, mLst, mUc, mUk, mAnd, mOr, mNot, mNeg, mIte, mChain, onB, mSl, moNone, moSome, mM1, mB1, mB0, mgName, mgTup, mgsCons, mgsNil, mgSub, lnTs, miSeq, miRng1, miRng2, miEnum, miZip, start0, slot, put, wip, clr, BF.s, opS, cmpS, endsF, s1, List.map_cons, List.map_nil, List.replicate, List.cons_append, List.nil_append, List.append_nil, newL, mComp, finL, mSortedSet, g59]
    exact ⟨rfl, z⟩
  · have ei : intsOf (ns.map D.int) = some ns := by
      clear nl nr
      induction ns with
      | nil => rfl
      | cons x r ih => show (intsOf (r.map D.int)).map (x :: ·) = _; rw [ih]; rfl
    show (match intsOf (ns.map D.int) with | some ns => ns.length < 64 ∧ ∀ out : List Int, out.Pairwise (· < ·) → (∀ k, k ∈ out ↔ k ∈ ns) → newL false (out.map D.int) h3 _ | none => False)
    rw [ei]
    refine ⟨by omega, fun out hpw hmem => ?_⟩
    have hl1 : out.length ≤ 3 := by
      have := nd_le (xs := out) (ys := ns) (hpw.imp fun z => by omega) fun x hx => (hmem x).mp hx
      omega
    have hl0 : 1 ≤ out.length := by
      cases ns with
      | nil => simp at nl; omega
      | cons x r => exact List.length_pos_of_mem ((hmem x).mpr List.mem_cons_self)
    have hpk : ∀ y ∈ out, 0 ≤ y ∧ y ≤ k - 1 := fun y hy => by have := nr y ((hmem y).mp hy); omega
    show _
    simp only [MM.wpSs, MM.wpS, MM.wpE, MM.wpA, MM.wpT, MM.wpI, MM.wpC, MM.wpO, MM.wpG, MM.wpGs, msNext, msSeq, msNever, msBrk, msCnt, msExpr, msRet, msRetN, msAsg, msIf, msPar, msFor, mtOr, mtAnd, mtNot, mtOf, mtIte, mtYes, mCall, maCons, maNil, mVar, mC, mOp, mTup, mLst, mUc, mUk, mAnd, mOr, mNot, mNeg, mIte, mChain, onB, mSl, moNone, moSome, mM1, mB1, mB0, mgName, mgTup, mgsCons, mgsNil, mgSub, lnTs, miSeq, miRng1, miRng2, miEnum, miZip, start0, slot, put, wip, clr, BF.s, opS, cmpS, endsF, s1, List.map_cons, List.map_nil, List.replicate, List.cons_append, List.nil_append, List.append_nil, newL, mComp, finL, mSortedSet]
    have fin : ∀ (t : Int) (h5 : Hm), 0 ≤ t → t ≤ 14 → Deck h5 a b → Fs a b h3 h5 → sAdd false (.int n) (.int 1) h5 fun x h6 => sSub (.int p) (.int 1) h6 fun x_1 h7 => [D.ref a, x_1].length = 2 ∧ ph_draw [D.ref a, x_1] h7 (fun y h8 => sAdd false x y h8 fun x h9 => sMod x (.int p) h9 fun x h10 => sTup (.lst (out.map .int)) h10 fun x_2 h11 => [D.int t, .int n, x, x_2].length ≤ sizeLine ∧ Q (.tup [.int t, .int n, x, x_2]) h11) (fun x h => E x h) := fun t h5 t0 t1 d5 f5 => by
      rw [add_int, sub_int]
      refine ⟨rfl, a, b, p - 1, rfl, d5, ⟨by omega, by omega⟩, fun r h8 r0 r1 d8 f8 => ?_⟩
      show sAdd false (.int (n + 1)) (.int r) h8 _
      rw [add_int]
      refine mod_int (by omega) ?_
      have y1 : n ≤ p - 1 := by omega
      have y2 := Int.emod_nonneg (n + 1 + r) (show p ≠ 0 by omega)
      have y3 : (n + 1 + r) % p ≤ p - 1 := by have := Int.emod_lt_of_pos (n + 1 + r) (show 0 < p by omega); omega
      have y4 : out.length ≤ 4 := by omega
      refine ⟨show 4 ≤ sizeLine by decide, q ⟨t, n, (n + 1 + r) % p, out⟩ h8 ⟨t0, t1, n0, y1, y2, y3, ?_, hl0, y4, hpk, asc_of hpw⟩ d8 (((f1.trans f2).trans f3).trans (f5.trans f8))⟩
      intro e
      have e : n = (n + 1 + r) % p := e
      by_cases hlt : n + 1 + r < p
      · rw [Int.emod_eq_of_lt (by omega) hlt] at e; omega
      · have : (n + 1 + r) % p = n + 1 + r - p := by
          rw [← Int.sub_emod_right, Int.emod_eq_of_lt (by omega) (by omega)]
        omega
    refine ⟨rfl, a, b, 6, rfl, d3, ⟨by decide, by decide⟩, fun r h4 r0 r1 d4 f4 => ?_⟩
    simp only [gt_int, onB_bl]
    cases e : decide (0 < r) with
    | true =>
      refine ⟨rfl, a, b, 4, rfl, d4, ⟨by decide, by decide⟩, fun t h5 t0 t1 d5 f5 => ?_⟩
      exact fin t h5 t0 (by omega) d5 (f4.trans f5)
    | false =>
      refine ⟨rfl, a, b, 15, rfl, d4, ⟨by decide, by decide⟩, fun t h5 t0 t1 d5 f5 => ?_⟩
      exact fin t h5 t0 (by omega) d5 (f4.trans f5)
end KN
end

section
set_option Elab.async false
set_option linter.all false
set_option maxRecDepth 100000
set_option maxHeartbeats 8000000
namespace KN
open MM PySem
theorem py_nums {h : Hm} {k : Nat} (js : List Int) : pyF false h (k + 1) (.lst (js.map .int)) = some (.list (js.map .int)) := by
  show ((mapO (pyF false h k) (js.map .int)).map PyData.list) = _
  rw [py_ints]; rfl
theorem ne_nil_ints {h : Hm} {js : List Int} {Q : Kx} (q : Q (.bl (!js.isEmpty)) h) : sNe (.lst (js.map .int)) (.lst []) h Q := by
  show (match py h (.lst (js.map .int)), py h (.lst []) with | some p, some q => Q (.bl (!p.eqv q)) h | _, _ => False)
  rw [show py h (.lst (js.map .int)) = _ from py_nums (k := 59) js, show py h (.lst []) = _ from py_nums (k := 59) []]
  have e : (PyData.list (js.map .int)).eqv (.list ([].map .int)) = js.isEmpty := by
    cases js with
    | nil => simp [PyData.eqv, PyData.eqvAll]
    | cons j r => simp [PyData.eqv, PyData.eqvAll]
  show Q (.bl (!(PyData.list (js.map .int)).eqv (.list ([].map .int)))) h
  rw [e]
  exact q
theorem filt_ones (p : Sit → Bool) : ∀ os : List Sit, ((os.map Sit.d).filterMap fun x => if p (unS x) = true then some (D.int 1) else none) = (((os.filter p).map fun _ => (1 : Int))).map D.int
  | [] => rfl
  | o :: os => by
    rw [List.map_cons, List.filterMap_cons, unS_d, filt_ones p os]
    cases e : p o with
    | true => rw [if_pos rfl, List.filter_cons_of_pos e]; rfl
    | false => rw [if_neg Bool.false_ne_true, List.filter_cons_of_neg (by rw [e]; exact Bool.false_ne_true)]
theorem any_filter {α : Type} (p : α → Bool) (xs : List α) : (!(xs.filter p).isEmpty) = xs.any p := by
  induction xs with
  | nil => rfl
  | cons x r ih =>
    rw [List.any_cons]
    cases e : p x with
    | true => rw [List.filter_cons_of_pos e]; rfl
    | false => rw [List.filter_cons_of_neg (by rw [e]; exact Bool.false_ne_true), ih]; rfl
theorem shp_test {K : PySem.W.Frag} {s o : Sit} {h : Hm} {R : Bool → Hm → Prop} (q : R (shp s o) h) :
    sIdx s.d (.int 1) h fun x h1 => sSl K false o.d (some 1) (some 3) h1 fun y h2 => sIn false x y h2 (onB fun k h3 => match k with
      | true => R true h3
      | false => sIdx s.d (.int 2) h3 fun x h4 => sSl K false o.d (some 1) (some 3) h4 fun y h5 => sIn false x y h5 (onB R)) := by
  unfold shp at q
  simp only [Sit.d, idx_tup, at1, at2, sSl, cut13]
  show sIn false (.int s.n) (.tup ([o.n, o.e].map .int)) h _
  refine in_tup ?_
  rw [onB_bl]
  have e1 : decide (s.n ∈ [o.n, o.e]) = decide (s.n = o.n ∨ s.n = o.e) := by simp
  have e2 : decide (s.e ∈ [o.n, o.e]) = decide (s.e = o.n ∨ s.e = o.e) := by simp
  rw [e1]
  cases e : decide (s.n = o.n ∨ s.n = o.e) with
  | true => rw [e] at q; exact q
  | false =>
    rw [e] at q
    show sIn false (.int s.e) (.tup ([o.n, o.e].map .int)) h _
    refine in_tup ?_
    rw [e2, onB_bl]; exact q
def sitsB (os : List Sit) (s : Sit) : Bool := (os.filter fun o => decide (o.t = s.t)).any (shp s)
def ph_law_sits : Ph := fun ds h Q _ => ∃ (r : Addr) (os : List Sit) (s : Sit), ds = [.ref r, s.d] ∧ h r = some (.lst (os.map Sit.d)) ∧ os.length ≤ 1000 ∧ Q (.bl (sitsB os s)) h
theorem p_law_sits {G : Gw} : Pl b_law_sits 2 2 G ph_law_sits := by
  rintro ds h Q E hl ⟨r, os, s, rfl, hr, hn, q⟩
  have hz : (1000 : Nat) ≤ sizeLine := by decide
  simp only [b_law_sits, MM.wpSs, MM.wpS, MM.wpE, MM.wpA, MM.wpT, MM.wpI, MM.wpC, MM.wpO, MM.wpG, MM.wpGs, msNext, msSeq, msNever, msBrk, msCnt, msExpr, msRet, msRetN, msAsg, msIf, msPar, msFor, mtOr, mtAnd, mtNot, mtOf, mtIte, mtYes, mCall, maCons, maNil, mVar, mC, mOp, mTup, mLst, mUc, mUk, mAnd, mOr, mNot, mNeg, mIte, mChain, onB, mSl, moNone, moSome, mM1, mB1, mB0, mgName, mgTup, mgsCons, mgsNil, mgSub, lnTs, miSeq, miRng1, miRng2, miEnum, miZip, start0, slot, put, wip, clr, BF.s, opS, cmpS, endsF, s1, List.map_cons, List.map_nil, List.replicate, List.cons_append, List.nil_append, List.append_nil, newL, mComp, finL, mSortedSet, hr]
  refine comp_pure (f := fun x => if decide ((unS x).t = s.t) = true then some x else none) (by rw [List.length_map]; omega) (fun h' p acc np a => a.get np hr) (fun x h' p acc K1 K2 hx _ _ k => ?_) ?_
  · obtain ⟨o, _, rfl⟩ := List.mem_map.mp hx
    rw [unS_d] at k
    simp only [MM.wpSs, MM.wpS, MM.wpE, MM.wpA, MM.wpT, MM.wpI, MM.wpC, MM.wpO, MM.wpG, MM.wpGs, msNext, msSeq, msNever, msBrk, msCnt, msExpr, msRet, msRetN, msAsg, msIf, msPar, msFor, mtOr, mtAnd, mtNot, mtOf, mtIte, mtYes, mCall, maCons, maNil, mVar, mC, mOp, mTup, mLst, mUc, mUk, mAnd, mOr, mNot, mNeg, mIte, mChain, onB, mSl, moNone, moSome, mM1, mB1, mB0, mgName, mgTup, mgsCons, mgsNil, mgSub, lnTs, miSeq, miRng1, miRng2, miEnum, miZip, start0, slot, put, wip, clr, BF.s, opS, cmpS, endsF, s1, List.map_cons, List.map_nil, List.replicate, List.cons_append, List.nil_append, List.append_nil, newL, mComp, finL, mSortedSet, Sit.d, idx_tup, at0, eq_int, onB_bl]
    cases e : decide (o.t = s.t) <;> (rw [e] at k; exact k)
  · rw [filt_sit (fun o => decide (o.t = s.t))]
    have hlen : (os.filter fun o => decide (o.t = s.t)).length ≤ 1000 := Nat.le_trans (List.length_filter_le _ _) hn
    simp only [MM.wpSs, MM.wpS, MM.wpE, MM.wpA, MM.wpT, MM.wpI, MM.wpC, MM.wpO, MM.wpG, MM.wpGs, msNext, msSeq, msNever, msBrk, msCnt, msExpr, msRet, msRetN, msAsg, msIf, msPar, msFor, mtOr, mtAnd, mtNot, mtOf, mtIte, mtYes, mCall, maCons, maNil, mVar, mC, mOp, mTup, mLst, mUc, mUk, mAnd, mOr, mNot, mNeg, mIte, mChain, onB, mSl, moNone, moSome, mM1, mB1, mB0, mgName, mgTup, mgsCons, mgsNil, mgSub, lnTs, miSeq, miRng1, miRng2, miEnum, miZip, start0, slot, put, wip, clr, BF.s, opS, cmpS, endsF, s1, List.map_cons, List.map_nil, List.replicate, List.cons_append, List.nil_append, List.append_nil, newL, mComp, finL, mSortedSet]
    refine comp_pure (f := fun x => if shp s (unS x) = true then some (.int 1) else none) (by rw [List.length_map]; omega) (fun _ _ _ _ _ => trivial) (fun x h' p acc K1 K2 hx _ _ k => ?_) ?_
    · obtain ⟨o, _, rfl⟩ := List.mem_map.mp hx
      rw [unS_d] at k
      simp only [MM.wpSs, MM.wpS, MM.wpE, MM.wpA, MM.wpT, MM.wpI, MM.wpC, MM.wpO, MM.wpG, MM.wpGs, msNext, msSeq, msNever, msBrk, msCnt, msExpr, msRet, msRetN, msAsg, msIf, msPar, msFor, mtOr, mtAnd, mtNot, mtOf, mtIte, mtYes, mCall, maCons, maNil, mVar, mC, mOp, mTup, mLst, mUc, mUk, mAnd, mOr, mNot, mNeg, mIte, mChain, onB, mSl, moNone, moSome, mM1, mB1, mB0, mgName, mgTup, mgsCons, mgsNil, mgSub, lnTs, miSeq, miRng1, miRng2, miEnum, miZip, start0, slot, put, wip, clr, BF.s, opS, cmpS, endsF, s1, List.map_cons, List.map_nil, List.replicate, List.cons_append, List.nil_append, List.append_nil, newL, mComp, finL, mSortedSet]
      refine shp_test (R := fun c h2 => match c with | true => K1 (.int 1) h2 | false => K2 h2) ?_
      cases e : shp s o <;> (rw [e] at k; exact k)
    · rw [filt_ones]
      refine ⟨by decide, ne_nil_ints ?_⟩
      have e : (!((((os.filter fun o => decide (o.t = s.t)).filter (shp s)).map fun _ => (1 : Int))).isEmpty) = sitsB os s := by
        unfold sitsB
        rw [← any_filter]
        simp
      rw [e]; exact q
def playsB (os : List Sit) (s : Sit) : Bool := os.any fun o => shp s o && shk s o
def ph_law_plays_again : Ph := fun ds h Q _ => ∃ (r : Addr) (os : List Sit) (s : Sit), ds = [.ref r, s.d] ∧ h r = some (.lst (os.map Sit.d)) ∧ s.ps.length ≤ 1000 ∧ Q (.bl (playsB os s)) h
theorem filt_int (p : Int → Bool) : ∀ js : List Int, ((js.map D.int).filterMap fun x => if p (unI x) = true then some x else none) = (js.filter p).map D.int
  | [] => rfl
  | j :: js => by
    rw [List.map_cons, List.filterMap_cons, filt_int p js]
    have e0 : unI (.int j) = j := rfl
    rw [e0]
    cases e : p j with
    | true => rw [if_pos rfl, List.filter_cons_of_pos e]; rfl
    | false => rw [if_neg Bool.false_ne_true, List.filter_cons_of_neg (by rw [e]; exact Bool.false_ne_true)]
theorem p_law_plays_again {G : Gw} : Pl b_law_plays_again 2 2 G ph_law_plays_again := by
  rintro ds h Q E hl ⟨r, os, s, rfl, hr, hn, q⟩
  have hz : (1000 : Nat) ≤ sizeLine := by decide
  simp only [b_law_plays_again, MM.wpSs, MM.wpS, MM.wpE, MM.wpA, MM.wpT, MM.wpI, MM.wpC, MM.wpO, MM.wpG, MM.wpGs, msNext, msSeq, msNever, msBrk, msCnt, msExpr, msRet, msRetN, msAsg, msIf, msPar, msFor, mtOr, mtAnd, mtNot, mtOf, mtIte, mtYes, mCall, maCons, maNil, mVar, mC, mOp, mTup, mLst, mUc, mUk, mAnd, mOr, mNot, mNeg, mIte, mChain, onB, mSl, moNone, moSome, mM1, mB1, mB0, mgName, mgTup, mgsCons, mgsNil, mgSub, lnTs, miSeq, miRng1, miRng2, miEnum, miZip, start0, slot, put, wip, clr, BF.s, opS, cmpS, endsF, s1, List.map_cons, List.map_nil, List.replicate, List.cons_append, List.nil_append, List.append_nil, newL, mComp, finL, mSortedSet, hr]
  refine forW_rule (fun i σ h' => h' = h ∧ (∃ o2 o3, σ = [some (.ref r), some s.d, o2, o3]) ∧ playsB (os.take i) s = false) ⟨rfl, ⟨_, _, rfl⟩, rfl⟩ (fun _ _ _ I => by rw [I.1]; exact hr) (fun i x σ h' K hx I kk => ?_) (fun σ h' I => ?_)
  · obtain ⟨rfl, ⟨o2, o3, rfl⟩, hf⟩ := I
    rw [List.getElem?_map] at hx
    obtain ⟨o, ho, rfl⟩ := Option.map_eq_some_iff.mp hx
    have nx : playsB (os.take (i + 1)) s = (shp s o && shk s o) := by
      unfold playsB at hf ⊢
      rw [List.take_add_one, ho, List.any_append, hf]
      simp
    have tot : (shp s o && shk s o) = true → playsB os s = true := fun e => by
      unfold playsB
      rw [List.any_eq_true]
      exact ⟨o, List.mem_of_getElem? ho, e⟩
    simp only [MM.wpSs, MM.wpS, MM.wpE, MM.wpA, MM.wpT, MM.wpI, MM.wpC, MM.wpO, MM.wpG, MM.wpGs, msNext, msSeq, msNever, msBrk, msCnt, msExpr, msRet, msRetN, msAsg, msIf, msPar, msFor, mtOr, mtAnd, mtNot, mtOf, mtIte, mtYes, mCall, maCons, maNil, mVar, mC, mOp, mTup, mLst, mUc, mUk, mAnd, mOr, mNot, mNeg, mIte, mChain, onB, mSl, moNone, moSome, mM1, mB1, mB0, mgName, mgTup, mgsCons, mgsNil, mgSub, lnTs, miSeq, miRng1, miRng2, miEnum, miZip, start0, slot, put, wip, clr, BF.s, opS, cmpS, endsF, s1, List.map_cons, List.map_nil, List.replicate, List.cons_append, List.nil_append, List.append_nil, newL, mComp, finL, mSortedSet]
    refine shp_test (R := fun k h1 => match k with
      | true => sIdx s.d (.int 3) h1 _
      | false => K _ h1) ?_
    cases e : shp s o with
    | false => rw [e] at nx; exact kk _ _ ⟨rfl, ⟨_, _, rfl⟩, nx⟩
    | true =>
      rw [e] at nx tot
      simp only [MM.wpSs, MM.wpS, MM.wpE, MM.wpA, MM.wpT, MM.wpI, MM.wpC, MM.wpO, MM.wpG, MM.wpGs, msNext, msSeq, msNever, msBrk, msCnt, msExpr, msRet, msRetN, msAsg, msIf, msPar, msFor, mtOr, mtAnd, mtNot, mtOf, mtIte, mtYes, mCall, maCons, maNil, mVar, mC, mOp, mTup, mLst, mUc, mUk, mAnd, mOr, mNot, mNeg, mIte, mChain, onB, mSl, moNone, moSome, mM1, mB1, mB0, mgName, mgTup, mgsCons, mgsNil, mgSub, lnTs, miSeq, miRng1, miRng2, miEnum, miZip, start0, slot, put, wip, clr, BF.s, opS, cmpS, endsF, s1, List.map_cons, List.map_nil, List.replicate, List.cons_append, List.nil_append, List.append_nil, newL, mComp, finL, mSortedSet, Sit.d, idx_tup, at3]
      refine comp_pure (f := fun x => if decide (unI x ∈ o.ps) = true then some x else none) (by rw [List.length_map]; omega) (fun _ _ _ _ _ => trivial) (fun x h2 p acc K1 K2 hx _ _ k => ?_) ?_
      · obtain ⟨j, _, rfl⟩ := List.mem_map.mp hx
        simp only [MM.wpSs, MM.wpS, MM.wpE, MM.wpA, MM.wpT, MM.wpI, MM.wpC, MM.wpO, MM.wpG, MM.wpGs, msNext, msSeq, msNever, msBrk, msCnt, msExpr, msRet, msRetN, msAsg, msIf, msPar, msFor, mtOr, mtAnd, mtNot, mtOf, mtIte, mtYes, mCall, maCons, maNil, mVar, mC, mOp, mTup, mLst, mUc, mUk, mAnd, mOr, mNot, mNeg, mIte, mChain, onB, mSl, moNone, moSome, mM1, mB1, mB0, mgName, mgTup, mgsCons, mgsNil, mgSub, lnTs, miSeq, miRng1, miRng2, miEnum, miZip, start0, slot, put, wip, clr, BF.s, opS, cmpS, endsF, s1, List.map_cons, List.map_nil, List.replicate, List.cons_append, List.nil_append, List.append_nil, newL, mComp, finL, mSortedSet, idx_tup, at3]
        refine in_tup ?_
        have k : (match (if decide (j ∈ o.ps) = true then some (D.int j) else none) with | some y => K1 y h2 | none => K2 h2) := k
        rw [onB_bl]
        cases e : decide (j ∈ o.ps) <;> (rw [e] at k; exact k)
      · rw [filt_int (fun j => decide (j ∈ o.ps))]
        refine ⟨by decide, ne_nil_ints ?_⟩
        rw [any_filter, onB_bl]
        have e2 : (s.ps.any fun j => decide (j ∈ o.ps)) = shk s o := rfl
        rw [e2]
        cases e3 : shk s o with
        | true => rw [tot (by rw [e3]; rfl)] at q; exact q
        | false => rw [e3] at nx; exact kk _ _ ⟨rfl, ⟨_, _, rfl⟩, nx⟩
  · obtain ⟨rfl, ⟨o2, o3, rfl⟩, hf⟩ := I
    rw [List.length_map, List.take_length] at hf
    rw [hf] at q
    exact q
end KN
end

section
set_option Elab.async false
set_option linter.all false
set_option maxRecDepth 100000
set_option maxHeartbeats 8000000
namespace KN
open MM PySem
theorem sitLt_lex (a b : Sit) : sitLt a b = PyProof.Rows.lexLt PyProof.Rows.itemOrd (PySem.W.keyToks (sitP a)) (PySem.W.keyToks (sitP b)) := (lt_sit a b).symm
theorem sitLt_trans {a b c : Sit} (h1 : sitLt a b = true) (h2 : sitLt b c = true) : sitLt a c = true := by
  rw [sitLt_lex] at h1 h2 ⊢
  exact PyProof.Rows.lex_trans _ _ _ h1 h2
theorem sitLt_asym {a b : Sit} (h1 : sitLt a b = true) : sitLt b a = false := by
  cases e : sitLt b a with
  | false => rfl
  | true => have := sitLt_trans h1 e; rw [sitLt_irrefl] at this; cases this
def sitLe (a b : Sit) : Bool := !sitLt b a
theorem sitLe_trans (a b c : Sit) (h1 : sitLe a b = true) (h2 : sitLe b c = true) : sitLe a c = true := by
  unfold sitLe at *
  simp only [Bool.not_eq_true'] at *
  cases e : sitLt c a with
  | false => rfl
  | true =>
    cases e2 : sitLt a b with
    | true => have := sitLt_trans e e2; rw [h2] at this; cases this
    | false => have := sitLt_tri e2 h1; subst this; rw [h2] at e; cases e
theorem sitLe_total (a b : Sit) : (sitLe a b || sitLe b a) = true := by
  unfold sitLe
  cases e : sitLt a b with
  | true => rw [sitLt_asym e]; rfl
  | false => simp
def conf (s o : Sit) : Bool := shp s o && (decide (o.t = s.t) || shk s o)
theorem shp_symm (a b : Sit) : shp a b = shp b a := by
  unfold shp
  rw [Bool.eq_iff_iff]
  simp only [Bool.or_eq_true, decide_eq_true_eq]
  omega
theorem shk_symm (a b : Sit) : shk a b = shk b a := by
  unfold shk
  rw [Bool.eq_iff_iff, List.any_eq_true, List.any_eq_true]
  constructor
  · rintro ⟨x, h1, h2⟩; exact ⟨x, of_decide_eq_true h2, decide_eq_true h1⟩
  · rintro ⟨x, h1, h2⟩; exact ⟨x, of_decide_eq_true h2, decide_eq_true h1⟩
theorem conf_symm (a b : Sit) : conf a b = conf b a := by
  unfold conf
  rw [shp_symm, shk_symm a b]
  have : decide (b.t = a.t) = decide (a.t = b.t) := by rw [Bool.eq_iff_iff, decide_eq_true_eq, decide_eq_true_eq]; exact eq_comm
  rw [this]
theorem conf_of {os : List Sit} {s : Sit} (h1 : sitsB os s = false) (h2 : playsB os s = false) : ∀ o ∈ os, conf s o = false := fun o ho => by
  unfold sitsB at h1
  unfold playsB at h2
  rw [List.any_eq_false] at h1 h2
  have p2 := h2 o ho
  unfold conf
  cases e : shp s o with
  | false => rfl
  | true =>
    rw [e] at p2
    have e3 : shk s o = false := by simpa using p2
    rw [e3]
    cases e4 : decide (o.t = s.t) with
    | false => rfl
    | true => exact absurd e (h1 o (List.mem_filter.mpr ⟨ho, e4⟩))
theorem bes_non {s : Sit} {os : List Sit} (h : ∀ o ∈ os, conf s o = false) : besD s os = .non := by
  unfold besD
  have e1 : ((os.filter (shp s)).any fun o => decide (o.t = s.t)) = false := by
    rw [List.any_eq_false]
    intro o ho
    obtain ⟨m, e⟩ := List.mem_filter.mp ho
    have := h o m
    unfold conf at this
    rw [e] at this
    simp at this
    simp [this.1]
  have e2 : ((os.filter (shp s)).any (shk s)) = false := by
    rw [List.any_eq_false]
    intro o ho
    obtain ⟨m, e⟩ := List.mem_filter.mp ho
    have := h o m
    unfold conf at this
    rw [e] at this
    simp at this
    simp [this.2]
  rw [e1, e2]
  rfl
structure Plan.ok (a : Plan) : Prop where
  p0 : 2 ≤ a.p
  p1 : a.p ≤ 10
  k0 : 1 ≤ a.k
  k1 : a.k ≤ 20
  l : a.os.length ≤ 45
  g : ∀ s ∈ a.os, s.good a.p a.k
  c : a.os.Pairwise fun x y => conf y x = false ∧ sitLt x y = true
theorem scan_non {p k : Int} : ∀ (rest os : List Sit) (n : Nat), (∀ s ∈ rest, s.good p k) → (os ++ rest).Pairwise (fun x y => conf y x = false ∧ sitLt x y = true) → scanD p k os n (rest.map Sit.d) = .non
  | [], _, _, _, _ => scanD_nil
  | s :: rest, os, n, hg, hc => by
    have hs := hg s List.mem_cons_self
    have hall : ∀ o ∈ os, conf s o = false ∧ sitLt o s = true := fun o ho => (List.pairwise_append.mp hc).2.2 o ho s List.mem_cons_self
    have e : itemD p k os s.d = .non := by
      unfold itemD
      rw [isSit_d hs, if_pos rfl, unS_d]
      cases el : os.getLast? with
      | none => exact bes_non fun o ho => (hall o ho).1
      | some o =>
        show (if sitLt o s = true then besD s os else .str "order") = .non
        rw [if_pos (hall o (List.mem_of_getLast? el)).2]
        exact bes_non fun o ho => (hall o ho).1
    rw [List.map_cons, scanD_cons, e, unS_d]
    show (if true = true then _ else _) = _
    rw [if_pos rfl]
    exact scan_non rest (os ++ [s]) (n + 1) (fun x hx => hg x (List.mem_cons_of_mem _ hx)) (by rw [List.append_assoc]; exact hc)
theorem plan_non {a : Plan} (h : a.ok) : planD a.d = .non := by
  show (if isIntB (.int a.p) (.int 2) (.int 10) = true then (if isIntB (.int a.k) (.int 1) (.int 20) = true then sitsD a.p a.k (.tup (a.os.map Sit.d)) else _) else _) = .non
  have e1 : isIntB (.int a.p) (.int 2) (.int 10) = true := by rw [isInt_int, decide_eq_true h.p0, decide_eq_true h.p1]; rfl
  have e2 : isIntB (.int a.k) (.int 1) (.int 20) = true := by rw [isInt_int, decide_eq_true h.k0, decide_eq_true h.k1]; rfl
  rw [e1, if_pos rfl, e2, if_pos rfl]
  show (if (a.os.map Sit.d).length ≤ 45 then _ else _) = _
  rw [List.length_map, if_pos h.l]
  exact scan_non a.os [] 0 h.g h.c
theorem good_small {p k : Int} {s : Sit} (h : s.good p k) (hp : p ≤ 100) (hk : k ≤ 100) : s.small := by
  refine ⟨h.l1, fun i hi => ?_⟩
  simp only [List.mem_cons] at hi
  rcases hi with rfl | rfl | rfl | hi
  · exact ⟨h.t0, by have := h.t1; omega⟩
  · exact ⟨h.n0, by have := h.n1; omega⟩
  · exact ⟨h.e0, by have := h.e1; omega⟩
  · have := h.pk i hi; exact ⟨this.1, by omega⟩
theorem Plan.ok.small {a : Plan} (h : a.ok) : a.small :=
  ⟨⟨by have := h.p0; omega, by have := h.p1; omega⟩, ⟨by have := h.k0; omega, by have := h.k1; omega⟩, h.l, fun s hs => good_small (h.g s hs) (by have := h.p1; omega) (by have := h.k1; omega)⟩
theorem pyD_sit {h : Hm} (s : Sit) : pyD h s.d = sitP s := by
  unfold pyD
  rw [show py h s.d = some (sitP s) from py_sit (k := 58) s]
  rfl
theorem sorted_ok {h : Hm} {r : Addr} {os : List Sit} {Q : Kx} (hr : h r = some (.lst (os.map Sit.d))) (q : Q (.lst ((os.mergeSort sitLe).map Sit.d)) h) : sSorted false (.ref r) h Q := by
  show (match sqs h (.ref r) with | some xs => ((∀ d ∈ xs, (py h d).isSome = true) ∧ PySem.W.AllAlike (xs.map (pyD h)) ∧ PySem.W.Sortable (xs.map (pyD h))) ∧ newL false (srt h xs) h Q | none => False)
  rw [sqs_ref hr]
  refine ⟨⟨fun d hd => ?_, fun d hd d' hd' => ?_, .inl fun d hd => ?_⟩, ?_⟩
  · obtain ⟨s, _, rfl⟩ := List.mem_map.mp hd
    rw [show py h s.d = some (sitP s) from py_sit (k := 58) s]; rfl
  · obtain ⟨x, hx, rfl⟩ := List.mem_map.mp hd
    obtain ⟨y, hy, rfl⟩ := List.mem_map.mp hd'
    obtain ⟨s, _, rfl⟩ := List.mem_map.mp hx
    obtain ⟨s', _, rfl⟩ := List.mem_map.mp hy
    rw [pyD_sit, pyD_sit]
    exact alike_sit s s'
  · obtain ⟨x, hx, rfl⟩ := List.mem_map.mp hd
    obtain ⟨s, _, rfl⟩ := List.mem_map.mp hx
    rw [pyD_sit]
    exact ⟨_, _, rfl⟩
  · have e : srt h (os.map Sit.d) = (os.mergeSort sitLe).map Sit.d := by
      unfold srt
      refine (PySem.W.sort_maps (r := sitLe) (s := leD h) Sit.d fun a _ b _ => ?_).symm
      unfold sitLe leD
      rw [pyD_sit, pyD_sit, lt_sit]
    show Q (.lst (srt h (os.map Sit.d))) h
    rw [e]; exact q
theorem conf_self (s : Sit) : conf s s = true := by
  unfold conf shp
  simp
theorem plan_sorted {p k : Int} {os : List Sit} (p0 : 2 ≤ p) (p1 : p ≤ 10) (k0 : 1 ≤ k) (k1 : k ≤ 20) (hl : os.length ≤ 45) (hg : ∀ s ∈ os, s.good p k) (hc : os.Pairwise fun x y => conf x y = false) : (⟨p, k, os.mergeSort sitLe⟩ : Plan).ok := by
  have hp : (os.mergeSort sitLe).Perm os := List.mergeSort_perm os sitLe
  refine ⟨p0, p1, k0, k1, by show (os.mergeSort sitLe).length ≤ 45; rw [hp.length_eq]; exact hl, fun s hs => hg s (hp.mem_iff.mp hs), ?_⟩
  have h1 : (os.mergeSort sitLe).Pairwise fun x y => sitLe x y = true := List.pairwise_mergeSort sitLe_trans sitLe_total os
  have h2 : (os.mergeSort sitLe).Pairwise fun x y => conf x y = false := (hp.pairwise_iff fun {a b} e => by rw [conf_symm]; exact e).mpr hc
  refine (h1.and h2).imp fun {a b} ⟨e1, e2⟩ => ⟨by rw [conf_symm]; exact e2, ?_⟩
  unfold sitLe at e1
  cases e3 : sitLt a b with
  | true => rfl
  | false =>
    have : a = b := sitLt_tri e3 (by simpa using e1)
    subst this
    rw [conf_self] at e2; cases e2
end KN
end

section
set_option Elab.async false
set_option linter.all false
set_option maxRecDepth 100000
set_option maxHeartbeats 8000000
namespace KN
open MM PySem
def Fw (a b : Addr) (h h' : Hm) : Prop := ∀ x, x ≠ a → x ≠ b → h x ≠ none → h' x = h x
theorem Fw.refl {a b : Addr} {h : Hm} : Fw a b h h := fun _ _ _ _ => rfl
theorem Fs.w {a b : Addr} {h h' : Hm} (f : Fs a b h h') : Fw a b h h' := fun x n m _ => f x n m
theorem Fw.trans {a b : Addr} {h1 h2 h3 : Hm} (p : Fw a b h1 h2) (q : Fw a b h2 h3) : Fw a b h1 h3 := fun x n m e => by
  have := p x n m e
  rw [q x n m (by rw [this]; exact e), this]
theorem Fw.new {a b r : Addr} {h h' : Hm} {o : Ob} (f : Fw a b h h') (n : h r = none) : Fw a b h (updm h' r o) := fun x n1 n2 e => by
  rw [updm_ne (fun z => e (by rw [z]; exact n))]
  exact f x n1 n2 e
theorem append_ok {r : Addr} {xs : List D} {y : D} {h : Hm} {Q : Kx} (e : h r = some (.lst xs)) (l : xs.length < sizeLine) (q : Q .non (updm h r (.lst (xs ++ [y])))) : sAppend (.ref r) [y] h Q := by
  show (match h r with | some (.lst xs) => xs.length < sizeLine ∧ Q .non (updm h r (.lst (xs ++ [y]))) | _ => False)
  rw [e]
  exact ⟨l, q⟩
def ph_law_plan_of : Ph := fun ds h Q _ => ∃ (a b : Addr) (p k m : Int), ds = [.ref a, .int p, .int k, .int m] ∧ Deck h a b ∧ 2 ≤ p ∧ p ≤ 10 ∧ 1 ≤ k ∧ k ≤ 20 ∧ 0 ≤ m ∧ m ≤ 45 ∧ ∀ (pl : Plan) (h' : Hm), pl.ok → pl.p = p → pl.k = k → Deck h' a b → Fw a b h h' → Q pl.d h'
theorem p_law_plan_of {G : Gw} (g65 : G.T 65 = ph_law_sits) (g66 : G.T 66 = ph_law_plays_again) (g68 : G.T 68 = ph_law_sitting) : Pl b_law_plan_of 4 3 G ph_law_plan_of := by
  rintro ds h Q E hl ⟨a, b, p, k, m, rfl, d, p2, p10, k1, k20, m0, m45, q⟩
  simp only [b_law_plan_of, MM.wpSs, MM.wpS, MM.wpE, MM.wpA, MM.wpT, MM.wpI, MM.wpC, MM.wpO, MM.wpG, MM.wpGs, msNext, msSeq, msNever, msBrk, msCnt, msExpr, msRet, msRetN, msAsg, msIf, msPar, msFor, mtOr, mtAnd, mtNot, mtOf, mtIte, mtYes, mCall, maCons, maNil, mVar, mC, mOp, mTup, mLst, mUc, mUk, mAnd, mOr, mNot, mNeg, mIte, mChain, onB, mSl, moNone, moSome, mM1, mB1, mB0, mgName, mgTup, mgsCons, mgsNil, mgSub, lnTs, miSeq, miRng1, miRng2, miEnum, miZip, start0, slot, put, wip, clr, BF.s, opS, cmpS, endsF, s1, List.map_cons, List.map_nil, List.replicate, List.cons_append, List.nil_append, List.append_nil, newL, mComp, finL, mSortedSet]
  refine ⟨by decide, fun r nr => ⟨⟨by omega, by omega⟩, ?_⟩⟩
  obtain ⟨ra, rb⟩ := d.ne nr
  have hz : (1000 : Nat) ≤ sizeLine := by decide
  have hlen : (rangeD 0 m.toNat).length = m.toNat := by unfold rangeD; simp
  refine forW_rule (fun i σ h' => ∃ (os : List Sit) (o5 o6 : Option D), σ = [some (.ref a), some (.int p), some (.int k), some (.int m), some (.ref r), o5, o6] ∧ h' r = some (.lst (os.map Sit.d)) ∧ Deck h' a b ∧ Fw a b h h' ∧ os.length ≤ i ∧ i ≤ m.toNat ∧ (∀ s ∈ os, s.good p k) ∧ os.Pairwise fun x y => conf x y = false)
    ⟨[], _, _, rfl, updm_same, d.of (updm_ne (Ne.symm ra)) (updm_ne (Ne.symm rb)), Fw.refl.new nr, Nat.le_refl _, Nat.zero_le _, (fun _ z => nomatch z), .nil⟩ (fun _ _ _ _ => trivial) (fun i x σ h1 K hx I kk => ?_) (fun σ h1 I => ?_)
  · obtain ⟨os, o5, o6, rfl, hr, d1, f1, hi, him, hg, hc⟩ := I
    have hlt := (List.getElem?_eq_some_iff.mp hx).1
    rw [hlen] at hlt
    simp only [MM.wpSs, MM.wpS, MM.wpE, MM.wpA, MM.wpT, MM.wpI, MM.wpC, MM.wpO, MM.wpG, MM.wpGs, msNext, msSeq, msNever, msBrk, msCnt, msExpr, msRet, msRetN, msAsg, msIf, msPar, msFor, mtOr, mtAnd, mtNot, mtOf, mtIte, mtYes, mCall, maCons, maNil, mVar, mC, mOp, mTup, mLst, mUc, mUk, mAnd, mOr, mNot, mNeg, mIte, mChain, onB, mSl, moNone, moSome, mM1, mB1, mB0, mgName, mgTup, mgsCons, mgsNil, mgSub, lnTs, miSeq, miRng1, miRng2, miEnum, miZip, start0, slot, put, wip, clr, BF.s, opS, cmpS, endsF, s1, List.map_cons, List.map_nil, List.replicate, List.cons_append, List.nil_append, List.append_nil, newL, mComp, finL, mSortedSet, g65, g66, g68]
    refine ⟨rfl, a, b, p, k, rfl, d1, p2, by omega, k1, by omega, fun s h2 gs d2 f2 => ?_⟩
    have hr2 : h2 r = some (.lst (os.map Sit.d)) := by rw [f2 r ra rb]; exact hr
    refine ⟨rfl, r, os, s, rfl, hr2, by omega, ?_⟩
    rw [onB_bl]
    have skip : K [some (.ref a), some (.int p), some (.int k), some (.int m), some (.ref r), some x, some s.d] h2 := kk _ _ ⟨os, _, _, rfl, hr2, d2, f1.trans f2.w, by omega, hlt, hg, hc⟩
    cases e1 : sitsB os s with
    | true => exact skip
    | false =>
      refine ⟨rfl, r, os, s, rfl, hr2, by have := gs.l1; omega, ?_⟩
      rw [onB_bl]
      cases e2 : playsB os s with
      | true => exact skip
      | false =>
        refine ⟨⟨r, _, rfl, hr2⟩, append_ok hr2 (by rw [List.length_map]; omega) (kk _ _ ⟨os ++ [s], _, _, rfl, ?_, d2.of (updm_ne (Ne.symm ra)) (updm_ne (Ne.symm rb)), (f1.trans f2.w).new nr, by rw [List.length_append]; show _ + 1 ≤ _; omega, hlt, ?_, ?_⟩)⟩
        · rw [updm_same, List.map_append]; rfl
        · intro y hy
          rcases List.mem_append.mp hy with hy | hy
          · exact hg y hy
          · rw [List.mem_singleton.mp hy]; exact gs
        · refine List.pairwise_append.mpr ⟨hc, .cons (fun _ z => nomatch z) .nil, fun o ho y hy => ?_⟩
          rw [List.mem_singleton.mp hy, conf_symm]
          exact conf_of e1 e2 o ho
  · obtain ⟨os, o5, o6, rfl, hr, d1, f1, hi, him, hg, hc⟩ := I
    rw [hlen] at hi
    simp only [MM.wpSs, MM.wpS, MM.wpE, MM.wpA, MM.wpT, MM.wpI, MM.wpC, MM.wpO, MM.wpG, MM.wpGs, msNext, msSeq, msNever, msBrk, msCnt, msExpr, msRet, msRetN, msAsg, msIf, msPar, msFor, mtOr, mtAnd, mtNot, mtOf, mtIte, mtYes, mCall, maCons, maNil, mVar, mC, mOp, mTup, mLst, mUc, mUk, mAnd, mOr, mNot, mNeg, mIte, mChain, onB, mSl, moNone, moSome, mM1, mB1, mB0, mgName, mgTup, mgsCons, mgsNil, mgSub, lnTs, miSeq, miRng1, miRng2, miEnum, miZip, start0, slot, put, wip, clr, BF.s, opS, cmpS, endsF, s1, List.map_cons, List.map_nil, List.replicate, List.cons_append, List.nil_append, List.append_nil, newL, mComp, finL, mSortedSet]
    refine sorted_ok hr ?_
    have := plan_sorted p2 p10 k1 k20 (by omega) hg hc
    exact ⟨show 3 ≤ sizeLine by decide, q _ h1 this rfl rfl d1 f1⟩
def ringRow (n : Nat) : List Sit := ⟨n, 9, n, [(n : Int)]⟩ :: (List.range 4).map fun j => ⟨n, ((n : Int) + (1 + (j : Nat))) % 9, ((n : Int) - (1 + (j : Nat))) % 9, [(n : Int)]⟩
def ringOs (i : Nat) : List Sit := (List.range i).flatMap ringRow
def pairB (R : Sit → Sit → Bool) : List Sit → Bool
  | [] => true
  | x :: r => r.all (fun y => R x y) && pairB R r
theorem pairB_ok {R : Sit → Sit → Bool} : ∀ {l : List Sit}, pairB R l = true → l.Pairwise fun x y => R x y = true
  | [], _ => .nil
  | x :: r, h => by
    unfold pairB at h
    rw [Bool.and_eq_true] at h
    exact .cons (fun y hy => List.all_eq_true.mp h.1 y hy) (pairB_ok h.2)
def goodB (p k : Int) (s : Sit) : Bool := isSit p k s.d
theorem ring_good : (ringOs 9).all (goodB 10 9) = true := by decide +kernel
theorem ring_conf : pairB (fun x y => !conf x y) (ringOs 9) = true := by decide +kernel
theorem ring_len : (ringOs 9).length = 45 := by decide +kernel
theorem ring_ok {k : Int} (h0 : 9 ≤ k) (h1 : k ≤ 20) : (⟨10, k, (ringOs 9).mergeSort sitLe⟩ : Plan).ok := by
  refine plan_sorted (by decide) (by decide) (by omega) h1 (by rw [ring_len]; decide) (fun s hs => ?_) ((pairB_ok ring_conf).imp fun e => by simpa using e)
  have := List.all_eq_true.mp ring_good s hs
  obtain ⟨s', e, g⟩ := isSit_of this
  have : s = s' := by rw [← unS_d s, e, unS_d]
  subst this
  exact ⟨g.t0, g.t1, g.n0, g.n1, g.e0, g.e1, g.ne, g.l0, g.l1, fun p hp => ⟨(g.pk p hp).1, by have := (g.pk p hp).2; omega⟩, g.asc⟩
end KN
end

section
set_option Elab.async false
set_option linter.all false
set_option maxRecDepth 100000
set_option maxHeartbeats 8000000
namespace KN
open MM PySem
mutual
def pyO : D → PyData
  | .bl b => .bool b
  | .int i => .int i
  | .str x => .str x
  | .tup xs => .tuple (pyOs xs)
  | .lst xs => .list (pyOs xs)
  | _ => .none
def pyOs : List D → List PyData
  | [] => []
  | x :: r => pyO x :: pyOs r
end
mutual
def okS : Nat → D → Bool
  | _, .non => true
  | _, .bl _ => true
  | _, .int i => decide (i.natAbs < 10 ^ 70)
  | _, .str x => x.cps.toList.all fun c => decide (c < 16 ^ 8)
  | n, .tup xs => okSs n xs
  | n, .lst xs => okSs n xs
  | _, _ => false
def okSs : Nat → List D → Bool
  | 0, _ => false
  | _ + 1, [] => true
  | n + 1, x :: r => okS n x && okSs (n + 1) r
end
mutual
def wD : D → Nat
  | .str x => 10 * x.length + 2
  | .tup xs => wDs xs + 4
  | .lst xs => wDs xs + 4
  | _ => 110
def wDs : List D → Nat
  | [] => 0
  | x :: r => wD x + 2 + wDs r
end
theorem shown_all : ∀ ps : List PyData, PyData.shownAll ps = ps.map PyData.shown
  | [] => by rw [PyData.shownAll]; rfl
  | p :: r => by rw [PyData.shownAll, shown_all r]; rfl
theorem len_app' (x y : Str) : (x ++ y).length = x.length + y.length := len_app x y
theorem textFrom_le : ∀ (ts : List Str) (k : Nat) (acc : Str), (textFrom k acc ts).length ≤ acc.length + (ts.map fun t => t.length + 2).sum
  | [], k, acc => by show acc.length ≤ _; simp
  | t :: r, k, acc => by
    have ih := textFrom_le r (k + 1) (acc ++ (if k > 0 then ", " else "" : String) ++ t)
    show (textFrom (k + 1) (acc ++ (if k > 0 then ", " else "" : String) ++ t) r).length ≤ _
    rw [List.map_cons, List.sum_cons]
    have h1 : (((if k > 0 then ", " else "" : String) : Str)).length ≤ 2 := by split <;> decide
    rw [len_app, len_app] at ih
    omega
theorem listText_le (ts : List Str) : (listText ts).length ≤ (ts.map fun t => t.length + 2).sum + 2 := by
  unfold listText
  have h := textFrom_le ts 0 "["
  have h1 : (("[" : Str)).length = 1 := by decide
  have h2 : (("]" : Str)).length = 1 := by decide
  rw [len_app, h2]
  omega
theorem sum_add2 (ts : List Str) : (ts.map fun t => t.length + 2).sum = (ts.map (·.length)).sum + 2 * ts.length := by
  induction ts with
  | nil => rfl
  | cons t r ih => simp only [List.map_cons, List.sum_cons, List.length_cons, ih]; omega
theorem tupleText_le (ts : List Str) : (tupleText ts).length ≤ (ts.map fun t => t.length + 2).sum + 3 := by
  unfold tupleText
  have h1 : (("(" : Str)).length = 1 := by decide
  have h2 : (((if ts.length == 1 then ",)" else ")" : String) : Str)).length ≤ 2 := by split <;> decide
  have h3 : ((", " : Str)).length = 2 := by decide
  have h4 := join_le (a := ", ") (zs := ts)
  rw [TL.join_eq, h3] at h4
  rw [len_app, len_app, h1, sum_add2]
  omega
theorem toString_le {i : Int} (h : i.natAbs < 10 ^ 70) : (((toString i : String) : Str)).length ≤ 110 := by
  by_cases h0 : 0 ≤ i
  · rw [len_tl, numS_tl h0]
    have := TL.numL_len (n := i.toNat) (k := 70) (by decide) (by omega)
    omega
  · have e : i = -((i.natAbs : Nat) : Int) := by omega
    have : (toString i : String) = "-" ++ toString i.natAbs := by
      obtain ⟨n, hn⟩ : ∃ n : Nat, i = Int.negSucc n := by
        cases i with
        | ofNat n => exact absurd (Int.natCast_nonneg n) h0
        | negSucc n => exact ⟨n, rfl⟩
      subst hn
      rfl
    rw [this]
    have e2 : ((("-" ++ toString i.natAbs : String)) : Str) = ("-" : Str) ++ ((toString i.natAbs : String) : Str) := by
      refine TL.ext_tl ?_
      rw [TL.tl_append, TL.tl_ofString, TL.tl_ofString, TL.tl_ofString]
      simp
    rw [e2, len_app]
    have h1 : (("-" : Str)).length = 1 := by decide
    have h2 : (((toString i.natAbs : String) : Str)).length ≤ 70 := by
      have e3 : ((toString i.natAbs : String) : Str) = numS (i.natAbs : Int) := rfl
      rw [e3, len_tl, numS_tl (Int.natCast_nonneg _)]
      exact TL.numL_len (by decide) (by simpa using h)
    omega
def OneS (h : Hm) (n : Nat) : Prop := ∀ d : D, okS n d = true → pyF true h n d = some (pyO d) ∧ (pyO d).showable = true ∧ (pyO d).shown.length ≤ wD d ∧ (pyO d).depth ≤ n
def AllS (h : Hm) (n : Nat) : Prop := ∀ xs : List D, okSs (n + 1) xs = true → mapO (pyF true h n) xs = some (pyOs xs) ∧ PyData.showableAll (pyOs xs) = true ∧ ((PyData.shownAll (pyOs xs)).map fun t => t.length + 2).sum ≤ wDs xs ∧ PyData.depthAll (pyOs xs) ≤ n
theorem all_of {h : Hm} {n : Nat} (one : OneS h n) : AllS h n := by
  intro xs
  induction xs with
  | nil => intro _; exact ⟨rfl, by unfold pyOs; rw [PyData.showableAll], by unfold pyOs; rw [PyData.shownAll]; exact Nat.zero_le _, by unfold pyOs; exact Nat.zero_le _⟩
  | cons x r ih =>
    intro k
    unfold okSs at k
    rw [Bool.and_eq_true] at k
    obtain ⟨a1, a2, a3, a4⟩ := one x k.1
    obtain ⟨b1, b2, b3, b4⟩ := ih k.2
    unfold pyOs
    refine ⟨?_, ?_, ?_, ?_⟩
    · unfold mapO; rw [a1, b1]
    · rw [PyData.showableAll, a2, b2]; rfl
    · rw [PyData.shownAll, List.map_cons, List.sum_cons]
      unfold wDs
      omega
    · show max (pyO x).depth (PyData.depthAll (pyOs r)) ≤ n
      omega
theorem atom_ok {h : Hm} {n : Nat} : ∀ d : D, (∀ xs, d ≠ .tup xs) → (∀ xs, d ≠ .lst xs) → okS n d = true → pyF true h n d = some (pyO d) ∧ (pyO d).showable = true ∧ (pyO d).shown.length ≤ wD d ∧ (pyO d).depth ≤ n := by
  intro d h1 h2 k
  cases d with
  | non => exact ⟨by cases n <;> rfl, by unfold pyO; rw [PyData.showable], by unfold pyO wD; rw [PyData.shown]; decide, by unfold pyO; exact Nat.zero_le _⟩
  | bl b =>
    refine ⟨by cases n <;> rfl, by unfold pyO; rw [PyData.showable], ?_, by unfold pyO; exact Nat.zero_le _⟩
    unfold pyO wD
    rw [PyData.shown]
    cases b <;> decide
  | int i =>
    have k : i.natAbs < 10 ^ 70 := by
      have k : decide (i.natAbs < 10 ^ 70) = true := by cases n <;> exact k
      exact of_decide_eq_true k
    refine ⟨by cases n <;> rfl, ?_, ?_, by unfold pyO; exact Nat.zero_le _⟩
    · unfold pyO
      rw [PyData.showable, decide_eq_true_eq]
      by_cases h0 : i.natAbs = 0
      · rw [h0]; decide
      · have : i.natAbs.log2 < 400 := (Nat.log2_lt h0).mpr (Nat.lt_trans k (by decide))
        omega
    · unfold pyO wD
      rw [PyData.shown]
      exact toString_le k
  | str x =>
    have k : ∀ c ∈ x.cps.toList, c < 16 ^ 8 := by
      have k : (x.cps.toList.all fun c => decide (c < 16 ^ 8)) = true := by cases n <;> exact k
      intro c hc
      exact of_decide_eq_true (List.all_eq_true.mp k c hc)
    refine ⟨by cases n <;> rfl, by unfold pyO; rw [PyData.showable], ?_, by unfold pyO; exact Nat.zero_le _⟩
    unfold pyO wD
    rw [PyData.shown]
    exact StrLaws.reprText_len x k
  | tup xs => exact absurd rfl (h1 xs)
  | lst xs => exact absurd rfl (h2 xs)
  | dct ks vs => cases n <;> cases k
  | ref a => cases n <;> cases k
  | ty t => cases n <;> cases k
  | scr K ns => cases n <;> cases k
theorem okS_ok {h : Hm} : ∀ n : Nat, OneS h n := by
  intro n
  induction n with
  | zero =>
    intro d k
    cases d with
    | tup xs => have k : okSs 0 xs = true := k; unfold okSs at k; cases k
    | lst xs => have k : okSs 0 xs = true := k; unfold okSs at k; cases k
    | _ => exact atom_ok _ (fun _ z => nomatch z) (fun _ z => nomatch z) k
  | succ n ih =>
    have al := all_of ih
    intro d k
    cases d with
    | tup xs =>
      obtain ⟨b1, b2, b3, b4⟩ := al xs k
      unfold pyO
      refine ⟨?_, ?_, ?_, ?_⟩
      · show ((mapO (pyF true h n) xs).map PyData.tuple) = _
        rw [b1]; rfl
      · rw [PyData.showable]; exact b2
      · rw [PyData.shown]
        have := tupleText_le (PyData.shownAll (pyOs xs))
        unfold wD
        omega
      · exact Nat.succ_le_succ b4
    | lst xs =>
      obtain ⟨b1, b2, b3, b4⟩ := al xs k
      unfold pyO
      refine ⟨?_, ?_, ?_, ?_⟩
      · show ((mapO (pyF true h n) xs).map PyData.list) = _
        rw [b1]; rfl
      · rw [PyData.showable]; exact b2
      · rw [PyData.shown]
        have := listText_le (PyData.shownAll (pyOs xs))
        unfold wD
        omega
      · exact Nat.succ_le_succ b4
    | _ => exact atom_ok _ (fun _ z => nomatch z) (fun _ z => nomatch z) k
def shD (d : D) : Str := (pyO d).shown
theorem repr_ok {d : D} {h : Hm} {Q : Kx} (k : okS 60 d = true) (w : wD d ≤ sizeLine) (q : Q (.str (shD d)) h) : sRepr d h Q := by
  obtain ⟨a1, a2, a3, a4⟩ := okS_ok (h := h) 60 d k
  show (match pyF true h 60 d with | some p => (p.showable = true ∧ p.shown.length ≤ sizeLine ∧ p.depth ≤ 60) ∧ Q (.str p.shown) h | none => False)
  rw [a1]
  exact ⟨⟨a2, Nat.le_trans a3 w, a4⟩, q⟩
end KN
end

section
set_option Elab.async false
set_option linter.all false
set_option maxRecDepth 100000
set_option maxHeartbeats 8000000
namespace KN
open MM PySem
def Fw' (acc t : List Nat) : List (List Nat) := (TL.spl [32] 0 acc t).filter fun w => !w.isEmpty
def one1 (acc : List Nat) : List (List Nat) := if acc.isEmpty then [] else [acc]
theorem F_nil (acc : List Nat) : Fw' acc [] = one1 acc := by
  unfold Fw' one1
  show ([acc] : List (List Nat)).filter _ = _
  cases acc <;> rfl
theorem F_bl (acc t : List Nat) : Fw' acc (32 :: t) = one1 acc ++ Fw' [] t := by
  unfold Fw' one1
  have e : TL.spl [32] 0 acc (32 :: t) = acc :: TL.spl [32] 0 [] t := by
    rw [TL.spl]
    have : TL.pre [32] (32 :: t) = true := by simp [TL.pre]
    rw [if_pos this]
    rfl
  rw [e]
  cases acc <;> rfl
theorem F_c {c : Nat} (acc t : List Nat) (h : c ≠ 32) : Fw' acc (c :: t) = Fw' (acc ++ [c]) t := by
  unfold Fw'
  have e : TL.spl [32] 0 acc (c :: t) = TL.spl [32] 0 (acc ++ [c]) t := by
    rw [TL.spl]
    have : ¬ TL.pre [32] (c :: t) = true := by
      simp [TL.pre]
      try omega
    rw [if_neg this]
  rw [e]
theorem F_word : ∀ (w acc t : List Nat), 32 ∉ w → Fw' acc (w ++ t) = Fw' (acc ++ w) t
  | [], acc, t, _ => by rw [List.append_nil]; rfl
  | c :: w, acc, t, h => by
    rw [List.cons_append, F_c acc (w ++ t) (fun e => h (by rw [e]; exact List.mem_cons_self)), F_word w (acc ++ [c]) t (fun z => h (List.mem_cons_of_mem _ z)), List.append_assoc]
    rfl
theorem F_bls : ∀ (n : Nat) (t : List Nat), Fw' [] (List.replicate n 32 ++ t) = Fw' [] t
  | 0, _ => rfl
  | n + 1, t => by
    rw [List.replicate_succ, List.cons_append, F_bl, F_bls n t]
    rfl
theorem F_bls1 (n : Nat) (acc t : List Nat) : Fw' acc (List.replicate (n + 1) 32 ++ t) = one1 acc ++ Fw' [] t := by
  rw [List.replicate_succ, List.cons_append, F_bl, F_bls n t]
theorem wordsL_tl (z : Str) : (wordsL z).map TL.tl = Fw' [] (TL.tl z) := by
  unfold Fw' wordsL
  have hk : ¬ Builtin.Str.strKind z < Builtin.Str.strKind " " := TL.kind_ok (by decide +kernel)
  have e := TL.split_spl z " " (by decide) hk
  have e2 : TL.tl (" " : Str) = [32] := by decide
  rw [e2] at e
  rw [← e, List.filter_map]
  congr 1
  refine List.filter_congr fun w _ => ?_
  show (!decide (w = "")) = !(TL.tl w).isEmpty
  congr 1
  rw [Bool.eq_iff_iff, decide_eq_true_eq, List.isEmpty_iff]
  constructor
  · rintro rfl; decide
  · intro h; exact TL.ext_tl (h.trans (by decide))
structure Wd (w : Str) : Prop where
  ne : TL.tl w ≠ []
  bl : 32 ∉ TL.tl w
  nl : 10 ∉ TL.tl w
  ln : w.length ≤ 10
def Bl (z : Str) (n : Nat) : Prop := TL.tl z = List.replicate n 32
theorem Bl.len {z : Str} {n : Nat} (h : Bl z n) : z.length = n := by rw [len_tl, h, List.length_replicate]
theorem Bl.nl {z : Str} {n : Nat} (h : Bl z n) : 10 ∉ TL.tl z := by rw [h]; intro m; have := (List.mem_replicate.mp m).2; omega
def ph_law_blanked : Ph := fun ds h Q _ => ∃ (a b : Addr) (ws : List Str), ds = [.ref a, .lst (ws.map .str)] ∧ Deck h a b ∧ ws.length ≤ 10 ∧ (∀ w ∈ ws, Wd w) ∧ ∀ (line : Str) (h' : Hm), wordsL line = ws → 10 ∉ TL.tl line → line.length ≤ 200 → Deck h' a b → Fs a b h h' → Q (.str line) h'
def Ln (ws : List Str) (i : Nat) (line : Str) : Prop := match i with
  | 0 => ∀ t, Fw' [] (TL.tl line ++ t) = Fw' [] t
  | i + 1 => ∃ done w, ws.take (i + 1) = done ++ [w] ∧ ∀ t, Fw' [] (TL.tl line ++ t) = done.map TL.tl ++ Fw' (TL.tl w) t
theorem Ln.word {ws : List Str} {i : Nat} {line z w : Str} {n : Nat} (h : Ln ws i line) (hz : Bl z n) (h0 : i = 0 → n = 0) (h1 : 0 < i → 0 < n) (hw : ws[i]? = some w) (kw : Wd w) (kp : ∀ x ∈ ws, Wd x) : Ln ws (i + 1) (line ++ z ++ w) := by
  have ew : ∀ t, TL.tl (line ++ z ++ w) ++ t = TL.tl line ++ (List.replicate n 32 ++ (TL.tl w ++ t)) := fun t => by
    rw [TL.tl_append, TL.tl_append, hz, List.append_assoc, List.append_assoc]
  cases i with
  | zero =>
    have hn := h0 rfl
    subst hn
    refine ⟨[], w, by rw [List.take_add_one, hw]; rfl, fun t => ?_⟩
    rw [ew t, h]
    show Fw' [] (TL.tl w ++ t) = _
    rw [F_word _ _ _ kw.bl]
    rfl
  | succ i =>
    obtain ⟨done, w', e, hF⟩ := h
    obtain ⟨m, rfl⟩ : ∃ m, n = m + 1 := ⟨n - 1, by have := h1 (Nat.succ_pos _); omega⟩
    have hw' : Wd w' := kp w' (List.mem_of_mem_take (by rw [e]; exact List.mem_append_right _ List.mem_cons_self))
    refine ⟨done ++ [w'], w, by rw [List.take_add_one, hw, e]; rfl, fun t => ?_⟩
    rw [ew t, hF, F_bls1, F_word _ _ _ kw.bl, List.map_append, List.append_assoc]
    congr 2
    unfold one1
    have : (TL.tl w').isEmpty = false := by
      cases e2 : TL.tl w' with
      | nil => exact absurd e2 hw'.ne
      | cons c r => rfl
    rw [this]
    rfl
theorem Ln.fin {ws : List Str} {line z : Str} {n : Nat} (h : Ln ws ws.length line) (hz : Bl z n) (kp : ∀ x ∈ ws, Wd x) : wordsL (line ++ z) = ws := by
  refine TL.map_tl_inj ?_
  rw [wordsL_tl, TL.tl_append, hz]
  cases hl : ws.length with
  | zero =>
    have : ws = [] := List.eq_nil_of_length_eq_zero hl
    rw [hl] at h
    rw [h]
    have := F_bls n []
    rw [List.append_nil] at this
    rw [this, F_nil, ‹ws = []›]
    rfl
  | succ i =>
    rw [hl] at h
    obtain ⟨done, w, e, hF⟩ := h
    rw [← hl, List.take_length] at e
    have hw : Wd w := kp w (by rw [e]; exact List.mem_append_right _ List.mem_cons_self)
    have e1 : one1 (TL.tl w) = [TL.tl w] := by
      unfold one1
      cases e2 : TL.tl w with
      | nil => exact absurd e2 hw.ne
      | cons c r => rfl
    rw [hF, e, List.map_append]
    congr 1
    cases n with
    | zero => show Fw' (TL.tl w) [] = _; rw [F_nil, e1]; rfl
    | succ n =>
      have := F_bls1 n (TL.tl w) []
      rw [List.append_nil] at this
      rw [this, e1, F_nil]
      rfl
theorem bl_at : ∀ z ∈ (["", "", " ", "  "] : List Str), ∃ n, n ≤ 2 ∧ Bl z n := by
  intro z hz
  simp only [List.mem_cons, List.not_mem_nil, or_false] at hz
  rcases hz with rfl | rfl | rfl | rfl
  · exact ⟨0, by decide, by unfold Bl; decide⟩
  · exact ⟨0, by decide, by unfold Bl; decide⟩
  · exact ⟨1, by decide, by unfold Bl; decide⟩
  · exact ⟨2, by decide, by unfold Bl; decide⟩
theorem bl_in : ∀ z ∈ ([" ", " ", "  ", "     "] : List Str), ∃ n, 0 < n ∧ n ≤ 5 ∧ Bl z n := by
  intro z hz
  simp only [List.mem_cons, List.not_mem_nil, or_false] at hz
  rcases hz with rfl | rfl | rfl | rfl
  · exact ⟨1, by decide, by decide, by unfold Bl; decide⟩
  · exact ⟨1, by decide, by decide, by unfold Bl; decide⟩
  · exact ⟨2, by decide, by decide, by unfold Bl; decide⟩
  · exact ⟨5, by decide, by decide, by unfold Bl; decide⟩
theorem bl_end : ∀ z ∈ (["", "", " "] : List Str), ∃ n, n ≤ 1 ∧ Bl z n := by
  intro z hz
  simp only [List.mem_cons, List.not_mem_nil, or_false] at hz
  rcases hz with rfl | rfl | rfl
  · exact ⟨0, by decide, by unfold Bl; decide⟩
  · exact ⟨0, by decide, by unfold Bl; decide⟩
  · exact ⟨1, by decide, by unfold Bl; decide⟩
theorem p_law_blanked {G : Gw} (g60 : G.T 60 = ph_law_pick) : Pl b_law_blanked 2 3 G ph_law_blanked := by
  rintro ds h Q E hl ⟨a, b, ws, rfl, d, hn, hws, q⟩
  have hz : (1000 : Nat) ≤ sizeLine := by decide
  simp only [b_law_blanked, MM.wpSs, MM.wpS, MM.wpE, MM.wpA, MM.wpT, MM.wpI, MM.wpC, MM.wpO, MM.wpG, MM.wpGs, msNext, msSeq, msNever, msBrk, msCnt, msExpr, msRet, msRetN, msAsg, msIf, msPar, msFor, mtOr, mtAnd, mtNot, mtOf, mtIte, mtYes, mCall, maCons, maNil, mVar, mC, mOp, mTup, mLst, mUc, mUk, mAnd, mOr, mNot, mNeg, mIte, mChain, onB, mSl, moNone, moSome, mM1, mB1, mB0, mgName, mgTup, mgsCons, mgsNil, mgSub, lnTs, miSeq, miRng1, miRng2, miEnum, miZip, start0, slot, put, wip, clr, BF.s, opS, cmpS, endsF, s1, List.map_cons, List.map_nil, List.replicate, List.cons_append, List.nil_append, List.append_nil, newL, mComp, finL, mSortedSet, g60, onLst]
  refine ⟨show 4 ≤ sizeLine by decide, rfl, a, b, (["", "", " ", "  "] : List Str).map .str, rfl, d, by decide, by decide, fun x h1 hx d1 f1 => ?_⟩
  obtain ⟨z, hm, rfl⟩ := List.mem_map.mp hx
  obtain ⟨n, n2, hbl⟩ := bl_at z hm
  refine forW_rule (fun i σ h' => ∃ (line : Str) (o3 o4 : Option D), σ = [some (.ref a), some (.lst (ws.map .str)), some (.str line), o3, o4] ∧ Deck h' a b ∧ Fs a b h h' ∧ Ln ws i line ∧ 10 ∉ TL.tl line ∧ line.length ≤ 2 + 15 * i ∧ i ≤ ws.length)
    ⟨z, _, _, rfl, d1, f1, fun t => by rw [hbl]; exact F_bls n t, hbl.nl, by rw [hbl.len]; omega, Nat.zero_le _⟩ (fun _ _ _ _ => trivial) (fun i x σ h2 K hx I kk => ?_) (fun σ h2 I => ?_)
  · obtain ⟨line, o3, o4, rfl, d2, f2, hL, hnl, hlen, hi⟩ := I
    obtain ⟨y, hy, rfl⟩ := enum_get hx
    rw [List.getElem?_map] at hy
    obtain ⟨w, hw, rfl⟩ := Option.map_eq_some_iff.mp hy
    have hlt := (List.getElem?_eq_some_iff.mp hw).1
    have kw := hws w (List.mem_of_getElem? hw)
    simp only [MM.wpSs, MM.wpS, MM.wpE, MM.wpA, MM.wpT, MM.wpI, MM.wpC, MM.wpO, MM.wpG, MM.wpGs, msNext, msSeq, msNever, msBrk, msCnt, msExpr, msRet, msRetN, msAsg, msIf, msPar, msFor, mtOr, mtAnd, mtNot, mtOf, mtIte, mtYes, mCall, maCons, maNil, mVar, mC, mOp, mTup, mLst, mUc, mUk, mAnd, mOr, mNot, mNeg, mIte, mChain, onB, mSl, moNone, moSome, mM1, mB1, mB0, mgName, mgTup, mgsCons, mgsNil, mgSub, lnTs, miSeq, miRng1, miRng2, miEnum, miZip, start0, slot, put, wip, clr, BF.s, opS, cmpS, endsF, s1, List.map_cons, List.map_nil, List.replicate, List.cons_append, List.nil_append, List.append_nil, newL, mComp, finL, mSortedSet, gt_int, onB_bl, g60]
    refine ⟨rfl, trivial, ?_⟩
    have go : ∀ (z2 : Str) (n2 : Nat) (h3 : Hm), Bl z2 n2 → n2 ≤ 5 → (i = 0 → n2 = 0) → (0 < i → 0 < n2) → Deck h3 a b → Fs a b h2 h3 → sAdd false (.str line) (.str z2) h3 fun x h4 => sAdd false x (.str w) h4 fun d h5 => K [some (.ref a), some (.lst (ws.map .str)), some d, some (.int (i : Nat)), some (.str w)] h5 := fun z2 n2 h3 b2 b5 c0 c1 d3 f3 => by
      have kl := kw.ln
      have zl := b2.len
      rw [add_str]
      refine ⟨by omega, ?_⟩
      rw [add_str]
      refine ⟨by rw [len_app]; omega, kk _ _ ⟨_, _, _, rfl, d3, f2.trans f3, hL.word b2 c0 c1 hw kw hws, ?_, by rw [len_app, len_app]; omega, hlt⟩⟩
      rw [TL.tl_append, TL.tl_append]
      intro hm
      rcases List.mem_append.mp hm with hm | hm
      · rcases List.mem_append.mp hm with hm | hm
        · exact hnl hm
        · exact b2.nl hm
      · exact kw.nl hm
    cases e : decide ((0 : Int) < ((i : Nat) : Int)) with
    | true =>
      have hpos : 0 < i := by have := of_decide_eq_true e; omega
      refine ⟨show 4 ≤ sizeLine by decide, rfl, a, b, ([" ", " ", "  ", "     "] : List Str).map .str, rfl, d2, by decide, by decide, fun x h3 hx d3 f3 => ?_⟩
      obtain ⟨z2, hm, rfl⟩ := List.mem_map.mp hx
      obtain ⟨n2, n0, n5, hb2⟩ := bl_in z2 hm
      exact go z2 n2 h3 hb2 n5 (fun z => by omega) (fun _ => n0) d3 f3
    | false =>
      have h0 : i = 0 := by have := of_decide_eq_false e; omega
      exact go "" 0 h2 (by unfold Bl; decide) (by decide) (fun _ => rfl) (fun z => by omega) d2 Fs.refl
  · obtain ⟨line, o3, o4, rfl, d2, f2, hL, hnl, hlen, hi⟩ := I
    have hel : (enumD (ws.map D.str)).length = ws.length := by rw [enumD_len, List.length_map]
    rw [hel] at hL hlen
    simp only [MM.wpSs, MM.wpS, MM.wpE, MM.wpA, MM.wpT, MM.wpI, MM.wpC, MM.wpO, MM.wpG, MM.wpGs, msNext, msSeq, msNever, msBrk, msCnt, msExpr, msRet, msRetN, msAsg, msIf, msPar, msFor, mtOr, mtAnd, mtNot, mtOf, mtIte, mtYes, mCall, maCons, maNil, mVar, mC, mOp, mTup, mLst, mUc, mUk, mAnd, mOr, mNot, mNeg, mIte, mChain, onB, mSl, moNone, moSome, mM1, mB1, mB0, mgName, mgTup, mgsCons, mgsNil, mgSub, lnTs, miSeq, miRng1, miRng2, miEnum, miZip, start0, slot, put, wip, clr, BF.s, opS, cmpS, endsF, s1, List.map_cons, List.map_nil, List.replicate, List.cons_append, List.nil_append, List.append_nil, newL, mComp, finL, mSortedSet, g60]
    refine ⟨show 3 ≤ sizeLine by decide, rfl, a, b, (["", "", " "] : List Str).map .str, rfl, d2, by decide, by decide, fun x h3 hx d3 f3 => ?_⟩
    obtain ⟨z2, hm, rfl⟩ := List.mem_map.mp hx
    obtain ⟨n2, n1, hb2⟩ := bl_end z2 hm
    have zl := hb2.len
    refine ⟨by omega, q _ h3 (hL.fin hb2 hws) ?_ (by rw [len_app]; omega) d3 (f2.trans f3)⟩
    rw [TL.tl_append]
    intro hm
    rcases List.mem_append.mp hm with hm | hm
    · exact hnl hm
    · exact hb2.nl hm
end KN
end

section
set_option Elab.async false
set_option linter.all false
set_option maxRecDepth 100000
set_option maxHeartbeats 8000000
namespace KN
open MM PySem
theorem mem_joinL {S : List Nat} {c : Nat} : ∀ {ps : List (List Nat)}, c ∈ TL.joinL S ps → c ∈ S ∨ ∃ p ∈ ps, c ∈ p
  | [], h => by cases h
  | [p], h => .inr ⟨p, List.mem_cons_self, h⟩
  | p :: q :: r, h => by
    rcases List.mem_append.mp (show c ∈ p ++ (S ++ TL.joinL S (q :: r)) from h) with h | h
    · exact .inr ⟨p, List.mem_cons_self, h⟩
    · rcases List.mem_append.mp h with h | h
      · exact .inl h
      · rcases mem_joinL h with h | ⟨x, hx, h⟩
        · exact .inl h
        · exact .inr ⟨x, List.mem_cons_of_mem _ hx, h⟩
theorem numS_free {i : Int} {c : Nat} (k : sml i) (h : c < 48 ∨ 57 < c) : c ∉ TL.tl (numS i) := by
  rw [numS_tl k.1]; exact TL.numL_free h
theorem numS_ne {i : Int} (k : sml i) : TL.tl (numS i) ≠ [] := by
  rw [numS_tl k.1]; exact TL.numL_ne _
theorem words_join {ps : List Str} (hne : ps ≠ []) (hp : ∀ p ∈ ps, TL.tl p ≠ [] ∧ 32 ∉ TL.tl p) : wordsL (Txt.join " " ps) = ps := by
  unfold wordsL
  rw [TL.split_join (s := 32) (S := []) (by decide) (by decide +kernel) hne fun p h => (hp p h).2]
  refine List.filter_eq_self.mpr fun p h => ?_
  have : p ≠ "" := fun e => (hp p h).1 (by rw [e]; decide)
  simp [this]
theorem join_free {ps : List Str} (hp : ∀ p ∈ ps, 10 ∉ TL.tl p) : 10 ∉ TL.tl (Txt.join " " ps) := by
  rw [TL.join_eq, TL.tl_join]
  intro h
  rcases mem_joinL h with h | ⟨x, hx, h⟩
  · revert h; decide
  · obtain ⟨p, hp', rfl⟩ := List.mem_map.mp hx
    exact hp p hp' h
def rowWs (s : Sit) : List Str := (s.t :: s.n :: s.e :: s.ps).map numS
def headWs (a : Plan) : List Str := ["plan", numS a.p, numS a.k]
theorem row_wd {s : Sit} (k : s.small) : ∀ w ∈ rowWs s, Wd w := fun w hw => by
  obtain ⟨i, hi, rfl⟩ := List.mem_map.mp hw
  have ki := k.a i hi
  exact ⟨numS_ne ki, numS_free ki (by omega), numS_free ki (by omega), by have := numS_len ki; omega⟩
theorem head_wd {a : Plan} (k : a.small) : ∀ w ∈ headWs a, Wd w := fun w hw => by
  unfold headWs at hw
  simp only [List.mem_cons, List.not_mem_nil, or_false] at hw
  rcases hw with rfl | rfl | rfl
  · exact ⟨by decide, by decide, by decide, by decide⟩
  · exact ⟨numS_ne k.p, numS_free k.p (by omega), numS_free k.p (by omega), by have := numS_len k.p; omega⟩
  · exact ⟨numS_ne k.k, numS_free k.k (by omega), numS_free k.k (by omega), by have := numS_len k.k; omega⟩
theorem words_sit {s : Sit} (k : s.small) : wordsL (sitT s) = rowWs s := words_join (by simp) fun p h => ⟨(row_wd k p h).ne, (row_wd k p h).bl⟩
theorem words_head {a : Plan} (k : a.small) : wordsL (headT a) = headWs a := words_join (by simp) fun p h => ⟨(head_wd k p h).ne, (head_wd k p h).bl⟩
theorem split_plan {a : Plan} (k : a.small) : Txt.split (planT a) "\n" = headT a :: a.os.map sitT := by
  unfold planT
  refine TL.split_join (s := 10) (S := []) (by decide) (by decide +kernel) (by simp) fun p h => ?_
  rcases List.mem_cons.mp h with rfl | h
  · exact join_free fun p h => (head_wd k p h).nl
  · obtain ⟨s, hs, rfl⟩ := List.mem_map.mp h
    exact join_free fun p h => (row_wd (k.s s hs) p h).nl
theorem lines_plan {a : Plan} (k : a.small) : linesL (planT a) = headWs a :: a.os.map rowWs := by
  unfold linesL
  rw [split_plan k, List.map_cons, words_head k, List.map_map]
  congr 1
  exact List.map_congr_left fun s hs => words_sit (k.s s hs)
theorem numS_cps {i : Int} (k : sml i) : (numS i).cps.toList = if i.toNat < 10 then [48 + i.toNat] else [48 + i.toNat / 10, 48 + i.toNat % 10] := by
  have e := numS_tl k.1
  show TL.tl (numS i) = _
  rw [e]
  split
  · rename_i h; exact TL.numL_lt h
  · rename_i h
    rw [TL.numL_step (by omega), TL.numL_lt (by have := k.2; omega)]
    rfl
theorem fig_num {i : Int} (k : sml i) : figB (numS i) = true := by
  unfold figB
  rw [numS_cps k]
  have := k.2
  have := k.1
  split
  · rename_i e
    split at e
    · cases e; unfold dig; simp; omega
    · cases e
  · rename_i e
    split at e
    · cases e
    · cases e; unfold dig; simp; omega
  · rename_i h1 h2
    split at h1
    · exact absurd rfl (h1 _)
    · rename_i h3; exact absurd (if_neg h3) (h2 _ _)
theorem val_num {i : Int} (k : sml i) : figV (numS i) = i := by
  unfold figV
  have e : (numS i).cps.toList = TL.numL i.toNat := numS_tl k.1
  rw [e, TL.numL_val]
  exact Int.toNat_of_nonneg k.1
theorem row_fig {s : Sit} (k : s.small) (g : 1 ≤ s.ps.length) : rowB (rowWs s) = true := by
  unfold rowB rowWs
  rw [Bool.and_eq_true, decide_eq_true_eq, List.all_eq_true]
  refine ⟨by simp only [List.length_map, List.length_cons]; omega, fun w hw => ?_⟩
  obtain ⟨i, hi, rfl⟩ := List.mem_map.mp hw
  exact fig_num (k.a i hi)
theorem head_fig {a : Plan} (k : a.small) : headB (headWs a) = true := by
  unfold headB headWs
  show (decide (("plan" : Str) = "plan") && figB (numS a.p) && figB (numS a.k)) = true
  rw [fig_num k.p, fig_num k.k]
  decide
theorem vals_row {s : Sit} (k : s.small) : (rowWs s).map figV = s.t :: s.n :: s.e :: s.ps := by
  unfold rowWs
  rw [List.map_map]
  have : ∀ l : List Int, (∀ i ∈ l, sml i) → l.map (figV ∘ numS) = l := fun l h => by
    have e : l.map (figV ∘ numS) = l.map id := List.map_congr_left fun i hi => val_num (h i hi)
    rw [e, List.map_id]
  exact this _ k.a
theorem found_plan {a : Plan} (k : a.small) : foundD (headWs a) (a.os.map rowWs) = a.d := by
  unfold foundD Plan.d headWs
  have e1 : figV (numS a.p) = a.p := val_num k.p
  have e2 : figV (numS a.k) = a.k := val_num k.k
  show D.tup [.int (figV (numS a.p)), .int (figV (numS a.k)), .tup ((a.os.map rowWs).map fun ws => sitW (ws.map figV))] = _
  rw [e1, e2, List.map_map]
  have : (a.os.map ((fun ws => sitW (ws.map figV)) ∘ rowWs)) = a.os.map Sit.d := by
    refine List.map_congr_left fun s hs => ?_
    show sitW ((rowWs s).map figV) = s.d
    rw [vals_row (k.s s hs)]
    rfl
  rw [this]
theorem okDs_map {α : Type} {f : α → D} {xs : List α} (h : ∀ x ∈ xs, okD (f x) = true) : okD.okDs (xs.map f) = true := by
  induction xs with
  | nil => rfl
  | cons x r ih =>
    rw [List.map_cons]
    unfold okD.okDs
    rw [h x List.mem_cons_self, ih fun y hy => h y (List.mem_cons_of_mem _ hy)]
    rfl
theorem ok_sit (s : Sit) : okD s.d = true := by
  have e : okD.okDs (s.ps.map D.int) = true := okDs_map fun _ _ => rfl
  show (true && (true && (true && (okD.okDs (s.ps.map D.int) && true)))) = true
  rw [e]; rfl
theorem ok_plan (a : Plan) : okD a.d = true := by
  have e : okD.okDs (a.os.map Sit.d) = true := okDs_map fun s _ => ok_sit s
  show (true && (true && (okD.okDs (a.os.map Sit.d) && true))) = true
  rw [e]; rfl
theorem read_ok {a : Plan} (k : a.ok) {z : Str} {h : Hm} {Q : Kx} {E : EX} (hz : z.length + 2 ≤ sizeLine) (hl : linesL z = headWs a :: a.os.map rowWs) (q : Q a.d h) : ph_read_plan [.str z] h Q E := by
  have ks := k.small
  refine ⟨z, _, _, rfl, hz, hl, head_fig ks, ?_, ?_, ?_, ?_⟩
  · rw [List.all_eq_true]
    intro ws hw
    obtain ⟨s, hs, rfl⟩ := List.mem_map.mp hw
    exact row_fig (ks.s s hs) (k.g s hs).l0
  · rw [found_plan ks]; exact ok_plan a
  · rw [found_plan ks]; exact plan_non k
  · rw [found_plan ks]; exact q
theorem planT_len {a : Plan} (k : a.small) : (planT a).length ≤ 2000 := by
  refine Nat.le_trans join_le ?_
  have h1 : ((a.os.map sitT).map (·.length)).sum ≤ 30 * a.os.length := by
    rw [List.map_map]
    exact sum_le fun s hs => sitT_len (k.s s hs)
  have h2 := headT_len k
  have h3 := k.l
  have h4 : (("\n" : Str)).length = 1 := by decide
  rw [List.map_cons, List.sum_cons, List.length_cons, List.length_map, h4]
  omega
theorem okSs_map {α : Type} {f : α → D} {n : Nat} {xs : List α} (h : ∀ x ∈ xs, okS n (f x) = true) : okSs (n + 1) (xs.map f) = true := by
  induction xs with
  | nil => rfl
  | cons x r ih =>
    rw [List.map_cons]
    unfold okSs
    rw [h x List.mem_cons_self, ih fun y hy => h y (List.mem_cons_of_mem _ hy)]
    rfl
theorem okS_int {n : Nat} {i : Int} (k : sml i) : okS n (.int i) = true := by
  have h1 := k.1
  have h2 := k.2
  have : decide (i.natAbs < 10 ^ 70) = true := decide_eq_true (Nat.lt_trans (show i.natAbs < 100 by omega) (by decide))
  cases n <;> exact this
theorem okS_sit {n : Nat} {s : Sit} (k : s.small) : okS (n + 2) s.d = true := by
  have e : okSs (n + 1) (s.ps.map D.int) = true := okSs_map fun i hi => okS_int (k.a i (by simp [hi]))
  show (okS (n + 1) (.int s.t) && (okS (n + 1) (.int s.n) && (okS (n + 1) (.int s.e) && (okSs (n + 1) (s.ps.map D.int) && true)))) = true
  rw [okS_int (k.a s.t (by simp)), okS_int (k.a s.n (by simp)), okS_int (k.a s.e (by simp)), e]
  rfl
theorem okS_plan {n : Nat} {a : Plan} (k : a.small) : okS (n + 4) a.d = true := by
  have e : okSs (n + 3) (a.os.map Sit.d) = true := okSs_map (n := n + 2) fun s hs => okS_sit (k.s s hs)
  show (okS (n + 3) (.int a.p) && (okS (n + 3) (.int a.k) && (okSs (n + 3) (a.os.map Sit.d) && true))) = true
  rw [okS_int k.p, okS_int k.k, e]
  rfl
theorem wDs_le {α : Type} {f : α → D} {m : Nat} {xs : List α} (h : ∀ x ∈ xs, wD (f x) ≤ m) : wDs (xs.map f) ≤ (m + 2) * xs.length := by
  induction xs with
  | nil => exact Nat.zero_le _
  | cons x r ih =>
    rw [List.map_cons, List.length_cons, Nat.mul_succ]
    unfold wDs
    have := h x List.mem_cons_self
    have := ih fun y hy => h y (List.mem_cons_of_mem _ hy)
    omega
theorem wD_sit {s : Sit} (k : s.small) : wD s.d ≤ 1000 := by
  have e : wDs (s.ps.map D.int) ≤ (110 + 2) * s.ps.length := wDs_le fun _ _ => Nat.le_refl _
  have := k.l
  show (110 + 2 + (110 + 2 + (110 + 2 + (wDs (s.ps.map D.int) + 4 + 2 + 0)))) + 4 ≤ 1000
  omega
theorem wD_plan {a : Plan} (k : a.small) : wD a.d ≤ 50000 := by
  have e : wDs (a.os.map Sit.d) ≤ (1000 + 2) * a.os.length := wDs_le fun s hs => wD_sit (k.s s hs)
  have := k.l
  show (110 + 2 + (110 + 2 + (wDs (a.os.map Sit.d) + 4 + 2 + 0))) + 4 ≤ 50000
  omega
end KN
end

section
set_option Elab.async false
set_option linter.all false
set_option maxRecDepth 100000
set_option maxHeartbeats 8000000
namespace KN
open MM PySem
def Fa (h h' : Hm) : Prop := ∀ x, h x ≠ none → h' x = h x
theorem Fa.new {h h' : Hm} {p : Addr} {o : Ob} (f : Fa h h') (n : h' p = none) : Fa h (updm h' p o) := fun x e => by
  have := f x e
  rw [updm_ne (fun z => by rw [z] at this; rw [n] at this; exact e (by rw [z]; exact this.symm)), this]
def ph_law_deck (K : PySem.W.Frag) : Ph := fun ds h Q _ => ∃ ns : List Int, ds = [.scr K ns] ∧ ns.length ≤ 63 ∧ ∀ (a b : Addr) (h' : Hm), Deck h' a b → Fa h h' → Q (.ref a) h'
theorem p_law_deck_2 {G : Gw} : Pl b_law_deck_2 1 1 G (ph_law_deck G.K) := by
  rintro ds h Q E hl ⟨ns, rfl, hn, q⟩
  have hz : (1000 : Nat) ≤ sizeLine := by decide
  have hcut : (cutD ns none (some 63)).length ≤ 63 := by
    unfold cutD
    rw [List.length_take, List.length_drop]
    omega
  simp only [b_law_deck_2, MM.wpSs, MM.wpS, MM.wpE, MM.wpA, MM.wpT, MM.wpI, MM.wpC, MM.wpO, MM.wpG, MM.wpGs, msNext, msSeq, msNever, msBrk, msCnt, msExpr, msRet, msRetN, msAsg, msIf, msPar, msFor, mtOr, mtAnd, mtNot, mtOf, mtIte, mtYes, mCall, maCons, maNil, mVar, mC, mOp, mTup, mLst, mUc, mUk, mAnd, mOr, mNot, mNeg, mIte, mChain, onB, mSl, moNone, moSome, mM1, mB1, mB0, mgName, mgTup, mgsCons, mgsNil, mgSub, lnTs, miSeq, miRng1, miRng2, miEnum, miZip, start0, slot, put, wip, clr, BF.s, opS, cmpS, endsF, s1, List.map_cons, List.map_nil, List.replicate, List.cons_append, List.nil_append, List.append_nil, newL, mComp, finL, mSortedSet, sSl]
  refine ⟨trivial, ?_⟩
  generalize hcs : cutD ns none (some 63) = cs at hcut
  refine comp_rule (b := true) (fun i acc g => g = h ∧ ∃ js : List Int, acc = js.map .int ∧ js.length = i ∧ i ≤ cs.length ∧ ∀ j ∈ js, 0 ≤ j) ⟨rfl, [], rfl, rfl, Nat.zero_le _, fun _ z => nomatch z⟩ (fun _ _ _ _ _ _ _ _ => trivial) (fun i x acc g h' p K hx I ng a1 kk => ?_) (fun acc g I => ?_)
  · obtain ⟨rfl, js, rfl, hj, hi, hp⟩ := I
    rw [List.getElem?_map] at hx
    obtain ⟨c, hc, rfl⟩ := Option.map_eq_some_iff.mp hx
    have hlt := (List.getElem?_eq_some_iff.mp hc).1
    simp only [MM.wpSs, MM.wpS, MM.wpE, MM.wpA, MM.wpT, MM.wpI, MM.wpC, MM.wpO, MM.wpG, MM.wpGs, msNext, msSeq, msNever, msBrk, msCnt, msExpr, msRet, msRetN, msAsg, msIf, msPar, msFor, mtOr, mtAnd, mtNot, mtOf, mtIte, mtYes, mCall, maCons, maNil, mVar, mC, mOp, mTup, mLst, mUc, mUk, mAnd, mOr, mNot, mNeg, mIte, mChain, onB, mSl, moNone, moSome, mM1, mB1, mB0, mgName, mgTup, mgsCons, mgsNil, mgSub, lnTs, miSeq, miRng1, miRng2, miEnum, miZip, start0, slot, put, wip, clr, BF.s, opS, cmpS, endsF, s1, List.map_cons, List.map_nil, List.replicate, List.cons_append, List.nil_append, List.append_nil, newL, mComp, finL, mSortedSet]
    show h' p = some (.lst (js.map .int)) ∧ (js.map D.int).length < sizeLine ∧ K (js.map .int ++ [.int (if c < 0 then -c else c)]) (updm h' p (.lst (js.map .int ++ [.int (if c < 0 then -c else c)])))
    refine ⟨a1.1, by rw [List.length_map]; omega, kk _ g _ ⟨rfl, js ++ [if c < 0 then -c else c], by rw [List.map_append]; rfl, by rw [List.length_append, hj]; rfl, hlt, fun j hm => ?_⟩ ng a1.push⟩
    rcases List.mem_append.mp hm with hm | hm
    · exact hp j hm
    · rw [List.mem_singleton.mp hm]; split <;> omega
  · obtain ⟨rfl, js, rfl, hj, hi, hp⟩ := I
    rw [List.length_map] at hj hi
    intro p2 n2
    refine ⟨show 3 ≤ sizeLine by decide, fun p3 n3 => ?_⟩
    have n32 : p3 ≠ p2 := fun e => by rw [e, updm_same] at n3; cases n3
    refine q p3 p2 _ ⟨js, 0, 0, updm_same, ?_, n32, Int.le_refl _, by omega, by omega, hp⟩ (Fa.new (Fa.new (fun _ _ => rfl) n2) n3)
    rw [updm_ne (Ne.symm n32), updm_same]
theorem ringOs_succ (i : Nat) : ringOs (i + 1) = ringOs i ++ ringRow i := by
  unfold ringOs
  rw [List.range_succ, List.flatMap_append]
  simp
def ph_law_ring_plan : Ph := fun ds h Q _ => ∃ k : Int, ds = [.int k] ∧ 9 ≤ k ∧ k ≤ 20 ∧ ∀ (pl : Plan) (h' : Hm), pl.ok → Fa h h' → Q pl.d h'
theorem p_law_ring_plan_2 {G : Gw} : Pl b_law_ring_plan_2 1 3 G ph_law_ring_plan := by
  rintro ds h Q E hl ⟨k, rfl, k9, k20, q⟩
  have hz : (1000 : Nat) ≤ sizeLine := by decide
  simp only [b_law_ring_plan_2, MM.wpSs, MM.wpS, MM.wpE, MM.wpA, MM.wpT, MM.wpI, MM.wpC, MM.wpO, MM.wpG, MM.wpGs, msNext, msSeq, msNever, msBrk, msCnt, msExpr, msRet, msRetN, msAsg, msIf, msPar, msFor, mtOr, mtAnd, mtNot, mtOf, mtIte, mtYes, mCall, maCons, maNil, mVar, mC, mOp, mTup, mLst, mUc, mUk, mAnd, mOr, mNot, mNeg, mIte, mChain, onB, mSl, moNone, moSome, mM1, mB1, mB0, mgName, mgTup, mgsCons, mgsNil, mgSub, lnTs, miSeq, miRng1, miRng2, miEnum, miZip, start0, slot, put, wip, clr, BF.s, opS, cmpS, endsF, s1, List.map_cons, List.map_nil, List.replicate, List.cons_append, List.nil_append, List.append_nil, newL, mComp, finL, mSortedSet]
  refine ⟨by decide, fun r nr => ⟨⟨by decide, by decide⟩, ?_⟩⟩
  have hlen : (rangeD 0 (9 : Int).toNat).length = 9 := by decide
  have rl : ∀ i, (ringOs i).length = 5 * i := fun i => by
    induction i with
    | zero => rfl
    | succ i ih => rw [ringOs_succ, List.length_append, ih]; show 5 * i + 5 = _; omega
  refine forW_rule (fun i σ h' => ∃ (o2 o3 : Option D), σ = [some (.int k), some (.ref r), o2, o3] ∧ h' r = some (.lst ((ringOs i).map Sit.d)) ∧ (∀ x, x ≠ r → h' x = h x) ∧ i ≤ 9) ⟨_, _, rfl, updm_same, fun x e => updm_ne e, Nat.zero_le _⟩ (fun _ _ _ _ => trivial) (fun i x σ h1 K hx I kk => ?_) (fun σ h1 I => ?_)
  · obtain ⟨o2, o3, rfl, hr, f1, hi⟩ := I
    obtain ⟨hlt, rfl⟩ := rangeD_get hx
    have hlt : i < 9 := hlt
    have e0 : (0 : Int) + (i : Nat) = ((i : Nat) : Int) := Int.zero_add _
    rw [e0]
    simp only [MM.wpSs, MM.wpS, MM.wpE, MM.wpA, MM.wpT, MM.wpI, MM.wpC, MM.wpO, MM.wpG, MM.wpGs, msNext, msSeq, msNever, msBrk, msCnt, msExpr, msRet, msRetN, msAsg, msIf, msPar, msFor, mtOr, mtAnd, mtNot, mtOf, mtIte, mtYes, mCall, maCons, maNil, mVar, mC, mOp, mTup, mLst, mUc, mUk, mAnd, mOr, mNot, mNeg, mIte, mChain, onB, mSl, moNone, moSome, mM1, mB1, mB0, mgName, mgTup, mgsCons, mgsNil, mgSub, lnTs, miSeq, miRng1, miRng2, miEnum, miZip, start0, slot, put, wip, clr, BF.s, opS, cmpS, endsF, s1, List.map_cons, List.map_nil, List.replicate, List.cons_append, List.nil_append, List.append_nil, newL, mComp, finL, mSortedSet]
    refine ⟨⟨r, _, rfl, hr⟩, show 1 ≤ sizeLine by decide, show 4 ≤ sizeLine by decide, append_ok hr (by rw [List.length_map, rl]; omega) ⟨⟨by decide, by decide⟩, ?_⟩⟩
    generalize hh2 : updm h1 r (.lst ((ringOs i).map Sit.d ++ [.tup [.int (i : Nat), .int 9, .int (i : Nat), .tup [.int (i : Nat)]]])) = h2
    have e2 : h2 r = some (.lst ((ringOs i ++ [(⟨i, 9, i, [(i : Int)]⟩ : Sit)]).map Sit.d)) := by rw [← hh2, updm_same, List.map_append]; rfl
    have f2 : ∀ x, x ≠ r → h2 x = h x := fun x e => by rw [← hh2, updm_ne e]; exact f1 x e
    have hlen4 : (rangeD 1 ((5 : Int) - 1).toNat).length = 4 := by decide
    refine forW_rule (fun j σ h' => ∃ (o3 : Option D), σ = [some (.int k), some (.ref r), some (.int (i : Nat)), o3] ∧ h' r = some (.lst ((ringOs i ++ [(⟨i, 9, i, [(i : Int)]⟩ : Sit)] ++ (List.range j).map fun j => (⟨i, ((i : Int) + (1 + (j : Nat))) % 9, ((i : Int) - (1 + (j : Nat))) % 9, [(i : Int)]⟩ : Sit)).map Sit.d)) ∧ (∀ x, x ≠ r → h' x = h x) ∧ j ≤ 4) ⟨_, rfl, by rw [e2]; simp, f2, Nat.zero_le _⟩ (fun _ _ _ _ => trivial) (fun j x σ h3 K' hx I' kk' => ?_) (fun σ h3 I' => ?_)
    · obtain ⟨o3, rfl, hr3, f3, hj⟩ := I'
      obtain ⟨hlt4, rfl⟩ := rangeD_get hx
      have hlt4 : j < 4 := hlt4
      simp only [MM.wpSs, MM.wpS, MM.wpE, MM.wpA, MM.wpT, MM.wpI, MM.wpC, MM.wpO, MM.wpG, MM.wpGs, msNext, msSeq, msNever, msBrk, msCnt, msExpr, msRet, msRetN, msAsg, msIf, msPar, msFor, mtOr, mtAnd, mtNot, mtOf, mtIte, mtYes, mCall, maCons, maNil, mVar, mC, mOp, mTup, mLst, mUc, mUk, mAnd, mOr, mNot, mNeg, mIte, mChain, onB, mSl, moNone, moSome, mM1, mB1, mB0, mgName, mgTup, mgsCons, mgsNil, mgSub, lnTs, miSeq, miRng1, miRng2, miEnum, miZip, start0, slot, put, wip, clr, BF.s, opS, cmpS, endsF, s1, List.map_cons, List.map_nil, List.replicate, List.cons_append, List.nil_append, List.append_nil, newL, mComp, finL, mSortedSet, add_int, sub_int]
      refine ⟨⟨r, _, rfl, hr3⟩, mod_int (by decide) (mod_int (by decide) ⟨show 1 ≤ sizeLine by decide, show 4 ≤ sizeLine by decide, append_ok hr3 (by rw [List.length_map, List.length_append, List.length_append, rl, List.length_map, List.length_range]; show 5 * i + 1 + j < _; omega) (kk' _ _ ⟨_, rfl, ?_, fun x e => by rw [updm_ne e]; exact f3 x e, hlt4⟩)⟩)⟩
      rw [updm_same, List.range_succ]
      simp only [List.map_append, List.map_cons, List.map_nil, List.append_assoc]
      rfl
    · obtain ⟨o3, rfl, hr3, f3, hj⟩ := I'
      rw [hlen4] at hr3
      refine kk _ _ ⟨_, _, rfl, ?_, f3, hlt⟩
      rw [hr3, ringOs_succ]
      unfold ringRow
      rw [List.append_assoc]
      rfl
  · obtain ⟨o2, o3, rfl, hr, f1, hi⟩ := I
    rw [hlen] at hr
    simp only [MM.wpSs, MM.wpS, MM.wpE, MM.wpA, MM.wpT, MM.wpI, MM.wpC, MM.wpO, MM.wpG, MM.wpGs, msNext, msSeq, msNever, msBrk, msCnt, msExpr, msRet, msRetN, msAsg, msIf, msPar, msFor, mtOr, mtAnd, mtNot, mtOf, mtIte, mtYes, mCall, maCons, maNil, mVar, mC, mOp, mTup, mLst, mUc, mUk, mAnd, mOr, mNot, mNeg, mIte, mChain, onB, mSl, moNone, moSome, mM1, mB1, mB0, mgName, mgTup, mgsCons, mgsNil, mgSub, lnTs, miSeq, miRng1, miRng2, miEnum, miZip, start0, slot, put, wip, clr, BF.s, opS, cmpS, endsF, s1, List.map_cons, List.map_nil, List.replicate, List.cons_append, List.nil_append, List.append_nil, newL, mComp, finL, mSortedSet]
    refine sorted_ok hr ⟨show 3 ≤ sizeLine by decide, q _ h1 (ring_ok k9 k20) fun x e => f1 x fun z => e (by rw [z]; exact nr)⟩
end KN
end

section
set_option Elab.async false
set_option linter.all false
set_option maxRecDepth 100000
set_option maxHeartbeats 8000000
namespace KN
open MM PySem
def Lo (z : Str) : Prop := ∀ c ∈ TL.tl z, c < 16 ^ 8
theorem Lo.app {x y : Str} (h : Lo x) (k : Lo y) : Lo (x ++ y) := fun c hc => by
  rw [TL.tl_append] at hc
  rcases List.mem_append.mp hc with hc | hc
  · exact h c hc
  · exact k c hc
theorem Lo.join {y : Str} {ps : List Str} (h : Lo y) (k : ∀ p ∈ ps, Lo p) : Lo (Str.join y ps) := fun c hc => by
  rw [TL.tl_join] at hc
  rcases mem_joinL hc with hc | ⟨x, hx, hc⟩
  · exact h c hc
  · obtain ⟨p, hp, rfl⟩ := List.mem_map.mp hx
    exact k p hp c hc
theorem lo_all {z : Str} (h : (TL.tl z).all (fun c => decide (c < 256)) = true) : Lo z := fun c hc => by
  have := of_decide_eq_true (List.all_eq_true.mp h c hc)
  exact Nat.lt_of_lt_of_le this (by decide)
theorem lo_num {i : Int} (k : sml i) : Lo (numS i) := fun c hc => by
  rw [numS_tl k.1] at hc
  have := TL.numL_digits _ c hc
  exact Nat.lt_of_le_of_lt this.2 (by decide)
theorem lo_textFrom : ∀ (ts : List Str) (k : Nat) (acc : Str), Lo acc → (∀ t ∈ ts, Lo t) → Lo (textFrom k acc ts)
  | [], _, _, h, _ => h
  | t :: r, k, acc, h, ht => by
    refine lo_textFrom r (k + 1) _ ((h.app ?_).app (ht t List.mem_cons_self)) fun x hx => ht x (List.mem_cons_of_mem _ hx)
    split <;> exact lo_all (by decide +kernel)
theorem lo_tuple {ts : List Str} (h : ∀ t ∈ ts, Lo t) : Lo (tupleText ts) := by
  unfold tupleText
  refine ((lo_all (by decide +kernel)).app (Lo.join (lo_all (by decide +kernel)) h)).app ?_
  split <;> exact lo_all (by decide +kernel)
theorem pyOs_map {α : Type} {f : α → D} : ∀ xs : List α, pyOs (xs.map f) = xs.map fun x => pyO (f x)
  | [] => rfl
  | x :: r => by rw [List.map_cons]; unfold pyOs; rw [pyOs_map r]; rfl
theorem lo_int {i : Int} (k : sml i) : Lo (PyData.int i).shown := by
  rw [PyData.shown]; exact lo_num k
theorem lo_tup {ps : List PyData} (h : ∀ p ∈ ps, Lo p.shown) : Lo (PyData.tuple ps).shown := by
  rw [PyData.shown, shown_all]
  refine lo_tuple fun t ht => ?_
  obtain ⟨p, hp, rfl⟩ := List.mem_map.mp ht
  exact h p hp
theorem lo_sit {s : Sit} (k : s.small) : Lo (pyO s.d).shown := by
  show Lo (PyData.tuple [.int s.t, .int s.n, .int s.e, .tuple (pyOs (s.ps.map D.int))]).shown
  rw [pyOs_map]
  refine lo_tup fun p hp => ?_
  simp only [List.mem_cons, List.not_mem_nil, or_false] at hp
  rcases hp with rfl | rfl | rfl | rfl
  · exact lo_int (k.a s.t (by simp))
  · exact lo_int (k.a s.n (by simp))
  · exact lo_int (k.a s.e (by simp))
  · refine lo_tup fun p hp => ?_
    obtain ⟨i, hi, rfl⟩ := List.mem_map.mp hp
    exact lo_int (k.a i (by simp [hi]))
theorem lo_plan {a : Plan} (k : a.small) : Lo (shD a.d) := by
  show Lo (PyData.tuple [.int a.p, .int a.k, .tuple (pyOs (a.os.map Sit.d))]).shown
  rw [pyOs_map]
  refine lo_tup fun p hp => ?_
  simp only [List.mem_cons, List.not_mem_nil, or_false] at hp
  rcases hp with rfl | rfl | rfl
  · exact lo_int k.p
  · exact lo_int k.k
  · refine lo_tup fun p hp => ?_
    obtain ⟨s, hs, rfl⟩ := List.mem_map.mp hp
    exact lo_sit (k.s s hs)
theorem lo_sitT {s : Sit} (k : s.small) : Lo (sitT s) := by
  unfold sitT
  rw [TL.join_eq]
  refine Lo.join (lo_all (by decide +kernel)) fun p hp => ?_
  obtain ⟨i, hi, rfl⟩ := List.mem_map.mp hp
  exact lo_num (k.a i hi)
theorem lo_planT {a : Plan} (k : a.small) : Lo (planT a) := by
  unfold planT
  rw [TL.join_eq]
  refine Lo.join (lo_all (by decide +kernel)) fun p hp => ?_
  rcases List.mem_cons.mp hp with rfl | hp
  · unfold headT
    rw [TL.join_eq]
    refine Lo.join (lo_all (by decide +kernel)) fun p hp => ?_
    simp only [List.mem_cons, List.not_mem_nil, or_false] at hp
    rcases hp with rfl | rfl | rfl
    · exact lo_all (by decide +kernel)
    · exact lo_num k.p
    · exact lo_num k.k
  · obtain ⟨s, hs, rfl⟩ := List.mem_map.mp hp
    exact lo_sitT (k.s s hs)
theorem okS_str {n : Nat} {z : Str} (h : Lo z) : okS n (.str z) = true := by
  have : (z.cps.toList.all fun c => decide (c < 16 ^ 8)) = true := List.all_eq_true.mpr fun c hc => decide_eq_true (h c hc)
  cases n <;> exact this
theorem repr_strs {zs : List Str} {h : Hm} {Q : Kx} (k : ∀ z ∈ zs, Lo z ∧ z.length ≤ 100000) (l : zs.length ≤ 10) (q : Q (.str (shD (.lst (zs.map .str)))) h) : sRepr (.lst (zs.map .str)) h Q := by
  refine repr_ok ?_ ?_ q
  · show okSs 60 (zs.map D.str) = true
    exact okSs_map (n := 59) fun z hz => okS_str (k z hz).1
  · have e : wDs (zs.map D.str) ≤ (1000002 + 2) * zs.length := wDs_le fun z hz => by
      have := (k z hz).2
      show 10 * z.length + 2 ≤ 1000002
      omega
    have hz : (15000000 : Nat) ≤ sizeLine := by decide
    show wDs (zs.map D.str) + 4 ≤ sizeLine
    omega
theorem shD_len {d : D} (k : okS 60 d = true) : (shD d).length ≤ wD d := (okS_ok (h := fun _ => none) 60 d k).2.2.1
theorem repr_plan {a : Plan} (k : a.small) {h : Hm} {Q : Kx} (q : Q (.str (shD a.d)) h) : sRepr a.d h Q :=
  repr_ok (okS_plan (n := 56) k) (Nat.le_trans (wD_plan k) (by decide)) q
theorem repr_plans {a : Plan} (k : a.small) {h : Hm} {Q : Kx} (q : Q (.str (shD (.lst [a.d, a.d, a.d]))) h) : sRepr (.lst [a.d, a.d, a.d]) h Q := by
  have o := okS_plan (n := 55) k
  refine repr_ok ?_ ?_ q
  · show (okS 59 a.d && (okS 59 a.d && (okS 59 a.d && true))) = true
    rw [o]; rfl
  · have := wD_plan k
    have hz : (1000000 : Nat) ≤ sizeLine := by decide
    show (wD a.d + 2 + (wD a.d + 2 + (wD a.d + 2 + 0))) + 4 ≤ sizeLine
    omega
theorem ne_self {z : Str} {h : Hm} {Q : Bool → Hm → Prop} (q : Q false h) : sNe (.str z) (.str z) h (onB Q) := by
  rw [ne_str, onB_bl]
  simpa using q
end KN
end

section
set_option Elab.async false
set_option linter.all false
set_option maxRecDepth 100000
set_option maxHeartbeats 1000000
namespace KN
open MM PySem

def s1_k54 : MS := (.par 6 7 (.call 137 1 (.cons (.var 3) .nil)) (.bif .repr (.cons (.var 3) .nil)))
def s2_k54 : MS := (.ite (.cmp 0 .NotEq (.bif .repr (.cons (.lst false (.cons (.call 125 1 (.cons (.var 3) .nil)) (.cons (.callk 2 125 1 [0] (.cons (.var 3) .nil)) (.cons (.bif .repr (.cons (.var 3) .nil)) .nil)))) .nil)) (.bif .repr (.cons (.lst false (.cons (.var 6) (.cons (.var 6) (.cons (.var 7) .nil)))) .nil))) (.cons (.ret (.bl false)) .nil) .nil)
def s3_k54 : MS := (.asg (.nm 4) (.join (.str "\n") (.comp false (.seq (.split false (.var 6) (.str "\n"))) (.nm 9) [("_law_line", 9)] .none (.call 139 2 (.cons (.var 1) (.cons (.call 138 1 (.cons (.var 9) .nil)) .nil))))))
def s4_k54 : MS := (.ite (.cmp 0 .NotEq (.bif .repr (.cons (.lst false (.cons (.call 131 1 (.cons (.var 6) .nil)) (.cons (.call 131 1 (.cons (.var 4) .nil)) (.cons (.callk 1 131 1 [0] (.cons (.var 4) .nil)) .nil)))) .nil)) (.bif .repr (.cons (.lst false (.cons (.var 3) (.cons (.var 3) (.cons (.var 3) .nil)))) .nil))) (.cons (.ret (.bl false)) .nil) .nil)
def s5b_k54 : MSs := (.cons (.asg (.nm 8) (.call 136 1 (.cons (.var 5) .nil))) (.cons (.ite (.cmp 0 .NotEq (.bif .repr (.cons (.lst false (.cons (.call 124 1 (.cons (.var 5) .nil)) (.cons (.callk 0 124 1 [0] (.cons (.var 5) .nil)) .nil))) .nil)) (.bif .repr (.cons (.lst false (.cons (.var 8) (.cons (.var 8) .nil))) .nil))) (.cons (.ret (.bl false)) .nil) .nil) .nil))
def s5_k54 : MS := .forr (.seq (.idx (.var 3) (.int 2))) (.nm 5) s5b_k54
def rest_k54 : MSs := .cons s1_k54 (.cons s2_k54 (.cons s3_k54 (.cons s4_k54 (.cons s5_k54 .nil))))
def s00_k54 : MS := .asg (.nm 1) (.call 58 1 (.cons (.var 0) .nil))
def a3_k54 : MS := (.asg (.nm 3) (.call 69 4 (.cons (.var 1) (.cons (.bin false .Add (.int 2) (.call 59 2 (.cons (.var 1) (.cons (.int 9) .nil)))) (.cons (.bin false .Add (.int 1) (.call 59 2 (.cons (.var 1) (.cons (.int 20) .nil)))) (.cons (.call 59 2 (.cons (.var 1) (.cons (.int 30) .nil))) .nil))))))
def i7_k54 : MS := (.ite (.cmp 0 .Eq (.var 2) (.int 7)) (.cons (.asg (.nm 3) (.call 71 1 (.cons (.bin false .Add (.int 9) (.call 59 2 (.cons (.var 1) (.cons (.int 12) .nil)))) .nil))) .nil) .nil)
def bd_k54 : MSs := .cons a3_k54 (.cons i7_k54 rest_k54)
def s0_k54 : MS := .forr (.rng1 (.int 8)) (.nm 2) bd_k54
theorem b_main_k54_eq : b_main_k54 = .cons s00_k54 (.cons s0_k54 (.cons (.ret (.bl true)) .nil)) := rfl
theorem s1_ok {G : Gw} (g137 : G.T 137 = ph_plan_text) {pl : Plan} (ks : pl.small) {h : Hm} {E : Me} {EM : EXs} {o0 o1 o2 o4 o5 o6 o7 o8 o9 : Option D} (q : E.nx [o0, o1, o2, some pl.d, o4, o5, some (.str (planT pl)), some (.str (shD pl.d)), o8, o9] h) : wpS G s1_k54 E EM [o0, o1, o2, some pl.d, o4, o5, o6, o7, o8, o9] h := by
  unfold s1_k54
  simp only [MM.wpSs, MM.wpS, MM.wpE, MM.wpA, MM.wpT, MM.wpI, MM.wpC, MM.wpO, MM.wpG, MM.wpGs, msNext, msSeq, msNever, msBrk, msCnt, msExpr, msRet, msRetN, msAsg, msIf, msPar, msFor, mtOr, mtAnd, mtNot, mtOf, mtIte, mtYes, mCall, maCons, maNil, mVar, mC, mOp, mTup, mLst, mUc, mUk, mAnd, mOr, mNot, mNeg, mIte, mChain, onB, mSl, moNone, moSome, mM1, mB1, mB0, mgName, mgTup, mgsCons, mgsNil, mgSub, lnTs, miSeq, miRng1, miRng2, miEnum, miZip, start0, slot, put, wip, clr, BF.s, opS, cmpS, endsF, s1, List.map_cons, List.map_nil, List.replicate, List.cons_append, List.nil_append, List.append_nil, newL, mComp, finL, mSortedSet, g137]
  exact ⟨rfl, pl, rfl, ks, repr_plan ks q⟩
theorem lop_plan {pl : Plan} (ks : pl.small) : Lo (planT pl) ∧ (planT pl).length ≤ 100000 := ⟨lo_planT ks, by have := planT_len ks; omega⟩
theorem loh_plan {pl : Plan} (ks : pl.small) : Lo (shD pl.d) ∧ (shD pl.d).length ≤ 100000 := ⟨lo_plan ks, Nat.le_trans (shD_len (okS_plan (n := 56) ks)) (Nat.le_trans (wD_plan ks) (by decide))⟩
theorem repr_3 {a b c : Str} (ka : Lo a ∧ a.length ≤ 100000) (kb : Lo b ∧ b.length ≤ 100000) (kc : Lo c ∧ c.length ≤ 100000) {h : Hm} {Q : Kx} (q : Q (.str (shD (.lst [.str a, .str b, .str c]))) h) : sRepr (.lst [.str a, .str b, .str c]) h Q :=
  repr_strs (zs := [a, b, c]) (fun z hz => by
    simp only [List.mem_cons, List.not_mem_nil, or_false] at hz
    rcases hz with rfl | rfl | rfl
    · exact ka
    · exact kb
    · exact kc) (by simp) q
theorem repr_2 {a b : Str} (ka : Lo a ∧ a.length ≤ 100000) (kb : Lo b ∧ b.length ≤ 100000) {h : Hm} {Q : Kx} (q : Q (.str (shD (.lst [.str a, .str b]))) h) : sRepr (.lst [.str a, .str b]) h Q :=
  repr_strs (zs := [a, b]) (fun z hz => by
    simp only [List.mem_cons, List.not_mem_nil, or_false] at hz
    rcases hz with rfl | rfl
    · exact ka
    · exact kb) (by simp) q
theorem sz3 : 3 ≤ sizeLine := by decide
theorem sz2 : 2 ≤ sizeLine := by decide
theorem s2_ok {G : Gw} (g125 : G.T 125 = ph_plan_text) {pl : Plan} (ks : pl.small) {h : Hm} {E : Me} {EM : EXs} {o0 o1 o2 o4 o5 o8 o9 : Option D} (q : E.nx [o0, o1, o2, some pl.d, o4, o5, some (.str (planT pl)), some (.str (shD pl.d)), o8, o9] h) : wpS G s2_k54 E EM [o0, o1, o2, some pl.d, o4, o5, some (.str (planT pl)), some (.str (shD pl.d)), o8, o9] h := by
  have lop := lop_plan ks
  have loh := loh_plan ks
  unfold s2_k54
  simp only [MM.wpSs, MM.wpS, MM.wpE, MM.wpA, MM.wpT, MM.wpI, MM.wpC, MM.wpO, MM.wpG, MM.wpGs, msNext, msSeq, msNever, msBrk, msCnt, msExpr, msRet, msRetN, msAsg, msIf, msPar, msFor, mtOr, mtAnd, mtNot, mtOf, mtIte, mtYes, mCall, maCons, maNil, mVar, mC, mOp, mTup, mLst, mUc, mUk, mAnd, mOr, mNot, mNeg, mIte, mChain, onB, mSl, moNone, moSome, mM1, mB1, mB0, mgName, mgTup, mgsCons, mgsNil, mgSub, lnTs, miSeq, miRng1, miRng2, miEnum, miZip, start0, slot, put, wip, clr, BF.s, opS, cmpS, endsF, s1, List.map_cons, List.map_nil, List.replicate, List.cons_append, List.nil_append, List.append_nil, newL, mComp, finL, mSortedSet, g125]
  refine ⟨rfl, pl, rfl, ks, rfl, pl, rfl, ks, repr_plan ks ⟨sz3, ?_⟩⟩
  refine repr_3 lop lop loh ⟨sz3, repr_3 lop lop loh ?_⟩
  generalize shD (.lst [.str (planT pl), .str (planT pl), .str (shD pl.d)]) = z
  exact ne_self q
theorem lines_len {ls : List Str} (h : ∀ l ∈ ls, l.length ≤ 200) : (ls.map (·.length)).sum ≤ 200 * ls.length := sum_le h
theorem split_facts {pl : Plan} (ks : pl.small) {ls : List Str} (hls : (headT pl :: pl.os.map sitT) = ls) : ls.length ≤ 46 ∧ ls.map wordsL = headWs pl :: pl.os.map rowWs ∧ ∀ l ∈ ls, l.length ≤ 30 ∧ (wordsL l).length ≤ 10 ∧ ∀ w ∈ wordsL l, Wd w := by
  refine ⟨by rw [← hls, List.length_cons, List.length_map]; have := ks.l; omega, by rw [← lines_plan ks]; unfold linesL; rw [split_plan ks, hls], fun l hl => ?_⟩
  rw [← hls] at hl
  rcases List.mem_cons.mp hl with rfl | hl
  · rw [words_head ks]
    exact ⟨headT_len ks, by show 3 ≤ 10; decide, head_wd ks⟩
  · obtain ⟨s, hs, rfl⟩ := List.mem_map.mp hl
    rw [words_sit (ks.s s hs)]
    refine ⟨sitT_len (ks.s s hs), ?_, row_wd (ks.s s hs)⟩
    unfold rowWs
    have := (ks.s s hs).l
    simp only [List.length_map, List.length_cons]; omega
theorem s3_ok {G : Gw} (g138 : G.T 138 = ph_words_of) (g139 : G.T 139 = ph_law_blanked) {pl : Plan} (ks : pl.small) {a b : Addr} {h : Hm} {E : Me} {EM : EXs} {o0 o2 o3 o4 o5 o7 o8 o9 : Option D} (d : Deck h a b) (q : ∀ (wide : Str) (g : Hm) (o9' : Option D), Deck g a b → wide.length ≤ 10000 → linesL wide = headWs pl :: pl.os.map rowWs → E.nx [o0, some (.ref a), o2, o3, some (.str wide), o5, some (.str (planT pl)), o7, o8, o9'] g) : wpS G s3_k54 E EM [o0, some (.ref a), o2, o3, o4, o5, some (.str (planT pl)), o7, o8, o9] h := by
  have tl := planT_len ks
  have hz : (1000000 : Nat) ≤ sizeLine := by decide
  unfold s3_k54
  simp only [MM.wpSs, MM.wpS, MM.wpE, MM.wpA, MM.wpT, MM.wpI, MM.wpC, MM.wpO, MM.wpG, MM.wpGs, msNext, msSeq, msNever, msBrk, msCnt, msExpr, msRet, msRetN, msAsg, msIf, msPar, msFor, mtOr, mtAnd, mtNot, mtOf, mtIte, mtYes, mCall, maCons, maNil, mVar, mC, mOp, mTup, mLst, mUc, mUk, mAnd, mOr, mNot, mNeg, mIte, mChain, onB, mSl, moNone, moSome, mM1, mB1, mB0, mgName, mgTup, mgsCons, mgsNil, mgSub, lnTs, miSeq, miRng1, miRng2, miEnum, miZip, start0, slot, put, wip, clr, BF.s, opS, cmpS, endsF, s1, List.map_cons, List.map_nil, List.replicate, List.cons_append, List.nil_append, List.append_nil, newL, mComp, finL, mSortedSet, g138, g139]
  refine ⟨⟨by decide, by omega⟩, ?_⟩
  rw [split_plan ks]
  generalize hls : (headT pl :: pl.os.map sitT) = ls
  obtain ⟨hlen, hw, hwd⟩ := split_facts ks hls
  clear hls
  refine comp_rule (b := false) (fun i acc g => Deck g a b ∧ ∃ ms : List Str, acc = ms.map .str ∧ ms.length = i ∧ i ≤ ls.length ∧ ms.map wordsL = (ls.take i).map wordsL ∧ ∀ m ∈ ms, 10 ∉ TL.tl m ∧ m.length ≤ 200) ⟨d, [], rfl, rfl, Nat.zero_le _, rfl, fun _ z => nomatch z⟩ (fun _ _ _ _ _ _ _ _ => trivial) (fun i x acc g h' p K hx I ng a1 kk => ?_) (fun acc g I => ?_)
  · obtain ⟨dg, ms, rfl, hm, hi, hmw, hmn⟩ := I
    rw [List.getElem?_map] at hx
    obtain ⟨l, hl, rfl⟩ := Option.map_eq_some_iff.mp hx
    have hlt := (List.getElem?_eq_some_iff.mp hl).1
    obtain ⟨l30, w10, wd⟩ := hwd l (List.mem_of_getElem? hl)
    simp only [MM.wpSs, MM.wpS, MM.wpE, MM.wpA, MM.wpT, MM.wpI, MM.wpC, MM.wpO, MM.wpG, MM.wpGs, msNext, msSeq, msNever, msBrk, msCnt, msExpr, msRet, msRetN, msAsg, msIf, msPar, msFor, mtOr, mtAnd, mtNot, mtOf, mtIte, mtYes, mCall, maCons, maNil, mVar, mC, mOp, mTup, mLst, mUc, mUk, mAnd, mOr, mNot, mNeg, mIte, mChain, onB, mSl, moNone, moSome, mM1, mB1, mB0, mgName, mgTup, mgsCons, mgsNil, mgSub, lnTs, miSeq, miRng1, miRng2, miEnum, miZip, start0, slot, put, wip, clr, BF.s, opS, cmpS, endsF, s1, List.map_cons, List.map_nil, List.replicate, List.cons_append, List.nil_append, List.append_nil, newL, mComp, finL, mSortedSet, g138, g139]
    refine ⟨rfl, l, rfl, by omega, rfl, a, b, wordsL l, rfl, dg.at1 ng a1, w10, wd, fun line h3 lw lnl llen d3 f3 => ?_⟩
    obtain ⟨e1, e2⟩ := deck_step dg ng a1 d3 f3
    obtain ⟨e3, e4, e5, e6⟩ := e2 (ms.map .str ++ [.str line])
    refine ⟨e1, by rw [List.length_map]; omega, kk _ _ _ ⟨e4, ms ++ [line], by rw [List.map_append]; rfl, by rw [List.length_append, hm]; rfl, hlt, ?_, fun m hm' => ?_⟩ e6 e3⟩
    · rw [List.map_append, hmw, List.take_add_one, hl, List.map_append]
      show _ ++ [wordsL line] = _ ++ [wordsL l]
      rw [lw]
    · rcases List.mem_append.mp hm' with hm' | hm'
      · exact hmn m hm'
      · rw [List.mem_singleton.mp hm']; exact ⟨lnl, llen⟩
  · obtain ⟨dg, ms, rfl, hm, hi, hmw, hmn⟩ := I
    rw [List.length_map] at hm hmw
    rw [List.take_length, hw] at hmw
    have hml := lines_len fun l hl => (hmn l hl).2
    have h1 : (("\n" : Str)).length = 1 := by decide
    have hwl : (Txt.join "\n" ms).length ≤ 201 * 46 := by
      refine Nat.le_trans join_le ?_
      rw [h1]
      omega
    refine join_ok (by rw [h1]; omega) ?_
    refine q _ _ _ dg (by omega) ?_
    unfold linesL
    rw [TL.split_join (s := 10) (S := []) (by decide) (by decide +kernel) (fun e => by rw [e] at hmw; cases hmw) fun p hp => (hmn p hp).1]
    exact hmw
theorem s4_ok {G : Gw} (g131 : G.T 131 = ph_read_plan) {pl : Plan} (k : pl.ok) {wide : Str} (hwl : wide.length ≤ 10000) (hlw : linesL wide = headWs pl :: pl.os.map rowWs) {h : Hm} {E : Me} {EM : EXs} {o0 o1 o2 o5 o7 o8 o9 : Option D} (q : E.nx [o0, o1, o2, some pl.d, some (.str wide), o5, some (.str (planT pl)), o7, o8, o9] h) : wpS G s4_k54 E EM [o0, o1, o2, some pl.d, some (.str wide), o5, some (.str (planT pl)), o7, o8, o9] h := by
  have ks := k.small
  have tl := planT_len ks
  have hz : (1000000 : Nat) ≤ sizeLine := by decide
  unfold s4_k54
  simp only [MM.wpSs, MM.wpS, MM.wpE, MM.wpA, MM.wpT, MM.wpI, MM.wpC, MM.wpO, MM.wpG, MM.wpGs, msNext, msSeq, msNever, msBrk, msCnt, msExpr, msRet, msRetN, msAsg, msIf, msPar, msFor, mtOr, mtAnd, mtNot, mtOf, mtIte, mtYes, mCall, maCons, maNil, mVar, mC, mOp, mTup, mLst, mUc, mUk, mAnd, mOr, mNot, mNeg, mIte, mChain, onB, mSl, moNone, moSome, mM1, mB1, mB0, mgName, mgTup, mgsCons, mgsNil, mgSub, lnTs, miSeq, miRng1, miRng2, miEnum, miZip, start0, slot, put, wip, clr, BF.s, opS, cmpS, endsF, s1, List.map_cons, List.map_nil, List.replicate, List.cons_append, List.nil_append, List.append_nil, newL, mComp, finL, mSortedSet, g131]
  refine ⟨rfl, read_ok k (by omega) (lines_plan ks) ⟨rfl, read_ok k (by omega) hlw ⟨rfl, read_ok k (by omega) hlw ⟨sz3, ?_⟩⟩⟩⟩
  refine repr_plans ks ⟨sz3, repr_plans ks ?_⟩
  generalize shD (.lst [pl.d, pl.d, pl.d]) = z
  exact ne_self q
theorem s5b_ok {G : Gw} (g124 : G.T 124 = ph_sitting_text) (g136 : G.T 136 = ph_sitting_text) {s : Sit} (ksm : s.small) {h : Hm} {E : Me} {EM : EXs} {o0 o1 o2 o3 o4 o6 o7 o8 o9 : Option D} (q : E.nx [o0, o1, o2, o3, o4, some s.d, o6, o7, some (.str (sitT s)), o9] h) : wpSs G s5b_k54 E EM [o0, o1, o2, o3, o4, some s.d, o6, o7, o8, o9] h := by
  have lo : Lo (sitT s) ∧ (sitT s).length ≤ 100000 := ⟨lo_sitT ksm, Nat.le_trans (sitT_len ksm) (by decide)⟩
  unfold s5b_k54
  simp only [MM.wpSs, MM.wpS, MM.wpE, MM.wpA, MM.wpT, MM.wpI, MM.wpC, MM.wpO, MM.wpG, MM.wpGs, msNext, msSeq, msNever, msBrk, msCnt, msExpr, msRet, msRetN, msAsg, msIf, msPar, msFor, mtOr, mtAnd, mtNot, mtOf, mtIte, mtYes, mCall, maCons, maNil, mVar, mC, mOp, mTup, mLst, mUc, mUk, mAnd, mOr, mNot, mNeg, mIte, mChain, onB, mSl, moNone, moSome, mM1, mB1, mB0, mgName, mgTup, mgsCons, mgsNil, mgSub, lnTs, miSeq, miRng1, miRng2, miEnum, miZip, start0, slot, put, wip, clr, BF.s, opS, cmpS, endsF, s1, List.map_cons, List.map_nil, List.replicate, List.cons_append, List.nil_append, List.append_nil, newL, mComp, finL, mSortedSet, g124, g136]
  refine ⟨rfl, s, rfl, ksm, rfl, s, rfl, ksm, rfl, s, rfl, ksm, sz2, ?_⟩
  refine repr_2 lo lo ⟨sz2, repr_2 lo lo ?_⟩
  generalize shD (.lst [.str (sitT s), .str (sitT s)]) = z
  exact ne_self q
theorem s5_ok {G : Gw} (g124 : G.T 124 = ph_sitting_text) (g136 : G.T 136 = ph_sitting_text) {pl : Plan} (ks : pl.small) {h : Hm} {E : Me} {EM : EXs} {o0 o1 o2 o4 o5 o6 o7 o8 o9 : Option D} (q : ∀ p5 p8 : Option D, E.nx [o0, o1, o2, some pl.d, o4, p5, o6, o7, p8, o9] h) : wpS G s5_k54 E EM [o0, o1, o2, some pl.d, o4, o5, o6, o7, o8, o9] h := by
  unfold s5_k54
  simp only [MM.wpSs, MM.wpS, MM.wpE, MM.wpA, MM.wpT, MM.wpI, MM.wpC, MM.wpO, MM.wpG, MM.wpGs, msNext, msSeq, msNever, msBrk, msCnt, msExpr, msRet, msRetN, msAsg, msIf, msPar, msFor, mtOr, mtAnd, mtNot, mtOf, mtIte, mtYes, mCall, maCons, maNil, mVar, mC, mOp, mTup, mLst, mUc, mUk, mAnd, mOr, mNot, mNeg, mIte, mChain, onB, mSl, moNone, moSome, mM1, mB1, mB0, mgName, mgTup, mgsCons, mgsNil, mgSub, lnTs, miSeq, miRng1, miRng2, miEnum, miZip, start0, slot, put, wip, clr, BF.s, opS, cmpS, endsF, s1, List.map_cons, List.map_nil, List.replicate, List.cons_append, List.nil_append, List.append_nil, newL, mComp, finL, mSortedSet]
  show sIdx pl.d (.int 2) h _
  unfold Plan.d
  rw [idx_tup, at2]
  show forW _ _ _ _ _ (pl.os.map Sit.d) _ h
  refine forW_rule (fun i σ h' => h' = h ∧ ∃ p5 p8 : Option D, σ = [o0, o1, o2, some pl.d, o4, p5, o6, o7, p8, o9]) ⟨rfl, _, _, rfl⟩ (fun _ _ _ _ => trivial) (fun i x σ h2 K3 hx I kk => ?_) (fun σ h2 I => ?_)
  · obtain ⟨rfl, p5, p8, rfl⟩ := I
    rw [List.getElem?_map] at hx
    obtain ⟨s, hs, rfl⟩ := Option.map_eq_some_iff.mp hx
    exact s5b_ok g124 g136 (ks.s s (List.mem_of_getElem? hs)) (kk _ _ ⟨rfl, _, _, rfl⟩)
  · obtain ⟨rfl, p5, p8, rfl⟩ := I
    exact q _ _
end KN
end

section
set_option Elab.async false
set_option linter.all false
set_option maxRecDepth 100000
set_option maxHeartbeats 1000000
namespace KN
open MM PySem
theorem rest_ok {G : Gw} (g124 : G.T 124 = ph_sitting_text) (g125 : G.T 125 = ph_plan_text) (g131 : G.T 131 = ph_read_plan) (g136 : G.T 136 = ph_sitting_text) (g137 : G.T 137 = ph_plan_text) (g138 : G.T 138 = ph_words_of) (g139 : G.T 139 = ph_law_blanked) {pl : Plan} (k : pl.ok) {a b : Addr} {h : Hm} {E : Me} {EM : EXs} {o0 o2 o4 o5 o6 o7 o8 o9 : Option D} (d : Deck h a b) (q : ∀ (p4 p5 p6 p7 p8 p9 : Option D) (g : Hm), Deck g a b → E.nx [o0, some (.ref a), o2, some pl.d, p4, p5, p6, p7, p8, p9] g) : wpSs G rest_k54 E EM [o0, some (.ref a), o2, some pl.d, o4, o5, o6, o7, o8, o9] h := by
  have ks := k.small
  refine s1_ok (EM := EM) g137 ks ?_
  refine s2_ok (EM := EM) g125 ks ?_
  refine s3_ok (EM := EM) g138 g139 ks d fun wide g o9' dg hwl hlw => ?_
  refine s4_ok (EM := EM) g131 k hwl hlw ?_
  exact s5_ok (EM := EM) g124 g136 ks fun p5 p8 => q _ _ _ _ _ _ _ dg
theorem s00_ok {G : Gw} (g58 : G.T 58 = ph_law_deck G.K) {ns : List Int} (hn : ns.length ≤ 63) {h : Hm} {E : Me} {EM : EXs} {p1 p2 p3 p4 p5 p6 p7 p8 p9 : Option D} (q : ∀ (a b : Addr) (h1 : Hm), Deck h1 a b → E.nx [some (.scr G.K ns), some (.ref a), p2, p3, p4, p5, p6, p7, p8, p9] h1) : wpS G s00_k54 E EM [some (.scr G.K ns), p1, p2, p3, p4, p5, p6, p7, p8, p9] h := by
  unfold s00_k54
  simp only [MM.wpSs, MM.wpS, MM.wpE, MM.wpA, MM.wpT, MM.wpI, MM.wpC, MM.wpO, MM.wpG, MM.wpGs, msNext, msSeq, msNever, msBrk, msCnt, msExpr, msRet, msRetN, msAsg, msIf, msPar, msFor, mtOr, mtAnd, mtNot, mtOf, mtIte, mtYes, mCall, maCons, maNil, mVar, mC, mOp, mTup, mLst, mUc, mUk, mAnd, mOr, mNot, mNeg, mIte, mChain, onB, mSl, moNone, moSome, mM1, mB1, mB0, mgName, mgTup, mgsCons, mgsNil, mgSub, lnTs, miSeq, miRng1, miRng2, miEnum, miZip, start0, slot, put, wip, clr, BF.s, opS, cmpS, endsF, s1, List.map_cons, List.map_nil, List.replicate, List.cons_append, List.nil_append, List.append_nil, newL, mComp, finL, mSortedSet, g58]
  exact ⟨rfl, ns, rfl, hn, fun a b h1 d1 f1 => q a b h1 d1⟩
theorem a3_ok {G : Gw} (g59 : G.T 59 = ph_draw) (g69 : G.T 69 = ph_law_plan_of) {a b : Addr} {h : Hm} {E : Me} {EM : EXs} {p0 p2 p3 p4 p5 p6 p7 p8 p9 : Option D} (d : Deck h a b) (q : ∀ (pl : Plan) (h1 : Hm), pl.ok → Deck h1 a b → E.nx [p0, some (.ref a), p2, some pl.d, p4, p5, p6, p7, p8, p9] h1) : wpS G a3_k54 E EM [p0, some (.ref a), p2, p3, p4, p5, p6, p7, p8, p9] h := by
  unfold a3_k54
  simp only [MM.wpSs, MM.wpS, MM.wpE, MM.wpA, MM.wpT, MM.wpI, MM.wpC, MM.wpO, MM.wpG, MM.wpGs, msNext, msSeq, msNever, msBrk, msCnt, msExpr, msRet, msRetN, msAsg, msIf, msPar, msFor, mtOr, mtAnd, mtNot, mtOf, mtIte, mtYes, mCall, maCons, maNil, mVar, mC, mOp, mTup, mLst, mUc, mUk, mAnd, mOr, mNot, mNeg, mIte, mChain, onB, mSl, moNone, moSome, mM1, mB1, mB0, mgName, mgTup, mgsCons, mgsNil, mgSub, lnTs, miSeq, miRng1, miRng2, miEnum, miZip, start0, slot, put, wip, clr, BF.s, opS, cmpS, endsF, s1, List.map_cons, List.map_nil, List.replicate, List.cons_append, List.nil_append, List.append_nil, newL, mComp, finL, mSortedSet, g59, g69]
  refine ⟨rfl, a, b, 9, rfl, d, ⟨by decide, by decide⟩, fun r h3 r0 r1 d3 f3 => ?_⟩
  refine ⟨rfl, a, b, 20, rfl, d3, ⟨by decide, by decide⟩, fun r' h4 r0' r1' d4 f4 => ?_⟩
  refine ⟨rfl, a, b, 30, rfl, d4, ⟨by decide, by decide⟩, fun m h5 m0 m1 d5 f5 => ?_⟩
  exact ⟨rfl, a, b, 2 + r, 1 + r', m, rfl, d5, by omega, by omega, by omega, by omega, m0, by omega, fun pl h6 kpl _ _ d6 f6 => q pl h6 kpl d6⟩
theorem i7_ok {G : Gw} (g59 : G.T 59 = ph_draw) (g71 : G.T 71 = ph_law_ring_plan) {a b : Addr} {h : Hm} {E : Me} {EM : EXs} {i : Int} {p0 p4 p5 p6 p7 p8 p9 : Option D} {pl : Plan} (k : pl.ok) (d : Deck h a b) (q : ∀ (pl : Plan) (h1 : Hm), pl.ok → Deck h1 a b → E.nx [p0, some (.ref a), some (.int i), some pl.d, p4, p5, p6, p7, p8, p9] h1) : wpS G i7_k54 E EM [p0, some (.ref a), some (.int i), some pl.d, p4, p5, p6, p7, p8, p9] h := by
  unfold i7_k54
  simp only [MM.wpSs, MM.wpS, MM.wpE, MM.wpA, MM.wpT, MM.wpI, MM.wpC, MM.wpO, MM.wpG, MM.wpGs, msNext, msSeq, msNever, msBrk, msCnt, msExpr, msRet, msRetN, msAsg, msIf, msPar, msFor, mtOr, mtAnd, mtNot, mtOf, mtIte, mtYes, mCall, maCons, maNil, mVar, mC, mOp, mTup, mLst, mUc, mUk, mAnd, mOr, mNot, mNeg, mIte, mChain, onB, mSl, moNone, moSome, mM1, mB1, mB0, mgName, mgTup, mgsCons, mgsNil, mgSub, lnTs, miSeq, miRng1, miRng2, miEnum, miZip, start0, slot, put, wip, clr, BF.s, opS, cmpS, endsF, s1, List.map_cons, List.map_nil, List.replicate, List.cons_append, List.nil_append, List.append_nil, newL, mComp, finL, mSortedSet, g59, g71]
  simp only [eq_int, onB_bl]
  cases e : decide (i = 7) with
  | false => exact q pl h k d
  | true =>
    refine ⟨rfl, a, b, 12, rfl, d, ⟨by decide, by decide⟩, fun r h7 r0 r1 d7 f7 => ?_⟩
    refine ⟨rfl, 9 + r, rfl, by omega, by omega, fun pl h8 kpl f8 => q pl h8 kpl ?_⟩
    obtain ⟨cs, i', k', ha, hb, rr⟩ := d7
    exact ⟨cs, i', k', (f8 a (by rw [ha]; exact fun z => nomatch z)).trans ha, (f8 b (by rw [hb]; exact fun z => nomatch z)).trans hb, rr⟩
theorem s0_ok {G : Gw} (g59 : G.T 59 = ph_draw) (g69 : G.T 69 = ph_law_plan_of) (g71 : G.T 71 = ph_law_ring_plan) (g124 : G.T 124 = ph_sitting_text) (g125 : G.T 125 = ph_plan_text) (g131 : G.T 131 = ph_read_plan) (g136 : G.T 136 = ph_sitting_text) (g137 : G.T 137 = ph_plan_text) (g138 : G.T 138 = ph_words_of) (g139 : G.T 139 = ph_law_blanked) {a b : Addr} {h : Hm} {E : Me} {EM : EXs} {p0 p2 p3 p4 p5 p6 p7 p8 p9 : Option D} (d : Deck h a b) (q : ∀ (p2 p3 p4 p5 p6 p7 p8 p9 : Option D) (h1 : Hm), E.nx [p0, some (.ref a), p2, p3, p4, p5, p6, p7, p8, p9] h1) : wpS G s0_k54 E EM [p0, some (.ref a), p2, p3, p4, p5, p6, p7, p8, p9] h := by
  unfold s0_k54
  simp only [MM.wpSs, MM.wpS, MM.wpE, MM.wpA, MM.wpT, MM.wpI, MM.wpC, MM.wpO, MM.wpG, MM.wpGs, msNext, msSeq, msNever, msBrk, msCnt, msExpr, msRet, msRetN, msAsg, msIf, msPar, msFor, mtOr, mtAnd, mtNot, mtOf, mtIte, mtYes, mCall, maCons, maNil, mVar, mC, mOp, mTup, mLst, mUc, mUk, mAnd, mOr, mNot, mNeg, mIte, mChain, onB, mSl, moNone, moSome, mM1, mB1, mB0, mgName, mgTup, mgsCons, mgsNil, mgSub, lnTs, miSeq, miRng1, miRng2, miEnum, miZip, start0, slot, put, wip, clr, BF.s, opS, cmpS, endsF, s1, List.map_cons, List.map_nil, List.replicate, List.cons_append, List.nil_append, List.append_nil, newL, mComp, finL, mSortedSet]
  refine ⟨⟨by decide, by decide⟩, ?_⟩
  refine forW_rule (fun i σ h' => Deck h' a b ∧ ∃ p2 p3 p4 p5 p6 p7 p8 p9 : Option D, σ = [p0, some (.ref a), p2, p3, p4, p5, p6, p7, p8, p9]) ⟨d, _, _, _, _, _, _, _, _, rfl⟩ (fun _ _ _ _ => trivial) (fun i x σ h2 K hx I kk => ?_) (fun σ h2 I => ?_)
  · obtain ⟨d2, p2, p3, p4, p5, p6, p7, p8, p9, rfl⟩ := I
    obtain ⟨hlt, rfl⟩ := rangeD_get hx
    refine a3_ok (EM := EM) g59 g69 d2 fun pl h3 kpl d3 => ?_
    refine i7_ok (EM := EM) g59 g71 kpl d3 fun pl h4 kpl d4 => ?_
    exact rest_ok (EM := EM) g124 g125 g131 g136 g137 g138 g139 kpl d4 fun q4 q5 q6 q7 q8 q9 g dg => kk _ _ ⟨dg, _, _, _, _, _, _, _, _, rfl⟩
  · obtain ⟨d2, p2, p3, p4, p5, p6, p7, p8, p9, rfl⟩ := I
    exact q _ _ _ _ _ _ _ _ _
theorem p_main_k54 {G : Gw} (g58 : G.T 58 = ph_law_deck G.K) (g59 : G.T 59 = ph_draw) (g69 : G.T 69 = ph_law_plan_of) (g71 : G.T 71 = ph_law_ring_plan) (g124 : G.T 124 = ph_sitting_text) (g125 : G.T 125 = ph_plan_text) (g131 : G.T 131 = ph_read_plan) (g136 : G.T 136 = ph_sitting_text) (g137 : G.T 137 = ph_plan_text) (g138 : G.T 138 = ph_words_of) (g139 : G.T 139 = ph_law_blanked) : Pl b_main_k54 1 9 G (phLaw G.K 63) := by
  rintro ds h Q E hl ⟨ns, rfl, hn, rfl, q⟩
  rw [b_main_k54_eq]
  show wpSs G _ (endsF Q) (fun x _ h => E x h) [some (.scr G.K ns), none, none, none, none, none, none, none, none, none] _
  generalize hEM : (fun x (_ : Sl) h => E x h) = EM
  refine s00_ok (EM := EM) g58 hn fun a b h1 d1 => ?_
  refine s0_ok (EM := EM) g59 g69 g71 g124 g125 g131 g136 g137 g138 g139 d1 fun p2 p3 p4 p5 p6 p7 p8 p9 h2 => ?_
  exact q h2
end KN
end

section
set_option Elab.async false
set_option linter.all false
set_option maxRecDepth 100000
set_option maxHeartbeats 4000000
namespace KN
open MM PySem PySem.Spec PyProof.Rows L2
abbrev top (i : Nat) : Stmt := PySem.Challenge.pw_evenpacks_k54_texts_of_plans.main.body.getD i (.Pass ⟨0, 0, 0, 0⟩)
def d_law_deck_2 : Df := ⟨58, "_law_deck", defArgs (top 29), defBody (top 29), defScope (top 29), ["_law_script"], ["_law_script", "_law_cell"], b_law_deck_2⟩
def d_law_draw_2 : Df := ⟨59, "_law_draw", defArgs (top 30), defBody (top 30), defScope (top 30), ["_law_deck_here", "_law_many"], ["_law_deck_here", "_law_many", "_law_mixed", "_law_cell"], b_law_draw_2⟩
def d_law_pick : Df := ⟨60, "_law_pick", defArgs (top 31), defBody (top 31), defScope (top 31), ["_law_deck_here", "_law_items"], ["_law_deck_here", "_law_items"], b_law_pick⟩
def d_law_sitting : Df := ⟨68, "_law_sitting", defArgs (top 34), defBody (top 34), defScope (top 34), ["_law_deck_here", "_law_pairs", "_law_packs"], ["_law_deck_here", "_law_pairs", "_law_packs", "_law_north", "_law_own", "_law_number", "_law_turn"], b_law_sitting⟩
def d_law_sits : Df := ⟨65, "_law_sits", defArgs (top 32), defBody (top 32), defScope (top 32), ["_law_row", "_law_sitting_here"], ["_law_row", "_law_sitting_here", "_law_near", "_law_other"], b_law_sits⟩
def d_law_plays_again : Df := ⟨66, "_law_plays_again", defArgs (top 33), defBody (top 33), defScope (top 33), ["_law_row", "_law_sitting_here"], ["_law_row", "_law_sitting_here", "_law_other", "_law_pack"], b_law_plays_again⟩
def d_law_plan_of : Df := ⟨69, "_law_plan_of", defArgs (top 35), defBody (top 35), defScope (top 35), ["_law_deck_here", "_law_pairs", "_law_packs", "_law_many"], ["_law_deck_here", "_law_pairs", "_law_packs", "_law_many", "_law_rows", "_law_turn", "_law_sitting_here"], b_law_plan_of⟩
def d_law_ring_plan_2 : Df := ⟨71, "_law_ring_plan", defArgs (top 36), defBody (top 36), defScope (top 36), ["_law_packs"], ["_law_packs", "_law_rows", "_law_number", "_law_step"], b_law_ring_plan_2⟩
def d_law_sitting_text : Df := ⟨136, "_law_sitting_text", defArgs (top 37), defBody (top 37), defScope (top 37), ["_law_sitting_here"], ["_law_sitting_here", "_law_figure"], b_law_sitting_text⟩
def d_law_plan_text : Df := ⟨137, "_law_plan_text", defArgs (top 38), defBody (top 38), defScope (top 38), ["_law_plan"], ["_law_plan", "_law_row"], b_law_plan_text⟩
def d_law_blanked : Df := ⟨139, "_law_blanked", defArgs (top 40), defBody (top 40), defScope (top 40), ["_law_deck_here", "_law_words_here"], ["_law_deck_here", "_law_words_here", "_law_line", "_law_number", "_law_word"], b_law_blanked⟩
def d_sitting_text : Df := ⟨124, "sitting_text", defArgs (top 20), defBody (top 20), defScope (top 20), ["sitting"], ["sitting", "number"], b_sitting_text⟩
def d_plan_text : Df := ⟨125, "plan_text", defArgs (top 21), defBody (top 21), defScope (top 21), ["plan"], ["plan", "lines", "sitting"], b_plan_text⟩
def d_law_words : Df := ⟨138, "_law_words", defArgs (top 39), defBody (top 39), defScope (top 39), ["_law_line"], ["_law_line", "_law_word"], b_law_words⟩
def d_is_integer : Df := ⟨0, "is_integer", defArgs (top 10), defBody (top 10), defScope (top 10), ["value", "low", "high"], ["value", "low", "high"], b_is_integer⟩
def d_shares_pair : Df := ⟨5, "shares_pair", defArgs (top 13), defBody (top 13), defScope (top 13), ["one", "other"], ["one", "other"], b_shares_pair⟩
def d_shares_pack : Df := ⟨6, "shares_pack", defArgs (top 14), defBody (top 14), defScope (top 14), ["one", "other"], ["one", "other", "pack"], b_shares_pack⟩
def d_beside_word : Df := ⟨7, "beside_word", defArgs (top 15), defBody (top 15), defScope (top 15), ["sitting", "others"], ["sitting", "others", "mates", "other"], b_beside_word⟩
def d_is_sitting : Df := ⟨4, "is_sitting", defArgs (top 12), defBody (top 12), defScope (top 12), ["pairs", "packs", "value"], ["pairs", "packs", "value", "some", "pack", "one", "other"], b_is_sitting⟩
def d_item_word : Df := ⟨8, "item_word", defArgs (top 16), defBody (top 16), defScope (top 16), ["pairs", "packs", "sittings", "number"], ["pairs", "packs", "sittings", "number", "own"], b_item_word⟩
def d_plan_error : Df := ⟨9, "plan_error", defArgs (top 17), defBody (top 17), defScope (top 17), ["value"], ["value", "number", "pairs", "packs", "sittings", "word"], b_plan_error⟩
def d_words_of : Df := ⟨126, "words_of", defArgs (top 22), defBody (top 22), defScope (top 22), ["text"], ["text", "word"], b_words_of⟩
def d_is_figure : Df := ⟨127, "is_figure", defArgs (top 23), defBody (top 23), defScope (top 23), ["word"], ["word", "sign"], b_is_figure⟩
def d_is_head : Df := ⟨128, "is_head", defArgs (top 24), defBody (top 24), defScope (top 24), ["words"], ["words", "word"], b_is_head⟩
def d_is_row : Df := ⟨129, "is_row", defArgs (top 25), defBody (top 25), defScope (top 25), ["words"], ["words", "word"], b_is_row⟩
def d_sitting_in : Df := ⟨130, "sitting_in", defArgs (top 26), defBody (top 26), defScope (top 26), ["words"], ["words", "numbers", "word"], b_sitting_in⟩
def d_read_plan : Df := ⟨131, "read_plan", defArgs (top 27), defBody (top 27), defScope (top 27), ["value"], ["value", "lines", "found", "error", "number", "words", "line"], b_read_plan⟩
def d_main_k54 : Df := ⟨140, "law", defArgs (top 41), defBody (top 41), defScope (top 41), ["_law_script"], ["_law_script", "_law_deck_here", "_law_turn", "_law_plan", "_law_wide", "_law_sitting_here", "_law_text", "_law_held", "_law_due", "_law_line"], b_main_k54⟩
def defs : List Df := [d_law_deck_2, d_law_draw_2, d_law_pick, d_law_sitting, d_law_sits, d_law_plays_again, d_law_plan_of, d_law_ring_plan_2, d_law_sitting_text, d_law_plan_text, d_law_blanked, d_sitting_text, d_plan_text, d_law_words, d_is_integer, d_shares_pair, d_shares_pack, d_beside_word, d_is_sitting, d_item_word, d_plan_error, d_words_of, d_is_figure, d_is_head, d_is_row, d_sitting_in, d_read_plan, d_main_k54]
def frees : List Str := ["abs", "all", "any", "bool", "enumerate", "int", "isinstance", "len", "min", "range", "repr", "set", "sorted", "str", "tuple", "zip"]
def cns : List Str := ["DIGITS", "MAX_HELD", "MAX_PACKS", "MAX_PAIRS", "MAX_ROUNDS", "MAX_SITTINGS"]
def kwl : List (Nat × List Str × List Nat) := [(124, ["sitting"], [0]), (131, ["value"], [0]), (125, ["plan"], [0])]
theorem bnd_law_deck_2 : d_law_deck_2.Bnd := fun _ _ _ _ _ _ us hl => match us, hl with | [_], _ => rfl
theorem bnd_law_draw_2 : d_law_draw_2.Bnd := fun _ _ _ _ _ _ us hl => match us, hl with | [_, _], _ => rfl
theorem bnd_law_pick : d_law_pick.Bnd := fun _ _ _ _ _ _ us hl => match us, hl with | [_, _], _ => rfl
theorem bnd_law_sitting : d_law_sitting.Bnd := fun _ _ _ _ _ _ us hl => match us, hl with | [_, _, _], _ => rfl
theorem bnd_law_sits : d_law_sits.Bnd := fun _ _ _ _ _ _ us hl => match us, hl with | [_, _], _ => rfl
theorem bnd_law_plays_again : d_law_plays_again.Bnd := fun _ _ _ _ _ _ us hl => match us, hl with | [_, _], _ => rfl
theorem bnd_law_plan_of : d_law_plan_of.Bnd := fun _ _ _ _ _ _ us hl => match us, hl with | [_, _, _, _], _ => rfl
theorem bnd_law_ring_plan_2 : d_law_ring_plan_2.Bnd := fun _ _ _ _ _ _ us hl => match us, hl with | [_], _ => rfl
theorem bnd_law_sitting_text : d_law_sitting_text.Bnd := fun _ _ _ _ _ _ us hl => match us, hl with | [_], _ => rfl
theorem bnd_law_plan_text : d_law_plan_text.Bnd := fun _ _ _ _ _ _ us hl => match us, hl with | [_], _ => rfl
theorem bnd_law_blanked : d_law_blanked.Bnd := fun _ _ _ _ _ _ us hl => match us, hl with | [_, _], _ => rfl
theorem bnd_sitting_text : d_sitting_text.Bnd := fun _ _ _ _ _ _ us hl => match us, hl with | [_], _ => rfl
theorem bnd_plan_text : d_plan_text.Bnd := fun _ _ _ _ _ _ us hl => match us, hl with | [_], _ => rfl
theorem bnd_law_words : d_law_words.Bnd := fun _ _ _ _ _ _ us hl => match us, hl with | [_], _ => rfl
theorem bnd_is_integer : d_is_integer.Bnd := fun _ _ _ _ _ _ us hl => match us, hl with | [_, _, _], _ => rfl
theorem bnd_shares_pair : d_shares_pair.Bnd := fun _ _ _ _ _ _ us hl => match us, hl with | [_, _], _ => rfl
theorem bnd_shares_pack : d_shares_pack.Bnd := fun _ _ _ _ _ _ us hl => match us, hl with | [_, _], _ => rfl
theorem bnd_beside_word : d_beside_word.Bnd := fun _ _ _ _ _ _ us hl => match us, hl with | [_, _], _ => rfl
theorem bnd_is_sitting : d_is_sitting.Bnd := fun _ _ _ _ _ _ us hl => match us, hl with | [_, _, _], _ => rfl
theorem bnd_item_word : d_item_word.Bnd := fun _ _ _ _ _ _ us hl => match us, hl with | [_, _, _, _], _ => rfl
theorem bnd_plan_error : d_plan_error.Bnd := fun _ _ _ _ _ _ us hl => match us, hl with | [_], _ => rfl
theorem bnd_words_of : d_words_of.Bnd := fun _ _ _ _ _ _ us hl => match us, hl with | [_], _ => rfl
theorem bnd_is_figure : d_is_figure.Bnd := fun _ _ _ _ _ _ us hl => match us, hl with | [_], _ => rfl
theorem bnd_is_head : d_is_head.Bnd := fun _ _ _ _ _ _ us hl => match us, hl with | [_], _ => rfl
theorem bnd_is_row : d_is_row.Bnd := fun _ _ _ _ _ _ us hl => match us, hl with | [_], _ => rfl
theorem bnd_sitting_in : d_sitting_in.Bnd := fun _ _ _ _ _ _ us hl => match us, hl with | [_], _ => rfl
theorem bnd_read_plan : d_read_plan.Bnd := fun _ _ _ _ _ _ us hl => match us, hl with | [_], _ => rfl
theorem bnd_main_k54 : d_main_k54.Bnd := fun _ _ _ _ _ _ us hl => match us, hl with | [_], _ => rfl
theorem kbn_0 : d_sitting_text.KBnd ["sitting"] [0] := fun _ _ _ _ _ _ ws hl => match ws, hl with | [_], _ => rfl
theorem kbn_1 : d_read_plan.KBnd ["value"] [0] := fun _ _ _ _ _ _ ws hl => match ws, hl with | [_], _ => rfl
theorem kbn_2 : d_plan_text.KBnd ["plan"] [0] := fun _ _ _ _ _ _ ws hl => match ws, hl with | [_], _ => rfl
theorem bndA : AllFrom (fun _ d => d.Bnd) 0 defs := ⟨bnd_law_deck_2, bnd_law_draw_2, bnd_law_pick, bnd_law_sitting, bnd_law_sits, bnd_law_plays_again, bnd_law_plan_of, bnd_law_ring_plan_2, bnd_law_sitting_text, bnd_law_plan_text, bnd_law_blanked, bnd_sitting_text, bnd_plan_text, bnd_law_words, bnd_is_integer, bnd_shares_pair, bnd_shares_pack, bnd_beside_word, bnd_is_sitting, bnd_item_word, bnd_plan_error, bnd_words_of, bnd_is_figure, bnd_is_head, bnd_is_row, bnd_sitting_in, bnd_read_plan, bnd_main_k54, trivial⟩
theorem kbA : AllFrom (fun _ (q : Nat × List Str × List Nat) => AllFrom (fun _ d => d.id = q.1 → q.2.2.length = d.ps.length ∧ d.KBnd q.2.1 q.2.2) 0 defs) 0 kwl :=
  ⟨⟨fun h => absurd h (by decide), fun h => absurd h (by decide), fun h => absurd h (by decide), fun h => absurd h (by decide), fun h => absurd h (by decide), fun h => absurd h (by decide), fun h => absurd h (by decide), fun h => absurd h (by decide), fun h => absurd h (by decide), fun h => absurd h (by decide), fun h => absurd h (by decide), fun _ => ⟨rfl, kbn_0⟩, fun h => absurd h (by decide), fun h => absurd h (by decide), fun h => absurd h (by decide), fun h => absurd h (by decide), fun h => absurd h (by decide), fun h => absurd h (by decide), fun h => absurd h (by decide), fun h => absurd h (by decide), fun h => absurd h (by decide), fun h => absurd h (by decide), fun h => absurd h (by decide), fun h => absurd h (by decide), fun h => absurd h (by decide), fun h => absurd h (by decide), fun h => absurd h (by decide), fun h => absurd h (by decide), trivial⟩, ⟨fun h => absurd h (by decide), fun h => absurd h (by decide), fun h => absurd h (by decide), fun h => absurd h (by decide), fun h => absurd h (by decide), fun h => absurd h (by decide), fun h => absurd h (by decide), fun h => absurd h (by decide), fun h => absurd h (by decide), fun h => absurd h (by decide), fun h => absurd h (by decide), fun h => absurd h (by decide), fun h => absurd h (by decide), fun h => absurd h (by decide), fun h => absurd h (by decide), fun h => absurd h (by decide), fun h => absurd h (by decide), fun h => absurd h (by decide), fun h => absurd h (by decide), fun h => absurd h (by decide), fun h => absurd h (by decide), fun h => absurd h (by decide), fun h => absurd h (by decide), fun h => absurd h (by decide), fun h => absurd h (by decide), fun h => absurd h (by decide), fun _ => ⟨rfl, kbn_1⟩, fun h => absurd h (by decide), trivial⟩, ⟨fun h => absurd h (by decide), fun h => absurd h (by decide), fun h => absurd h (by decide), fun h => absurd h (by decide), fun h => absurd h (by decide), fun h => absurd h (by decide), fun h => absurd h (by decide), fun h => absurd h (by decide), fun h => absurd h (by decide), fun h => absurd h (by decide), fun h => absurd h (by decide), fun h => absurd h (by decide), fun _ => ⟨rfl, kbn_2⟩, fun h => absurd h (by decide), fun h => absurd h (by decide), fun h => absurd h (by decide), fun h => absurd h (by decide), fun h => absurd h (by decide), fun h => absurd h (by decide), fun h => absurd h (by decide), fun h => absurd h (by decide), fun h => absurd h (by decide), fun h => absurd h (by decide), fun h => absurd h (by decide), fun h => absurd h (by decide), fun h => absurd h (by decide), fun h => absurd h (by decide), fun h => absurd h (by decide), trivial⟩, trivial⟩
def phs (K : PySem.W.Frag) : Nat → Ph
  | 58 => ph_law_deck K
  | 59 => ph_draw
  | 60 => ph_law_pick
  | 68 => ph_law_sitting
  | 65 => ph_law_sits
  | 66 => ph_law_plays_again
  | 69 => ph_law_plan_of
  | 71 => ph_law_ring_plan
  | 136 => ph_sitting_text
  | 137 => ph_plan_text
  | 139 => ph_law_blanked
  | 124 => ph_sitting_text
  | 125 => ph_plan_text
  | 138 => ph_words_of
  | 0 => ph_is_integer
  | 5 => ph_shares_pair
  | 6 => ph_shares_pack
  | 7 => ph_beside_word
  | 4 => ph_is_sitting
  | 8 => ph_item_word
  | 9 => ph_plan_error
  | 126 => ph_words_of
  | 127 => ph_is_figure
  | 128 => ph_is_head
  | 129 => ph_is_row
  | 130 => ph_sitting_in
  | 131 => ph_read_plan
  | 140 => phLaw K 63
  | _ => fun _ _ _ _ => False
def cnv (x : Str) : Option D := (([("MAX_HELD", .int 4), ("MAX_PACKS", .int 20), ("MAX_PAIRS", .int 10), ("MAX_ROUNDS", .int 15), ("MAX_SITTINGS", .int 45), ("DIGITS", .str "0123456789")] : List (Str × D)).lookup x)
def gn (K : PySem.W.Frag) : Gn := { K := K, cn := cnv, T := phs K, free := frees, cns := cns, fns := defs.map fun d => (d.id, d.nm, d.ps.length), kws := kwl }
def okAll (K : PySem.W.Frag) : Bool := defs.zipIdx.all fun p => p.1.ok (gn K) p.2
theorem ok_all (K : PySem.W.Frag) : okAll K = true := by kernel_rfl
theorem ok_at (K : PySem.W.Frag) (i : Nat) (d : Df) (h : defs[i]? = some d) : d.ok (gn K) i = true := by
  have q := ok_all K
  unfold okAll at q
  rw [List.all_eq_true] at q
  exact q (d, i) (List.mem_iff_getElem?.mpr ⟨i, by rw [List.getElem?_zipIdx, h]; simp⟩)
def fn : List He.DefD := defs.map toD
def fa : List He.Fa := (defs.map fun d => He.Fa.glo d.nm) ++ (frees.map He.Fa.free) ++ cns.map fun x => cnF (x, (cnv x).getD .non)
abbrev R : PySem.W.OpenRow := PySem.W.OpenLaw.row PySem.Challenge.rw_evenpacks_k54_texts_of_plans
abbrev hk : PySem.W.Hook := He.hookD 4 fa fn
def ob (s : PySem.W.SharedT) : He.AlD := He.obsDG 4 fa fn (HandSHeadRun.getT s)
theorem ob_eq (s : PySem.W.SharedT) : ob s = hk.obs s.abs := He.obsDG_eq (HandSHeadRun.getT_eq s)
def loose : List Str := (["PackError", "BadPlan", "BadText", "MAX_HELD", "MAX_PACKS", "MAX_PAIRS", "MAX_ROUNDS", "MAX_SITTINGS", "is_integer", "is_sitting", "shares_pair", "shares_pack", "beside_word", "item_word", "plan_error", "DIGITS", "sitting_text", "plan_text", "words_of", "is_figure", "is_head", "is_row", "sitting_in", "read_plan", "_law_deck", "_law_draw", "_law_pick", "_law_sits", "_law_plays_again", "_law_sitting"] : List Str) ++ (["_law_plan_of", "_law_ring_plan", "_law_sitting_text", "_law_plan_text", "_law_words", "_law_blanked"] : List Str)
theorem run (w : World) : HandSHeadRun.RunEq R (PySem.W.view R.prog [41]) hk ob 20000 loose w := by
  intro os
  kernel_rfl
theorem cn_ok : (cns.all fun x => ((cnv x).getD .non) |> isCn) = true := by kernel_rfl
theorem plains (K : PySem.W.Frag) : AllFrom (fun _ d => d.Plain (gn K).toGw (phs K d.id)) 0 defs :=
  ⟨p_law_deck_2 (G := (gn K).toGw), p_law_draw_2, p_law_pick rfl, p_law_sitting rfl rfl, p_law_sits, p_law_plays_again, p_law_plan_of rfl rfl rfl, p_law_ring_plan_2, p_law_sitting_text, p_law_plan_text rfl, p_law_blanked rfl, p_sitting_text, p_plan_text rfl, p_law_words, p_is_integer, p_shares_pair, p_shares_pack, p_beside_word rfl rfl, p_is_sitting rfl rfl rfl, p_item_word rfl rfl, p_plan_error rfl rfl rfl rfl rfl, p_words_of, p_is_figure rfl, p_is_head rfl, p_is_row rfl, p_sitting_in, p_read_plan rfl rfl rfl rfl rfl, p_main_k54 (G := (gn K).toGw) rfl rfl rfl rfl rfl rfl rfl rfl rfl rfl rfl, trivial⟩
theorem walk {XP : (Str → Option Value) → Heap → Prop} : PySem.W.WalkO (PySem.W.view R.prog [41]) loose XP (fun _ h => ∃ K : PySem.W.Frag, K.In h ∧ He.SaysD fa fn K) PySem.Challenge.rw_evenpacks_k54_texts_of_plans.row.toRowW (HandSHeadRun.topDef R.prog 41) [] (fun f vs => PySem.call f vs) :=
  law_of (L := defs) gn fa 27 d_main_k54 (x := "_law_script") rfl (by kernel_rfl) ⟨rfl, by decide, by decide⟩ (by kernel_rfl) rfl rfl (by kernel_rfl) (fun _ => rfl) (fun _ => rfl)
    (fun e he => List.mem_append_left _ (List.mem_append_left _ (List.mem_map_of_mem (f := fun d : Df => He.Fa.glo d.nm) he))) (fun K y hy => List.mem_append_left _ (List.mem_append_right _ (List.mem_map_of_mem (f := He.Fa.free) (by have hy : frees.contains y = true := hy; simpa using hy))))
    (fun K y e hy he => by
      have hy : y ∈ cns := hy
      have he : cnv y = some e := he
      have h1 := List.all_eq_true.mp cn_ok y hy
      have h2 := List.mem_append_right ((defs.map fun d => He.Fa.glo d.nm) ++ (frees.map He.Fa.free)) (List.mem_map_of_mem (f := fun x => cnF (x, (cnv x).getD .non)) hy)
      simp only [he, Option.getD_some] at h1 h2
      exact ⟨h1, h2⟩)
    (AllFrom.at bndA) (fun K j i ks pm h d hd hi => by
      obtain ⟨n, hn⟩ := List.mem_iff_getElem?.mp hd
      exact AllFrom.at (AllFrom.at kbA j (i, ks, pm) h) n d hn hi.symm.symm) ok_at (fun K => AllFrom.at (plains K))
end KN
open PySem PySem.W PySem.Calls PyProof.Rows
theorem PySem.Challenge.cw_evenpacks_k54_texts_of_plans_holds : PySem.Challenge.rw_evenpacks_k54_texts_of_plans.Holds := by
  w_on; o_law
  refine HandSHeadRun.head_any (r := OpenLaw.row PySem.Challenge.rw_evenpacks_k54_texts_of_plans) (q := view (OpenLaw.row PySem.Challenge.rw_evenpacks_k54_texts_of_plans).prog [41]) (H := KN.hk) (ob := KN.ob) (M := 20000) (loose := KN.loose) (d := HandSHeadRun.topDef (OpenLaw.row PySem.Challenge.rw_evenpacks_k54_texts_of_plans).prog 41) (kwd := []) KN.ob_eq
    (by kernel_rfl) (fun s => by kernel_rfl) KN.run (by kernel_rfl) (by kernel_rfl) (by kernel_rfl) (by rfl) (by first | assumption | decide +kernel) (by decide +kernel) ⟨rfl, rfl, rfl, rfl, rfl, by decide +kernel⟩ ?hw ?hc
  case hw => w_witness2
  case hc => exact KN.walk
end
