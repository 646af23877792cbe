import PyProof.Rows.All
import Wide.All
import OpenK.AllK
import Wide.FinOn
import HandS.ForMost
import HandS.Exc
import HandS.Lambda
import HandS.HotCalls
import HandS.TryMany
import PyProof.EqKinds
import HandS.DictEq
import KE.DataEq
import HandS.Wide
import HandS.WideBits
import HandS.TupAny
import HandS.TupMul
import HandS.Deep
import HandS.Style
import HandS.IsInst
import HandS.TupLen
import HandS.WordsDict
import HandS.Small
import HandS.RaiseMore
import KE.GoesEnum
import HandS.Iter
import HandS.Zip
import HandS.Comp
import PyProof.ReprRoads
import HandS.Property
import OpenK.KOps
import HandS.Defaults
import HandS.MakeKwOnly
import PyProof.Rows.Range3
import HandS.DictComp
import HandS.HeadWalk
import HandS.Head0
import HandS.Head1
import HandS.Head2
import HandS.HeadHook4
import HandS.MakeKw
import HandS.ExcInit
import KE.KExcInit
import KE.KTryMore
import HandS.ExcField
import KE.KExcIs
import KE.DataFind
import HandS.Dict
import HandS.Set
import HandS.SetFor
import HandS.Strs
import HandS.Text
import HandS.Codes
import PyProof.ReprReads
import PyProof.ReprLen
import PySem.Challenge.RW_dearsooner_k01_limits_and_errors
set_option Elab.async false
set_option linter.all false
set_option maxRecDepth 100000
set_option maxHeartbeats 4000000
namespace DL
open PySem PySem.Spec PyProof.Rows L2
/-! ### data -/
inductive D where
  | non | bl (b : Bool) | int (i : Int) | str (s : List Nat)
  | tup (l : List D) | lst (l : List D) | dic (t : Bool) (l : List (D × D))
  | obj (c : Nat) (l : List D)
  | exn (c : Nat) (l : List D)
  | scr (l : List Int)
  | dft
  | ref (a : Addr) | fn (f : Nat) | cls (c : Nat) | ty (n : String)
/-- an exception: its class, its fields -/
structure XD where
  c : Nat
  l : List D
abbrev Gs := Addr → Option D
abbrev Bz := Addr → Prop
/-- what the names stand for -/
structure Rc where
  K : PySem.W.Frag
  cls : Nat → Option Addr
  fld : Nat → List Str
  exv : Nat → Option Value
  fns : Nat → Option Addr
  T : List (Addr × Str)
/-- a tuple: tracked, or the module's -/
def TupK (K : PySem.W.Frag) (a : Addr) (xs : List V) : Prop := ∃ (o : Obj) (its : Array Value) (n : Nat), K.lookup a = some o ∧ o.cls = .type "tuple" ∧ o.data = .seq its n ∧ its.size ≤ sizeLine ∧ Vals xs its.toList
def TupAt (K : PySem.W.Frag) (H : Hp) (a : Addr) (xs : List V) : Prop := H a = some (.tup xs) ∨ TupK K a xs
def keyD : Key → D
  | .inl i => .int i
  | .inr x => .str x.cps.toList
/-- an exception's object -/
def XO (a : Addr) (cv : Value) (dd : Option Addr) : HO := .ext fun h => ∃ ob, h.get? a = some ob ∧ ob.cls = cv ∧ ob.dict = dd ∧ ∃ vs, ob.data = .fields vs
/-- the module's list -/
def SqK (K : PySem.W.Frag) (a : Addr) (xs : List V) : Prop := ∃ (o : Obj) (its : Array Value) (n : Nat), K.lookup a = some o ∧ o.cls = .type "list" ∧ o.dict = none ∧ o.data = .seq its n ∧ its.size ≤ sizeLine ∧ Vals xs its.toList
/-- the script -/
def ScrAt (K : PySem.W.Frag) (H : Hp) (B : Bz) (a : Addr) (ns : List Int) : Prop := (∃ o : Obj, H a = some (.frz o (.lst (ns.map V.int))) ∧ ¬ B a) ∨ SqK K a (ns.map V.int)
theorem ScrAt.sql {K : PySem.W.Frag} {H : Hp} {B : Bz} {a : Addr} {ns : List Int} (h : ScrAt K H B a ns) : SqL K H a (ns.map V.int) := h.elim (fun ⟨_, h, _⟩ => .inl (.inr ⟨_, h⟩)) .inr
mutual
inductive Rep (R : Rc) (H : Hp) (B : Bz) : V → D → Prop
  | non : Rep R H B .non .non
  | bl (b : Bool) : Rep R H B (.bl b) (.bl b)
  | int (i : Int) : Rep R H B (.int i) (.int i)
  | str (x : Str) : Rep R H B (.str x) (.str x.cps.toList)
  | tup {a : Addr} {xs : List V} {ds : List D} : H a = some (.tup xs) → Reps R H B xs ds → Rep R H B (.ref a) (.tup ds)
  | dft {a : Addr} : TupK R.K a [] → Rep R H B (.ref a) .dft
  | lst {a : Addr} {xs : List V} {ds : List D} : H a = some (.lst xs) → ¬ B a → Reps R H B xs ds → Rep R H B (.ref a) (.lst ds)
  | dicK {a : Addr} {kvs : List (Key × V)} {ds : List (D × D)} : H a = some (.dK kvs) → ¬ B a → RepK R H B kvs ds → Rep R H B (.ref a) (.dic false ds)
  | dicT {a : Addr} {kvs : List (List Key × V)} {ds : List (D × D)} : H a = some (.dT kvs) → ¬ B a → RepT R H B kvs ds → Rep R H B (.ref a) (.dic true ds)
  | obj {a C dx : Addr} {c : Nat} {fs : List (Str × V)} {ds : List D} : R.cls c = some C → H a = some (.ins C dx fs) → ¬ B a → fs.map Prod.fst = (R.fld c).take fs.length → Reps R H B (fs.map Prod.snd) ds → Rep R H B (.ref a) (.obj c ds)
  | exn {a d : Addr} {c : Nat} {cv : Value} {fs : List (Str × V)} {ds : List D} : R.exv c = some cv → H a = some (XO a cv (some d)) → H d = some (.xd fs) → ¬ B a → ¬ B d → fs.map Prod.fst = (R.fld c).take fs.length → Reps R H B (fs.map Prod.snd) ds → Rep R H B (.ref a) (.exn c ds)
  | exn0 {a : Addr} {c : Nat} {cv : Value} : R.exv c = some cv → H a = some (XO a cv none) → ¬ B a → Rep R H B (.ref a) (.exn c [])
  | scr {a : Addr} {ns : List Int} : ScrAt R.K H B a ns → Rep R H B (.ref a) (.scr ns)
  | ref (a : Addr) : Rep R H B (.ref a) (.ref a)
  | fn {a : Addr} {f : Nat} : R.fns f = some a → Rep R H B (.ref a) (.fn f)
  | cls {a : Addr} {c : Nat} : R.cls c = some a → Rep R H B (.ref a) (.cls c)
  | ty (n : String) : Rep R H B (.ty n) (.ty n)
inductive Reps (R : Rc) (H : Hp) (B : Bz) : List V → List D → Prop
  | nil : Reps R H B [] []
  | cons {v : V} {vs : List V} {d : D} {ds : List D} : Rep R H B v d → Reps R H B vs ds → Reps R H B (v :: vs) (d :: ds)
inductive RepK (R : Rc) (H : Hp) (B : Bz) : List (Key × V) → List (D × D) → Prop
  | nil : RepK R H B [] []
  | cons {k : Key} {v : V} {r : List (Key × V)} {d : D} {ds : List (D × D)} : Rep R H B v d → RepK R H B r ds → RepK R H B ((k, v) :: r) ((keyD k, d) :: ds)
inductive RepT (R : Rc) (H : Hp) (B : Bz) : List (List Key × V) → List (D × D) → Prop
  | nil : RepT R H B [] []
  | cons {k : List Key} {v : V} {r : List (List Key × V)} {d : D} {ds : List (D × D)} : Rep R H B v d → RepT R H B r ds → RepT R H B ((k, v) :: r) ((.tup (k.map keyD), d) :: ds)
end
/-- the contents of a busy object -/
inductive RepC (R : Rc) (H : Hp) (B : Bz) (a : Addr) : D → Prop
  | lst {xs : List V} {ds : List D} : H a = some (.lst xs) → Reps R H B xs ds → RepC R H B a (.lst ds)
  | dicK {kvs : List (Key × V)} {ds : List (D × D)} : H a = some (.dK kvs) → RepK R H B kvs ds → RepC R H B a (.dic false ds)
  | dicT {kvs : List (List Key × V)} {ds : List (D × D)} : H a = some (.dT kvs) → RepT R H B kvs ds → RepC R H B a (.dic true ds)
  | obj {C dx : Addr} {c : Nat} {fs : List (Str × V)} {ds : List D} : R.cls c = some C → H a = some (.ins C dx fs) → fs.map Prod.fst = (R.fld c).take fs.length → Reps R H B (fs.map Prod.snd) ds → RepC R H B a (.obj c ds)
/-- nothing stands there, but a table -/
def Fr (H : Hp) (a : Addr) : Prop := ∀ u, H a = some u → ∃ ps, u = .tbl ps
theorem Fr.of {H : Hp} {a : Addr} (h : H a = none) : Fr H a := fun u e => by rw [h] at e; cases e
theorem Fr.no {H : Hp} {a : Addr} {u : HO} (f : Fr H a) (e : H a = some u) (n : ∀ ps, u ≠ .tbl ps) : False := let ⟨ps, q⟩ := f u e; n ps q
/-- what stays -/
def Ext (H : Hp) (G : Gs) (H' : Hp) (G' : Gs) : Prop :=
  (∀ a o, H a = some o → (∀ ps, o ≠ .tbl ps) → G a = none → H' a = some o ∧ G' a = none) ∧ (∀ a xs, H a = some (.tup xs) → H' a = some (.tup xs)) ∧ ∀ a, Fr H' a → Fr H a
theorem Ext.refl (H : Hp) (G : Gs) : Ext H G H G := ⟨fun _ _ h _ g => ⟨h, g⟩, fun _ _ h => h, fun _ h => h⟩
theorem Ext.trans {H H1 H2 : Hp} {G G1 G2 : Gs} (a : Ext H G H1 G1) (b : Ext H1 G1 H2 G2) : Ext H G H2 G2 :=
  ⟨fun c o h n g => let ⟨h1, g1⟩ := a.1 c o h n g; b.1 c o h1 n g1, fun c xs h => b.2.1 c xs (a.2.1 c xs h), fun c h => a.2.2 c (b.2.2 c h)⟩
/-- the busy ones: cells, frames -/
def bz (G : Gs) (F : Bz) : Bz := fun a => G a ≠ none ∨ F a
theorem bz_no {G : Gs} {F : Bz} {a : Addr} : ¬ bz G F a ↔ G a = none ∧ ¬ F a := by
  unfold bz
  constructor
  · intro h
    refine ⟨?_, fun f => h (.inr f)⟩
    cases e : G a with
    | none => rfl
    | some d => exact (h (.inl (by rw [e]; simp))).elim
  · rintro ⟨h1, h2⟩ (h | h)
    · exact h h1
    · exact h2 h
/-- what a transport of representations needs -/
structure Mv (H : Hp) (B : Bz) (H' : Hp) (B' : Bz) : Prop where
  o : ∀ a o, H a = some o → (∀ ps, o ≠ .tbl ps) → ¬ B a → H' a = some o ∧ ¬ B' a
  t : ∀ a xs, H a = some (.tup xs) → H' a = some (.tup xs)
theorem TupAt.mv {K : PySem.W.Frag} {H H' : Hp} {B B' : Bz} {a : Addr} {xs : List V} (m : Mv H B H' B') (h : TupAt K H a xs) : TupAt K H' a xs := h.elim (fun h => .inl (m.t _ _ h)) .inr
theorem ScrAt.mv {K : PySem.W.Frag} {H H' : Hp} {B B' : Bz} {a : Addr} {ns : List Int} (m : Mv H B H' B') (h : ScrAt K H B a ns) : ScrAt K H' B' a ns := h.elim (fun ⟨o, h, n⟩ => .inl ⟨o, (m.o _ _ h (fun _ z => nomatch z) n).1, (m.o _ _ h (fun _ z => nomatch z) n).2⟩) .inr
theorem xo_tbl {a : Addr} {cv : Value} {dd : Option Addr} : ∀ ps, XO a cv dd ≠ .tbl ps := fun ps z => by
  unfold XO at z
  cases z
section
variable {R : Rc} {H H' : Hp} {B B' : Bz}
mutual
theorem Rep.mv (m : Mv H B H' B') : ∀ {v : V} {d : D}, Rep R H B v d → Rep R H' B' v d
  | _, _, .non => .non
  | _, _, .bl b => .bl b
  | _, _, .int i => .int i
  | _, _, .str x => .str x
  | _, _, .tup h r => .tup (m.t _ _ h) (Reps.mv m r)
  | _, _, .dft h => .dft h
  | _, _, .lst h n r => .lst (m.o _ _ h (fun _ z => nomatch z) n).1 (m.o _ _ h (fun _ z => nomatch z) n).2 (Reps.mv m r)
  | _, _, .dicK h n r => .dicK (m.o _ _ h (fun _ z => nomatch z) n).1 (m.o _ _ h (fun _ z => nomatch z) n).2 (RepK.mv m r)
  | _, _, .dicT h n r => .dicT (m.o _ _ h (fun _ z => nomatch z) n).1 (m.o _ _ h (fun _ z => nomatch z) n).2 (RepT.mv m r)
  | _, _, .obj c h n f r => .obj c (m.o _ _ h (fun _ z => nomatch z) n).1 (m.o _ _ h (fun _ z => nomatch z) n).2 f (Reps.mv m r)
  | _, _, .exn c h hd n nd f r => .exn c (m.o _ _ h xo_tbl n).1 (m.o _ _ hd (fun _ z => nomatch z) nd).1 (m.o _ _ h xo_tbl n).2 (m.o _ _ hd (fun _ z => nomatch z) nd).2 f (Reps.mv m r)
  | _, _, .exn0 c h n => .exn0 c (m.o _ _ h xo_tbl n).1 (m.o _ _ h xo_tbl n).2
  | _, _, .scr h => .scr (h.mv m)
  | _, _, .ref a => .ref a
  | _, _, .fn h => .fn h
  | _, _, .cls h => .cls h
  | _, _, .ty n => .ty n
theorem Reps.mv (m : Mv H B H' B') : ∀ {vs : List V} {ds : List D}, Reps R H B vs ds → Reps R H' B' vs ds
  | _, _, .nil => .nil
  | _, _, .cons r t => .cons (Rep.mv m r) (Reps.mv m t)
theorem RepK.mv (m : Mv H B H' B') : ∀ {vs : List (Key × V)} {ds : List (D × D)}, RepK R H B vs ds → RepK R H' B' vs ds
  | _, _, .nil => .nil
  | _, _, .cons r t => .cons (Rep.mv m r) (RepK.mv m t)
theorem RepT.mv (m : Mv H B H' B') : ∀ {vs : List (List Key × V)} {ds : List (D × D)}, RepT R H B vs ds → RepT R H' B' vs ds
  | _, _, .nil => .nil
  | _, _, .cons r t => .cons (Rep.mv m r) (RepT.mv m t)
end
theorem RepC.mv {a : Addr} {d : D} (m : Mv H B H' B') (h : RepC R H B a d) (k : ∀ o, H a = some o → (∀ ps, o ≠ .tbl ps) → H' a = some o) : RepC R H' B' a d := by
  cases h with
  | lst h r => exact .lst (k _ h fun _ z => nomatch z) (r.mv m)
  | dicK h r => exact .dicK (k _ h fun _ z => nomatch z) (r.mv m)
  | dicT h r => exact .dicT (k _ h fun _ z => nomatch z) (r.mv m)
  | obj c h f r => exact .obj c (k _ h fun _ z => nomatch z) f (r.mv m)
/-- less busy -/
theorem Mv.less (h : ∀ a, B' a → B a) : Mv H B H B' := ⟨fun a o e _ n => ⟨e, fun b => n (h a b)⟩, fun _ _ e => e⟩
/-- an address that is not there yet -/
theorem Mv.more {p : Addr} (hp : H p = none) : Mv H B H (fun a => B a ∨ a = p) := ⟨fun a o e _ n => ⟨e, fun b => b.elim n fun z => by rw [z, hp] at e; cases e⟩, fun _ _ e => e⟩
theorem RepC.there {a : Addr} {d : D} (h : RepC R H B a d) : ∃ o, H a = some o ∧ (∀ ps, o ≠ .tbl ps) ∧ Mut (some o) := by
  cases h with
  | lst h r => exact ⟨_, h, fun _ z => (nomatch z), trivial⟩
  | dicK h r => exact ⟨_, h, fun _ z => (nomatch z), trivial⟩
  | dicT h r => exact ⟨_, h, fun _ z => (nomatch z), trivial⟩
  | obj c h f r => exact ⟨_, h, fun _ z => (nomatch z), trivial⟩
/-- .. as a value of those that are not busy -/
theorem RepC.rep {a : Addr} {d : D} (h : RepC R H B a d) (n : ¬ B a) : Rep R H B (.ref a) d := by
  cases h with
  | lst h r => exact .lst h n r
  | dicK h r => exact .dicK h n r
  | dicT h r => exact .dicT h n r
  | obj c h f r => exact .obj c h n f r
theorem Reps.length {vs : List V} {ds : List D} (r : Reps R H B vs ds) : vs.length = ds.length := by
  induction vs generalizing ds with
  | nil => cases r; rfl
  | cons v vs ih => cases r with | cons h t => exact congrArg Nat.succ (ih t)
theorem Reps.get {i : Nat} : ∀ {vs : List V} {ds : List D} {d : D}, Reps R H B vs ds → ds[i]? = some d → ∃ v, vs[i]? = some v ∧ Rep R H B v d := by
  induction i with
  | zero =>
    intro vs ds d r e
    cases r with
    | nil => cases e
    | cons h t => cases e; exact ⟨_, rfl, h⟩
  | succ i ih =>
    intro vs ds d r e
    cases r with
    | nil => cases e
    | cons h t => exact ih t e
theorem Reps.append {vs ws : List V} {ds es : List D} (r : Reps R H B vs ds) (q : Reps R H B ws es) : Reps R H B (vs ++ ws) (ds ++ es) := by
  induction vs generalizing ds with
  | nil => cases r; exact q
  | cons v vs ih => cases r with | cons h t => exact .cons h (ih t)
theorem Reps.take {vs : List V} {ds : List D} (r : Reps R H B vs ds) (n : Nat) : Reps R H B (vs.take n) (ds.take n) := by
  induction vs generalizing ds n with
  | nil => cases r; simp; exact .nil
  | cons v vs ih =>
    cases r with
    | cons h t =>
      cases n with
      | zero => exact .nil
      | succ n => exact .cons h (ih t n)
theorem Reps.drop {vs : List V} {ds : List D} (r : Reps R H B vs ds) (n : Nat) : Reps R H B (vs.drop n) (ds.drop n) := by
  induction vs generalizing ds n with
  | nil => cases r; simp; exact .nil
  | cons v vs ih =>
    cases r with
    | cons h t =>
      cases n with
      | zero => exact .cons h t
      | succ n => exact ih t n
theorem Reps.set {vs : List V} {ds : List D} {v : V} {d : D} (r : Reps R H B vs ds) (q : Rep R H B v d) (n : Nat) : Reps R H B (vs.set n v) (ds.set n d) := by
  induction vs generalizing ds n with
  | nil => cases r; exact .nil
  | cons w vs ih =>
    cases r with
    | cons h t =>
      cases n with
      | zero => exact .cons q t
      | succ n => exact .cons h (ih t n)
end
/-- the cells, the tables, the frames -/
structure RelG (R : Rc) (G : Gs) (F : Bz) (H : Hp) : Prop where
  cell : ∀ a d, G a = some d → RepC R H (bz G F) a d
  tabs : LamX.Tabs R.T H
  fr : ∀ a, F a → G a = none ∧ ∃ o, H a = some o ∧ ∀ ps, o ≠ .tbl ps
theorem Ext.mv {H H' : Hp} {G G' : Gs} {F : Bz} (e : Ext H G H' G') : Mv H (bz G F) H' (bz G' F) :=
  ⟨fun a o h n b => let ⟨b1, b2⟩ := bz_no.mp b; ⟨(e.1 a o h n b1).1, bz_no.mpr ⟨(e.1 a o h n b1).2, b2⟩⟩, e.2.1⟩
theorem Ext.of {H H' : Hp} {G : Gs} (h : ∀ a o, H a = some o → H' a = some o) : Ext H G H' G := ⟨fun a o e _ g => ⟨h a o e, g⟩, fun a xs e => h a _ e, fun a f u e => f u (h a u e)⟩
theorem Ext.upd {H : Hp} {G : Gs} {p : Addr} {o : HO} (h : H p = none) : Ext H G (upd H p o) G := Ext.of fun a u e => by rw [upd_ne (ne_of_none e h)]; exact e
end DL
set_option Elab.async false
set_option linter.all false
set_option maxRecDepth 100000
set_option maxHeartbeats 4000000
namespace DL
open PySem PySem.Spec PyProof.Rows L2
abbrev St := L2.St
abbrev Rho := List (Option D)
abbrev KD := D → Gs → Prop
abbrev XKD := XD → Gs → Prop
abbrev W := Gs → KD → XKD → Prop
abbrev Orc := Nat → List D → W
abbrev WE := Orc → Rho → W
abbrev WA := Orc → Rho → Gs → (List D → Gs → Prop) → XKD → Prop
abbrev WT := Orc → Rho → Gs → (Bool → Gs → Prop) → XKD → Prop
/-- the frames' busy ones and the own slots' addresses -/
def fo (F : Bz) (o : List Nat) (ad : Nat → Addr) : Bz := fun a => F a ∨ ∃ i, i ∈ o ∧ a = ad i
structure RelS (R : Rc) (F : Bz) (o : List Nat) (ad : Nat → Addr) (ρ : Rho) (G : Gs) (σ : St) (H : Hp) : Prop where
  g : RelG R G (fo F o ad) H
  len : ρ.length = σ.length
  slot : ∀ (i : Nat) d, ρ[i]? = some (some d) → i ∉ o → ∃ v, σ[i]? = some (some v) ∧ Rep R H (bz G (fo F o ad)) v d
  own : ∀ i, i ∈ o → ∃ d, ρ[i]? = some (some d) ∧ σ[i]? = some (some (.ref (ad i))) ∧ RepC R H (bz G (fo F o ad)) (ad i) d ∧ ¬ F (ad i)
  inj : ∀ i j, i ∈ o → j ∈ o → ad i = ad j → i = j
section
variable {R : Rc} {F : Bz} {o o' : List Nat} {ad : Nat → Addr} {ρ : Rho} {G G' : Gs} {σ : St} {H H' : Hp}
theorem RelS.step (r : RelS R F o ad ρ G σ H) (e : Ext H G H' G') (g : RelG R G' (fo F o ad) H') : RelS R F o ad ρ G' σ H' where
  g := g
  len := r.len
  slot := fun i d h n => let ⟨v, h1, h2⟩ := r.slot i d h n; ⟨v, h1, h2.mv e.mv⟩
  own := fun i h => by
    obtain ⟨d, h1, h2, h3, h4⟩ := r.own i h
    refine ⟨d, h1, h2, h3.mv e.mv fun o ho n => ?_, h4⟩
    exact (e.1 _ o ho n (r.g.fr _ (.inr ⟨i, h, rfl⟩)).1).1
  inj := r.inj
theorem fo_sub {a : Addr} (h : ∀ i, i ∈ o' → i ∈ o) (q : fo F o' ad a) : fo F o ad a := q.elim .inl fun ⟨i, h1, h2⟩ => .inr ⟨i, h i h1, h2⟩
theorem bz_sub {F F' : Bz} {a : Addr} (h : ∀ a, F' a → F a) (q : bz G F' a) : bz G F a := q.elim .inl fun q => .inr (h a q)
theorem RelG.less {F F' : Bz} (g : RelG R G F H) (h : ∀ a, F' a → F a) : RelG R G F' H :=
  ⟨fun a d e => (g.cell a d e).mv (Mv.less fun a q => bz_sub h q) fun _ e _ => e, g.tabs, fun a q => g.fr a (h a q)⟩
/-- own slots are given up -/
theorem RelS.freeze (r : RelS R F o ad ρ G σ H) (h : ∀ i, i ∈ o' → i ∈ o) : RelS R F o' ad ρ G σ H := by
  have m : Mv H (bz G (fo F o ad)) H (bz G (fo F o' ad)) := Mv.less fun a q => bz_sub (fun a => fo_sub h) q
  refine ⟨r.g.less fun a => fo_sub h, r.len, fun i d e n => ?_, fun i hi => ?_, fun i j hi hj => r.inj i j (h i hi) (h j hj)⟩
  · by_cases hi : i ∈ o
    · obtain ⟨d', h1, h2, h3, h4⟩ := r.own i hi
      rw [e] at h1
      cases h1
      refine ⟨_, h2, (h3.mv m fun _ e _ => e).rep fun q => ?_⟩
      obtain ⟨b1, b2⟩ := bz_no.mp (show ¬ bz G (fun _ => False) (ad i) from fun z => z.elim (fun z => z (r.g.fr _ (.inr ⟨i, hi, rfl⟩)).1) id)
      rcases q with q | q | ⟨j, hj, e⟩
      · exact q b1
      · exact h4 q
      · exact n (r.inj i j hi (h j hj) e ▸ hj)
    · obtain ⟨v, h1, h2⟩ := r.slot i d e hi
      exact ⟨v, h1, h2.mv m⟩
  · obtain ⟨d, h1, h2, h3, h4⟩ := r.own i (h i hi)
    exact ⟨d, h1, h2, h3.mv m fun _ e _ => e, h4⟩
/-- another frame's view -/
theorem RelS.nil (g : RelG R G F H) (hl : ρ.length = σ.length) (h : ∀ (i : Nat) d, ρ[i]? = some (some d) → ∃ v, σ[i]? = some (some v) ∧ Rep R H (bz G F) v d) : RelS R F [] ad ρ G σ H := by
  have e : fo F [] ad = F := funext fun a => propext ⟨fun q => q.elim id fun ⟨i, h, _⟩ => (nomatch h), .inl⟩
  exact ⟨by rw [e]; exact g, hl, fun i d q _ => by rw [e]; exact h i d q, fun i h => (nomatch h), fun i j h => (nomatch h)⟩
end
theorem fo_nil {F : Bz} {ad : Nat → Addr} : fo F [] ad = F := funext fun a => propext ⟨fun q => q.elim id fun ⟨i, h, _⟩ => (nomatch h), .inl⟩
/-- an exception -/
def RelX (R : Rc) (H : Hp) (B : Bz) (cls : Value) (dd : Option Addr) (x : XD) : Prop :=
  ∃ cv, R.exv x.c = some cv ∧ cls = cv ∧ ((x.l = [] ∧ dd = none) ∨ ∃ d fs, dd = some d ∧ H d = some (.xd fs) ∧ ¬ B d ∧ fs.map Prod.fst = (R.fld x.c).take fs.length ∧ Reps R H B (fs.map Prod.snd) x.l)
/-- the lift: rp: how the result is represented -/
def LG {α β : Type} (rp : Rc → Bz → List Nat → (Nat → Addr) → Gs → Hp → α → β → Prop) (R : Rc) (o : List Nat) (M : Orc) (Wx : WX) (f : Orc → Rho → Gs → (β → Gs → Prop) → XKD → Prop) : St → Hp → (α → Hp → Prop) → Prop :=
  fun σ H Q => ∃ F ad ρ G Qd Ed, RelS R F o ad ρ G σ H ∧ f M ρ G Qd Ed ∧
    (∀ v H' d G', Ext H G H' G' → RelG R G' (fo F o ad) H' → rp R F o ad G' H' v d → Qd d G' → Q v H') ∧
    (∀ cls dd x H' G', Ext H G H' G' → RelG R G' (fo F o ad) H' → RelX R H' (bz G' (fo F o ad)) cls dd x → Ed x G' → Wx cls dd σ H')
/-- strong -/
def rpS : Rc → Bz → List Nat → (Nat → Addr) → Gs → Hp → V → D → Prop := fun R F o ad G H v d => Rep R H (bz G (fo F o ad)) v d
/-- an operand: an own slot's object, too -/
def rpO : Rc → Bz → List Nat → (Nat → Addr) → Gs → Hp → V → D → Prop := fun R F o ad G H v d => Rep R H (bz G (fo F o ad)) v d ∨ ∃ i, i ∈ o ∧ v = .ref (ad i) ∧ RepC R H (bz G (fo F o ad)) (ad i) d
def rpA (k : Nat) : Rc → Bz → List Nat → (Nat → Addr) → Gs → Hp → List V → List D → Prop := fun R F o ad G H v d => Reps R H (bz G (fo F o ad)) v d ∧ v.length = k
def rpB : Rc → Bz → List Nat → (Nat → Addr) → Gs → Hp → Bool → Bool → Prop := fun _ _ _ _ _ _ v d => v = d
abbrev LE := @LG V D rpS
abbrev LO := @LG V D rpO
abbrev LA (k : Nat) := @LG (List V) (List D) (rpA k)
abbrev LT := @LG Bool Bool rpB
/-! ### the program -/
/-- a def: where it stands, how many parameters -/
structure FnE where
  addr : Addr
  fd : FuncData
  ps : List Str
  calm : Bool
structure Gl where
  P : Program
  w : World
  mg : Str → Option Value
  base : Heap
  R : Rc
  M : Nat → Orc
  tb : Nat → Option FnE
abbrev lv (n : Nat) : Nat := 6 * n
/-- a promise from a W -/
def spD (R : Rc) (k : Nat) (f : List D → W) : Sp := fun vs H Q E => ∃ F ds G Qd Ed, ds.length = k ∧ RelG R G F H ∧ Reps R H (bz G F) vs ds ∧ f ds G Qd Ed ∧
  (∀ v H' d G', Ext H G H' G' → RelG R G' F H' → Rep R H' (bz G' F) v d → Qd d G' → Q v H') ∧
  (∀ cls dd x H' G', Ext H G H' G' → RelG R G' F H' → RelX R H' (bz G' F) cls dd x → Ed x G' → E cls dd H')
/-- a def keeps it, at any level -/
structure OkF (P : Program) (w : World) (K : PySem.W.Frag) (mg : Str → Option Value) (base : Heap) (c : Bool) (k : Nat) (f : Addr) (fd : FuncData) (ps : List Str) (sp : Sp) : Prop where
  len : ∀ vs H Q E, sp vs H Q E → vs.length = ps.length
  run : ∀ (A : Around) (outer : List Env) (s : Shared) (H : Hp) (args : Args) (us : List Value) (vs : List V) (Q : VK) (E : XK), L2H.RoomH k A → A.guards = some [] → (c = true → A.handled = none) → Env0 P w K mg base A outer s H → BindsTo s fd args (ps.zip us) → Vals vs us → sp vs H Q E →
    codeAny (model P w) A (.call (.ref f) args) (CR (L2.CX P w) outer P w H s Q E) s
def Gl.ok (Γ : Gl) (n : Nat) : Prop := ∀ f e, Γ.tb f = some e → OkF Γ.P Γ.w Γ.R.K Γ.mg Γ.base e.calm (lv n) e.addr e.fd e.ps (spD Γ.R e.ps.length (Γ.M n f))
/-! ### where one stands -/
structure Sc where
  N : List Str
  sc : Scope
  calm : Bool
  fnc : Option (List (Str × NameKind))   -- a block's own names; a def: none
  rm : Nat   -- room beyond the level's
  cod : Option (Addr × Str) := none   -- the code object, the qualified name (where lambdas are made)
/-- the frame that runs is of this scope -/
structure At (Γ : Gl) (S : Sc) (n : Nat) (X : Cx) (Wx : WX) : Prop where
  prog : X.prog = Γ.P
  w : X.w = Γ.w
  K : X.K = Γ.R.K
  mg : X.mg = Γ.mg
  base : X.base = Γ.base
  N : X.N = S.N
  nd : X.N.Nodup
  sc : X.env.scope = S.sc
  calm : X.calm = S.calm
  fn : ∀ x, X.fn x = (match S.fnc with | none => true | some l => l.lookup x == some .cell)
  tk : Takes X Wx
  room : L2H.RoomH (lv n + S.rm) X.A
  gd : X.A.guards = some []
  cod : ∀ c q, S.cod = some (c, q) → X.env.code = .ref c ∧ X.env.qual = q
  ok : Γ.ok n
  pass : PassesOwn (model X.prog X.w) X.A X.env X.xe
structure JE (Γ : Gl) (S : Sc) (o : List Nat) (e : Expr) (f : WE) : Prop where
  run : ∀ n X Wx, At Γ S n X Wx → PE X e (LE Γ.R o (Γ.M n) Wx f)
structure JO (Γ : Gl) (S : Sc) (o : List Nat) (e : Expr) (f : WE) : Prop where
  run : ∀ n X Wx, At Γ S n X Wx → PE X e (LO Γ.R o (Γ.M n) Wx f)
structure JA (Γ : Gl) (S : Sc) (o : List Nat) (es : List Expr) (f : WA) : Prop where
  run : ∀ n X Wx, At Γ S n X Wx → PA X es (LA es.length Γ.R o (Γ.M n) Wx f)
structure JT (Γ : Gl) (S : Sc) (o : List Nat) (e : Expr) (f : WT) : Prop where
  run : ∀ n X Wx, At Γ S n X Wx → PT X e (LT Γ.R o (Γ.M n) Wx f)
theorem pe_anti {X : Cx} {e : Expr} {t t' : TE} (h : PE X e t) (i : ∀ σ H Q, t' σ H Q → t σ H Q) : PE X e t' := ⟨fun pins s σ H Q I q => h.run pins s σ H Q I (i σ H Q q)⟩
theorem pt_anti {X : Cx} {e : Expr} {t t' : TT} (h : PT X e t) (i : ∀ σ H Q, t' σ H Q → t σ H Q) : PT X e t' := ⟨fun pins s σ H Q I q => h.run pins s σ H Q I (i σ H Q q)⟩
theorem pa_anti {X : Cx} {e : List Expr} {t t' : TA} (h : PA X e t) (i : ∀ σ H Q, t' σ H Q → t σ H Q) : PA X e t' := ⟨fun pos pins s σ H Q I q => h.run pos pins s σ H Q I (i σ H Q q)⟩
theorem JE.jo {Γ : Gl} {S : Sc} {o : List Nat} {e : Expr} {f : WE} (h : JE Γ S o e f) : JO Γ S o e f :=
  ⟨fun n X Wx a => pe_anti (h.run n X Wx a) fun σ H Q ⟨F, ad, ρ, G, Qd, Ed, rs, hf, k1, k2⟩ => ⟨F, ad, ρ, G, Qd, Ed, rs, hf, fun v H' d G' e g r q => k1 v H' d G' e g (.inl r) q, k2⟩⟩
/-! ### contents -/
/-- what stands behind a cell -/
abbrev lk (G : Gs) : D → D
  | .ref a => (G a).getD (.ref a)
  | d => d
/-- what an operation sees -/
def Vw (R : Rc) (H : Hp) (B : Bz) (v : V) (d : D) : Prop := Rep R H B v d ∨ ∃ a, v = .ref a ∧ RepC R H B a d
theorem rpO.view {R : Rc} {F : Bz} {o : List Nat} {ad : Nat → Addr} {G : Gs} {H : Hp} {v : V} {d : D} (r : rpO R F o ad G H v d) (g : RelG R G (fo F o ad) H) : Vw R H (bz G (fo F o ad)) v (lk G d) := by
  rcases r with r | ⟨i, hi, rfl, r⟩
  · cases d with
    | ref a =>
      cases r
      cases e : G a with
      | none => exact .inl (by rw [lk, e]; exact .ref a)
      | some c => exact .inr ⟨a, rfl, by rw [lk, e]; exact g.cell a c e⟩
    | _ => exact .inl r
  · refine .inr ⟨_, rfl, ?_⟩
    cases r with
    | lst h r => exact .lst h r
    | dicK h r => exact .dicK h r
    | dicT h r => exact .dicT h r
    | obj c h f r => exact .obj c h f r
section
variable {R : Rc} {H H' : Hp} {B B' : Bz} {v : V}
theorem Vw.lst {ds : List D} (h : Vw R H B v (.lst ds)) : ∃ a xs, v = .ref a ∧ H a = some (.lst xs) ∧ Reps R H B xs ds := by
  rcases h with h | ⟨a, rfl, h⟩
  · cases h with | lst h n r => exact ⟨_, _, rfl, h, r⟩
  · cases h with | lst h r => exact ⟨_, _, rfl, h, r⟩
theorem Vw.tup {ds : List D} (h : Vw R H B v (.tup ds)) : ∃ a xs, v = .ref a ∧ H a = some (.tup xs) ∧ Reps R H B xs ds := by
  rcases h with h | ⟨a, rfl, h⟩
  · cases h with | tup h r => exact ⟨_, _, rfl, h, r⟩
  · cases h
theorem Vw.dft (h : Vw R H B v .dft) : ∃ a, v = .ref a ∧ TupK R.K a [] := by
  rcases h with h | ⟨a, rfl, h⟩
  · cases h with | dft h => exact ⟨_, rfl, h⟩
  · cases h
theorem Vw.int {i : Int} (h : Vw R H B v (.int i)) : v = .int i := by
  rcases h with h | ⟨a, rfl, h⟩
  · cases h; rfl
  · cases h
theorem Vw.bl {i : Bool} (h : Vw R H B v (.bl i)) : v = .bl i := by
  rcases h with h | ⟨a, rfl, h⟩
  · cases h; rfl
  · cases h
theorem Vw.non (h : Vw R H B v .non) : v = .non := by
  rcases h with h | ⟨a, rfl, h⟩
  · cases h; rfl
  · cases h
theorem Vw.str {i : List Nat} (h : Vw R H B v (.str i)) : v = .str ⟨i.toArray⟩ := by
  rcases h with h | ⟨a, rfl, h⟩
  · cases h; rfl
  · cases h
theorem Vw.dicK {ds : List (D × D)} (h : Vw R H B v (.dic false ds)) : ∃ a kvs, v = .ref a ∧ H a = some (.dK kvs) ∧ RepK R H B kvs ds := by
  rcases h with h | ⟨a, rfl, h⟩
  · cases h with | dicK h n r => exact ⟨_, _, rfl, h, r⟩
  · cases h with | dicK h r => exact ⟨_, _, rfl, h, r⟩
theorem Vw.dicT {ds : List (D × D)} (h : Vw R H B v (.dic true ds)) : ∃ a kvs, v = .ref a ∧ H a = some (.dT kvs) ∧ RepT R H B kvs ds := by
  rcases h with h | ⟨a, rfl, h⟩
  · cases h with | dicT h n r => exact ⟨_, _, rfl, h, r⟩
  · cases h with | dicT h r => exact ⟨_, _, rfl, h, r⟩
theorem Vw.obj {c : Nat} {ds : List D} (h : Vw R H B v (.obj c ds)) : ∃ a C dx fs, v = .ref a ∧ R.cls c = some C ∧ H a = some (.ins C dx fs) ∧ fs.map Prod.fst = (R.fld c).take fs.length ∧ Reps R H B (fs.map Prod.snd) ds := by
  rcases h with h | ⟨a, rfl, h⟩
  · cases h with | obj hc h n f r => exact ⟨_, _, _, _, rfl, hc, h, f, r⟩
  · cases h with | obj hc h f r => exact ⟨_, _, _, _, rfl, hc, h, f, r⟩
end
theorem rep_str {R : Rc} {H : Hp} {B : Bz} (l : List Nat) : Rep R H B (.str ⟨l.toArray⟩) (.str l) := by
  have := Rep.str (R := R) (H := H) (B := B) ⟨l.toArray⟩
  simpa using this
end DL
set_option Elab.async false
set_option linter.all false
set_option maxRecDepth 100000
set_option maxHeartbeats 4000000
namespace DLS
open PySem PySem.Spec PyProof.Rows L2 PySem.SeqAt MeetsSeq
section
variable {prog : Program} {w : World} {A : Around} {s : Shared}
theorem str_eq_declines_dict (b : Str) (u : Tok) (l : Addr) (c : Value) (es : Array DictEntry) (ep : Nat) (dd : Option Addr) (sl : Array (Option Value)) :
    Meets (Builtin.«str.__eq__» ⟨[.str b u, .ref l], []⟩) (fun _ R s => s.heap.get? l = some { cls := c, dict := dd, data := .dict es ep, slots := sl } ∧ R (.ok (.ret .notImplemented)) s) :=
  .of_wp fun prog w A R s h => by obtain ⟨hp, g, d, tk, os⟩ := s; obtain ⟨hl, h⟩ := h; wp_walk using wpAny_loadPart' hl, wpAny_load hl; exact ⟨_, rfl, h⟩
theorem dict_eq_declines_str {a : Addr} {b : Str} {u : Tok} {E Q : Value → Shared → Prop} (da : s.TypeIs (.ref a) "dict") (hq : Q .notImplemented s) :
    wpAny (model prog w) A (call (.builtin "dict.__eq__") [.ref a, .str b u]) Q E s := by
  refine wpAny_call_entry PySem.F.slot_dict_eq_refl da PySem.F.entry_dict_eq ?_ (PySem.F.args_dict_eq_2 _ _)
  show wpAny _ _ (Builtin.Dict.dictSlotArgs "__eq__" ⟨[.ref a, .str b u], []⟩ >>= _) _ _ s
  refine wpAny_bind ?_
  unfold Builtin.Dict.dictSlotArgs
  refine wpAny_bind (wpAny_notOrdered_dict da ?_)
  show wpAny _ _ (pure (Value.ref a, Value.str b u)) _ _ s
  refine wpAny_pure ?_
  refine wpAny_bind (wpAny_isInstance (T := "str") (typeIs_str s b u) PySem.F.sub_str_dict ?_)
  simp only [Bool.not_false, if_true]
  refine wpAny_bind (wpAny_rule ?_)
  exact wpAny_pure ⟨_, rfl, hq⟩
theorem rc_str_dict {l : Addr} {o : Obj} (b : Str) (u : Tok) (ho : s.heap.get? l = some o) (hc : o.cls = .type "dict") (es : Array DictEntry) (ep : Nat) (hd : o.data = .dict es ep) (hu : A.units < cLine) : RcAt A s (.str b u) (.ref l) false := fun prog w E Q h => by
  obtain ⟨cls, dd, data, sl⟩ := o
  simp only at hc hd
  subst hc hd
  exact rc_eq_decline_or (k := false) (typeIs_str s b u) ⟨_, ho, rfl⟩ (by decide) F.sub_dict_str F.slot_str_eq F.slot_dict_eq_refl
    (fun _ hq => call_meets F.slot_str_eq (typeIs_str s b u) F.entry_str_eq (F.args_str_eq_2 _ _) (str_eq_declines_dict b u l (.type "dict") es ep dd sl) ⟨ho, hq⟩)
    (fun _ hq => dict_eq_declines_str ⟨_, ho, rfl⟩ hq)
    (fun _ hq => wpAny_of_eq (rfl : isSame (.str b u) (.ref l) = pure false) hq) (.inr hu) h
theorem eqAt_str_dict {l : Addr} {o : Obj} (b : Str) (u : Tok) (ho : s.heap.get? l = some o) (hc : o.cls = .type "dict") (es : Array DictEntry) (ep : Nat) (hd : o.data = .dict es ep) (hu : A.units < cLine) : EqAt A s (.str b u) (.ref l) false := fun prog w E Q h => by
  unfold eqBool
  refine wpAny_holding ?_
  refine wpAny_ite_split (fun hab => absurd (eq_of_beq hab) nofun) (fun _ => ?_)
  exact wpAny_bind (rc_str_dict b u ho hc es ep hd hu prog w E _ (wpAny_truthy_bool h))
end
end DLS
namespace DL
open PySem PySem.Spec PyProof.Rows L2 PySem.SeqAt
/-- of a kind without an own == -/
def kindX : D → Bool
  | .non | .bl _ | .int _ | .str _ | .lst _ | .tup _ | .dft | .dic false _ => true
  | _ => false
def eqSX (z : List Nat) : D → Bool
  | .str a => z == a
  | _ => false
section
variable {X : Cx} {pins : List (Addr × Obj)} {σ : L2.St} {H : Hp} {s : Shared} {A : Around} {R : Rc} {B : Bz} {x : V} {v : Value} {d : D}
theorem eq_strX (I : Inv X pins σ H s) (hK : X.K = R.K) (vx : Vw R H B x d) (rx : RelV x v) (hk : kindX d = true) (hu : A.units < cLine) (z : Str) (t : Tok) : EqAt A s (.str z t) v (eqSX z.cps.toList d) := by
  cases d with
  | non => rcases vx with r | ⟨a, rfl, r⟩ <;> cases r; cases rx; exact EqAt.str_none z t
  | bl b => rcases vx with r | ⟨a, rfl, r⟩ <;> cases r; cases rx; exact EqAt.str_bool z t b
  | int i => rcases vx with r | ⟨a, rfl, r⟩ <;> cases r; obtain ⟨u, rfl⟩ := rx; exact EqAt.str_int z t i u
  | str i =>
    rw [vx.str] at rx
    obtain ⟨u, rfl⟩ := rx
    have e : eqSX z.cps.toList (.str i) = (z == (⟨i.toArray⟩ : Str)) := by rw [← str_beq]; show (z.cps.toList == i) = _; simp
    rw [e]
    exact EqAt.str_str z t _ u
  | lst l =>
    obtain ⟨a, xs, rfl, hH, _⟩ := vx.lst
    cases rx
    obtain ⟨its, rv, pl, _⟩ := I.list (SqL.of hH)
    exact EqAt.str_list z t pl.isList hu
  | tup l =>
    obtain ⟨a, xs, rfl, hH, _⟩ := vx.tup
    cases rx
    obtain ⟨its, rv, ht, _⟩ := I.tuple (SqT.of hH)
    exact EqAt.str_tuple z t ht hu
  | dft =>
    obtain ⟨a, rfl, hT⟩ := vx.dft
    cases rx
    obtain ⟨its, rv, ht, _⟩ := I.tuple (.inr (by rw [hK]; exact hT))
    exact EqAt.str_tuple z t ht hu
  | dic b l =>
    cases b with
    | false =>
      obtain ⟨a, kvs, rfl, hH, _⟩ := vx.dicK
      cases rx
      obtain ⟨_, _, vs, _, o, es, ep, ho, hc, hd, _⟩ := I.hok a _ hH
      exact DLS.eqAt_str_dict z t ho hc.1 es ep hd hu
    | true => cases hk
  | _ => cases hk
end
end DL
namespace DL
open PySem PySem.Spec PyProof.Rows L2 PySem.SeqAt
def allX {α β : Type} (f : α → β → Bool) : List α → List β → Bool
  | [], [] => true
  | x :: xs, y :: ys => f x y && allX f xs ys
  | _, _ => false
theorem all2_range {α β : Type} {f : α → β → Bool} {g : Nat → Bool} : ∀ {xs : List α} {ys : List β} {o : Nat}, (∀ j x y, xs[j]? = some x → ys[j]? = some y → g (o + j) = f x y) → ((List.range' o (min xs.length ys.length)).all g && xs.length == ys.length) = allX f xs ys
  | [], [], _, _ => rfl
  | [], _ :: _, _, _ => by simp [allX]
  | _ :: _, [], _, _ => by simp [allX]
  | x :: xs, y :: ys, o, h => by
    have ih := all2_range (f := f) (g := g) (xs := xs) (ys := ys) (o := o + 1) fun j a b h1 h2 => by
      have := h (j + 1) a b h1 h2
      rw [show o + 1 + j = o + (j + 1) by omega]; exact this
    have h0 := h 0 x y rfl rfl
    have e1 : min (x :: xs).length (y :: ys).length = min xs.length ys.length + 1 := by simp only [List.length_cons]; omega
    have e2 : ((x :: xs).length == (y :: ys).length) = (xs.length == ys.length) := by simp
    rw [e1, e2, List.range'_succ, List.all_cons, allX, ← ih, show g o = f x y from h0, Bool.and_assoc]
theorem vals_at : ∀ {xs : List V} {its : List Value} {j : Nat} {x : V} {v : Value}, Vals xs its → xs[j]? = some x → its[j]? = some v → RelV x v
  | _, _, 0, _, _, .cons r _, e1, e2 => by cases e1; cases e2; exact r
  | _, _, j + 1, _, _, .cons _ t, e1, e2 => vals_at t e1 e2
theorem reps_at {R : Rc} {H : Hp} {B : Bz} : ∀ {xs : List V} {ds : List D} {j : Nat} {x : V} {d : D}, Reps R H B xs ds → xs[j]? = some x → ds[j]? = some d → Rep R H B x d
  | _, _, 0, _, _, .cons r _, e1, e2 => by cases e1; cases e2; exact r
  | _, _, j + 1, _, _, .cons _ t, e1, e2 => reps_at t e1 e2
section
variable {X : Cx} {pins : List (Addr × Obj)} {σ : L2.St} {H : Hp} {s : Shared} {A : Around} {R : Rc} {B : Bz}
/-- a row of texts against a tuple of any kinds -/
theorem eq_rowX (I : Inv X pins σ H s) (hK : X.K = R.K) {l a : Addr} {vs : Array Value} {zs : List Str} {xs : List V} {ds : List D} (hl : s.heap.IsTuple l vs) (hz : ∀ j (h : j < vs.size), ∃ z t, zs[j]? = some z ∧ vs[j] = .str z t) (hn : zs.length = vs.size)
    (ha : SqT X.K H a xs) (r : Reps R H B xs ds) (hk : ds.all kindX = true) (hu : A.units + 1 < cLine) : EqAt A s (.ref l) (.ref a) (allX (fun z d => eqSX z.cps.toList d) zs ds) := by
  obtain ⟨its, rv, ht, _⟩ := I.tuple ha
  have ht2 : s.heap.IsTuple a its.toArray := ht
  have n1 : its.length = xs.length := rv.length.symm
  have n2 : xs.length = ds.length := r.length
  have pt : ∀ j z d, zs[j]? = some z → ds[j]? = some d → ∃ (h1 : j < vs.size) (h2 : j < its.toArray.size) (x : V), xs[j]? = some x ∧ RelV x its.toArray[j] ∧ Rep R H B x d ∧ ∃ t, vs[j] = .str z t := by
    intro j z d e1 e2
    have l1 := (List.getElem?_eq_some_iff.mp e1).1
    have l2 := (List.getElem?_eq_some_iff.mp e2).1
    have h1 : j < vs.size := by omega
    have h2 : j < its.toArray.size := by simp; omega
    have h3 : j < xs.length := by omega
    obtain ⟨z', t, e3, e4⟩ := hz j h1
    rw [e1] at e3
    cases e3
    refine ⟨h1, h2, xs[j], List.getElem?_eq_getElem h3, vals_at rv (List.getElem?_eq_getElem h3) (by simp at h2; simp [h2]), reps_at r (List.getElem?_eq_getElem h3) e2, t, e4⟩
  by_cases hll : l = a
  · subst hll
    obtain ⟨o, ho, _, n, hd⟩ := hl
    obtain ⟨o', ho', _, n', hd'⟩ := ht2
    rw [ho] at ho'
    cases ho'
    rw [hd] at hd'
    cases hd'
    have e : allX (fun (z : Str) d => eqSX z.cps.toList d) zs ds = true := by
      have hlen : zs.length = ds.length := by simp at hn; omega
      rw [← all2_range (g := fun _ => true) (o := 0) fun j z d e1 e2 => ?_]
      · simp [hlen]
      · obtain ⟨h1, h2, x, e3, rx, rp, t, e4⟩ := pt j z d e1 e2
        rw [e4] at rx
        cases x <;> first | (cases rx; done) | skip
        all_goals first | (obtain ⟨t2, e5⟩ := rx; cases e5; done) | (obtain ⟨t2, e5⟩ := rx; cases e5; cases rp; simp [eqSX])
    rw [e]
    exact EqAt.same _
  · have key := RcAt.tuples (A := A) hl ht2 (by omega) (e := fun j => match zs[j]?, ds[j]? with | some z, some d => eqSX z.cps.toList d | _, _ => false) fun j j1 j2 => by
      have hj : j < zs.length := by omega
      have hj2 : j < ds.length := by simp at j2; omega
      obtain ⟨h1, h2, x, e3, rx, rp, t, e4⟩ := pt j zs[j] ds[j] (List.getElem?_eq_getElem hj) (List.getElem?_eq_getElem hj2)
      rw [e4, List.getElem?_eq_getElem hj, List.getElem?_eq_getElem hj2]
      exact eq_strX I hK (.inl rp) rx (List.all_eq_true.mp hk _ (List.getElem_mem hj2)) (by show A.units + 1 < cLine; exact hu) _ _
    have e := all2_range (f := fun (z : Str) d => eqSX z.cps.toList d) (g := fun j => match zs[j]?, ds[j]? with | some z, some d => eqSX z.cps.toList d | _, _ => false) (xs := zs) (ys := ds) (o := 0) fun j z d e1 e2 => by
      rw [Nat.zero_add, e1, e2]
    rw [← e, ← List.range_eq_range', hn, show ds.length = its.toArray.size by simp; omega]
    exact EqAt.of_refs hll key
end
end DL
set_option Elab.async false
set_option linter.all false
set_option maxRecDepth 100000
set_option maxHeartbeats 4000000
namespace DL
open PySem PySem.Spec PyProof.Rows L2
/-! ### data without objects, up to a depth -/
def flat : Nat → D → Bool
  | _, .non | _, .bl _ | _, .int _ | _, .str _ | _, .dft => true
  | n + 1, .lst l => l.all (flat n)
  | n + 1, .tup l => l.all (flat n)
  | _, _ => false
def all2 {α β : Type} (f : α → β → Bool) : List α → List β → Bool
  | [], [] => true
  | x :: xs, y :: ys => f x y && all2 f xs ys
  | _, _ => false
def deq : Nat → D → D → Bool
  | _, .non, .non => true
  | _, .bl a, .bl b => a == b
  | _, .bl a, .int j => (if a then 1 else 0) == j
  | _, .int i, .bl b => i == (if b then 1 else 0)
  | _, .int i, .int j => i == j
  | _, .str a, .str b => a == b
  | _, .dft, .dft => true
  | _, .dft, .tup b => b.isEmpty
  | _, .tup a, .dft => a.isEmpty
  | n + 1, .lst a, .lst b => all2 (deq n) a b
  | n + 1, .tup a, .tup b => all2 (deq n) a b
  | _, _, _ => false
def toP : Nat → D → PyData
  | _, .non => .none
  | _, .bl b => .bool b
  | _, .int i => .int i
  | _, .str s => .str ⟨s.toArray⟩
  | _, .dft => .tuple []
  | n + 1, .lst l => .list (l.map (toP n))
  | n + 1, .tup l => .tuple (l.map (toP n))
  | _, _ => .none
theorem str_beq (a b : List Nat) : ((⟨a.toArray⟩ : Str) == ⟨b.toArray⟩) = (a == b) := SX.S_beq a b
theorem eqvAll_map {n : Nat} (ih : ∀ x y, flat n x = true → flat n y = true → PyData.eqv (toP n x) (toP n y) = deq n x y) :
    ∀ (a b : List D), a.all (flat n) = true → b.all (flat n) = true → PyData.eqvAll (a.map (toP n)) (b.map (toP n)) = all2 (deq n) a b
  | [], [], _, _ => by simp [PyData.eqvAll, all2]
  | [], y :: ys, _, _ => by simp [PyData.eqvAll, all2]
  | x :: xs, [], _, _ => by simp [PyData.eqvAll, all2]
  | x :: xs, y :: ys, h1, h2 => by
    simp only [List.all_cons, Bool.and_eq_true] at h1 h2
    simp only [List.map_cons, PyData.eqvAll, all2, ih x y h1.1 h2.1, eqvAll_map ih xs ys h1.2 h2.2]
theorem eqv_toP : ∀ (n : Nat) (x y : D), flat n x = true → flat n y = true → PyData.eqv (toP n x) (toP n y) = deq n x y
  | 0, x, y, h1, h2 => by
    cases x <;> first | (cases h1; done) | (cases y <;> first | (cases h2; done) | simp [toP, deq, PyData.eqv, PyData.eqvAll, str_beq])
  | n + 1, x, y, h1, h2 => by
    cases x <;> first
      | (cases h1; done)
      | (cases y <;> first
          | (cases h2; done)
          | (simp only [toP, deq, PyData.eqv]; done)
          | (simp only [toP, deq, PyData.eqv, PyData.eqvAll]; done)
          | (rename_i l; cases l <;> simp [toP, deq, PyData.eqv, PyData.eqvAll]; done)
          | (simp only [toP, deq, PyData.eqv, str_beq]; done)
          | (simp only [toP, deq, PyData.eqv]; exact eqvAll_map (eqv_toP n) _ _ h1 h2))
theorem plainAll_map {n : Nat} (ih : ∀ x, flat n x = true → (toP n x).plain = true) : ∀ a : List D, a.all (flat n) = true → PyData.plainAll (a.map (toP n)) = true
  | [], _ => rfl
  | x :: xs, h => by
    simp only [List.all_cons, Bool.and_eq_true] at h
    simp only [List.map_cons, PyData.plainAll, ih x h.1, plainAll_map ih xs h.2, Bool.and_self]
theorem plain_toP : ∀ (n : Nat) (x : D), flat n x = true → (toP n x).plain = true
  | 0, x, h => by cases x <;> first | (cases h; done) | rfl
  | n + 1, x, h => by
    cases x <;> first
      | (cases h; done)
      | rfl
      | exact plainAll_map (plain_toP n) _ h
theorem depthAll_map {n : Nat} (ih : ∀ x, flat n x = true → (toP n x).depth ≤ n + 1) : ∀ a : List D, a.all (flat n) = true → PyData.depthAll (a.map (toP n)) ≤ n + 1
  | [], _ => Nat.zero_le _
  | x :: xs, h => by
    simp only [List.all_cons, Bool.and_eq_true] at h
    have h1 := ih x h.1
    have h2 := depthAll_map ih xs h.2
    simp only [List.map_cons, PyData.depthAll]
    omega
theorem depth_toP : ∀ (n : Nat) (x : D), flat n x = true → (toP n x).depth ≤ n + 1
  | 0, x, h => by cases x <;> first | (cases h; done) | simp [toP, PyData.depth, PyData.depthAll]
  | n + 1, x, h => by
    cases x <;> first
      | (cases h; done)
      | (simp [toP, PyData.depth]; done)
      | (simp [toP, PyData.depth, PyData.depthAll]; done)
      | (have := depthAll_map (depth_toP n) _ h; simp only [toP, PyData.depth]; omega)
section
variable {R : Rc} {H : Hp} {B : Bz}
theorem dpAll {n : Nat} (ih : ∀ v d, Rep R H B v d → flat n d = true → Dp R.K H v (toP n d)) : ∀ {vs : List V} {ds : List D}, Reps R H B vs ds → ds.all (flat n) = true → DpAll R.K H vs (ds.map (toP n))
  | _, _, .nil, _ => .nil
  | _, _, .cons r t, h => by
    simp only [List.all_cons, Bool.and_eq_true] at h
    exact .cons (ih _ _ r h.1) (dpAll ih t h.2)
theorem dp_of : ∀ (n : Nat) (v : V) (d : D), Rep R H B v d → flat n d = true → Dp R.K H v (toP n d)
  | 0, v, d, r, h => by
    cases r <;> first | (cases h; done) | exact .non | exact .bl _ | exact .int _ | (rename_i x; exact .str x) | (rename_i x; exact .tup (.inr x) .nil)
  | n + 1, v, d, r, h => by
    cases r <;> first
      | (cases h; done)
      | exact .non | exact .bl _ | exact .int _ | (rename_i x; exact .str x) | (rename_i x; exact .tup (.inr x) .nil)
      | (rename_i h1 h2; exact .tup (.inl (.inl h1)) (dpAll (dp_of n) h2 h))
      | (rename_i h1 h2 h3; exact .lst (SqL.of h1) (dpAll (dp_of n) h3 h))
theorem dp_vw {n : Nat} {v : V} {d : D} (r : Vw R H B v d) (h : flat n d = true) : Dp R.K H v (toP n d) := by
  rcases r with r | ⟨a, rfl, r⟩
  · exact dp_of n v d r h
  · cases r with
    | lst h1 h2 =>
      cases n with
      | zero => cases h
      | succ n => exact .lst (SqL.of h1) (dpAll (dp_of n) h2 h)
    | dicK => cases n <;> cases h
    | dicT => cases n <;> cases h
    | obj => cases n <;> cases h
end
/-! ### operations on contents -/
abbrev lim : Nat := 16777216
def addD : D → D → Option D
  | .int a, .int b => some (.int (a + b))
  | .str a, .str b => if a.length + b.length ≤ lim then some (.str (a ++ b)) else none
  | .lst a, .lst b => if a.length + b.length ≤ lim then some (.lst (a ++ b)) else none
  | .tup a, .tup b => if a.length + b.length ≤ lim then some (.tup (a ++ b)) else none
  | _, _ => none
def mulD : D → D → Option D
  | .int a, .int b => if a.natAbs.log2 + b.natAbs.log2 < 1000000 then some (.int (a * b)) else none
  | .lst a, .int k => if 0 ≤ k ∧ k < 1000000 ∧ a.length * k.toNat ≤ lim then some (.lst (List.replicate k.toNat a).flatten) else none
  | _, _ => none
def fdivD : D → D → Option D
  | .int a, .int b => if 0 < b ∧ b.natAbs.log2 < 9000 then some (.int (a / b)) else none
  | _, _ => none
def modD : D → D → Option D
  | .int a, .int b => if 0 < b then some (.int (a % b)) else none
  | _, _ => none
def powD : D → D → Option D
  | .int a, .int b => if 0 ≤ b ∧ b ≤ 1000000 ∧ a.natAbs < 2 ^ 64 then some (.int (a ^ b.toNat)) else none
  | _, _ => none
def ltD : D → D → Option D
  | .int a, .int b => some (.bl (decide (a < b)))
  | .str a, .str b => some (.bl (decide (a < b)))
  | _, _ => none
def gtD : D → D → Option D
  | .int a, .int b => some (.bl (decide (b < a)))
  | _, _ => none
def geD : D → D → Option D
  | .int a, .int b => some (.bl (decide (b ≤ a)))
  | _, _ => none
def eqD (x y : D) : Option D := if flat 60 x && flat 60 y then some (.bl (deq 60 x y)) else none
def neD (x y : D) : Option D := if flat 60 x && flat 60 y then some (.bl (!deq 60 x y)) else none
/-! ### texts, or rows of texts, against values of any kind without an own == -/
def isStrD : D → Bool
  | .str _ => true
  | _ => false
def isRowD : D → Bool
  | .tup l => l.all isStrD
  | _ => false
def isTupX : D → Bool
  | .tup l => l.all kindX
  | _ => false
def eqTX (d : D) (x : D) : Bool := match d with
  | .str z => eqSX z x
  | _ => false
def eqYX : D → D → Bool
  | .str z, d => eqSX z d
  | .tup zs, .tup ds => allX eqTX zs ds
  | _, _ => false
def memX (x : D) (ys : List D) : Option Bool := if (ys.all isStrD && kindX x) || (ys.all isRowD && isTupX x) then some (ys.any fun y => eqYX y x) else none
theorem any_pt {its : List Value} {ys : List D} {f : Value → Bool} {g : D → Bool} : its.length = ys.length → (∀ (j : Nat) (v : Value) (y : D), its[j]? = some v → ys[j]? = some y → f v = g y) → its.any f = ys.any g := by
  induction its generalizing ys with
  | nil => intro h _; cases ys with
    | nil => rfl
    | cons => simp at h
  | cons v its ih =>
    intro h hp
    cases ys with
    | nil => simp at h
    | cons y ys =>
      rw [List.any_cons, List.any_cons, hp 0 v y rfl rfl, ih (by simpa using h) fun j a b h1 h2 => hp (j + 1) a b h1 h2]
def strOf : D → Str
  | .str i => ⟨i.toArray⟩
  | _ => ⟨#[]⟩
theorem allX_map {α β γ : Type} {f : β → γ → Bool} {g : α → β} {f2 : α → γ → Bool} : ∀ {l : List α} {m : List γ}, (∀ a ∈ l, ∀ c, f (g a) c = f2 a c) → allX f (l.map g) m = allX f2 l m
  | [], [], _ => rfl
  | [], _ :: _, _ => rfl
  | _ :: _, [], _ => rfl
  | a :: l, c :: m, h => by
    rw [List.map_cons, allX, allX, h a List.mem_cons_self c, allX_map fun b hb => h b (List.mem_cons_of_mem _ hb)]
theorem flat_strs {n : Nat} {zs : List D} (h : zs.all isStrD = true) : flat (n + 1) (.tup zs) = true := List.all_eq_true.mpr fun d hd => by
  have := List.all_eq_true.mp h d hd
  cases d <;> first | (cases this; done) | (cases n <;> rfl)
section
variable {X : Cx} {pins : List (Addr × Obj)} {σ : L2.St} {H : Hp} {s : Shared} {R : Rc} {B : Bz}
/-- one item against x -/
noncomputable def eItem (h : Heap) (dx : D) (v : Value) : Bool := match v with
  | .str z _ => eqSX z.cps.toList dx
  | v => match SeqAt.readOf h v, dx with
    | .tuple zs, .tup ds => allX (fun z d => match z with | PyData.str a => eqSX a.cps.toList d | _ => false) zs ds
    | _, _ => false
theorem item_X (I : Inv X pins σ H s) (hK : X.K = R.K) (hu : X.A.units + 2 < cLine) {x y : V} {v u : Value} {dx dy : D} (vx : Vw R H B x dx) (rx : RelV x v) (ry : RelV y u) (hy : Rep R H B y dy) (h : (isStrD dy && kindX dx) || (isRowD dy && isTupX dx)) :
    eItem s.heap dx u = eqYX dy dx ∧ SeqAt.EqAt X.A.in1 s u v (eqYX dy dx) := by
  cases dy with
  | str i =>
    cases hy with
    | str z =>
      obtain ⟨t, rfl⟩ := ry
      refine ⟨rfl, ?_⟩
      have hk : kindX dx = true := by
        rcases Bool.or_eq_true_iff.mp h with h | h
        · exact (Bool.and_eq_true_iff.mp h).2
        · exact absurd (Bool.and_eq_true_iff.mp h).1 Bool.false_ne_true
      exact eq_strX I hK vx rx hk (by show X.A.units + 1 < cLine; omega) z t
  | tup zs =>
    have h2 : zs.all isStrD = true ∧ isTupX dx = true := by
      rcases Bool.or_eq_true_iff.mp h with h | h
      · exact absurd (Bool.and_eq_true_iff.mp h).1 Bool.false_ne_true
      · exact Bool.and_eq_true_iff.mp h
    cases dx with
    | tup ds =>
      have hk : ds.all kindX = true := h2.2
      obtain ⟨a, xs, rfl, hH, rp⟩ := vx.tup
      cases rx
      cases hy with
      | @tup l ws _ hW rW =>
        cases ry
        have hzs := h2.1
        obtain ⟨its2, rv2, ht2, _⟩ := I.tuple (SqT.of hW)
        have ht3 : s.heap.IsTuple l its2.toArray := ht2
        have hfl : flat 60 (.tup zs) = true := flat_strs hzs
        obtain ⟨bs, rd⟩ := Dp.reads I (toP 60 (.tup zs)) (.ref l) (.ref l) (by rw [hK]; exact dp_vw (.inl (Rep.tup hW rW)) hfl) rfl
        have hro := SeqAt.readOf_plain (plain_toP _ _ hfl) rd
        have e1 : allX (fun z d => match z with | PyData.str a => eqSX a.cps.toList d | _ => false) (zs.map (toP 59)) ds = allX eqTX zs ds := allX_map fun d hd c => by
          have := List.all_eq_true.mp hzs d hd
          cases d <;> first | (cases this; done) | (simp [toP, eqTX])
        have e2 : allX (fun (z : Str) d => eqSX z.cps.toList d) (zs.map strOf) ds = allX eqTX zs ds := allX_map fun d hd c => by
          have := List.all_eq_true.mp hzs d hd
          cases d <;> first | (cases this; done) | (simp [strOf, eqTX])
        constructor
        · show (match SeqAt.readOf s.heap (.ref l), D.tup ds with | .tuple zs, .tup ds => allX (fun z d => match z with | PyData.str a => eqSX a.cps.toList d | _ => false) zs ds | _, _ => false) = allX eqTX zs ds
          rw [hro]
          exact e1
        · show SeqAt.EqAt X.A.in1 s (.ref l) (.ref a) (allX eqTX zs ds)
          rw [← e2]
          have q1 := rv2.length
          have q2 := rW.length
          refine eq_rowX I hK ht3 (fun j hj => ?_) (by simp; omega) (SqT.of hH) rp hk (by show X.A.units + 1 + 1 < cLine; omega)
          have hj1 : j < its2.length := by simpa using hj
          have hj2 : j < ws.length := by omega
          have hj3 : j < zs.length := by omega
          have r1 := vals_at rv2 (List.getElem?_eq_getElem hj2) (List.getElem?_eq_getElem hj1)
          have r2 := reps_at rW (List.getElem?_eq_getElem hj2) (List.getElem?_eq_getElem hj3)
          have r3 := List.all_eq_true.mp hzs _ (List.getElem_mem hj3)
          have r4 : (zs.map strOf)[j]? = some (strOf zs[j]) := by rw [List.getElem?_map, List.getElem?_eq_getElem hj3]; rfl
          rw [r4]
          generalize ws[j] = wj at r1 r2
          generalize zs[j] = zj at r2 r3
          cases zj <;> first | (cases r3; done) | skip
          cases r2 with
          | str z =>
            obtain ⟨t, e⟩ := r1
            exact ⟨_, t, rfl, by simp [strOf]; exact e⟩
    | _ => exact absurd h2.2 Bool.false_ne_true
  | _ => simp [isStrD, isRowD] at h
theorem items_X (I : Inv X pins σ H s) (hK : X.K = R.K) (hu : X.A.units + 2 < cLine) {x : V} {v : Value} {dx : D} {ys : List D} {ws : List V} {its : List Value} (vx : Vw R H B x dx) (rx : RelV x v) (rv : Vals ws its) (rW : Reps R H B ws ys)
    (hall : ∀ d ∈ ys, ((isStrD d && kindX dx) || (isRowD d && isTupX dx)) = true) : (∀ y, y ∈ its.toArray → SeqAt.EqAt X.A.in1 s y v (eItem s.heap dx y)) ∧ its.toArray.any (eItem s.heap dx) = ys.any fun y => eqYX y dx := by
  have q1 := rv.length
  have q2 := rW.length
  have pt : ∀ (j : Nat) (y : Value) (d : D), its[j]? = some y → ys[j]? = some d → eItem s.heap dx y = eqYX d dx ∧ SeqAt.EqAt X.A.in1 s y v (eqYX d dx) := fun j y d e1 e2 => by
    have l1 := (List.getElem?_eq_some_iff.mp e1).1
    have hj : j < ws.length := by omega
    exact item_X I hK hu vx rx (vals_at rv (List.getElem?_eq_getElem hj) e1) (reps_at rW (List.getElem?_eq_getElem hj) e2) (hall d (List.mem_of_getElem? e2))
  refine ⟨fun y hy => ?_, ?_⟩
  · obtain ⟨j, hj, rfl⟩ := List.getElem_of_mem (by simpa using hy : y ∈ its)
    have hj2 : j < ys.length := by omega
    have := pt j _ _ (List.getElem?_eq_getElem hj) (List.getElem?_eq_getElem hj2)
    rw [this.1]
    exact this.2
  · rw [List.any_toArray]
    exact any_pt (by omega) fun j y d e1 e2 => (pt j y d e1 e2).1
theorem memX_ok {neg : Bool} {op : CmpOp} (ho : op = if neg then .NotIn else .In) (I : Inv X pins σ H s) (hK : X.K = R.K) (hu : X.A.units + 2 < cLine) {x y : V} {v u : Value} {dx dy : D} {ys : List D} {b : Bool} {Q : VK} (rx : RelV x v) (ry : RelV y u)
    (vx : Vw R H B x dx) (vy : Vw R H B y dy) (hy : dy = .lst ys ∨ dy = .tup ys ∨ (dy = .dft ∧ ys = [])) (e : memX dx ys = some b) (k : Q (.bl (if neg then !b else b)) H) : wpAny (model X.prog X.w) X.A (compareOp op v u) (EP X pins σ Q) X.xe s := by
  unfold memX at e
  split at e
  · rename_i hf
    cases e
    have hall : ∀ d ∈ ys, ((isStrD d && kindX dx) || (isRowD d && isTupX dx)) = true := fun d hd => by
      rcases Bool.or_eq_true_iff.mp hf with h | h
      · obtain ⟨h1, h2⟩ := Bool.and_eq_true_iff.mp h
        rw [List.all_eq_true.mp h1 d hd, h2]; rfl
      · obtain ⟨h1, h2⟩ := Bool.and_eq_true_iff.mp h
        rw [List.all_eq_true.mp h1 d hd, h2]; simp
    subst ho
    rcases hy with rfl | rfl | ⟨rfl, rfl⟩
    · obtain ⟨a, ws, rfl, hW, rW⟩ := vy.lst
      cases ry
      obtain ⟨its, rv, pl, _⟩ := I.list (SqL.of hW)
      obtain ⟨i1, i2⟩ := items_X I hK hu vx rx rv rW hall
      cases neg
      · exact SeqAt.in_listAt _ pl.isList i1 ⟨.bl _, H, I, rfl, by rw [i2]; exact k⟩
      · exact SeqAt.notIn_listAt _ pl.isList i1 ⟨.bl _, H, I, rfl, by rw [i2]; exact k⟩
    · obtain ⟨a, ws, rfl, hW, rW⟩ := vy.tup
      cases ry
      obtain ⟨its, rv, ht, _⟩ := I.tuple (SqT.of hW)
      obtain ⟨i1, i2⟩ := items_X I hK hu vx rx rv rW hall
      cases neg
      · exact SeqAt.in_tupleAt _ ht i1 ⟨.bl _, H, I, rfl, by rw [i2]; exact k⟩
      · exact SeqAt.notIn_tupleAt _ ht i1 ⟨.bl _, H, I, rfl, by rw [i2]; exact k⟩
    · obtain ⟨a, rfl, hT⟩ := vy.dft
      cases ry
      obtain ⟨its, rv, ht, _⟩ := I.tuple (.inr (by rw [hK]; exact hT))
      obtain ⟨i1, i2⟩ := items_X I hK hu vx rx rv (.nil) hall
      cases neg
      · exact SeqAt.in_tupleAt _ ht i1 ⟨.bl _, H, I, rfl, by rw [i2]; exact k⟩
      · exact SeqAt.notIn_tupleAt _ ht i1 ⟨.bl _, H, I, rfl, by rw [i2]; exact k⟩
  · cases e
end
def memD (x : D) (ys : List D) : Option Bool := if flat 60 x && ys.all (flat 60) then some (ys.any fun y => deq 60 y x) else memX x ys
def inD : D → D → Option D
  | x, .lst ys => (memD x ys).map .bl
  | x, .tup ys => (memD x ys).map .bl
  | x, .dft => (memD x []).map .bl
  | .str [c], .str z => some (.bl (decide (c ∈ z)))
  | _, _ => none
def ninD : D → D → Option D
  | x, .lst ys => (memD x ys).map fun b => .bl !b
  | x, .tup ys => (memD x ys).map fun b => .bl !b
  | x, .dft => (memD x []).map fun b => .bl !b
  | .str [c], .str z => some (.bl (!decide (c ∈ z)))
  | _, _ => none
/-! ### they are right -/
/-- f, on two values, does op on their contents, whatever else stands -/
def OpS (f : Value → Value → Sem Value) (op : D → D → Option D) : Prop :=
  ∀ {Γ : Gl} {S : Sc} {n : Nat} {X : Cx} {Wx : WX}, At Γ S n X Wx → ∀ {pins : List (Addr × Obj)} {s : Shared} {σ : St} {H : Hp} {x y : V} {v u : Value} {Q : VK} {F : Bz} {G : Gs} {dx dy d : D}, Inv X pins σ H s → RelV x v → RelV y u →
    RelG Γ.R G F H → Vw Γ.R H (bz G F) x dx → Vw Γ.R H (bz G F) y dy → op dx dy = some d → (∀ v' H', Ext H G H' G → RelG Γ.R G F H' → Rep Γ.R H' (bz G F) v' d → Q v' H') → wpAny (model X.prog X.w) X.A (f v u) (EP X pins σ Q) X.xe s
theorem RelG.fresh {R : Rc} {G : Gs} {F : Bz} {H : Hp} {p : Addr} (g : RelG R G F H) (h : H p = none) : G p = none ∧ ¬ F p := by
  constructor
  · cases e : G p with
    | none => rfl
    | some d =>
      obtain ⟨o, q, _⟩ := (g.cell p d e).there
      rw [h] at q
      cases q
  · intro f
    obtain ⟨_, o, q, _⟩ := g.fr p f
    rw [h] at q
    cases q
theorem RelG.new {R : Rc} {G : Gs} {F : Bz} {H : Hp} {p : Addr} {o : HO} (g : RelG R G F H) (h : H p = none) : RelG R G F (upd H p o) := by
  have e : Ext H G (upd H p o) G := Ext.upd h
  refine ⟨fun a d q => (g.cell a d q).mv e.mv fun u z n => ?_, g.tabs.ext fun b u z => by rw [upd_ne (ne_of_none z h)]; exact z, fun a f => ?_⟩
  · rw [upd_ne (ne_of_none z h)]; exact z
  · obtain ⟨h1, u, h2, h3⟩ := g.fr a f
    exact ⟨h1, u, by rw [upd_ne (ne_of_none h2 h)]; exact h2, h3⟩
theorem RelG.busy {R : Rc} {G : Gs} {F : Bz} {H : Hp} {p : Addr} (g : RelG R G F H) (h : H p = none) : ¬ bz G F p := bz_no.mpr (g.fresh h)
theorem ext_new {H : Hp} {G : Gs} {F : Bz} {p : Addr} {o : HO} (h : H p = none) : Mv H (bz G F) (upd H p o) (bz G F) := (Ext.upd h).mv
section
variable {Γ : Gl} {S : Sc} {n : Nat} {X : Cx} {Wx : WX}
theorem lim_eq : (lim : Nat) = sizeLine := by rw [sizeLine_eq]
theorem At.units (a : At Γ S n X Wx) : X.A.units + 200 < cLine := by have := a.room.un; omega
theorem sou_add : OpS (binaryOp .Add) addD := by
  intro Γ S n X Wx a pins s σ H x y v u Q F G dx dy d I rx ry g vx vy e k
  cases dx <;> cases dy <;> first | (cases e; done) | skip
  · cases e
    rw [vx.int] at rx
    rw [vy.int] at ry
    exact op_add pins s σ H _ _ v u Q I rx ry ⟨_, _, rfl, rfl, k _ _ (Ext.refl _ _) g (.int _)⟩
  · rename_i p q
    simp only [addD] at e
    split at e
    · rename_i hl
      cases e
      rw [vx.str] at rx
      rw [vy.str] at ry
      refine op_add_str pins s σ H _ _ v u Q I rx ry ⟨_, _, rfl, rfl, ?_, ?_⟩
      · rw [← lim_eq]
        simpa [Str.length] using hl
      · have e2 : (⟨p.toArray⟩ ++ ⟨q.toArray⟩ : Str) = ⟨(p ++ q).toArray⟩ := SX.S_cat p q
        rw [e2]
        exact k _ _ (Ext.refl _ _) g (rep_str _)
    · cases e
  · simp only [addD] at e
    split at e
    · rename_i hl
      cases e
      have hK : X.K = Γ.R.K := a.K
      obtain ⟨b, xs, rfl, h1, r1⟩ := vx.tup
      obtain ⟨c, ys, rfl, h2, r2⟩ := vy.tup
      have l1 := r1.length
      have l2 := r2.length
      refine op_catA pins s σ H _ _ v u Q I rx ry ⟨b, c, xs, ys, rfl, rfl, SqT.of h1, SqT.of h2, by rw [← lim_eq, l1, l2]; exact hl, fun z => ?_, fun _ z => ?_, fun _ _ p hp => ?_⟩
      · rw [z] at r1
        cases r1
        exact k _ _ (Ext.refl _ _) g (.tup h2 r2)
      · rw [z] at r2
        cases r2
        rw [List.append_nil] at k
        exact k _ _ (Ext.refl _ _) g (.tup h1 r1)
      · exact k _ _ (Ext.upd hp) (g.new hp) (.tup upd_same ((r1.append r2).mv (ext_new hp)))
    · cases e
  · simp only [addD] at e
    split at e
    · rename_i hl
      cases e
      obtain ⟨b, xs, rfl, h1, r1⟩ := vx.lst
      obtain ⟨c, ys, rfl, h2, r2⟩ := vy.lst
      have l1 := r1.length
      have l2 := r2.length
      refine op_cat pins s σ H _ _ v u Q I rx ry ⟨b, c, xs, ys, rfl, rfl, h1, h2, by rw [← lim_eq, l1, l2]; exact hl, fun p hp => ?_⟩
      exact k _ _ (Ext.upd hp) (g.new hp) (.lst upd_same (g.busy hp) ((r1.append r2).mv (ext_new hp)))
    · cases e
theorem opS_int {f : Value → Value → Sem Value} {op : D → D → Option D} {C : Int → Int → Prop} {g : Int → Int → Int} (hf : ∀ X : Cx, OpR X f (rI C fun i j => .int (g i j))) (ho : ∀ x y d, op x y = some d → ∃ i j, x = .int i ∧ y = .int j ∧ C i j ∧ d = .int (g i j)) : OpS f op := by
  intro Γ S n X Wx a pins s σ H x y v u Q F G dx dy d I rx ry g vx vy e k
  obtain ⟨i, j, rfl, rfl, hc, rfl⟩ := ho _ _ _ e
  rw [vx.int] at rx
  rw [vy.int] at ry
  exact hf X pins s σ H _ _ v u Q I rx ry ⟨_, _, rfl, rfl, hc, k _ _ (Ext.refl _ _) g (.int _)⟩
theorem opS_cmp {f : Value → Value → Sem Value} {op : D → D → Option D} {g : Int → Int → Bool} (hf : ∀ X : Cx, OpR X f (rI0 fun i j => .bl (g i j))) (ho : ∀ x y d, op x y = some d → ∃ i j, x = .int i ∧ y = .int j ∧ d = .bl (g i j)) : OpS f op := by
  intro Γ S n X Wx a pins s σ H x y v u Q F G dx dy d I rx ry g vx vy e k
  obtain ⟨i, j, rfl, rfl, rfl⟩ := ho _ _ _ e
  rw [vx.int] at rx
  rw [vy.int] at ry
  exact hf X pins s σ H _ _ v u Q I rx ry ⟨_, _, rfl, rfl, k _ _ (Ext.refl _ _) g (.bl _)⟩
theorem sou_fdiv : OpS (binaryOp .FloorDiv) fdivD := opS_int (fun X => op_fdivW) fun x y d h => by
  cases x <;> cases y <;> first | (cases h; done) | (simp only [fdivD] at h; split at h <;> first | (cases h; done) | (cases h; rename_i c; exact ⟨_, _, rfl, rfl, c, rfl⟩))
theorem sou_mod : OpS (binaryOp .Mod) modD := opS_int (fun X => op_mod) fun x y d h => by
  cases x <;> cases y <;> first | (cases h; done) | (simp only [modD] at h; split at h <;> first | (cases h; done) | (cases h; rename_i c; exact ⟨_, _, rfl, rfl, c, rfl⟩))
theorem sou_pow : OpS (binaryOp .Pow) powD := opS_int (fun X => op_pow) fun x y d h => by
  cases x <;> cases y <;> first | (cases h; done) | (simp only [powD] at h; split at h <;> first | (cases h; done) | (cases h; rename_i c; exact ⟨_, _, rfl, rfl, c, rfl⟩))
theorem sou_gt : OpS (compareOp .Gt) gtD := opS_cmp (fun X => op_gt) fun x y d h => by cases x <;> cases y <;> first | (cases h; done) | (cases h; exact ⟨_, _, rfl, rfl, rfl⟩)
theorem sou_ge : OpS (compareOp .GtE) geD := opS_cmp (fun X => op_ge) fun x y d h => by cases x <;> cases y <;> first | (cases h; done) | (cases h; exact ⟨_, _, rfl, rfl, rfl⟩)
theorem sou_lt : OpS (compareOp .Lt) ltD := by
  intro Γ S n X Wx a pins s σ H x y v u Q F G dx dy d I rx ry g vx vy e k
  cases dx <;> cases dy <;> first | (cases e; done) | skip
  · cases e
    rw [vx.int] at rx
    rw [vy.int] at ry
    exact op_lt pins s σ H _ _ v u Q I rx ry ⟨_, _, rfl, rfl, k _ _ (Ext.refl _ _) g (.bl _)⟩
  · cases e
    rw [vx.str] at rx
    rw [vy.str] at ry
    refine op_lt_str pins s σ H _ _ v u Q I rx ry ⟨_, _, rfl, rfl, ?_⟩
    exact k _ _ (Ext.refl _ _) g (.bl _)
theorem sou_mul : OpS (binaryOp .Mult) mulD := by
  intro Γ S n X Wx a pins s σ H x y v u Q F G dx dy d I rx ry g vx vy e k
  cases dx <;> cases dy <;> first | (cases e; done) | skip
  · simp only [mulD] at e
    split at e
    · rename_i hl
      cases e
      rw [vx.int] at rx
      rw [vy.int] at ry
      exact op_mulW pins s σ H _ _ v u Q I rx ry ⟨_, _, rfl, rfl, hl, k _ _ (Ext.refl _ _) g (.int _)⟩
    · cases e
  · simp only [mulD] at e
    split at e
    · rename_i hl
      cases e
      obtain ⟨b, xs, rfl, h1, r1⟩ := vx.lst
      rw [vy.int] at ry
      obtain ⟨h0, h2, h3⟩ := hl
      have l1 := r1.length
      refine op_rep pins s σ H _ _ v u Q I rx ry ⟨b, _, xs, rfl, rfl, h1, by omega, by omega, by rw [← lim_eq, l1]; exact h3, fun p hp => ?_⟩
      refine k _ _ (Ext.upd hp) (g.new hp) (.lst upd_same (g.busy hp) (Reps.mv (ext_new hp) ?_))
      generalize (Int.toNat _) = m
      induction m with
      | zero => exact .nil
      | succ m ih => rw [List.replicate_succ, List.replicate_succ, List.flatten_cons, List.flatten_cons]; exact r1.append ih
    · cases e
theorem sou_eq : OpS (compareOp .Eq) eqD := by
  intro Γ S n X Wx a pins s σ H x y v u Q F G dx dy d I rx ry g vx vy e k
  unfold eqD at e
  split at e
  · rename_i hf
    cases e
    rw [Bool.and_eq_true] at hf
    have hK : X.K = Γ.R.K := a.K
    obtain ⟨as, r1⟩ := Dp.reads I _ x v (by rw [hK]; exact dp_vw vx hf.1) rx
    obtain ⟨bs, r2⟩ := Dp.reads I _ y u (by rw [hK]; exact dp_vw vy hf.2) ry
    refine SeqAt.eq_plain r1 r2 (plain_toP _ _ hf.1) (plain_toP _ _ hf.2) ?_ ⟨.bl _, H, I, rfl, ?_⟩
    · have := depth_toP _ _ hf.1
      have := a.units
      omega
    · rw [eqv_toP _ _ _ hf.1 hf.2]
      exact k _ _ (Ext.refl _ _) g (.bl _)
  · cases e
theorem sou_ne : OpS (compareOp .NotEq) neD := by
  intro Γ S n X Wx a pins s σ H x y v u Q F G dx dy d I rx ry g vx vy e k
  unfold neD at e
  split at e
  · rename_i hf
    cases e
    rw [Bool.and_eq_true] at hf
    have hK : X.K = Γ.R.K := a.K
    obtain ⟨as, r1⟩ := Dp.reads I _ x v (by rw [hK]; exact dp_vw vx hf.1) rx
    obtain ⟨bs, r2⟩ := Dp.reads I _ y u (by rw [hK]; exact dp_vw vy hf.2) ry
    refine SeqAt.ne_plain r1 r2 (plain_toP _ _ hf.1) (plain_toP _ _ hf.2) ?_ ⟨.bl _, H, I, rfl, ?_⟩
    · have := depth_toP _ _ hf.1
      have := a.units
      omega
    · rw [eqv_toP _ _ _ hf.1 hf.2]
      exact k _ _ (Ext.refl _ _) g (.bl _)
  · cases e
theorem any_toP {n : Nat} {x : D} (hx : flat n x = true) : ∀ ys : List D, ys.all (flat n) = true → (ys.map (toP n)).any (fun z => PyData.eqv z (toP n x)) = ys.any fun y => deq n y x
  | [], _ => rfl
  | y :: ys, h => by
    simp only [List.all_cons, Bool.and_eq_true] at h
    simp only [List.map_cons, List.any_cons, eqv_toP n y x h.1 hx, any_toP hx ys h.2]
theorem sou_mem {neg : Bool} {op : CmpOp} (ho : op = if neg then .NotIn else .In) {pins : List (Addr × Obj)} {s : Shared} {σ : St} {H : Hp} {x y : V} {v u : Value} {Q : VK} {F : Bz} {G : Gs} {dx dy : D} {ys : List D} {b : Bool} (a : At Γ S n X Wx) (I : Inv X pins σ H s) (rx : RelV x v) (ry : RelV y u)
    (g : RelG Γ.R G F H) (vx : Vw Γ.R H (bz G F) x dx) (vy : Vw Γ.R H (bz G F) y dy) (hy : dy = .lst ys ∨ dy = .tup ys ∨ (dy = .dft ∧ ys = [])) (e : memD dx ys = some b) (k : Q (.bl (if neg then !b else b)) H) : wpAny (model X.prog X.w) X.A (compareOp op v u) (EP X pins σ Q) X.xe s := by
  unfold memD at e
  split at e
  · rename_i hf
    cases e
    rw [Bool.and_eq_true] at hf
    have hK : X.K = Γ.R.K := a.K
    have hr : X.A.units + 1 + min (PyData.depthAll (ys.map (toP 60))) (toP 60 dx).depth < cLine := by
      have := depth_toP _ _ hf.1
      have := a.units
      omega
    obtain ⟨as, r1⟩ := Dp.reads I _ x v (by rw [hK]; exact dp_vw vx hf.1) rx
    have p1 := plain_toP _ _ hf.1
    have p2 := plainAll_map (plain_toP 60) ys hf.2
    have hq := any_toP hf.1 ys hf.2
    rcases hy with rfl | rfl | ⟨rfl, rfl⟩
    · obtain ⟨bs, r2⟩ := Dp.reads I (.list (ys.map (toP 60))) y u (by rw [hK]; exact dp_vw (n := 61) vy hf.2) ry
      subst ho
      cases neg
      · exact SeqAt.in_list_data r2 r1 p2 p1 hr ⟨.bl _, H, I, rfl, by rw [hq]; exact k⟩
      · exact SeqAt.notIn_list_data r2 r1 p2 p1 hr ⟨.bl _, H, I, rfl, by rw [hq]; exact k⟩
    · obtain ⟨bs, r2⟩ := Dp.reads I (.tuple (ys.map (toP 60))) y u (by rw [hK]; exact dp_vw (n := 61) vy hf.2) ry
      subst ho
      cases neg
      · exact SeqAt.in_tuple_data r2 r1 p2 p1 hr ⟨.bl _, H, I, rfl, by rw [hq]; exact k⟩
      · exact SeqAt.notIn_tuple_data r2 r1 p2 p1 hr ⟨.bl _, H, I, rfl, by rw [hq]; exact k⟩
    · obtain ⟨bs, r2⟩ := Dp.reads I (.tuple ([].map (toP 60))) y u (by rw [hK]; exact dp_vw (n := 61) vy rfl) ry
      subst ho
      cases neg
      · exact SeqAt.in_tuple_data r2 r1 p2 p1 hr ⟨.bl _, H, I, rfl, by rw [hq]; exact k⟩
      · exact SeqAt.notIn_tuple_data r2 r1 p2 p1 hr ⟨.bl _, H, I, rfl, by rw [hq]; exact k⟩
  · exact memX_ok ho I a.K (by have := a.units; omega) rx ry vx vy hy e k
theorem map_some' {α β : Type} {o : Option α} {f : α → β} {d : β} (h : o.map f = some d) : ∃ a, o = some a ∧ f a = d := by
  cases o with
  | none => cases h
  | some a => exact ⟨a, rfl, Option.some.inj h⟩
theorem sou_in : OpS (compareOp .In) inD := by
  intro Γ S n X Wx a pins s σ H x y v u Q F G dx dy d I rx ry g vx vy e k
  cases dy with
  | lst ys =>
    obtain ⟨b, e1, rfl⟩ := map_some' (show (memD dx ys).map D.bl = some d by cases dx <;> exact e)
    exact sou_mem (neg := false) rfl a I rx ry g vx vy (.inl rfl) e1 (k _ _ (Ext.refl _ _) g (.bl _))
  | tup ys =>
    obtain ⟨b, e1, rfl⟩ := map_some' (show (memD dx ys).map D.bl = some d by cases dx <;> exact e)
    exact sou_mem (neg := false) rfl a I rx ry g vx vy (.inr (.inl rfl)) e1 (k _ _ (Ext.refl _ _) g (.bl _))
  | dft =>
    obtain ⟨b, e1, rfl⟩ := map_some' (show (memD dx []).map D.bl = some d by cases dx <;> exact e)
    exact sou_mem (neg := false) rfl a I rx ry g vx vy (.inr (.inr ⟨rfl, rfl⟩)) e1 (k _ _ (Ext.refl _ _) g (.bl _))
  | str z =>
    cases dx with
    | str w =>
      match w, e with
      | [c], e =>
        cases e
        rw [vx.str] at rx
        rw [vy.str] at ry
        refine op_in_sign pins s σ H _ _ v u Q I rx ry ⟨c, _, rfl, rfl, ?_⟩
        exact k _ _ (Ext.refl _ _) g (.bl _)
      | [], e => cases e
      | _ :: _ :: _, e => cases e
    | _ => cases e
  | _ => cases dx <;> (first | (cases e; done) | (rename_i w _; cases w <;> (try rename_i q r; cases r) <;> cases e) | (rename_i w; cases w <;> (try rename_i q r; cases r) <;> cases e))
theorem sou_nin : OpS (compareOp .NotIn) ninD := by
  intro Γ S n X Wx a pins s σ H x y v u Q F G dx dy d I rx ry g vx vy e k
  cases dy with
  | lst ys =>
    obtain ⟨b, e1, rfl⟩ := map_some' (show (memD dx ys).map (fun b => D.bl !b) = some d by cases dx <;> exact e)
    exact sou_mem (neg := true) rfl a I rx ry g vx vy (.inl rfl) e1 (k _ _ (Ext.refl _ _) g (.bl _))
  | tup ys =>
    obtain ⟨b, e1, rfl⟩ := map_some' (show (memD dx ys).map (fun b => D.bl !b) = some d by cases dx <;> exact e)
    exact sou_mem (neg := true) rfl a I rx ry g vx vy (.inr (.inl rfl)) e1 (k _ _ (Ext.refl _ _) g (.bl _))
  | dft =>
    obtain ⟨b, e1, rfl⟩ := map_some' (show (memD dx []).map (fun b => D.bl !b) = some d by cases dx <;> exact e)
    exact sou_mem (neg := true) rfl a I rx ry g vx vy (.inr (.inr ⟨rfl, rfl⟩)) e1 (k _ _ (Ext.refl _ _) g (.bl _))
  | str z =>
    cases dx with
    | str w =>
      match w, e with
      | [c], e =>
        cases e
        rw [vx.str] at rx
        rw [vy.str] at ry
        refine op_notIn_sign pins s σ H _ _ v u Q I rx ry ⟨c, _, rfl, rfl, ?_⟩
        exact k _ _ (Ext.refl _ _) g (.bl _)
      | [], e => cases e
      | _ :: _ :: _, e => cases e
    | _ => cases e
  | _ => cases dx <;> (first | (cases e; done) | (rename_i w _; cases w <;> (try rename_i q r; cases r) <;> cases e) | (rename_i w; cases w <;> (try rename_i q r; cases r) <;> cases e))
end
end DL
set_option Elab.async false
set_option linter.all false
set_option maxRecDepth 100000
set_option maxHeartbeats 4000000
namespace DL
open PySem PySem.Spec PyProof.Rows L2
/-! ### W: expressions -/
def nth : Rho → Nat → Option D
  | [], _ => none
  | x :: _, 0 => x
  | _ :: r, i + 1 => nth r i
theorem nth_eq : ∀ (ρ : Rho) (i : Nat), nth ρ i = (ρ[i]?).join
  | [], i => by simp [nth]
  | x :: r, 0 => by simp [nth]
  | x :: r, i + 1 => by simp [nth, nth_eq r i]
theorem nth_some {ρ : Rho} {i : Nat} {d : D} (h : nth ρ i = some d) : ρ[i]? = some (some d) := by
  rw [nth_eq] at h
  cases e : ρ[i]? with
  | none => rw [e] at h; cases h
  | some x => rw [e] at h; exact congrArg some h
/-- of a value that is there -/
@[irreducible] def got (x : Option D) (k : D → Prop) : Prop := match x with | some d => k d | none => False
theorem got_some {x : Option D} {k : D → Prop} (h : got x k) : ∃ d, x = some d ∧ k d := by
  unfold got at h
  cases x with
  | none => exact h.elim
  | some d => exact ⟨d, rfl, h⟩
abbrev eVar (i : Nat) : WE := fun _ ρ G Q _ => got (nth ρ i) fun d => Q d G
abbrev eC (d : D) : WE := fun _ _ G Q _ => Q d G
abbrev eBin (op : D → D → Option D) (fa fb : WE) : WE := fun M ρ G Q E => fa M ρ G (fun x G1 => fb M ρ G1 (fun y G2 => got (op (lk G2 x) (lk G2 y)) fun d => Q d G2) E) E
abbrev eUn (op : D → Option D) (fa : WE) : WE := fun M ρ G Q E => fa M ρ G (fun x G1 => got (op (lk G1 x)) fun d => Q d G1) E
/-- a bool -/
abbrev tb (d : D) (k : Bool → Prop) : Prop := match d with | .bl b => k b | _ => False
theorem tb_some {d : D} {k : Bool → Prop} (h : tb d k) : ∃ b, d = .bl b ∧ k b := by
  cases d <;> first | exact h.elim | exact ⟨_, rfl, h⟩
abbrev eChain (op op' : D → D → Option D) (fa fb fc : WE) : WE := fun M ρ G Q E => fa M ρ G (fun x G1 => fb M ρ G1 (fun y G2 => got (op (lk G2 x) (lk G2 y)) fun d => tb d fun k =>
  if k = true then fc M ρ G2 (fun z G3 => got (op' (lk G3 y) (lk G3 z)) fun d' => Q d' G3) E else Q (.bl false) G2) E) E
/-- the truth of contents -/
def truD : D → Option Bool
  | .non => some false
  | .bl b => some b
  | .int i => some (i != 0)
  | .str s => if s.length ≤ lim then some (!s.isEmpty) else none
  | .lst l => some (!l.isEmpty)
  | .tup l => some (!l.isEmpty)
  | .dft => some false
  | _ => none
@[irreducible] def gotB (x : Option Bool) (k : Bool → Prop) : Prop := match x with | some d => k d | none => False
theorem gotB_some {x : Option Bool} {k : Bool → Prop} (h : gotB x k) : ∃ d, x = some d ∧ k d := by
  unfold gotB at h
  cases x with
  | none => exact h.elim
  | some d => exact ⟨d, rfl, h⟩
abbrev xTru (fa : WE) : WT := fun M ρ G Q E => fa M ρ G (fun x G1 => gotB (truD (lk G1 x)) fun b => Q b G1) E
abbrev xBl (fa : WE) : WT := fun M ρ G Q E => fa M ρ G (fun x G1 => tb x fun b => Q b G1) E
abbrev xAnd (a b : WT) : WT := fun M ρ G Q E => a M ρ G (fun c G1 => if c = true then b M ρ G1 Q E else Q false G1) E
abbrev xNot (a : WT) : WT := fun M ρ G Q E => a M ρ G (fun c G1 => Q (!c) G1) E
abbrev eIf (t : WT) (fa fb : WE) : WE := fun M ρ G Q E => t M ρ G (fun c G1 => if c = true then fa M ρ G1 Q E else fb M ρ G1 Q E) E
abbrev aNil : WA := fun _ _ G Q _ => Q [] G
abbrev aCons (fa : WE) (fr : WA) : WA := fun M ρ G Q E => fa M ρ G (fun x G1 => fr M ρ G1 (fun xs G2 => Q (x :: xs) G2) E) E
abbrev eTup (fa : WA) : WE := fun M ρ G Q E => fa M ρ G (fun xs G1 => Q (.tup xs) G1) E
abbrev eLst (fa : WA) : WE := fun M ρ G Q E => fa M ρ G (fun xs G1 => Q (.lst xs) G1) E
/-! ### lifted readings of values -/
def lr2 (R : Rc) (op : D → D → Option D) : R2 := fun x y H Q => ∃ F G dx dy d, RelG R G F H ∧ Vw R H (bz G F) x dx ∧ Vw R H (bz G F) y dy ∧ op dx dy = some d ∧ ∀ v' H', Ext H G H' G → RelG R G F H' → Rep R H' (bz G F) v' d → Q v' H'
section
variable {Γ : Gl} {S : Sc} {n : Nat} {X : Cx} {Wx : WX} {o : List Nat}
theorem OpS.opr {f : Value → Value → Sem Value} {op : D → D → Option D} (h : OpS f op) (a : At Γ S n X Wx) : OpR X f (lr2 Γ.R op) := by
  intro pins s σ H x y v u Q I rx ry q
  obtain ⟨F, G, dx, dy, d, g, vx, vy, e, k⟩ := q
  exact h a I rx ry g vx vy e k
theorem rpO.step {R : Rc} {F : Bz} {ad : Nat → Addr} {G G' : Gs} {H H' : Hp} {v : V} {d : D} (r : rpO R F o ad G H v d) (g : RelG R G (fo F o ad) H) (e : Ext H G H' G') : rpO R F o ad G' H' v d := by
  rcases r with r | ⟨i, hi, rfl, r⟩
  · exact .inl (r.mv e.mv)
  · exact .inr ⟨i, hi, rfl, r.mv e.mv fun o ho n => (e.1 _ o ho n (g.fr _ (.inr ⟨i, hi, rfl⟩)).1).1⟩
theorem rpO.vw {R : Rc} {F : Bz} {ad : Nat → Addr} {G : Gs} {H : Hp} {v : V} {d : D} (r : rpO R F o ad G H v d) (g : RelG R G (fo F o ad) H) : Vw R H (bz G (fo F o ad)) v (lk G d) := r.view g
/-- a binary operation, by its parts -/
theorem lg_bin {R : Rc} {M : Orc} {op : D → D → Option D} {fa fb : WE} {σ : St} {H : Hp} {Q : VK} (h : LE R o M Wx (eBin op fa fb) σ H Q) : tOp (lr2 R op) (LO R o M Wx fa) (LO R o M Wx fb) σ H Q := by
  obtain ⟨F, ad, ρ, G, Qd, Ed, rs, hf, k1, k2⟩ := h
  refine ⟨F, ad, ρ, G, _, Ed, rs, hf, fun v H1 dx G1 e1 g1 r1 q1 => ?_, k2⟩
  refine ⟨F, ad, ρ, G1, _, Ed, rs.step e1 g1, q1, fun u H2 dy G2 e2 g2 r2 q2 => ?_, fun cls dd x H' G' e g r q => k2 cls dd x H' G' (e1.trans e) g r q⟩
  obtain ⟨d, hd, q⟩ := got_some q2
  exact ⟨_, G2, _, _, d, g2, (r1.step g1 e2).vw g2, r2.vw g2, hd, fun v' H' e g r => k1 v' H' d G2 (e1.trans (e2.trans e)) g r q⟩
theorem je_op {a b : Expr} {pos : Pos} {p : Operator} {op : D → D → Option D} {fa fb : WE} (h : OpS (binaryOp p) op) (ha : JO Γ S o a fa) (hb : JO Γ S o b fb) : JE Γ S o (.BinOp a p b pos) (eBin op fa fb) :=
  ⟨fun n X Wx x => pe_anti (L2.pe_op (h.opr x) (ha.run n X Wx x) (hb.run n X Wx x)) fun σ H Q q => lg_bin q⟩
theorem je_cmp {a b : Expr} {pos : Pos} {p : CmpOp} {op : D → D → Option D} {fa fb : WE} (h : OpS (compareOp p) op) (ha : JO Γ S o a fa) (hb : JO Γ S o b fb) (hm : behindInMarks p b = false := by rfl) : JE Γ S o (.Compare a [p] [b] pos) (eBin op fa fb) :=
  ⟨fun n X Wx x => pe_anti (pe_cmpR (h.opr x) (ha.run n X Wx x) (hb.run n X Wx x) hm) fun σ H Q q => lg_bin q⟩
theorem lt_of {R : Rc} {M : Orc} {fa : WE} {σ : St} {H : Hp} {Q : Bool → Hp → Prop} (h : LT R o M Wx (xBl fa) σ H Q) : LE R o M Wx fa σ H fun x H' => ∃ k, x = .bl k ∧ Q k H' := by
  obtain ⟨F, ad, ρ, G, Qd, Ed, rs, hf, k1, k2⟩ := h
  refine ⟨F, ad, ρ, G, _, Ed, rs, hf, fun v H1 dx G1 e1 g1 r1 q1 => ?_, k2⟩
  obtain ⟨b, rfl, q⟩ := tb_some q1
  cases r1
  exact ⟨b, rfl, k1 b H1 b G1 e1 g1 rfl q⟩
theorem jt_cmp {a b : Expr} {pos : Pos} {p : CmpOp} {op : D → D → Option D} {fa fb : WE} (h : OpS (compareOp p) op) (ha : JO Γ S o a fa) (hb : JO Γ S o b fb) (hm : behindInMarks p b = false := by rfl) : JT Γ S o (.Compare a [p] [b] pos) (xBl (eBin op fa fb)) :=
  ⟨fun n X Wx x => pt_anti (pt_cmpR (h.opr x) (ha.run n X Wx x) (hb.run n X Wx x) hm) fun σ H Q q => lg_bin (lt_of q)⟩
theorem lg_chain {R : Rc} {M : Orc} {op op' : D → D → Option D} {fa fb fc : WE} {σ : St} {H : Hp} {Q : VK} (h : LE R o M Wx (eChain op op' fa fb fc) σ H Q) : tChain (lr2 R op) (lr2 R op') (LO R o M Wx fa) (LO R o M Wx fb) (LO R o M Wx fc) σ H Q := by
  obtain ⟨F, ad, ρ, G, Qd, Ed, rs, hf, k1, k2⟩ := h
  refine ⟨F, ad, ρ, G, _, Ed, rs, hf, fun v H1 dx G1 e1 g1 r1 q1 => ?_, k2⟩
  refine ⟨F, ad, ρ, G1, _, Ed, rs.step e1 g1, q1, fun u H2 dy G2 e2 g2 r2 q2 => ?_, fun cls dd x H' G' e g r q => k2 cls dd x H' G' (e1.trans e) g r q⟩
  obtain ⟨d, hd, q⟩ := got_some q2
  obtain ⟨k, rfl, q⟩ := tb_some q
  refine ⟨_, G2, _, _, _, g2, (r1.step g1 e2).vw g2, r2.vw g2, hd, fun v' H3 e3 g3 r3 => ?_⟩
  cases r3
  refine ⟨k, rfl, ?_⟩
  cases k with
  | false => exact k1 _ H3 _ G2 (e1.trans (e2.trans e3)) g3 (.bl false) q
  | true =>
    have e23 := e1.trans (e2.trans e3)
    refine ⟨F, ad, ρ, G2, _, Ed, rs.step e23 g3, q, fun w' H4 dz G4 e4 g4 r4 q4 => ?_, fun cls dd x H' G' e g r q => k2 cls dd x H' G' (e23.trans e) g r q⟩
    obtain ⟨d', hd', q'⟩ := got_some q4
    exact ⟨_, G4, _, _, d', g4, ((r2.step g2 e3).step g3 e4).vw g4, r4.vw g4, hd', fun v' H' e g r => k1 v' H' d' G4 (e23.trans (e4.trans e)) g r q'⟩
theorem jt_chain {a b c : Expr} {pos : Pos} {p p' : CmpOp} {op op' : D → D → Option D} {fa fb fc : WE} (h : OpS (compareOp p) op) (h' : OpS (compareOp p') op') (ha : JO Γ S o a fa) (hb : JO Γ S o b fb) (hc : JO Γ S o c fc)
    (hm : lastMarks [p, p'] [b, c] = false := by with_unfolding_all rfl) : JT Γ S o (.Compare a [p, p'] [b, c] pos) (xBl (eChain op op' fa fb fc)) :=
  ⟨fun n X Wx x => pt_anti (L2.pt_chain (h.opr x) (h'.opr x) (ha.run n X Wx x) (hb.run n X Wx x) (hc.run n X Wx x) hm) fun σ H Q q => lg_chain (lt_of q)⟩
/-! ### names, constants -/
def visB (sc : Scope) (x : Str) : Bool := match sc.names.lookup x with | some .local => true | some .cell => true | some .free => true | _ => false
theorem visB_ok {sc : Scope} {x : Str} (h : visB sc x = true) : Vis sc x := by
  unfold visB at h
  split at h <;> first | (rename_i e; exact .inl e) | (rename_i e; exact .inr (.inl e)) | (rename_i e; exact .inr (.inr e)) | cases h
def memN (i : Nat) (o : List Nat) : Bool := o.any (· == i)
theorem memN_no {i : Nat} {o : List Nat} (h : memN i o = false) : i ∉ o := by
  intro q
  have : memN i o = true := List.any_eq_true.mpr ⟨i, q, beq_self_eq_true i⟩
  rw [h] at this
  cases this
theorem memN_yes {i : Nat} {o : List Nat} (h : memN i o = true) : i ∈ o := by
  obtain ⟨j, hj, e⟩ := List.any_eq_true.mp h
  have := eq_of_beq e
  subst this
  exact hj
def dbgB (x : Str) : Bool := (x == ("__debug__" : Str)) || (x == ("__classdict__" : Str))
theorem je_var {i : Nat} {x : Str} {pos : Pos} (hN : S.N[i]? = some x) (hv : visB S.sc x = true) (ho : memN i o = false := by rfl) (hd : dbgB x = false := by decide +kernel) : JE Γ S o (.Name x pos) (eVar i) := by
  have hd2 := Bool.or_eq_false_iff.mp hd
  refine ⟨fun n X Wx a => pe_anti (pe_var (i := i) (by rw [a.N]; exact hN) (by rw [a.sc]; exact visB_ok hv) hd2.1 hd2.2) fun σ H Q ⟨F, ad, ρ, G, Qd, Ed, rs, hf, k1, k2⟩ => ?_⟩
  obtain ⟨d, e, q⟩ := got_some hf
  obtain ⟨v, h1, h2⟩ := rs.slot i d (nth_some e) (memN_no ho)
  exact ⟨v, h1, k1 v H d G (Ext.refl _ _) rs.g h2 q⟩
/-- an own slot's object as an operand -/
theorem jo_own {i : Nat} {x : Str} {pos : Pos} (hN : S.N[i]? = some x) (hv : visB S.sc x = true) (ho : memN i o = true := by rfl) (hd : dbgB x = false := by decide +kernel) : JO Γ S o (.Name x pos) (eVar i) := by
  have hd2 := Bool.or_eq_false_iff.mp hd
  refine ⟨fun n X Wx a => pe_anti (pe_var (i := i) (by rw [a.N]; exact hN) (by rw [a.sc]; exact visB_ok hv) hd2.1 hd2.2) fun σ H Q ⟨F, ad, ρ, G, Qd, Ed, rs, hf, k1, k2⟩ => ?_⟩
  obtain ⟨d, e, q⟩ := got_some hf
  obtain ⟨d', h1, h2, h3, h4⟩ := rs.own i (memN_yes ho)
  rw [nth_some e] at h1
  cases h1
  exact ⟨_, h2, k1 _ H d G (Ext.refl _ _) rs.g (.inr ⟨i, memN_yes ho, rfl, h3⟩) q⟩
theorem lg_const {R : Rc} {M : Orc} {d : D} {v : V} {σ : St} {H : Hp} {Q : VK} (hr : ∀ H B, Rep R H B v d) (h : LE R o M Wx (eC d) σ H Q) : Q v H := by
  obtain ⟨F, ad, ρ, G, Qd, Ed, rs, hf, k1, k2⟩ := h
  exact k1 v H d G (Ext.refl _ _) rs.g (hr _ _) hf
theorem je_int {i j pos} : JE Γ S o (.Constant (.int i) j pos) (eC (.int i)) := ⟨fun n X Wx a => pe_anti pe_int fun σ H Q q => lg_const (fun _ _ => .int i) q⟩
theorem je_bl {b j pos} : JE Γ S o (.Constant (.bool b) j pos) (eC (.bl b)) := ⟨fun n X Wx a => pe_anti pe_bl fun σ H Q q => lg_const (fun _ _ => .bl b) q⟩
theorem je_non {j pos} : JE Γ S o (.Constant .none j pos) (eC .non) := ⟨fun n X Wx a => pe_anti pe_non fun σ H Q q => lg_const (fun _ _ => .non) q⟩
theorem je_str {l : List Nat} {x : Str} {j pos} (h : x.cps.toList = l) : JE Γ S o (.Constant (.str x) j pos) (eC (.str l)) := ⟨fun n X Wx a => pe_anti pe_str fun σ H Q q => lg_const (fun _ _ => by rw [← h]; exact .str x) q⟩
/-- a module's name: a constant, a class, a def as a value -/
def glB (sc : Scope) (x : Str) : Bool := match sc.names.lookup x with | some .globalImplicit => true | _ => false
theorem glB_ok {Γ : Gl} {S : Sc} {n : Nat} {X : Cx} {Wx : WX} {x : Str} (a : At Γ S n X Wx) (h : glB S.sc x = true) : L2.Gl X x := by
  unfold glB at h
  show X.env.scope.names.lookup x = _
  rw [a.sc]
  split at h
  · assumption
  · cases h
theorem je_glob {x : Str} {v : V} {u : Value} {d : D} {pos : Pos} (hm : Γ.mg x = some u) (r : RelV v u) (hr : ∀ H B, Rep Γ.R H B v d) (hg : glB S.sc x = true := by rfl) (hd : dbgB x = false := by decide +kernel) : JE Γ S o (.Name x pos) (eC d) :=
  ⟨fun n X Wx a => pe_anti (pe_glob (glB_ok a hg) (by rw [a.mg]; exact hm) r (Bool.or_eq_false_iff.mp hd).1) fun σ H Q q => lg_const hr q⟩
/-! ### and, or, not, if -/
theorem tru_vw {R : Rc} {H : Hp} {B : Bz} {v : V} {d : D} {b : Bool} (r : Vw R H B v d) (e : truD d = some b) : TruV R.K v H b := by
  cases d with
  | non => rw [r.non]; cases e; rfl
  | bl c => rw [r.bl]; cases e; rfl
  | int i => rw [r.int]; cases e; rfl
  | str s =>
    rw [r.str]
    simp only [truD] at e
    split at e
    · rename_i hl
      cases e
      refine ⟨by rw [← lim_eq]; simpa [Str.length] using hl, ?_⟩
      cases s with
      | nil => rfl
      | cons c s =>
        have : (((⟨(c :: s).toArray⟩ : Str).length : Nat) : Int) = (s.length : Int) + 1 := by simp [Str.length]
        rw [this]
        have h2 : ((s.length : Int) + 1 != 0) = true := bne_iff_ne.mpr (by omega)
        rw [h2]
        rfl
    · cases e
  | lst l =>
    obtain ⟨a, xs, rfl, h, q⟩ := r.lst
    cases e
    refine .inl ⟨xs, SqL.of h, ?_⟩
    have hl := q.length
    cases xs <;> cases l <;> first | rfl | simp at hl
  | tup l =>
    obtain ⟨a, xs, rfl, h, q⟩ := r.tup
    cases e
    refine .inr (.inl ⟨xs, SqT.of h, ?_⟩)
    have hl := q.length
    cases xs <;> cases l <;> first | rfl | simp at hl
  | dft =>
    obtain ⟨a, rfl, h⟩ := r.dft
    cases e
    exact .inr (.inl ⟨[], .inr h, rfl⟩)
  | _ => cases e
/-- any expression as a test -/
theorem jt_tru {a : Expr} {fa : WE} (ha : JO Γ S o a fa) (he : ∀ (env : Env) whole, isTrue a env whole = (do let v ← whole; standAt a.pos; holding [v] (truthy v)) := by intro _ _; rfl) : JT Γ S o a (xTru fa) := by
  refine ⟨fun n X Wx x => pt_anti (pt_truth (ha.run n X Wx x) (he _)) fun σ H Q ⟨F, ad, ρ, G, Qd, Ed, rs, hf, k1, k2⟩ => ?_⟩
  refine ⟨F, ad, ρ, G, _, Ed, rs, hf, fun v H1 dx G1 e1 g1 r1 q1 => ?_, k2⟩
  obtain ⟨b, e, q⟩ := gotB_some q1
  exact ⟨b, by rw [x.K]; exact tru_vw (r1.vw g1) e, k1 b H1 b G1 e1 g1 rfl q⟩
theorem jt_not {a : Expr} {pos : Pos} {t : WT} (ha : JT Γ S o a t) : JT Γ S o (.UnaryOp .Not a pos) (xNot t) := by
  refine ⟨fun n X Wx x => pt_anti (L2.pt_not (ha.run n X Wx x)) fun σ H Q ⟨F, ad, ρ, G, Qd, Ed, rs, hf, k1, k2⟩ => ?_⟩
  refine ⟨F, ad, ρ, G, _, Ed, rs, hf, fun v H1 dx G1 e1 g1 r1 q1 => ?_, k2⟩
  cases r1
  exact k1 _ H1 _ G1 e1 g1 rfl q1
/-- and, or as tests, whatever their whole is -/
structure JW (Γ : Gl) (S : Sc) (o : List Nat) (e : Expr) (f : WT) : Prop where
  run : ∀ n X Wx, At Γ S n X Wx → PW X e (LT Γ.R o (Γ.M n) Wx f)
theorem pw_anti {X : Cx} {e : Expr} {t t' : TT} (h : PW X e t) (i : ∀ σ H Q, t' σ H Q → t σ H Q) : PW X e t' := ⟨fun wh pins s σ H Q I q => h.run wh pins s σ H Q I (i σ H Q q)⟩
theorem JW.jt {e : Expr} {f : WT} (h : JW Γ S o e f) : JT Γ S o e f := ⟨fun n X Wx x => (h.run n X Wx x).pt⟩
theorem jw_and1 {a : Expr} {pos : Pos} {t : WT} (ha : JT Γ S o a t) : JW Γ S o (.BoolOp .And [a] pos) t := ⟨fun n X Wx x => pw_and1 (ha.run n X Wx x)⟩
theorem jw_and {a b : Expr} {r : List Expr} {pos : Pos} {ta tb : WT} (ha : JT Γ S o a ta) (hb : JW Γ S o (.BoolOp .And (b :: r) pos) tb) : JW Γ S o (.BoolOp .And (a :: b :: r) pos) (xAnd ta tb) := by
  refine ⟨fun n X Wx x => pw_anti (L2.pw_and (ha.run n X Wx x) (hb.run n X Wx x)) fun σ H Q ⟨F, ad, ρ, G, Qd, Ed, rs, hf, k1, k2⟩ => ?_⟩
  refine ⟨F, ad, ρ, G, _, Ed, rs, hf, fun c H1 c' G1 e1 g1 r1 q1 => ?_, k2⟩
  cases r1
  cases c with
  | false => exact k1 _ H1 _ G1 e1 g1 rfl q1
  | true => exact ⟨F, ad, ρ, G1, Qd, Ed, rs.step e1 g1, q1, fun v H' d G' e g r q => k1 v H' d G' (e1.trans e) g r q, fun cls dd x H' G' e g r q => k2 cls dd x H' G' (e1.trans e) g r q⟩
theorem je_if {c a b : Expr} {pos : Pos} {t : WT} {fa fb : WE} (hc : JT Γ S o c t) (ha : JE Γ S o a fa) (hb : JE Γ S o b fb) : JE Γ S o (.IfExp c a b pos) (eIf t fa fb) := by
  refine ⟨fun n X Wx x => pe_anti (L2.pe_ifExp (hc.run n X Wx x) (ha.run n X Wx x) (hb.run n X Wx x)) fun σ H Q ⟨F, ad, ρ, G, Qd, Ed, rs, hf, k1, k2⟩ => ?_⟩
  refine ⟨F, ad, ρ, G, _, Ed, rs, hf, fun c H1 c' G1 e1 g1 r1 q1 => ?_, k2⟩
  cases r1
  cases c with
  | true => exact ⟨F, ad, ρ, G1, Qd, Ed, rs.step e1 g1, q1, fun v H' d G' e g r q => k1 v H' d G' (e1.trans e) g r q, fun cls dd x H' G' e g r q => k2 cls dd x H' G' (e1.trans e) g r q⟩
  | false => exact ⟨F, ad, ρ, G1, Qd, Ed, rs.step e1 g1, q1, fun v H' d G' e g r q => k1 v H' d G' (e1.trans e) g r q, fun cls dd x H' G' e g r q => k2 cls dd x H' G' (e1.trans e) g r q⟩
/-! ### displays -/
def noStar : Expr → Bool
  | .Starred .. => false
  | _ => true
theorem star_no {e : Expr} {es : List Expr} {env : Env} (h : noStar e = true) : starEach (e :: es) env = (false, eval e env) :: starEach es env := by
  cases e <;> first | rfl | cases h
theorem ja_nil : JA Γ S o [] aNil := ⟨fun n X Wx x => pa_anti pa_nil fun σ H Q ⟨F, ad, ρ, G, Qd, Ed, rs, hf, k1, k2⟩ => k1 [] H [] G (Ext.refl _ _) rs.g ⟨.nil, rfl⟩ hf⟩
theorem ja_cons {e : Expr} {es : List Expr} {fa : WE} {fr : WA} (ha : JE Γ S o e fa) (hr : JA Γ S o es fr) (h : noStar e = true := by rfl) : JA Γ S o (e :: es) (aCons fa fr) := by
  refine ⟨fun n X Wx x => pa_anti (pa_cons (ha.run n X Wx x) (hr.run n X Wx x) (star_no h)) fun σ H Q ⟨F, ad, ρ, G, Qd, Ed, rs, hf, k1, k2⟩ => ?_⟩
  refine ⟨F, ad, ρ, G, _, Ed, rs, hf, fun v H1 dx G1 e1 g1 r1 q1 => ?_, k2⟩
  exact ⟨F, ad, ρ, G1, _, Ed, rs.step e1 g1, q1, fun vs H2 ds G2 e2 g2 r2 q2 => k1 _ H2 _ G2 (e1.trans e2) g2 ⟨.cons (r1.mv e2.mv) r2.1, congrArg Nat.succ r2.2⟩ q2, fun cls dd x H' G' e g r q => k2 cls dd x H' G' (e1.trans e) g r q⟩
theorem je_tup {es : List Expr} {k : Nat} {pos : Pos} {fa : WA} (ha : JA Γ S o es fa) (hl : Nat.ble es.length lim = true := by rfl) : JE Γ S o (.Tuple es k pos) (eTup fa) := by
  refine ⟨fun n X Wx x => pe_anti (pe_tup (ha.run n X Wx x)) fun σ H Q ⟨F, ad, ρ, G, Qd, Ed, rs, hf, k1, k2⟩ => ?_⟩
  refine ⟨F, ad, ρ, G, _, Ed, rs, hf, fun vs H1 ds G1 e1 g1 r1 q1 => ⟨by rw [r1.2, ← lim_eq]; exact Nat.le_of_ble_eq_true hl, fun p hp => ?_⟩, k2⟩
  exact k1 _ _ _ G1 (e1.trans (Ext.upd hp)) (g1.new hp) (.tup upd_same (r1.1.mv (ext_new hp))) q1
theorem je_lst {es : List Expr} {pos : Pos} {fa : WA} (ha : JA Γ S o es fa) (hl : Nat.ble es.length lim = true := by rfl) : JE Γ S o (.List es pos) (eLst fa) := by
  refine ⟨fun n X Wx x => pe_anti (pe_lst (ha.run n X Wx x)) fun σ H Q ⟨F, ad, ρ, G, Qd, Ed, rs, hf, k1, k2⟩ => ?_⟩
  refine ⟨F, ad, ρ, G, _, Ed, rs, hf, fun vs H1 ds G1 e1 g1 r1 q1 => ⟨by rw [r1.2, ← lim_eq]; exact Nat.le_of_ble_eq_true hl, fun p hp => ?_⟩, k2⟩
  exact k1 _ _ _ G1 (e1.trans (Ext.upd hp)) (g1.new hp) (.lst upd_same (g1.busy hp) (r1.1.mv (ext_new hp))) q1
end
end DL
set_option Elab.async false
set_option linter.all false
set_option maxRecDepth 100000
set_option maxHeartbeats 4000000
namespace DL
open PySem PySem.Spec PyProof.Rows L2
/-! ### keys -/
def keq1 : D → D → Bool
  | .int a, .int b => a == b
  | .str a, .str b => a == b
  | _, _ => false
def keq : D → D → Bool
  | .tup a, .tup b => all2 keq1 a b
  | x, y => keq1 x y
def keyK : D → Option Key
  | .int i => some (.inl i)
  | .str s => some (.inr ⟨s.toArray⟩)
  | _ => none
def keysK : List D → Option (List Key)
  | [] => some []
  | d :: r => match keyK d, keysK r with
    | some k, some ks => some (k :: ks)
    | _, _ => none
def keyOk : Bool → D → Bool
  | false, d => (keyK d).isSome
  | true, .tup l => (keysK l).isSome
  | true, _ => false
def dgetD (l : List (D × D)) (k : D) : Option D := (l.find? fun p => keq p.1 k).map (·.2)
theorem keyD_K {d : D} {k : Key} (h : keyK d = some k) : keyD k = d := by
  cases d <;> first | (cases h; done) | (cases h; simp [keyD])
theorem keyDs_K : ∀ {l : List D} {ks : List Key}, keysK l = some ks → ks.map keyD = l
  | [], _, h => by cases h; rfl
  | d :: r, ks, h => by
    simp only [keysK] at h
    split at h
    · rename_i k ks' h1 h2
      cases h
      rw [List.map_cons, keyD_K h1, keyDs_K h2]
    · cases h
theorem keq1_key (k j : Key) : keq1 (keyD k) (keyD j) = decide (k = j) := by
  cases k with
  | inl a =>
    cases j with
    | inl b => show (a == b) = _; rw [key_ll]
    | inr y => show false = _; rw [key_lr]
  | inr x =>
    cases j with
    | inl b => show false = _; rw [key_rl]
    | inr y =>
      show (x.cps.toList == y.cps.toList) = _
      rw [key_rr]
      by_cases h : x = y
      · subst h; simp
      · rw [decide_eq_false h]
        refine beq_eq_false_iff_ne.mpr fun q => h ?_
        cases x; cases y
        simpa using q
theorem keq_key (k j : Key) : keq (keyD k) (keyD j) = decide (k = j) := by
  rw [← keq1_key]
  cases k <;> cases j <;> rfl
theorem keq_keys : ∀ (ks js : List Key), all2 keq1 (ks.map keyD) (js.map keyD) = decide (ks = js)
  | [], [] => rfl
  | [], _ :: _ => rfl
  | _ :: _, [] => rfl
  | k :: ks, j :: js => by
    simp only [List.map_cons, all2, keq1_key, keq_keys ks js, List.cons.injEq]
    by_cases h1 : k = j <;> by_cases h2 : ks = js <;> simp [h1, h2]
section
variable {R : Rc} {H : Hp} {B : Bz}
theorem rep_key {v : V} {k : Key} (r : Rep R H B v (keyD k)) : v = kV k := by
  cases k with
  | inl i => cases r; rfl
  | inr x =>
    obtain ⟨z, e1, e2⟩ : ∃ z : Str, v = .str z ∧ z.cps.toList = x.cps.toList := by
      generalize hd : keyD (Sum.inr x) = d at r
      cases r <;> first | (cases hd; done) | (rename_i z; exact ⟨z, rfl, (D.str.inj hd).symm⟩)
    have : z = x := by cases z; cases x; simpa using e2
    rw [e1, this]
    rfl
theorem reps_keys : ∀ {ks : List Key} {vs : List V}, Reps R H B vs (ks.map keyD) → vs = ks.map kV
  | [], vs, r => by cases r; rfl
  | k :: ks, vs, r => by
    cases r with
    | cons h t => rw [rep_key h, reps_keys t]; rfl
/-- a dict's value and the contents' -/
theorem repK_get : ∀ {kvs : List (Key × V)} {ds : List (D × D)} (k : Key), RepK R H B kvs ds →
    (∃ v d, valV kvs k = some v ∧ dgetD ds (keyD k) = some d ∧ Rep R H B v d) ∨ (valV kvs k = none ∧ dgetD ds (keyD k) = none)
  | _, _, k, .nil => .inr ⟨rfl, rfl⟩
  | _, _, k, @RepK.cons _ _ _ j v r d ds h t => by
    by_cases e : j = k
    · refine .inl ⟨v, d, valV_pos e, ?_, h⟩
      unfold dgetD
      rw [List.find?_cons, keq_key, decide_eq_true e]
      rfl
    · rcases repK_get k t with ⟨v', d', h1, h2, h3⟩ | ⟨h1, h2⟩
      · refine .inl ⟨v', d', (valV_neg e).trans h1, ?_, h3⟩
        unfold dgetD
        rw [List.find?_cons, keq_key, decide_eq_false e]
        exact h2
      · refine .inr ⟨(valV_neg e).trans h1, ?_⟩
        unfold dgetD
        rw [List.find?_cons, keq_key, decide_eq_false e]
        exact h2
theorem keq_tup (ks js : List Key) : keq (.tup (ks.map keyD)) (.tup (js.map keyD)) = decide (ks = js) := keq_keys ks js
theorem repT_get : ∀ {kvs : List (List Key × V)} {ds : List (D × D)} (k : List Key), RepT R H B kvs ds →
    (∃ v d, valV kvs k = some v ∧ dgetD ds (.tup (k.map keyD)) = some d ∧ Rep R H B v d) ∨ (valV kvs k = none ∧ dgetD ds (.tup (k.map keyD)) = none)
  | _, _, k, .nil => .inr ⟨rfl, rfl⟩
  | _, _, k, @RepT.cons _ _ _ j v r d ds h t => by
    by_cases e : j = k
    · refine .inl ⟨v, d, valV_pos e, ?_, h⟩
      unfold dgetD
      rw [List.find?_cons, keq_tup, decide_eq_true e]
      rfl
    · rcases repT_get k t with ⟨v', d', h1, h2, h3⟩ | ⟨h1, h2⟩
      · refine .inl ⟨v', d', (valV_neg e).trans h1, ?_, h3⟩
        unfold dgetD
        rw [List.find?_cons, keq_tup, decide_eq_false e]
        exact h2
      · refine .inr ⟨(valV_neg e).trans h1, ?_⟩
        unfold dgetD
        rw [List.find?_cons, keq_tup, decide_eq_false e]
        exact h2
theorem repK_len : ∀ {kvs : List (Key × V)} {ds : List (D × D)}, RepK R H B kvs ds → kvs.length = ds.length
  | _, _, .nil => rfl
  | _, _, .cons h t => congrArg Nat.succ (repK_len t)
theorem repT_len : ∀ {kvs : List (List Key × V)} {ds : List (D × D)}, RepT R H B kvs ds → kvs.length = ds.length
  | _, _, .nil => rfl
  | _, _, .cons h t => congrArg Nat.succ (repT_len t)
end
/-! ### subscripts -/
def strAt (s : List Nat) (i : Int) : Option D := if s.length ≤ lim then (atI s i).map fun c => .str [c] else none
def ixD : D → D → Option D
  | .lst l, .int i => atI l i
  | .tup l, .int i => atI l i
  | .str s, .int i => strAt s i
  | .scr ns, .int i => (atI ns i).map .int
  | .dic t l, k => if keyOk t k then dgetD l k else none
  | _, _ => none
theorem reps_atI {R : Rc} {H : Hp} {B : Bz} {vs : List V} {ds : List D} {i : Int} {d : D} (r : Reps R H B vs ds) (h : atI ds i = some d) : ∃ v, atI vs i = some v ∧ Rep R H B v d := by
  unfold atI at h ⊢
  rw [r.length]
  cases e : ixN ds.length i with
  | none => rw [e] at h; cases h
  | some j =>
    rw [e] at h
    obtain ⟨v, h1, h2⟩ := r.get (show ds[j]? = some d from h)
    exact ⟨v, h1, h2⟩
section
variable {Γ : Gl} {S : Sc} {n : Nat} {X : Cx} {Wx : WX} {o : List Nat}
theorem At.u1 (a : At Γ S n X Wx) : X.A.units + 1 < cLine := by have := a.units; omega
theorem vw_key {H : Hp} {B : Bz} {R : Rc} {v : V} {d : D} (h : Vw R H B v d) (hk : (keyK d).isSome = true) : ∃ k, keyD k = d ∧ v = kV k := by
  obtain ⟨k, e⟩ := Option.isSome_iff_exists.mp hk
  have e2 := keyD_K e
  refine ⟨k, e2, ?_⟩
  rcases h with h | ⟨a, rfl, h⟩
  · rw [← e2] at h; exact rep_key h
  · cases h <;> cases e
/-- a key of tuples: its object is tracked (a tuple of none that is the module's isn't asked) -/
theorem vw_keys {H : Hp} {B : Bz} {R : Rc} {v : V} {d : D} (h : Rep R H B v d) (hk : keyOk true d = true) : ∃ (ks : List Key) (b : Addr), d = .tup (ks.map keyD) ∧ v = .ref b ∧ H b = some (.tup (ks.map kV)) := by
  cases d with
  | tup l =>
    obtain ⟨ks, e⟩ := Option.isSome_iff_exists.mp (show (keysK l).isSome = true from hk)
    have e2 := keyDs_K e
    cases h with
    | tup h1 h2 =>
      rw [← e2] at h2
      refine ⟨ks, _, by rw [e2], rfl, ?_⟩
      rw [← reps_keys h2]
      exact h1
  | _ => cases hk
/-- a dict asked by a key -/
theorem dget_of {H : Hp} {B : Bz} {R : Rc} {v u : V} {t : Bool} {l : List (D × D)} {k : D} (h : Vw R H B v (.dic t l)) (hk : Rep R H B u k) (ok : keyOk t k = true) :
    ∃ a, v = .ref a ∧ ((∃ w d, dgetD l k = some d ∧ Rep R H B w d ∧ DGet H a u (some w)) ∨ (dgetD l k = none ∧ DGet H a u none)) := by
  cases t with
  | false =>
    obtain ⟨a, kvs, rfl, ha, r⟩ := h.dicK
    obtain ⟨j, rfl, rfl⟩ := vw_key (.inl hk) ok
    refine ⟨a, rfl, ?_⟩
    rcases repK_get j r with ⟨w, d, h1, h2, h3⟩ | ⟨h1, h2⟩
    · exact .inl ⟨w, d, h2, h3, by rw [← h1]; exact DGet.k ha⟩
    · exact .inr ⟨h2, by rw [← h1]; exact DGet.k ha⟩
  | true =>
    obtain ⟨a, kvs, rfl, ha, r⟩ := h.dicT
    obtain ⟨ks, b, rfl, rfl, hb⟩ := vw_keys hk ok
    refine ⟨a, rfl, ?_⟩
    rcases repT_get ks r with ⟨w, d, h1, h2, h3⟩ | ⟨h1, h2⟩
    · exact .inl ⟨w, d, h2, h3, by rw [← h1]; exact DGet.t ha hb⟩
    · exact .inr ⟨h2, by rw [← h1]; exact DGet.t ha hb⟩
theorem tail_any {prog : Program} {w : World} {A : Around} {E : Value → Shared → Prop} {s : Shared} {value slice : Expr} {o i : Value} {T id : String} {Q : Value → Shared → Prop} (hT : s.TypeIs o T)
    (hl : typeLookup (.type T) "__getitem__" = pure (some (.builtin id))) (hs : subscripted slice false o i = operate [o, i] (getItem o i)) (h : wpAny (model prog w) A (getItem o i) Q E s) : wpAny (model prog w) A (subscriptTail value slice o i) Q E s := by
  unfold subscriptTail
  refine wpAny_bind ?_
  rw [getitemInPython_of_ne hT.not_modules]
  refine wpAny_bind (wpAny_specialOf hT hl ?_)
  have fin : wpAny (model prog w) A (subscripted slice false o i) (fun r s₃ => wpAny (model prog w) A (letTemporaryGo value o r >>= fun _ => pure r) Q E s₃) E s := by
    rw [hs]
    exact wpAny_operating (wpAny_mono h (fun r s₃ h₃ => wpAny_bind (wpAny_letTemporaryGo (wpAny_pure h₃))) fun _ _ x => x)
  first
    | exact wpAny_pure (wpAny_bind fin)
    | exact wpAny_bind (wpAny_pure (wpAny_bind fin))
    | exact wpAny_bind fin
/-- the lifted reading: the second one as it is -/
def lr2S (R : Rc) (op : D → D → Option D) : R2 := fun x y H Q => ∃ F G dx dy d, RelG R G F H ∧ Vw R H (bz G F) x dx ∧ Rep R H (bz G F) y dy ∧ op dx dy = some d ∧ ∀ v' H', Ext H G H' G → RelG R G F H' → Rep R H' (bz G F) v' d → Q v' H'
theorem ix_ok (a : At Γ S n X Wx) : IxR X (lr2S Γ.R ixD) := by
  intro value slice pins s σ H x y v u Q I rx ry ⟨F, G, dx, dy, d, g, vx, vy, e, k⟩ hs
  have hK : X.K = Γ.R.K := a.K
  cases dx with
  | lst l =>
    cases dy with
    | int i =>
      obtain ⟨b, xs, rfl, h1, r1⟩ := vx.lst
      cases vy
      obtain ⟨w, h2, h3⟩ := reps_atI r1 (show atI l i = some d from e)
      exact ix_list value slice pins s σ H _ _ v u Q I rx ry ⟨b, xs, i, w, rfl, rfl, SqL.of h1, h2, k w H (Ext.refl _ _) g h3⟩ hs
    | _ => cases e
  | tup l =>
    cases dy with
    | int i =>
      obtain ⟨b, xs, rfl, h1, r1⟩ := vx.tup
      cases vy
      obtain ⟨w, h2, h3⟩ := reps_atI r1 (show atI l i = some d from e)
      exact ix_tup value slice pins s σ H _ _ v u Q I rx ry ⟨b, xs, i, w, rfl, rfl, SqT.of h1, h2, k w H (Ext.refl _ _) g h3⟩ hs
    | _ => cases e
  | str z =>
    cases dy with
    | int i =>
      rw [vx.str] at rx
      cases vy
      simp only [ixD, strAt] at e
      split at e
      · rename_i hl
        cases h : atI z i with
        | none => rw [h] at e; cases e
        | some c =>
          rw [h] at e
          cases e
          refine ix_str value slice pins s σ H _ _ v u Q I rx ry ⟨⟨z.toArray⟩, i, c, rfl, rfl, by rw [← lim_eq]; simpa [Str.length] using hl, by simpa using h, k _ H (Ext.refl _ _) g ?_⟩ hs
          exact rep_str [c]
      · cases e
    | _ => cases e
  | scr ns =>
    cases dy with
    | int i =>
      rcases vx with vx | ⟨b, rfl, vx⟩
      · cases vx with
        | scr h1 =>
          cases vy
          cases h : atI ns i with
          | none => simp only [ixD] at e; rw [h] at e; cases e
          | some c =>
            simp only [ixD] at e
            rw [h] at e
            cases e
            refine ix_list value slice pins s σ H _ _ v u Q I rx ry ⟨_, _, i, .int c, rfl, rfl, by rw [hK]; exact h1.sql, ?_, k _ H (Ext.refl _ _) g (.int c)⟩ hs
            unfold atI at h ⊢
            rw [List.length_map]
            cases hj : ixN ns.length i with
            | none => rw [hj] at h; cases h
            | some j =>
              rw [hj] at h
              show (ns.map V.int)[j]? = _
              rw [List.getElem?_map]
              exact congrArg (Option.map V.int) h
      · cases vx
    | _ => cases e
  | dic t l =>
    simp only [ixD] at e
    split at e
    · rename_i ok
      obtain ⟨b, rfl, ⟨w, d', h1, h2, h3⟩ | ⟨h1, _⟩⟩ := dget_of vx vy ok
      · rw [h1] at e
        cases e
        cases rx
        exact tail_any (dict_typeIs I h3) PySem.F.slot_dict_getitem.lookup hs (d_getItem a.u1 I h3 ry fun w' s3 I3 rw' => ⟨w, H, I3, rw', k w H (Ext.refl _ _) g h2⟩)
      · rw [h1] at e; cases e
    · cases e
  | _ => cases e
end
end DL
set_option Elab.async false
set_option linter.all false
set_option maxRecDepth 100000
set_option maxHeartbeats 4000000
namespace DL
open PySem PySem.Spec PyProof.Rows L2
/-! ### objects just made -/
inductive FO (R : Rc) (H : Hp) (B : Bz) : HO → D → Prop
  | lst {xs : List V} {ds : List D} (r : Reps R H B xs ds) : FO R H B (.lst xs) (.lst ds)
  | dicK {kvs : List (Key × V)} {ds : List (D × D)} (r : RepK R H B kvs ds) : FO R H B (.dK kvs) (.dic false ds)
  | dicT {kvs : List (List Key × V)} {ds : List (D × D)} (r : RepT R H B kvs ds) : FO R H B (.dT kvs) (.dic true ds)
  | obj {C dx : Addr} {c : Nat} {fs : List (Str × V)} {ds : List D} (hc : R.cls c = some C) (hf : fs.map Prod.fst = (R.fld c).take fs.length) (r : Reps R H B (fs.map Prod.snd) ds) : FO R H B (.ins C dx fs) (.obj c ds)
theorem FO.mv {R : Rc} {H H' : Hp} {B B' : Bz} {ob : HO} {d : D} (m : Mv H B H' B') (h : FO R H B ob d) : FO R H' B' ob d := by
  cases h with
  | lst r => exact .lst (r.mv m)
  | dicK r => exact .dicK (r.mv m)
  | dicT r => exact .dicT (r.mv m)
  | obj hc hf r => exact .obj hc hf (r.mv m)
theorem FO.rep {R : Rc} {G : Gs} {F : Bz} {H : Hp} {p : Addr} {ob : HO} {d : D} (h : FO R H (bz G F) ob d) (g : RelG R G F H) (hp : H p = none) : Rep R (upd H p ob) (bz G F) (.ref p) d := by
  cases h with
  | lst r => exact .lst upd_same (g.busy hp) (r.mv (ext_new hp))
  | dicK r => exact .dicK upd_same (g.busy hp) (r.mv (ext_new hp))
  | dicT r => exact .dicT upd_same (g.busy hp) (r.mv (ext_new hp))
  | obj hc hf r => exact .obj hc upd_same (g.busy hp) hf (r.mv (ext_new hp))
theorem FO.mut {R : Rc} {H : Hp} {B : Bz} {ob : HO} {d : D} (h : FO R H B ob d) : (∀ ps, ob ≠ .tbl ps) := by
  cases h <;> intro _ z <;> cases z
/-- a fresh result -/
def LF (R : Rc) (o : List Nat) (M : Orc) (Wx : WX) (f : WE) : TE :=
  fun σ H Q => ∃ F ad ρ G Qd Ed, RelS R F o ad ρ G σ H ∧ f M ρ G Qd Ed ∧
    (∀ p ob H' d G', Ext H G H' G' → RelG R G' (fo F o ad) H' → H' p = none → FO R H' (bz G' (fo F o ad)) ob d → Qd d G' → Q (.ref p) (upd H' p ob)) ∧
    (∀ cls dd x H' G', Ext H G H' G' → RelG R G' (fo F o ad) H' → RelX R H' (bz G' (fo F o ad)) cls dd x → Ed x G' → Wx cls dd σ H')
structure JF (Γ : Gl) (S : Sc) (o : List Nat) (e : Expr) (f : WE) : Prop where
  run : ∀ n X Wx, At Γ S n X Wx → PE X e (LF Γ.R o (Γ.M n) Wx f)
/-- operands -/
inductive Al (P : V → D → Prop) : List V → List D → Prop
  | nil : Al P [] []
  | cons {v : V} {d : D} {vs : List V} {ds : List D} : P v d → Al P vs ds → Al P (v :: vs) (d :: ds)
theorem Al.imp {P Q : V → D → Prop} (h : ∀ v d, P v d → Q v d) : ∀ {vs : List V} {ds : List D}, Al P vs ds → Al Q vs ds
  | _, _, .nil => .nil
  | _, _, .cons p r => .cons (h _ _ p) (Al.imp h r)
theorem Al.map {P : V → D → Prop} {Q : V → D → Prop} {g : D → D} (h : ∀ v d, P v d → Q v (g d)) : ∀ {vs : List V} {ds : List D}, Al P vs ds → Al Q vs (ds.map g)
  | _, _, .nil => .nil
  | _, _, .cons p r => .cons (h _ _ p) (Al.map h r)
def rpAO (k : Nat) : Rc → Bz → List Nat → (Nat → Addr) → Gs → Hp → List V → List D → Prop := fun R F o ad G H v d => Al (rpO R F o ad G H) v d ∧ v.length = k
abbrev LAO (k : Nat) := @LG (List V) (List D) (rpAO k)
structure JAO (Γ : Gl) (S : Sc) (o : List Nat) (es : List Expr) (f : WA) : Prop where
  run : ∀ n X Wx, At Γ S n X Wx → PA X es (LAO es.length Γ.R o (Γ.M n) Wx f)
section
variable {Γ : Gl} {S : Sc} {n : Nat} {X : Cx} {Wx : WX} {o : List Nat}
theorem JF.je {e : Expr} {f : WE} (h : JF Γ S o e f) : JE Γ S o e f :=
  ⟨fun n X Wx a => pe_anti (h.run n X Wx a) fun σ H Q ⟨F, ad, ρ, G, Qd, Ed, rs, hf, k1, k2⟩ => ⟨F, ad, ρ, G, Qd, Ed, rs, hf, fun p ob H' d G' e g hp fo q => k1 _ _ d G' (e.trans (Ext.upd hp)) (g.new hp) (fo.rep g hp) q, k2⟩⟩
theorem jao_nil : JAO Γ S o [] aNil := ⟨fun n X Wx x => pa_anti pa_nil fun σ H Q ⟨F, ad, ρ, G, Qd, Ed, rs, hf, k1, k2⟩ => k1 [] H [] G (Ext.refl _ _) rs.g ⟨.nil, rfl⟩ hf⟩
theorem jao_cons {e : Expr} {es : List Expr} {fa : WE} {fr : WA} (ha : JO Γ S o e fa) (hr : JAO Γ S o es fr) (h : noStar e = true := by rfl) : JAO Γ S o (e :: es) (aCons fa fr) := by
  refine ⟨fun n X Wx x => pa_anti (pa_cons (ha.run n X Wx x) (hr.run n X Wx x) (star_no h)) fun σ H Q ⟨F, ad, ρ, G, Qd, Ed, rs, hf, k1, k2⟩ => ?_⟩
  refine ⟨F, ad, ρ, G, _, Ed, rs, hf, fun v H1 dx G1 e1 g1 r1 q1 => ?_, k2⟩
  exact ⟨F, ad, ρ, G1, _, Ed, rs.step e1 g1, q1, fun vs H2 ds G2 e2 g2 r2 q2 => k1 _ H2 _ G2 (e1.trans e2) g2 ⟨.cons (r1.step g1 e2) r2.1, congrArg Nat.succ r2.2⟩ q2, fun cls dd x H' G' e g r q => k2 cls dd x H' G' (e1.trans e) g r q⟩
theorem jf_lst {es : List Expr} {pos : Pos} {fa : WA} (ha : JA Γ S o es fa) (hl : Nat.ble es.length lim = true := by rfl) : JF Γ S o (.List es pos) (eLst fa) := by
  refine ⟨fun n X Wx x => pe_anti (pe_lst (ha.run n X Wx x)) fun σ H Q ⟨F, ad, ρ, G, Qd, Ed, rs, hf, k1, k2⟩ => ?_⟩
  refine ⟨F, ad, ρ, G, _, Ed, rs, hf, fun vs H1 ds G1 e1 g1 r1 q1 => ⟨by rw [r1.2, ← lim_eq]; exact Nat.le_of_ble_eq_true hl, fun p hp => ?_⟩, k2⟩
  exact k1 _ _ _ _ G1 e1 g1 hp (.lst r1.1) q1
/-- lists put together -/
def catL : D → D → Option D
  | .lst a, .lst b => if a.length + b.length ≤ lim then some (.lst (a ++ b)) else none
  | _, _ => none
def OpF (f : Value → Value → Sem Value) (op : D → D → Option D) : Prop :=
  ∀ {Γ : Gl} {S : Sc} {n : Nat} {X : Cx} {Wx : WX}, At Γ S n X Wx → ∀ {pins : List (Addr × Obj)} {s : Shared} {σ : St} {H : Hp} {x y : V} {v u : Value} {Q : VK} {F : Bz} {G : Gs} {dx dy d : D}, Inv X pins σ H s → RelV x v → RelV y u →
    RelG Γ.R G F H → Vw Γ.R H (bz G F) x dx → Vw Γ.R H (bz G F) y dy → op dx dy = some d → (∀ p ob, H p = none → FO Γ.R H (bz G F) ob d → Q (.ref p) (upd H p ob)) → wpAny (model X.prog X.w) X.A (f v u) (EP X pins σ Q) X.xe s
theorem sof_cat : OpF (binaryOp .Add) catL := by
  intro Γ S n X Wx a pins s σ H x y v u Q F G dx dy d I rx ry g vx vy e k
  cases dx <;> cases dy <;> first | (cases e; done) | skip
  simp only [catL] at e
  split at e
  · rename_i hl
    cases e
    obtain ⟨b, xs, rfl, h1, r1⟩ := vx.lst
    obtain ⟨c, ys, rfl, h2, r2⟩ := vy.lst
    have l1 := r1.length
    have l2 := r2.length
    refine op_cat pins s σ H _ _ v u Q I rx ry ⟨b, c, xs, ys, rfl, rfl, h1, h2, by rw [← lim_eq, l1, l2]; exact hl, fun p hp => ?_⟩
    exact k p _ hp (.lst (r1.append r2))
  · cases e
def lr2F (R : Rc) (op : D → D → Option D) : R2 := fun x y H Q => ∃ F G dx dy d, RelG R G F H ∧ Vw R H (bz G F) x dx ∧ Vw R H (bz G F) y dy ∧ op dx dy = some d ∧ ∀ p ob, H p = none → FO R H (bz G F) ob d → Q (.ref p) (upd H p ob)
theorem jf_op {a b : Expr} {pos : Pos} {p : Operator} {op : D → D → Option D} {fa fb : WE} (h : OpF (binaryOp p) op) (ha : JO Γ S o a fa) (hb : JO Γ S o b fb) : JF Γ S o (.BinOp a p b pos) (eBin op fa fb) := by
  refine ⟨fun n X Wx w => pe_anti (L2.pe_op (r := lr2F Γ.R op) (fun pins s σ H x y v u Q I rx ry q => ?_) (ha.run n X Wx w) (hb.run n X Wx w)) fun σ H Q ⟨F, ad, ρ, G, Qd, Ed, rs, hf, k1, k2⟩ => ?_⟩
  · obtain ⟨F, G, dx, dy, d, g, vx, vy, e, k⟩ := q
    exact h w I rx ry g vx vy e k
  refine ⟨F, ad, ρ, G, _, Ed, rs, hf, fun v H1 dx G1 e1 g1 r1 q1 => ?_, k2⟩
  refine ⟨F, ad, ρ, G1, _, Ed, rs.step e1 g1, q1, fun u H2 dy G2 e2 g2 r2 q2 => ?_, fun cls dd x H' G' e g r q => k2 cls dd x H' G' (e1.trans e) g r q⟩
  obtain ⟨d, hd, q⟩ := got_some q2
  exact ⟨_, G2, _, _, d, g2, (r1.step g1 e2).vw g2, r2.vw g2, hd, fun p ob hp fo => k1 p ob H2 d G2 (e1.trans e2) g2 hp fo q⟩
/-! ### slices -/
def cutD {α : Type} (xs : List α) (lo hi : Option Int) : List α := (xs.drop (HT.sIx xs.length 0 lo)).take (HT.sIx xs.length xs.length hi - HT.sIx xs.length 0 lo)
theorem Reps.cut {R : Rc} {H : Hp} {B : Bz} {vs : List V} {ds : List D} (r : Reps R H B vs ds) (lo hi : Option Int) : Reps R H B (cutV vs lo hi) (cutD ds lo hi) := by
  unfold cutV cutD
  rw [r.length]
  exact (r.drop _).take _
/-- a part: left out, or an int -/
def toPart : Option Int → D
  | none => .non
  | some i => .int i
def ofPart : D → Option Int
  | .int i => some i
  | _ => none
abbrev eNoP : WE := fun _ _ G Q _ => Q .non G
abbrev eP (f : WE) : WE := fun M ρ G Q E => f M ρ G (fun d G1 => match d with | .int i => Q (.int i) G1 | _ => False) E
def slD (d lo hi : D) : Option D :=
  match d with
  | .lst xs => some (.lst (cutD xs (ofPart lo) (ofPart hi)))
  | .tup xs => some (.tup (cutD xs (ofPart lo) (ofPart hi)))
  | .dft => some .dft
  | .str z => if z.length ≤ lim then some (.str (cutD z (ofPart lo) (ofPart hi))) else none
  | .scr ns => some (.lst ((cutD ns (ofPart lo) (ofPart hi)).map .int))
  | _ => none
def slF (d lo hi : D) : Option D :=
  match d with
  | .lst xs => some (.lst (cutD xs (ofPart lo) (ofPart hi)))
  | .scr ns => some (.lst ((cutD ns (ofPart lo) (ofPart hi)).map .int))
  | _ => none
abbrev eSl (op : D → D → D → Option D) (fa fl fh : WE) : WE := fun M ρ G Q E => fa M ρ G (fun x G1 => fl M ρ G1 (fun l G2 => fh M ρ G2 (fun h G3 => got (op (lk G3 x) l h) fun d => Q d G3) E) E) E
def rpP : Rc → Bz → List Nat → (Nat → Addr) → Gs → Hp → Option Int → D → Prop := fun _ _ _ _ _ _ v d => d = toPart v
abbrev LP := @LG (Option Int) D rpP
structure JP (Γ : Gl) (S : Sc) (o : List Nat) (e : Option Expr) (f : WE) : Prop where
  run : ∀ n X Wx, At Γ S n X Wx → PO X e (LP Γ.R o (Γ.M n) Wx f)
theorem po_anti {X : Cx} {e : Option Expr} {t t' : TO} (h : PO X e t) (i : ∀ σ H Q, t' σ H Q → t σ H Q) : PO X e t' := ⟨fun pins s σ H Q I q => h.run pins s σ H Q I (i σ H Q q)⟩
theorem jp_none : JP Γ S o none eNoP := ⟨fun n X Wx a => po_anti po_none fun σ H Q ⟨F, ad, ρ, G, Qd, Ed, rs, hf, k1, k2⟩ => k1 none H .non G (Ext.refl _ _) rs.g rfl hf⟩
theorem jp_some {e : Expr} {f : WE} (h : JE Γ S o e f) : JP Γ S o (some e) (eP f) := by
  refine ⟨fun n X Wx a => po_anti (po_some (h.run n X Wx a)) fun σ H Q ⟨F, ad, ρ, G, Qd, Ed, rs, hf, k1, k2⟩ => ⟨F, ad, ρ, G, _, Ed, rs, hf, fun v H' d G' e g r q => ?_, k2⟩⟩
  cases d with
  | int i =>
    cases r
    exact ⟨i, rfl, k1 (some i) H' (.int i) G' e g rfl q⟩
  | _ => exact q.elim
def lrSl (R : Rc) : V → Option Int → Option Int → Hp → VK → Prop := fun x lo hi H Q => ∃ F G dx d, RelG R G F H ∧ Vw R H (bz G F) x dx ∧ slD dx (toPart lo) (toPart hi) = some d ∧ ∀ v' H', Ext H G H' G → RelG R G F H' → Rep R H' (bz G F) v' d → Q v' H'
def lrSlF (R : Rc) : V → Option Int → Option Int → Hp → VK → Prop := fun x lo hi H Q => ∃ F G dx d, RelG R G F H ∧ Vw R H (bz G F) x dx ∧ slF dx (toPart lo) (toPart hi) = some d ∧ ∀ p ob, H p = none → FO R H (bz G F) ob d → Q (.ref p) (upd H p ob)
theorem ofToPart (l : Option Int) : ofPart (toPart l) = l := by cases l <;> rfl
theorem cut_map {α β : Type} (f : α → β) (xs : List α) (lo hi : Option Int) : cutD (xs.map f) lo hi = (cutD xs lo hi).map f := by
  unfold cutD
  rw [List.length_map, List.map_take, List.map_drop]
theorem reps_ints {R : Rc} {H : Hp} {B : Bz} : ∀ ns : List Int, Reps R H B (ns.map V.int) (ns.map D.int)
  | [] => .nil
  | n :: ns => .cons (.int n) (reps_ints ns)
theorem slF_ok (hK : X.K = Γ.R.K) : SlR X (lrSlF Γ.R) := by
  intro pins s σ H x v vl vu lo hi sl Q I rx hs pl pu h
  obtain ⟨F, G, dx, d, g, vx, e, k⟩ := h
  cases dx <;> first | (cases e; done) | skip
  · cases e
    obtain ⟨b, xs, rfl, h1, r1⟩ := vx.lst
    refine sl_list pins s σ H _ v vl vu lo hi sl Q I rx hs pl pu ⟨b, xs, rfl, SqL.of h1, fun p hp => k p _ hp (.lst ?_)⟩
    rw [ofToPart, ofToPart]
    exact r1.cut lo hi
  · cases e
    rename_i ns
    rcases vx with vx | ⟨b, rfl, vx⟩
    · cases vx with
      | scr h1 =>
        refine sl_list pins s σ H _ v vl vu lo hi sl Q I rx hs pl pu ⟨_, _, rfl, by rw [hK]; exact h1.sql, fun p hp => k p _ hp (.lst ?_)⟩
        rw [ofToPart, ofToPart]
        show Reps _ _ _ (cutD (ns.map V.int) lo hi) _
        rw [cut_map]
        exact reps_ints _
    · cases vx
theorem cutD_all {α : Type} {xs : List α} {lo hi : Option Int} (h : HT.sIx xs.length 0 lo = 0 ∧ HT.sIx xs.length xs.length hi = xs.length) : cutD xs lo hi = xs := by
  unfold cutD
  rw [h.1, h.2]
  simp
theorem sl_ok (hK : X.K = Γ.R.K) : SlR X (lrSl Γ.R) := by
  intro pins s σ H x v vl vu lo hi sl Q I rx hs pl pu h
  obtain ⟨F, G, dx, d, g, vx, e, k⟩ := h
  cases dx <;> first | (cases e; done) | skip
  · rename_i z
    simp only [slD] at e
    split at e
    · rename_i hl
      cases e
      rw [vx.str] at rx
      refine sl_str pins s σ H _ v vl vu lo hi sl Q I rx hs pl pu ⟨_, rfl, by rw [← lim_eq]; simpa [Str.length] using hl, k _ H (Ext.refl _ _) g ?_⟩
      rw [ofToPart, ofToPart]
      have : cutS ⟨z.toArray⟩ lo hi = ⟨(cutD z lo hi).toArray⟩ := by simp [cutS, cutD, Str.length]
      rw [this]
      exact rep_str _
    · cases e
  · cases e
    rw [ofToPart, ofToPart] at k
    obtain ⟨b, xs, rfl, h1, r1⟩ := vx.tup
    have hl := r1.length
    refine sl_tupA pins s σ H _ v vl vu lo hi sl Q I rx hs pl pu ⟨b, xs, rfl, SqT.of h1, fun w => ?_, fun _ p hp => ?_⟩
    · rw [hl] at w
      rw [cutD_all w] at k
      exact k _ H (Ext.refl _ _) g (.tup h1 r1)
    · exact k _ _ (Ext.upd hp) (g.new hp) (.tup upd_same ((r1.cut lo hi).mv (ext_new hp)))
  · exact slF_ok hK pins s σ H x v vl vu lo hi sl Q I rx hs pl pu ⟨F, G, _, _, g, vx, e, fun p ob hp fo => k _ _ (Ext.upd hp) (g.new hp) (fo.rep g hp)⟩
  · exact slF_ok hK pins s σ H x v vl vu lo hi sl Q I rx hs pl pu ⟨F, G, _, _, g, vx, e, fun p ob hp fo => k _ _ (Ext.upd hp) (g.new hp) (fo.rep g hp)⟩
  · cases e
    obtain ⟨b, rfl, h1⟩ := vx.dft
    refine sl_tupA pins s σ H _ v vl vu lo hi sl Q I rx hs pl pu ⟨b, [], rfl, .inr (by rw [hK]; exact h1), fun w => ?_, fun w => ?_⟩
    · exact k _ H (Ext.refl _ _) g (.dft h1)
    · refine (w ⟨?_, ?_⟩).elim
      · cases lo <;> simp [HT.sIx]
        intro h; omega
      · cases hi <;> simp [HT.sIx]
        intro h; omega
theorem je_sl {a : Expr} {lo hi : Option Expr} {p2 pos : Pos} {fa fl fh : WE} (ha : JO Γ S o a fa) (hl : JP Γ S o lo fl) (hh : JP Γ S o hi fh) : JE Γ S o (.Subscript a (.Slice lo hi none p2) pos) (eSl slD fa fl fh) := by
  refine ⟨fun n X Wx w => pe_anti (pe_slice (sl_ok (Γ := Γ) w.K) (ha.run n X Wx w) (hl.run n X Wx w) (hh.run n X Wx w)) fun σ H Q ⟨F, ad, ρ, G, Qd, Ed, rs, hf, k1, k2⟩ => ?_⟩
  refine ⟨F, ad, ρ, G, _, Ed, rs, hf, fun v H1 dx G1 e1 g1 r1 q1 => ?_, k2⟩
  refine ⟨F, ad, ρ, G1, _, Ed, rs.step e1 g1, q1, fun l H2 dl G2 e2 g2 r2 q2 => ?_, fun cls dd x H' G' e g r q => k2 cls dd x H' G' (e1.trans e) g r q⟩
  refine ⟨F, ad, ρ, G2, _, Ed, rs.step (e1.trans e2) g2, q2, fun h H3 dh G3 e3 g3 r3 q3 => ?_, fun cls dd x H' G' e g r q => k2 cls dd x H' G' (e1.trans (e2.trans e)) g r q⟩
  obtain ⟨d, hd, q⟩ := got_some q3
  cases r2
  cases r3
  exact ⟨_, G3, _, d, g3, ((r1.step g1 e2).step g2 e3).vw g3, hd, fun v' H' e g r => k1 v' H' d G3 (e1.trans (e2.trans (e3.trans e))) g r q⟩
/-- a subscript -/
theorem je_ix {a b : Expr} {pos : Pos} {fa fb : WE} (ha : JO Γ S o a fa) (hb : JE Γ S o b fb) (hs : PlainIx b) : JE Γ S o (.Subscript a b pos) (fun M ρ G Q E => fa M ρ G (fun x G1 => fb M ρ G1 (fun y G2 => got (ixD (lk G2 x) y) fun d => Q d G2) E) E) := by
  refine ⟨fun n X Wx w => pe_anti (pe_ix (ix_ok w) (ha.run n X Wx w) (hb.run n X Wx w) hs) fun σ H Q ⟨F, ad, ρ, G, Qd, Ed, rs, hf, k1, k2⟩ => ?_⟩
  refine ⟨F, ad, ρ, G, _, Ed, rs, hf, fun v H1 dx G1 e1 g1 r1 q1 => ?_, k2⟩
  refine ⟨F, ad, ρ, G1, _, Ed, rs.step e1 g1, q1, fun u H2 dy G2 e2 g2 r2 q2 => ?_, fun cls dd x H' G' e g r q => k2 cls dd x H' G' (e1.trans e) g r q⟩
  obtain ⟨d, hd, q⟩ := got_some q2
  exact ⟨_, G2, _, _, d, g2, (r1.step g1 e2).vw g2, r2, hd, fun v' H' e g r => k1 v' H' d G2 (e1.trans (e2.trans e)) g r q⟩
def negD : D → Option D
  | .int i => some (.int (-i))
  | _ => none
theorem je_neg {a : Expr} {pos : Pos} {fa : WE} (ha : JO Γ S o a fa) : JE Γ S o (.UnaryOp .USub a pos) (eUn negD fa) := by
  refine ⟨fun n X Wx w => pe_anti (L2.pe_un un_neg (ha.run n X Wx w)) fun σ H Q ⟨F, ad, ρ, G, Qd, Ed, rs, hf, k1, k2⟩ => ?_⟩
  refine ⟨F, ad, ρ, G, _, Ed, rs, hf, fun v H1 dx G1 e1 g1 r1 q1 => ?_, k2⟩
  obtain ⟨d, hd, q⟩ := got_some q1
  have vx := r1.vw g1
  generalize lk G1 dx = y at hd vx
  cases y <;> first | (cases hd; done) | skip
  cases hd
  exact ⟨_, vx.int, k1 _ _ _ G1 e1 g1 (.int _) q⟩
/-! ### calls of builtins -/
def noStars : List Expr → Bool
  | [] => true
  | e :: es => noStar e && noStars es
theorem stars_no {es : List Expr} {env : Env} {pos : Pos} (h : noStars es = true) : (backTo pos (starEach es env)).any (·.1) = false := by
  induction es with
  | nil => rfl
  | cons e es ih =>
    rw [noStars, Bool.and_eq_true] at h
    rw [star_no h.1]
    show (false || (backTo pos (starEach es env)).any (·.1)) = false
    rw [ih h.2]
    rfl
def CalS (Γ : Gl) (c : Bool) (f : Value) (op : List D → Option D) : Prop :=
  ∀ {S : Sc} {n : Nat} {X : Cx} {Wx : WX}, At Γ S n X Wx → (c = true → X.calm = true) → ∀ {pins : List (Addr × Obj)} {s : Shared} {σ : St} {H : Hp} {xs : List V} {us : List Value} {Q : VK} {F : Bz} {G : Gs} {ds : List D} {d : D}, Inv X pins σ H s → Vals xs us →
    RelG Γ.R G F H → Al (Vw Γ.R H (bz G F)) xs ds → op ds = some d → (∀ v' H', Ext H G H' G → RelG Γ.R G F H' → Rep Γ.R H' (bz G F) v' d → Q v' H') → wpAny (model X.prog X.w) X.A (call f us) (EP X pins σ Q) X.xe s
def lrC (R : Rc) (op : List D → Option D) : List V → Hp → VK → Prop := fun xs H Q => ∃ F G ds d, RelG R G F H ∧ Al (Vw R H (bz G F)) xs ds ∧ op ds = some d ∧ ∀ v' H', Ext H G H' G → RelG R G F H' → Rep R H' (bz G F) v' d → Q v' H'
abbrev eCal (op : List D → Option D) (fa : WA) : WE := fun M ρ G Q E => fa M ρ G (fun xs G1 => got (op (xs.map (lk G1))) fun d => Q d G1) E
def clB (S : Sc) (c : Bool) : Bool := !c || S.calm
theorem clB_ok {c : Bool} (h : clB S c = true) (a : At Γ S n X Wx) : c = true → X.calm = true := fun e => by
  subst e
  exact a.calm.trans h
theorem lg_cal {R : Rc} {M : Orc} {op : List D → Option D} {fa : WA} {k : Nat} {σ : St} {H : Hp} {Q : VK} (h : LE R o M Wx (eCal op fa) σ H Q) : tCB (lrC R op) (LAO k R o M Wx fa) σ H Q := by
  obtain ⟨F, ad, ρ, G, Qd, Ed, rs, hf, k1, k2⟩ := h
  refine ⟨F, ad, ρ, G, _, Ed, rs, hf, fun v H1 dx G1 e1 g1 r1 q1 => ?_, k2⟩
  obtain ⟨d, hd, q⟩ := got_some q1
  exact ⟨_, G1, _, d, g1, r1.1.map (fun v d r => r.vw g1), hd, fun v' H' e g r => k1 v' H' d G1 (e1.trans e) g r q⟩
section
variable {x : Str} {p pos : Pos} {e : Expr} {es : List Expr} {id T : String} {c : Bool} {op : List D → Option D} {fa : WA}
theorem je_callB (hc : CalS Γ c (.builtin id) op) (hm : Γ.mg x = none) (hv : bootBuiltins x = some (.builtin id)) (ha : JAO Γ S o (e :: es) fa) (hg : glB S.sc x = true := by rfl) (hcl : clB S c = true := by rfl) (hn : x ≠ "__name__" := by decide) (hdb : dbgB x = false := by decide +kernel) (he : noStars (e :: es) = true := by rfl) :
    JE Γ S o (.Call (.Name x p) (e :: es) [] pos) (eCal op fa) :=
  ⟨fun n X Wx a => pe_anti (pe_callB (r := lrC Γ.R op) (fun pins s σ H xs us Q I rv ⟨F, G, ds, d, g, vs, e, k⟩ => hc a (clB_ok hcl a) I rv g vs e k) (glB_ok a hg) (by rw [a.mg]; exact hm) hv (ha.run n X Wx a) hn (Bool.or_eq_false_iff.mp hdb).1 (star_no (Bool.and_eq_true_iff.mp he).1) (stars_no (Bool.and_eq_true_iff.mp he).2)) fun σ H Q q => lg_cal q⟩
theorem je_callT (hc : CalS Γ c (.type T) op) (hm : Γ.mg x = none) (hv : bootBuiltins x = some (.type T)) (ha : JAO Γ S o (e :: es) fa) (hg : glB S.sc x = true := by rfl) (hcl : clB S c = true := by rfl) (hn : x ≠ "__name__" := by decide) (hdb : dbgB x = false := by decide +kernel) (he : noStars (e :: es) = true := by rfl) :
    JE Γ S o (.Call (.Name x p) (e :: es) [] pos) (eCal op fa) :=
  ⟨fun n X Wx a => pe_anti (pe_callTy (r := lrC Γ.R op) (fun pins s σ H xs us Q I rv ⟨F, G, ds, d, g, vs, e, k⟩ => hc a (clB_ok hcl a) I rv g vs e k) (glB_ok a hg) (by rw [a.mg]; exact hm) hv (ha.run n X Wx a) hn (Bool.or_eq_false_iff.mp hdb).1 (star_no (Bool.and_eq_true_iff.mp he).1) (stars_no (Bool.and_eq_true_iff.mp he).2)) fun σ H Q q => lg_cal q⟩
end
end
end DL
set_option Elab.async false
set_option linter.all false
set_option maxRecDepth 100000
set_option maxHeartbeats 4000000
namespace DL
open PySem PySem.Spec PyProof.Rows L2
variable {Γ : Gl}
/-! ### builtins -/
def lenD : List D → Option D
  | [.lst l] => if l.length ≤ lim then some (.int l.length) else none
  | [.tup l] => if l.length ≤ lim then some (.int l.length) else none
  | [.dft] => some (.int 0)
  | [.str s] => if s.length ≤ lim then some (.int s.length) else none
  | [.scr ns] => some (.int ns.length)
  | [.dic _ l] => some (.int l.length)
  | _ => none
theorem al1 {P : V → D → Prop} {xs : List V} {d : D} (h : Al P xs [d]) : ∃ x, xs = [x] ∧ P x d := by
  cases h with
  | cons p r => cases r; exact ⟨_, rfl, p⟩
theorem al2 {P : V → D → Prop} {xs : List V} {d e : D} (h : Al P xs [d, e]) : ∃ x y, xs = [x, y] ∧ P x d ∧ P y e := by
  cases h with
  | cons p r => cases r with | cons q r => cases r; exact ⟨_, _, rfl, p, q⟩
theorem soc_len : CalS Γ false (.builtin "len") lenD := by
  intro S n X Wx a hc pins s σ H xs us Q F G ds d I rv g vs e k
  match ds, vs, e with
  | [.lst l], vs, e =>
    simp only [lenD] at e
    split at e
    · cases e
      obtain ⟨x, rfl, vx⟩ := al1 vs
      obtain ⟨b, ys, rfl, h1, r1⟩ := vx.lst
      refine call_len pins s σ H _ us Q I rv ⟨_, l.length, rfl, .inl ⟨ys, SqL.of h1, r1.length.symm⟩, k _ _ (Ext.refl _ _) g (.int _)⟩
    · cases e
  | [.tup l], vs, e =>
    simp only [lenD] at e
    split at e
    · cases e
      obtain ⟨x, rfl, vx⟩ := al1 vs
      obtain ⟨b, ys, rfl, h1, r1⟩ := vx.tup
      refine call_len pins s σ H _ us Q I rv ⟨_, l.length, rfl, .inr ⟨ys, SqT.of h1, r1.length.symm⟩, k _ _ (Ext.refl _ _) g (.int _)⟩
    · cases e
  | [.dft], vs, e =>
    cases e
    obtain ⟨x, rfl, vx⟩ := al1 vs
    obtain ⟨b, rfl, h1⟩ := vx.dft
    exact call_len pins s σ H _ us Q I rv ⟨_, 0, rfl, .inr ⟨[], .inr (by rw [a.K]; exact h1), rfl⟩, k _ _ (Ext.refl _ _) g (.int _)⟩
  | [.str z], vs, e =>
    simp only [lenD] at e
    split at e
    · rename_i hl
      cases e
      obtain ⟨x, rfl, vx⟩ := al1 vs
      rw [vx.str] at rv
      exact call_len pins s σ H _ us Q I rv ⟨_, z.length, rfl, ⟨by rw [← lim_eq]; simpa [Str.length] using hl, by simp [Str.length]⟩, k _ _ (Ext.refl _ _) g (.int _)⟩
    · cases e
  | [.scr ns], vs, e =>
    cases e
    obtain ⟨x, rfl, vx⟩ := al1 vs
    rcases vx with vx | ⟨b, rfl, vx⟩
    · cases vx with
      | scr h1 => exact call_len pins s σ H _ us Q I rv ⟨_, ns.length, rfl, .inl ⟨_, by rw [a.K]; exact h1.sql, by simp⟩, k _ _ (Ext.refl _ _) g (.int _)⟩
    · cases vx
  | [.dic t l], vs, e =>
    cases e
    obtain ⟨x, rfl, vx⟩ := al1 vs
    cases t with
    | false =>
      obtain ⟨b, kvs, rfl, h1, r1⟩ := vx.dicK
      refine call_lenD pins s σ H _ us Q I rv ⟨b, kvs, rfl, h1, ?_⟩
      rw [repK_len r1]
      exact k _ _ (Ext.refl _ _) g (.int _)
    | true =>
      obtain ⟨b, kvs, rfl, h1, r1⟩ := vx.dicT
      refine call_len_dT pins s σ H _ us Q I rv ⟨b, kvs, rfl, h1, ?_⟩
      rw [repT_len r1]
      exact k _ _ (Ext.refl _ _) g (.int _)
def absD : List D → Option D
  | [.int i] => some (.int (if i < 0 then -i else i))
  | _ => none
theorem soc_abs : CalS Γ false (.builtin "abs") absD := by
  intro S n X Wx a hc pins s σ H xs us Q F G ds d I rv g vs e k
  match ds, vs, e with
  | [.int i], vs, e =>
    cases e
    obtain ⟨x, rfl, vx⟩ := al1 vs
    rw [vx.int] at rv
    exact call_abs pins s σ H _ us Q I rv ⟨i, rfl, k _ _ (Ext.refl _ _) g (.int _)⟩
def maxD : List D → Option D
  | [.int i, .int j] => some (.int (if j > i then j else i))
  | _ => none
theorem soc_max : CalS Γ true (.builtin "max") maxD := by
  intro S n X Wx a hc pins s σ H xs us Q F G ds d I rv g vs e k
  match ds, vs, e with
  | [.int i, .int j], vs, e =>
    cases e
    obtain ⟨x, y, rfl, vx, vy⟩ := al2 vs
    rw [vx.int, vy.int] at rv
    exact call_max2 (hc rfl) pins s σ H _ us Q I rv ⟨i, j, rfl, k _ _ (Ext.refl _ _) g (.int _)⟩
def minD : List D → Option D
  | [.int i, .int j] => some (.int (if j < i then j else i))
  | _ => none
theorem soc_min : CalS Γ true (.builtin "min") minD := by
  intro S n X Wx a hc pins s σ H xs us Q F G ds d I rv g vs e k
  match ds, vs, e with
  | [.int i, .int j], vs, e =>
    cases e
    obtain ⟨x, y, rfl, vx, vy⟩ := al2 vs
    rw [vx.int, vy.int] at rv
    exact call_min2 (hc rfl) pins s σ H _ us Q I rv ⟨i, j, rfl, k _ _ (Ext.refl _ _) g (.int _)⟩
def intD : List D → Option D
  | [.int i] => some (.int i)
  | [.bl b] => some (.int (if b then 1 else 0))
  | _ => none
theorem soc_int : CalS Γ false (.type "int") intD := by
  intro S n X Wx a hc pins s σ H xs us Q F G ds d I rv g vs e k
  match ds, vs, e with
  | [.int i], vs, e =>
    cases e
    obtain ⟨x, rfl, vx⟩ := al1 vs
    rw [vx.int] at rv
    exact call_int1 pins s σ H _ us Q I rv (.inl ⟨i, rfl, k _ _ (Ext.refl _ _) g (.int _)⟩)
  | [.bl i], vs, e =>
    cases e
    obtain ⟨x, rfl, vx⟩ := al1 vs
    rw [vx.bl] at rv
    exact call_int1 pins s σ H _ us Q I rv (.inr ⟨i, rfl, k _ _ (Ext.refl _ _) g (.int _)⟩)
/-- an int's digits -/
def intText (i : Int) : List Nat := (Str.ofString (toString i)).cps.toList
def strD : List D → Option D
  | [.int i] => if i.natAbs.log2 < 1920 then some (.str (intText i)) else none
  | [.str s] => some (.str s)
  | _ => none
def divmodD : List D → Option D
  | [.int i, .int j] => if 0 < j ∧ j.natAbs.log2 < 9000 then some (.tup [.int (i / j), .int (i % j)]) else none
  | _ => none
theorem soc_divmod : CalS Γ false (.builtin "divmod") divmodD := by
  intro S n X Wx a hc pins s σ H xs us Q F G ds d I rv g vs e k
  match ds, vs, e with
  | [.int i, .int j], vs, e =>
    simp only [divmodD] at e
    split at e
    · rename_i hl
      cases e
      obtain ⟨x, y, rfl, vx, vy⟩ := al2 vs
      rw [vx.int, vy.int] at rv
      exact call_divmodW pins s σ H _ us Q I rv ⟨i, j, rfl, ⟨hl.1, PyProof.noPylong_of_log2 hl.2⟩, fun p hp => k _ _ (Ext.upd hp) (g.new hp) (.tup upd_same (.cons (.int _) (.cons (.int _) .nil)))⟩
    · cases e
/-! ### isinstance -/
/-- what the classes' instances ask -/
structure ClsF (R : Rc) : Prop where
  ins : ∀ c C, R.cls c = some C → Cls R.K C ∧ PySem.W.findIn R.K (.ref C) "__class__" = some (some (.builtin "object.__class__")) ∧
    PySem.W.specialIn R.K (.builtin "object.__class__") "__get__" = some (some (.builtin "getset_descriptor.__get__")) ∧ PySem.W.takesIn R.K (.builtin "object.__class__") = some true ∧ PySem.W.mroIn R.K C (.type "object") = some true
  blt : ∀ c C, R.cls c = some C → PySem.W.kitOne R.K (.ref C) (.type "int") = some false ∧ PySem.W.kitOne R.K (.ref C) (.type "bool") = some false ∧ PySem.W.kitOne R.K (.ref C) (.type "str") = some false ∧ PySem.W.kitOne R.K (.ref C) (.type "tuple") = some false
end DL
set_option Elab.async false
set_option linter.all false
set_option maxRecDepth 100000
set_option maxHeartbeats 4000000
namespace DL
open PySem PySem.Spec PyProof.Rows L2
/-! ### steps that may change the frame's own objects -/
/-- the own slots' addresses -/
def ow (o : List Nat) (ad : Nat → Addr) : Bz := fun a => ∃ i, i ∈ o ∧ a = ad i
structure Stp (N : Bz) (H : Hp) (G : Gs) (N' : Bz) (H' : Hp) (G' : Gs) : Prop where
  o : ∀ a u, H a = some u → (∀ ps, u ≠ .tbl ps) → G a = none → ¬ N a → H' a = some u ∧ G' a = none
  t : ∀ a xs, H a = some (.tup xs) → H' a = some (.tup xs)
  n : ∀ a, Fr H' a → Fr H a
  w : ∀ a, N' a → N a ∨ Fr H a
section
variable {N N1 N2 : Bz} {H H1 H2 : Hp} {G G1 G2 : Gs} {F : Bz}
theorem Stp.refl : Stp N H G N H G := ⟨fun _ _ e _ g _ => ⟨e, g⟩, fun _ _ e => e, fun _ e => e, fun _ e => .inl e⟩
theorem Stp.trans (a : Stp N H G N1 H1 G1) (b : Stp N1 H1 G1 N2 H2 G2) : Stp N H G N2 H2 G2 := by
  refine ⟨fun x u e n g h => ?_, fun x xs e => b.t x xs (a.t x xs e), fun x e => a.n x (b.n x e), fun x e => ?_⟩
  · obtain ⟨e1, g1⟩ := a.o x u e n g h
    exact b.o x u e1 n g1 fun z => (a.w x z).elim h fun z => z.no e n
  · rcases b.w x e with e | e
    · exact a.w x e
    · exact .inr (a.n x e)
theorem Stp.ext (e : Ext H G H1 G1) : Stp N H G N H1 G1 := ⟨fun a u h n g _ => e.1 a u h n g, e.2.1, e.2.2, fun _ z => .inl z⟩
theorem Stp.less (h : ∀ a, N1 a → N a) : Stp N H G N1 H G := ⟨fun _ _ e _ g _ => ⟨e, g⟩, fun _ _ e => e, fun _ e => e, fun a e => .inl (h a e)⟩
theorem Stp.toExt (s : Stp N H G N1 H1 G1) (h : ∀ a, ¬ N a) : Ext H G H1 G1 := ⟨fun a u e n g => s.o a u e n g (h a), s.t, s.n⟩
theorem Stp.mv (s : Stp N H G N1 H1 G1) : Mv H (bz G fun a => F a ∨ N a) H1 (bz G1 fun a => F a ∨ N1 a) := by
  refine ⟨fun a u e n b => ?_, s.t⟩
  obtain ⟨b1, b2⟩ := bz_no.mp b
  obtain ⟨e1, g1⟩ := s.o a u e n b1 fun z => b2 (.inr z)
  refine ⟨e1, bz_no.mpr ⟨g1, fun z => z.elim (fun z => b2 (.inl z)) fun z => (s.w a z).elim (fun z => b2 (.inr z)) fun z => z.no e n⟩⟩
end
theorem ow_nil {ad : Nat → Addr} {a : Addr} : ¬ ow [] ad a := fun ⟨_, h, _⟩ => nomatch h
theorem ow_sub {o o' : List Nat} {ad : Nat → Addr} (h : ∀ i, i ∈ o' → i ∈ o) (a : Addr) (q : ow o' ad a) : ow o ad a := let ⟨i, h1, h2⟩ := q; ⟨i, h i h1, h2⟩
def dropN (i : Nat) : List Nat → List Nat
  | [] => []
  | j :: r => if Nat.beq j i then dropN i r else j :: dropN i r
theorem dropN_mem {i j : Nat} : ∀ {o : List Nat}, j ∈ dropN i o ↔ j ∈ o ∧ j ≠ i
  | [] => by simp [dropN]
  | k :: r => by
    unfold dropN
    have ih := dropN_mem (i := i) (j := j) (o := r)
    by_cases h : Nat.beq k i = true
    · rw [if_pos h]
      have := Nat.eq_of_beq_eq_true h
      subst this
      rw [ih, List.mem_cons]
      constructor
      · exact fun ⟨a, b⟩ => ⟨.inr a, b⟩
      · exact fun ⟨a, b⟩ => ⟨a.resolve_left b, b⟩
    · rw [if_neg h, List.mem_cons, List.mem_cons, ih]
      have hn : k ≠ i := fun e => h (by rw [e]; exact Nat.beq_refl i)
      constructor
      · rintro (e | ⟨a, b⟩)
        · exact ⟨.inl e, by rw [e]; exact hn⟩
        · exact ⟨.inr a, b⟩
      · rintro ⟨e | a, b⟩
        · exact .inl e
        · exact .inr ⟨a, b⟩
section
variable {R : Rc} {F : Bz} {o o' : List Nat} {ad : Nat → Addr} {ρ : Rho} {G G' : Gs} {σ : St} {H H' : Hp}
/-- a slot is stored -/
theorem RelS.put {v : V} {d : D} {i : Nat} (r : RelS R F o ad ρ G σ H) (h : i ∉ o) (hv : Rep R H (bz G (fo F o ad)) v d) : RelS R F o ad (ρ.set i (some d)) G (σ.set i (some v)) H where
  g := r.g
  len := by rw [List.length_set, List.length_set, r.len]
  slot := fun j e hj hn => by
    by_cases q : i = j
    · subst q
      by_cases hl : i < ρ.length
      · rw [List.getElem?_set_self hl] at hj
        cases hj
        exact ⟨v, by rw [List.getElem?_set_self (by rw [← r.len]; exact hl)], hv⟩
      · rw [List.getElem?_eq_none (by simpa using hl)] at hj
        cases hj
    · rw [List.getElem?_set_ne q] at hj ⊢
      exact r.slot j e hj hn
  own := fun j hj => by
    have q : i ≠ j := fun z => h (z ▸ hj)
    obtain ⟨d', h1, h2, h3, h4⟩ := r.own j hj
    exact ⟨d', by rw [List.getElem?_set_ne q]; exact h1, by rw [List.getElem?_set_ne q]; exact h2, h3, h4⟩
  inj := r.inj
theorem RelS.set {v : V} {d : D} (r : RelS R F o ad ρ G σ H) (hv : Rep R H (bz G (fo F o ad)) v d) (i : Nat) : RelS R F (dropN i o) ad (ρ.set i (some d)) G (σ.set i (some v)) H := by
  have hs : ∀ j, j ∈ dropN i o → j ∈ o := fun j h => (dropN_mem.mp h).1
  exact (r.freeze hs).put (fun z => (dropN_mem.mp z).2 rfl) (hv.mv (Mv.less fun a q => bz_sub (fun a => fo_sub hs) q))
theorem FO.repC {R : Rc} {H : Hp} {B : Bz} {p : Addr} {ob : HO} {d : D} (h : FO R (upd H p ob) B ob d) : RepC R (upd H p ob) B p d := by
  cases h with
  | lst r => exact .lst upd_same r
  | dicK r => exact .dicK upd_same r
  | dicT r => exact .dicT upd_same r
  | obj hc hf r => exact .obj hc upd_same hf r
def adS (ad : Nat → Addr) (i : Nat) (p : Addr) : Nat → Addr := fun j => if j = i then p else ad j
theorem adS_self {i : Nat} {p : Addr} : adS ad i p i = p := if_pos rfl
theorem adS_ne {i j : Nat} {p : Addr} (h : ¬ j = i) : adS ad i p j = ad j := if_neg h
/-- an own slot is born -/
theorem RelS.setF {d : D} {p : Addr} {ob : HO} {i : Nat} (r : RelS R F o ad ρ G σ H) (hp : H p = none) (fr : FO R H (bz G (fo F o ad)) ob d) (hi : i < σ.length) :
    RelS R F (i :: dropN i o) (adS ad i p) (ρ.set i (some d)) G (σ.set i (some (.ref p))) (upd H p ob) ∧
    Stp (ow o ad) H G (ow (i :: dropN i o) (adS ad i p)) (upd H p ob) G := by
  have hs : ∀ j, j ∈ dropN i o → j ∈ o := fun j h => (dropN_mem.mp h).1
  have r0 := r.freeze hs
  obtain ⟨gp, fp⟩ := r0.g.fresh hp
  have hno : i ∉ dropN i o := fun z => (dropN_mem.mp z).2 rfl
  have eqF : ∀ a, fo F (i :: dropN i o) (adS ad i p) a ↔ fo F (dropN i o) ad a ∨ a = p := fun a => by
    constructor
    · rintro (h | ⟨j, hj, e⟩)
      · exact .inl (.inl h)
      · by_cases q : j = i
        · rw [q, adS_self] at e; exact .inr e
        · rw [adS_ne q] at e
          rcases List.mem_cons.mp hj with z | z
          · exact (q z).elim
          · exact .inl (.inr ⟨j, z, e⟩)
    · rintro ((h | ⟨j, hj, e⟩) | e)
      · exact .inl h
      · have q : j ≠ i := fun z => hno (z ▸ hj)
        exact .inr ⟨j, List.mem_cons_of_mem _ hj, by rw [adS_ne q]; exact e⟩
      · exact .inr ⟨i, List.mem_cons_self, by rw [adS_self]; exact e⟩
  have m1 : Mv H (bz G (fo F (dropN i o) ad)) H (fun a => bz G (fo F (dropN i o) ad) a ∨ a = p) := Mv.more hp
  have eqB : (fun a => bz G (fo F (dropN i o) ad) a ∨ a = p) = bz G (fo F (i :: dropN i o) (adS ad i p)) := funext fun a => propext ⟨fun h => by
    rcases h with (h | h) | h
    · exact .inl h
    · exact .inr ((eqF a).mpr (.inl h))
    · exact .inr ((eqF a).mpr (.inr h)), fun h => by
    rcases h with h | h
    · exact .inl (.inl h)
    · exact ((eqF a).mp h).elim (fun z => .inl (.inr z)) .inr⟩
  rw [eqB] at m1
  have m2 : Mv H (bz G (fo F (i :: dropN i o) (adS ad i p))) (upd H p ob) (bz G (fo F (i :: dropN i o) (adS ad i p))) := ⟨fun a u e _ b => ⟨by rw [upd_ne (ne_of_none e hp)]; exact e, b⟩, fun a xs e => by rw [upd_ne (ne_of_none e hp)]; exact e⟩
  have m : Mv H (bz G (fo F (dropN i o) ad)) (upd H p ob) (bz G (fo F (i :: dropN i o) (adS ad i p))) := ⟨fun a u e n b => let ⟨e1, b1⟩ := m1.o a u e n b; m2.o a u e1 n b1, fun a xs e => m2.t a xs (m1.t a xs e)⟩
  have kp : ∀ a u, H a = some u → upd H p ob a = some u := fun a u e => by rw [upd_ne (ne_of_none e hp)]; exact e
  have mB : Mv H (bz G (fo F o ad)) H (bz G (fo F (dropN i o) ad)) := Mv.less fun a q => bz_sub (fun a => fo_sub hs) q
  refine ⟨⟨⟨fun a d e => (r0.g.cell a d e).mv m fun u q _ => kp _ _ q, r0.g.tabs.ext fun b u z => kp _ _ z, fun a h => ?_⟩, by rw [List.length_set, List.length_set, r.len], fun j e hj hn => ?_, fun j hj => ?_, fun j k hj hk e => ?_⟩, ?_⟩
  · rcases (eqF a).mp h with h | rfl
    · obtain ⟨h1, u, h2, h3⟩ := r0.g.fr a h
      exact ⟨h1, u, kp _ _ h2, h3⟩
    · exact ⟨gp, ob, upd_same, fr.mut⟩
  · have q : i ≠ j := fun z => hn (z ▸ List.mem_cons_self)
    rw [List.getElem?_set_ne q] at hj ⊢
    obtain ⟨v, h1, h2⟩ := r0.slot j e hj fun z => hn (List.mem_cons_of_mem _ z)
    exact ⟨v, h1, h2.mv m⟩
  · by_cases q : j = i
    · subst q
      refine ⟨d, by rw [List.getElem?_set_self (by rw [r.len]; exact hi)], by rw [List.getElem?_set_self hi, adS_self], ?_, ?_⟩
      · rw [adS_self]
        exact FO.repC ((fr.mv mB).mv m)
      · rw [adS_self]
        exact fun z => fp (.inl z)
    · have hj' : j ∈ dropN i o := (List.mem_cons.mp hj).resolve_left q
      obtain ⟨d', h1, h2, h3, h4⟩ := r0.own j hj'
      have q' : i ≠ j := fun z => q z.symm
      refine ⟨d', by rw [List.getElem?_set_ne q']; exact h1, by rw [List.getElem?_set_ne q', adS_ne q]; exact h2, by rw [adS_ne q]; exact h3.mv m fun u z _ => kp _ _ z, by rw [adS_ne q]; exact h4⟩
  · by_cases qj : j = i <;> by_cases qk : k = i
    · rw [qj, qk]
    · rw [qj, adS_self, adS_ne qk] at e
      have hk' : k ∈ dropN i o := (List.mem_cons.mp hk).resolve_left qk
      exact (fp (.inr ⟨k, hk', e⟩)).elim
    · rw [adS_ne qj, qk, adS_self] at e
      have hj' : j ∈ dropN i o := (List.mem_cons.mp hj).resolve_left qj
      exact (fp (.inr ⟨j, hj', e.symm⟩)).elim
    · rw [adS_ne qj, adS_ne qk] at e
      exact r0.inj j k ((List.mem_cons.mp hj).resolve_left qj) ((List.mem_cons.mp hk).resolve_left qk) e
  · refine ⟨fun a u e _ g _ => ⟨kp _ _ e, g⟩, fun a xs e => kp _ _ e, fun a f u e => f u (kp _ _ e), fun a h => ?_⟩
    · obtain ⟨j, hj, e⟩ := h
      by_cases q : j = i
      · rw [q, adS_self] at e
        rw [e]
        exact .inr (Fr.of hp)
      · rw [adS_ne q] at e
        exact .inl ⟨j, hs j ((List.mem_cons.mp hj).resolve_left q), e⟩
theorem RepC.kinds {R : Rc} {H : Hp} {B : Bz} {a : Addr} {d : D} (h : RepC R H B a d) : ∃ u, H a = some u ∧ (∀ ps, u ≠ .tbl ps) ∧ (∀ xs, u ≠ .tup xs) ∧ ∀ c q, u ≠ LamX.CodeO c q := by
  cases h with
  | lst h r => exact ⟨_, h, fun _ z => (nomatch z), fun _ z => (nomatch z), fun _ _ z => (nomatch z)⟩
  | dicK h r => exact ⟨_, h, fun _ z => (nomatch z), fun _ z => (nomatch z), fun _ _ z => (nomatch z)⟩
  | dicT h r => exact ⟨_, h, fun _ z => (nomatch z), fun _ z => (nomatch z), fun _ _ z => (nomatch z)⟩
  | obj c h f r => exact ⟨_, h, fun _ z => (nomatch z), fun _ z => (nomatch z), fun _ _ z => (nomatch z)⟩
/-- an own slot's object is changed -/
theorem RelS.chg {d : D} {ob : HO} {i : Nat} (r : RelS R F o ad ρ G σ H) (hi : i ∈ o) (fr : FO R H (bz G (fo F o ad)) ob d) :
    RelS R F o ad (ρ.set i (some d)) G σ (upd H (ad i) ob) ∧ Stp (ow o ad) H G (ow o ad) (upd H (ad i) ob) G := by
  have kp : ∀ a u, a ≠ ad i → H a = some u → upd H (ad i) ob a = some u := fun a u n e => by rw [upd_ne n]; exact e
  have busy : bz G (fo F o ad) (ad i) := .inr (.inr ⟨i, hi, rfl⟩)
  have gi := (r.g.fr (ad i) (.inr ⟨i, hi, rfl⟩)).1
  obtain ⟨_, _, _, hc, _⟩ := r.own i hi
  obtain ⟨ui, hui, nui, ntu, ncu⟩ := hc.kinds
  have nt : ∀ xs, H (ad i) ≠ some (.tup xs) := fun xs z => by rw [hui] at z; cases z; exact ntu xs rfl
  have m : Mv H (bz G (fo F o ad)) (upd H (ad i) ob) (bz G (fo F o ad)) := ⟨fun a u e _ b => ⟨kp _ _ (fun z => b (z ▸ busy)) e, b⟩, fun a xs e => kp _ _ (fun z => nt xs (z ▸ e)) e⟩
  have tb : ∀ a ps, H a = some (.tbl ps) → a ≠ ad i := fun a ps e z => by rw [z, hui] at e; cases e; exact nui ps rfl
  refine ⟨⟨⟨fun a d e => (r.g.cell a d e).mv m fun u q _ => kp _ _ (fun z => by rw [z] at e; rw [gi] at e; cases e) q, ?_, fun a h => ?_⟩, by rw [List.length_set, r.len], fun j e hj hn => ?_, fun j hj => ?_, r.inj⟩, ?_⟩
  · intro c hc
    obtain ⟨ps, t1, t2, t3⟩ := r.g.tabs c hc
    refine ⟨ps, kp _ _ (tb _ _ t1) t1, t2, fun pos cv q => ?_⟩
    obtain ⟨c', e1, e2⟩ := t3 pos cv q
    exact ⟨c', e1, kp _ _ (fun z => by rw [z, hui] at e2; cases e2; exact ncu _ _ rfl) e2⟩
  · obtain ⟨h1, u, h2, h3⟩ := r.g.fr a h
    by_cases q : a = ad i
    · exact ⟨h1, ob, by rw [q, upd_same], fr.mut⟩
    · exact ⟨h1, u, kp _ _ q h2, h3⟩
  · have q : i ≠ j := fun z => hn (z ▸ hi)
    rw [List.getElem?_set_ne q] at hj
    obtain ⟨v, h1, h2⟩ := r.slot j e hj hn
    exact ⟨v, h1, h2.mv m⟩
  · obtain ⟨d', h1, h2, h3, h4⟩ := r.own j hj
    by_cases q : i = j
    · subst q
      have hl : i < ρ.length := by
        by_cases hl : i < ρ.length
        · exact hl
        · rw [List.getElem?_eq_none (by simpa using hl)] at h1; cases h1
      exact ⟨d, by rw [List.getElem?_set_self hl], h2, FO.repC (fr.mv m), h4⟩
    · exact ⟨d', by rw [List.getElem?_set_ne q]; exact h1, h2, h3.mv m fun u z _ => kp _ _ (fun z => q (r.inj j i hj hi z).symm) z, h4⟩
  · refine ⟨fun a u e _ g n => ⟨kp _ _ (fun z => n ⟨i, hi, z⟩) e, g⟩, fun a xs e => m.t a xs e, fun a f u e => ?_, fun a h => .inl h⟩
    by_cases q : a = ad i
    · rw [q] at f
      exact (f.no upd_same fr.mut).elim
    · exact f u (by rw [upd_ne q]; exact e)
end
end DL
set_option Elab.async false
set_option linter.all false
set_option maxRecDepth 100000
set_option maxHeartbeats 4000000
namespace DL
open PySem PySem.Spec PyProof.Rows L2
/-! ### W: statements -/
structure KS where
  nx : Rho → Gs → Prop
  rt : KD
  bk : Rho → Gs → Prop
  ct : Rho → Gs → Prop
abbrev WS := Orc → Rho → Gs → KS → XKD → Prop
/-- how the ends meet -/
structure Cn (R : Rc) (F : Bz) (ob o o' : List Nat) (Wx : WX) (ad : Nat → Addr) (H : Hp) (G : Gs) (K : KS) (Ed : XKD) (D : Ends) : Prop where
  nx : ∀ σ' H' ad' ρ' G', Stp (ow o ad) H G (ow o' ad') H' G' → RelS R F o' ad' ρ' G' σ' H' → K.nx ρ' G' → D.nx σ' H'
  bk : ∀ σ' H' ad' ρ' G', Stp (ow o ad) H G (ow ob ad') H' G' → RelS R F ob ad' ρ' G' σ' H' → K.bk ρ' G' → D.bk σ' H'
  ct : ∀ σ' H' ad' ρ' G', Stp (ow o ad) H G (ow ob ad') H' G' → RelS R F ob ad' ρ' G' σ' H' → K.ct ρ' G' → D.ct σ' H'
  rt : ∀ v H' d G', Stp (ow o ad) H G (fun _ => False) H' G' → RelG R G' F H' → Rep R H' (bz G' F) v d → K.rt d G' → D.rt v H'
  ex : ∀ cls dd x σ' H' G', Stp (ow o ad) H G (fun _ => False) H' G' → RelG R G' F H' → RelX R H' (bz G' F) cls dd x → Ed x G' → Wx cls dd σ' H'
def LS (R : Rc) (ob o o' : List Nat) (M : Orc) (Wx : WX) (f : WS) : TS := fun D σ H => ∃ F ad ρ G K Ed, RelS R F o ad ρ G σ H ∧ f M ρ G K Ed ∧ Cn R F ob o o' Wx ad H G K Ed D
structure JS (Γ : Gl) (S : Sc) (ob o : List Nat) (st : Stmt) (o' : List Nat) (f : WS) : Prop where
  run : ∀ n X Wx, At Γ S n X Wx → PS X st (LS Γ.R ob o o' (Γ.M n) Wx f)
structure JB (Γ : Gl) (S : Sc) (ob o : List Nat) (st : List Stmt) (o' : List Nat) (f : WS) : Prop where
  run : ∀ n X Wx, At Γ S n X Wx → PSs X st (LS Γ.R ob o o' (Γ.M n) Wx f)
theorem ps_anti {X : Cx} {st : Stmt} {t t' : TS} (h : PS X st t) (i : ∀ σ H D, σ.length = X.N.length → t' D σ H → t D σ H) : PS X st t' := ⟨fun pins s σ H D I q => h.run pins s σ H D I (i σ H D I.len q)⟩
theorem pss_anti {X : Cx} {st : List Stmt} {t t' : TS} (h : PSs X st t) (i : ∀ σ H D, σ.length = X.N.length → t' D σ H → t D σ H) : PSs X st t' := ⟨fun pins s σ H D I q => h.run pins s σ H D I (i σ H D I.len q)⟩
section
variable {R : Rc} {F : Bz} {ob o o' : List Nat} {Wx : WX} {ad : Nat → Addr} {H : Hp} {G : Gs} {K : KS} {Ed : XKD} {D : Ends} {ρ : Rho} {σ : St}
theorem RelX.less {B B' : Bz} {cls : Value} {dd : Option Addr} {x : XD} (h : RelX R H B cls dd x) (l : ∀ a, B' a → B a) : RelX R H B' cls dd x := by
  obtain ⟨cv, h1, h2, h3⟩ := h
  refine ⟨cv, h1, h2, h3.imp id ?_⟩
  rintro ⟨d, fs, e1, e2, e3, e4, e5⟩
  exact ⟨d, fs, e1, e2, fun z => e3 (l _ z), e4, e5.mv (Mv.less l)⟩
/-- an expression's exception leaves -/
theorem Cn.exE (c : Cn R F ob o o' Wx ad H G K Ed D) {cls : Value} {dd : Option Addr} {x : XD} {σ' : St} {H' : Hp} {G' : Gs} (e : Ext H G H' G') (g : RelG R G' (fo F o ad) H') (r : RelX R H' (bz G' (fo F o ad)) cls dd x) (q : Ed x G') : Wx cls dd σ' H' :=
  c.ex cls dd x σ' H' G' ((Stp.ext e).trans (Stp.less fun _ z => z.elim)) (g.less fun a z => .inl z) (r.less fun a z => bz_sub (fun a z => .inl z) z) q
/-- the same ends from later on -/
theorem Cn.later {o1 : List Nat} {ad1 : Nat → Addr} {H1 : Hp} {G1 : Gs} {K1 : KS} {D1 : Ends} {o2 : List Nat} (c : Cn R F ob o o' Wx ad H G K Ed D) (s : Stp (ow o ad) H G (ow o1 ad1) H1 G1) (hb : K1.bk = K.bk) (hc : K1.ct = K.ct) (hr : K1.rt = K.rt) (db : D1.bk = D.bk) (dc : D1.ct = D.ct) (dr : D1.rt = D.rt)
    (hn : ∀ σ' H' ad' ρ' G', Stp (ow o1 ad1) H1 G1 (ow o2 ad') H' G' → RelS R F o2 ad' ρ' G' σ' H' → K1.nx ρ' G' → D1.nx σ' H') : Cn R F ob o1 o2 Wx ad1 H1 G1 K1 Ed D1 where
  nx := hn
  bk := fun σ' H' ad' ρ' G' t r q => by rw [db]; rw [hb] at q; exact c.bk σ' H' ad' ρ' G' (s.trans t) r q
  ct := fun σ' H' ad' ρ' G' t r q => by rw [dc]; rw [hc] at q; exact c.ct σ' H' ad' ρ' G' (s.trans t) r q
  rt := fun v H' d G' t g r q => by rw [dr]; rw [hr] at q; exact c.rt v H' d G' (s.trans t) g r q
  ex := fun cls dd x σ' H' G' t g r q => c.ex cls dd x σ' H' G' (s.trans t) g r q
end
abbrev sNx : WS := fun _ ρ G K _ => K.nx ρ G
abbrev sSeq (f g : WS) : WS := fun M ρ G K E => f M ρ G { K with nx := fun ρ' G' => g M ρ' G' K E } E
abbrev sRet (fe : WE) : WS := fun M ρ G K E => fe M ρ G K.rt E
abbrev sIf (t : WT) (f g : WS) : WS := fun M ρ G K E => t M ρ G (fun b G1 => if b = true then f M ρ G1 K E else g M ρ G1 K E) E
/-- on with a store -/
def nxW (k : Rho → Gs → Prop) (ρ : Rho) (G : Gs) : Prop := k ρ G
abbrev sSet (i : Nat) (fe : WE) : WS := fun M ρ G K E => fe M ρ G (fun d G1 => nxW K.nx (ρ.set i (some d)) G1) E
/-- an own list's append -/
def appW (x : Option D) (k : List D → Prop) : Prop := match x with | some (.lst l) => k l | _ => False
def intW (x : Option D) (k : Int → Prop) : Prop := match x with | some (.int l) => k l | _ => False
abbrev sApp (i : Nat) (fe : WE) : WS := fun M ρ G K E => appW (nth ρ i) fun l => fe M ρ G (fun d G1 => l.length < lim ∧ nxW K.nx (ρ.set i (some (.lst (l ++ [d])))) G1) E
section
variable {Γ : Gl} {S : Sc} {ob o o' o2 : List Nat}
theorem jb_nil : JB Γ S ob o [] o sNx := ⟨fun n X Wx a => pss_anti pss_nil fun σ H D _ ⟨F, ad, ρ, G, K, Ed, rs, hf, c⟩ => c.nx σ H ad ρ G .refl rs hf⟩
theorem lg_seq {R : Rc} {M : Orc} {Wx : WX} {f g : WS} {σ : St} {H : Hp} {D : Ends} (h : LS R ob o o2 M Wx (sSeq f g) D σ H) : tSeq (LS R ob o o' M Wx f) (LS R ob o' o2 M Wx g) D σ H := by
  obtain ⟨F, ad, ρ, G, K, Ed, rs, hf, c⟩ := h
  refine ⟨F, ad, ρ, G, _, Ed, rs, hf, ?_⟩
  refine c.later (Stp.refl) rfl rfl rfl rfl rfl rfl fun σ' H' ad' ρ' G' t r q => ?_
  exact ⟨F, ad', ρ', G', K, Ed, r, q, c.later t rfl rfl rfl rfl rfl rfl fun σ2 H2 ad2 ρ2 G2 t2 r2 q2 => c.nx σ2 H2 ad2 ρ2 G2 (t.trans t2) r2 q2⟩
theorem jb_cons {st : Stmt} {sts : List Stmt} {f g : WS} (h1 : JS Γ S ob o st o' f) (h2 : JB Γ S ob o' sts o2 g) : JB Γ S ob o (st :: sts) o2 (sSeq f g) :=
  ⟨fun n X Wx a => pss_anti (pss_cons (h1.run n X Wx a) (h2.run n X Wx a)) fun σ H D _ q => lg_seq q⟩
theorem jb_one {st : Stmt} {f : WS} (h1 : JS Γ S ob o st o' f) : JB Γ S ob o [st] o' f := ⟨fun n X Wx a => pss_one (h1.run n X Wx a)⟩
theorem js_ret {e : Expr} {pos : Pos} {fe : WE} (he : JE Γ S [] e fe) : JS Γ S ob o (.Return (some e) pos) o' (sRet fe) := by
  refine ⟨fun n X Wx a => ps_anti (ps_ret (he.run n X Wx a)) fun σ H D _ ⟨F, ad, ρ, G, K, Ed, rs, hf, c⟩ => ?_⟩
  have hs : ∀ i, i ∈ ([] : List Nat) → i ∈ o := fun i z => nomatch z
  have s0 : Stp (ow o ad) H G (fun _ => False) H G := Stp.less fun _ z => z.elim
  refine ⟨F, ad, ρ, G, _, Ed, rs.freeze hs, hf, fun v H' d G' e g r q => ?_, fun cls dd x H' G' e g r q => ?_⟩
  · rw [fo_nil] at g
    rw [show rpS Γ.R F [] ad G' H' v d = Rep Γ.R H' (bz G' (fo F [] ad)) v d from rfl, fo_nil] at r
    exact c.rt v H' d G' (s0.trans (Stp.ext e)) g r q
  · rw [fo_nil] at g r
    exact c.ex cls dd x σ H' G' (s0.trans (Stp.ext e)) g r q
theorem js_if {t : Expr} {a b : List Stmt} {pos : Pos} {ft : WT} {f g : WS} (ht : JT Γ S o t ft) (ha : JB Γ S ob o a o' f) (hb : JB Γ S ob o b o' g) : JS Γ S ob o (.If t a b pos) o' (sIf ft f g) := by
  refine ⟨fun n X Wx x => ps_anti (ps_if (ht.run n X Wx x) (ha.run n X Wx x) (hb.run n X Wx x)) fun σ H D _ ⟨F, ad, ρ, G, K, Ed, rs, hf, c⟩ => ?_⟩
  refine ⟨F, ad, ρ, G, _, Ed, rs, hf, fun v H' d G' e g r q => ?_, fun cls dd x H' G' e g r q => c.exE e g r q⟩
  cases r
  have go : Cn Γ.R F ob o o' Wx ad H' G' K Ed D := c.later (Stp.ext e) rfl rfl rfl rfl rfl rfl fun σ2 H2 ad2 ρ2 G2 t2 r2 q2 => c.nx σ2 H2 ad2 ρ2 G2 ((Stp.ext e).trans t2) r2 q2
  cases v with
  | true => exact ⟨F, ad, ρ, G', K, Ed, rs.step e g, q, go⟩
  | false => exact ⟨F, ad, ρ, G', K, Ed, rs.step e g, q, go⟩
/-- a name that may be stored -/
def locB (S : Sc) (x : Str) : Bool := match S.sc.names.lookup x with
  | some .local => true
  | some .cell => (match S.fnc with | none => true | some l => l.lookup x == some .cell)
  | _ => false
theorem locB_ok {n : Nat} {X : Cx} {Wx : WX} {x : Str} (a : At Γ S n X Wx) (h : locB S x = true) : L2.Loc X.env.scope x ∧ (X.fn x = true ∨ X.env.scope.names.lookup x = some .local) := by
  unfold locB at h
  have hs := a.sc
  unfold L2.Loc
  rw [hs]
  split at h
  · rename_i e; exact ⟨.inl e, .inr e⟩
  · rename_i e; exact ⟨.inr e, .inl (by rw [a.fn]; exact h)⟩
  · cases h
theorem js_set {i : Nat} {x : Str} {e : Expr} {pos pos' : Pos} {fe : WE} (hN : S.N[i]? = some x) (he : JE Γ S o e fe) (hl : locB S x = true := by rfl) (hs : ∀ env : Env, env.scope = S.sc → swapsWith e (some (.Name x pos')) pos.line env = pure false := by intro _ _; rfl) : JS Γ S ob o (.Assign [.Name x pos'] e pos) (dropN i o) (sSet i fe) := by
  refine ⟨fun n X Wx a => ps_anti (ps_set a.nd (by rw [a.N]; exact hN) (locB_ok a hl).1 (he.run n X Wx a) (hs _ a.sc) (locB_ok a hl).2) fun σ H D _ ⟨F, ad, ρ, G, K, Ed, rs, hf, c⟩ => ?_⟩
  refine ⟨F, ad, ρ, G, _, Ed, rs, hf, fun v H' d G' e g r q => ?_, fun cls dd x H' G' e g r q => c.exE e g r q⟩
  exact c.nx _ H' ad _ G' ((Stp.ext e).trans (Stp.less fun a z => ow_sub (fun j h => (dropN_mem.mp h).1) a z)) ((rs.step e g).set r i) q
theorem js_setF {i : Nat} {x : Str} {e : Expr} {pos pos' : Pos} {fe : WE} (hN : S.N[i]? = some x) (he : JF Γ S o e fe) (hl : locB S x = true := by rfl) (hs : ∀ env : Env, env.scope = S.sc → swapsWith e (some (.Name x pos')) pos.line env = pure false := by intro _ _; rfl) : JS Γ S ob o (.Assign [.Name x pos'] e pos) (i :: dropN i o) (sSet i fe) := by
  refine ⟨fun n X Wx a => ps_anti (ps_set a.nd (by rw [a.N]; exact hN) (locB_ok a hl).1 (he.run n X Wx a) (hs _ a.sc) (locB_ok a hl).2) fun σ H D hlen ⟨F, ad, ρ, G, K, Ed, rs, hf, c⟩ => ?_⟩
  refine ⟨F, ad, ρ, G, _, Ed, rs, hf, fun p ob' H' d G' e g hp fr q => ?_, fun cls dd x H' G' e g r q => c.exE e g r q⟩
  have hi : i < σ.length := by
    rw [hlen, a.N]
    exact (List.getElem?_eq_some_iff.mp hN).1
  obtain ⟨r2, s2⟩ := (rs.step e g).setF hp fr hi
  exact c.nx _ _ _ _ G' ((Stp.ext e).trans s2) r2 q
def noSup : Expr → Bool
  | .Call (.Name _ _) [] [] _ => false
  | _ => true
theorem ab_no {o : Expr} {attr : Str} {env : Env} {whole : Sem Value} (h : noSup o = true) : attributeBase o attr env whole = whole := by
  unfold attributeBase
  split
  · cases h
  · rfl
theorem js_app {i : Nat} {x name : Str} {e : Expr} {p1 p2 p3 p4 : Pos} {fe : WE} (hN : S.N[i]? = some x) (he : JE Γ S o e fe) (hv : visB S.sc x = true := by rfl) (ho : memN i o = true := by rfl) (hd : dbgB x = false := by decide +kernel) (hst : noStar e = true := by rfl) (hline : (p2.endLine == p3.line) = true := by rfl) (hn : name = "append" := by rfl) :
    JS Γ S ob o (.Expr (.Call (.Attribute (.Name x p1) name p2) [e] [] p3) p4) o (sApp i fe) := by
  subst hn
  have hd2 := Bool.or_eq_false_iff.mp hd
  refine ⟨fun n X Wx a => ps_anti (ps_expr (pe_bm PySem.F.plainAttrs_list PySem.F.slot_list_append PySem.F.type_list_append mt_append (pe_var (i := i) (by rw [a.N]; exact hN) (by rw [a.sc]; exact visB_ok hv) hd2.1 hd2.2) (pa_cons (he.run n X Wx a) pa_nil (star_no hst)) (ab_no rfl) (by rw [star_no hst]; rfl) hline (star_no hst) rfl) rfl) fun σ H D _ ⟨F, ad, ρ, G, K, Ed, rs, hf, c⟩ => ?_⟩
  have hm := memN_yes ho
  obtain ⟨d0, h1, h2, h3, h4⟩ := rs.own i hm
  have hnth : nth ρ i = some d0 := by rw [nth_eq, h1]; rfl
  unfold sApp at hf
  rw [hnth] at hf
  cases h3 with
  | @lst xs0 ds hx0 rx0 =>
    refine ⟨_, h2, .inl ⟨rfl, xs0, SqL.of hx0⟩, F, ad, ρ, G, _, Ed, rs, hf, fun vs H' dvs G' e g r q => ?_, fun cls dd x H' G' e g r q => c.exE e g r q⟩
    have rs' := rs.step e g
    obtain ⟨d0', h1', h2', h3', h4'⟩ := rs'.own i hm
    rw [h1] at h1'
    cases h1'
    cases h3' with
    | @lst xs ds hx rx =>
      obtain ⟨hz, q⟩ := q
      refine ⟨_, xs, vs, rfl, rfl, hx, by rw [← lim_eq, rx.length]; exact hz, ?_⟩
      obtain ⟨r2, s2⟩ := rs'.chg hm (.lst (rx.append (.cons r .nil)))
      exact c.nx _ _ _ _ G' ((Stp.ext e).trans s2) r2 q
  | _ => exact hf.elim
end
end DL
set_option Elab.async false
set_option linter.all false
set_option maxRecDepth 100000
set_option maxHeartbeats 4000000
namespace PySem
open Sem (wp)
open AutoSeq1 (wpAny_loadPart')
/-! enumerate(v), one argument, any v that begins -/
end PySem
namespace DL
open PySem PySem.Spec PyProof.Rows L2
/-- a list, a tuple, a text, by what it is -/
def iSq (K : PySem.W.Frag) (tl : TE) : TI := fun σ H R => tl σ H fun x H1 => (∃ a, x = .ref a ∧ (∃ xs, SqL K H1 a xs) ∧ R (Itl K a) H1) ∨ (∃ a, x = .ref a ∧ (∃ xs, SqT K H1 a xs) ∧ R (Itt K a) H1) ∨ ∃ z, x = .str z ∧ R (Its z) H1
theorem pi_sq {X : Cx} {tg l : Expr} {tl : TE} (hl : PE X l tl) : PI X tg l (iSq X.K tl) := by
  refine ⟨fun pins s σ H R I h => ?_⟩
  refine thn (hl.run pins s σ H _ I h) fun v s1 ⟨x, H1, I1, r1, q1⟩ => ?_
  rcases q1 with ⟨a, e, ⟨xs, hq⟩, q⟩ | ⟨a, e, ⟨xs, hq⟩, q⟩ | ⟨z, e, q⟩
  · subst e
    cases r1
    obtain ⟨its, rv, p, hz⟩ := I1.list hq
    refine wpAny_pyIter_list p.isList ?_
    refine ⟨s1.heap.objs.size, [s1.heap.objs.size], _, _, H1, rfl, I1.kept (t' := s1.toks) fun b o e => Heap.get?_push_of_some _ e, turn_list a _, ⟨_, Heap.get?_push_size _ rfl, rfl, rfl⟩, fun b hb => ?_, q⟩
    have e : b = s1.heap.objs.size := by simpa using hb
    subst e
    exact I1.fpOk (Nat.le_refl _) (I1.hok.fresh (Nat.le_refl _))
  · subst e
    cases r1
    obtain ⟨its, rv, p, hz⟩ := I1.tuple hq
    refine wpAny_pyIter_tuple (show s1.heap.IsTuple a its.toArray from p) ?_
    refine ⟨s1.heap.objs.size, [s1.heap.objs.size], _, _, H1, rfl, I1.kept (t' := s1.toks) fun b o e => Heap.get?_push_of_some _ e, turn_tuple a _, ⟨_, Heap.get?_push_size _ rfl, rfl, rfl⟩, fun b hb => ?_, q⟩
    have e : b = s1.heap.objs.size := by simpa using hb
    subst e
    exact I1.fpOk (Nat.le_refl _) (I1.hok.fresh (Nat.le_refl _))
  · subst e
    obtain ⟨t, rfl⟩ := r1
    cases ha : z.cps.all (· < 128)
    · exact wpAny_pyIter_wide ha (pi_one (tk := s1.toks) I1 _ (turn_str _ z t "str_iterator" (.inr rfl)) ⟨_, Heap.get?_push_size _ rfl, rfl, rfl⟩ q)
    · exact wpAny_pyIter_ascii ha (pi_one (tk := s1.toks) I1 _ (turn_str _ z t "str_ascii_iterator" (.inl rfl)) ⟨_, Heap.get?_push_size _ rfl, rfl, rfl⟩ q)
end DL
set_option Elab.async false
set_option linter.all false
set_option maxRecDepth 100000
set_option maxHeartbeats 4000000
namespace DL
open PySem PySem.Spec PyProof.Rows L2
/-! ### targets -/
abbrev TgF := D → Rho → Option Rho
abbrev tN (i : Nat) : TgF := fun d ρ => some (ρ.set i (some d))
/-- vs: the slots that it stores -/
def LTg (R : Rc) (o vs : List Nat) (f : TgF) : TG := fun v σ H Q => ∃ F ad ρ G d ρ', RelS R F o ad ρ G σ H ∧ Rep R H (bz G (fo F o ad)) v d ∧ f d ρ = some ρ' ∧
  ∀ σ', RelS R F o ad ρ' G σ' H → (∀ ws, (∀ i, i ∈ vs → i ∈ ws) → wipe σ' ws = wipe σ ws) → Q σ' H
structure JG (Γ : Gl) (S : Sc) (o : List Nat) (tg : Expr) (vs : List Nat) (f : TgF) : Prop where
  run : ∀ n X Wx, At Γ S n X Wx → PG X tg (LTg Γ.R o vs f)
theorem pg_anti {X : Cx} {e : Expr} {t t' : TG} (h : PG X e t) (i : ∀ v σ H Q, t' v σ H Q → t v σ H Q) : PG X e t' := ⟨fun pins s σ H v u Q I r q => h.run pins s σ H v u Q I r (i v σ H Q q)⟩
theorem wipe_set {σ : St} {i : Nat} {x : Option V} : ∀ {ws : List Nat}, i ∈ ws → wipe (σ.set i x) ws = wipe σ ws
  | j :: ws, h => by
    unfold wipe
    by_cases q : i ∈ ws
    · rw [wipe_set q]
    · have e : i = j := (List.mem_cons.mp h).resolve_right q
      subst e
      have : ∀ ws : List Nat, i ∉ ws → wipe (σ.set i x) ws = (wipe σ ws).set i x := by
        intro ws
        induction ws with
        | nil => intro _; rfl
        | cons k ws ih =>
          intro hn
          unfold wipe
          rw [ih fun z => hn (List.mem_cons_of_mem _ z)]
          exact List.set_comm _ _ fun z => hn (by rw [z]; exact List.mem_cons_self)
      rw [this ws q, List.set_set]
section
variable {Γ : Gl} {S : Sc} {ob o o' : List Nat}
theorem jg_name {i : Nat} {x : Str} {pos : Pos} (hN : S.N[i]? = some x) (hl : locB S x = true := by rfl) (ho : memN i o = false := by rfl) : JG Γ S o (.Name x pos) [i] (tN i) := by
  refine ⟨fun n X Wx a => pg_anti (pg_name a.nd (by rw [a.N]; exact hN) (locB_ok a hl).1 (locB_ok a hl).2) fun v σ H Q ⟨F, ad, ρ, G, d, ρ', rs, rv, e, k⟩ => ?_⟩
  cases e
  exact k _ (rs.put (memN_no ho) rv) fun ws h => wipe_set (h i List.mem_cons_self)
/-! ### what is walked -/
def Wk (R : Rc) (F N0 : Bz) (H0 : Hp) (G0 : Gs) (J : It) (ds : List D) : Prop :=
  ∀ N H G, Stp N0 H0 G0 N H G → RelG R G (fun a => F a ∨ N a) H →
    (∀ i d, ds[i]? = some d → J.go i H ∧ ∀ x H', J.yld i H x H' → Ext H G H' G ∧ RelG R G (fun a => F a ∨ N a) H' ∧ Rep R H' (bz G fun a => F a ∨ N a) x d) ∧ (∀ i, ds.length ≤ i → J.stop i H)
theorem Stp.get {N N1 : Bz} {H H1 : Hp} {G G1 : Gs} {F : Bz} {a : Addr} {u : HO} (s : Stp N H G N1 H1 G1) (e : H a = some u) (n : ∀ ps, u ≠ .tbl ps) (b : ¬ bz G (fun a => F a ∨ N a) a) : H1 a = some u :=
  let ⟨b1, b2⟩ := bz_no.mp b
  (s.o a u e n b1 fun z => b2 (.inr z)).1
section
variable {R : Rc} {F N0 : Bz} {H0 : Hp} {G0 : Gs} {a : Addr} {xs : List V} {ds : List D}
theorem nth_of {α : Type} {l : List α} {i : Nat} {d : α} (h : l[i]? = some d) : i < l.length := (List.getElem?_eq_some_iff.mp h).1
theorem wk_list (e : H0 a = some (.lst xs)) (b : ¬ bz G0 (fun a => F a ∨ N0 a) a) (r : Reps R H0 (bz G0 fun a => F a ∨ N0 a) xs ds) : Wk R F N0 H0 G0 (Itl R.K a) ds := by
  intro N H G s g
  have e1 : H a = some (.lst xs) := s.get e (fun _ z => nomatch z) b
  have r1 := r.mv (s.mv (F := F))
  refine ⟨fun i d h => ?_, fun i h => ⟨xs, SqL.of e1, by rw [r.length]; exact h⟩⟩
  obtain ⟨v, hv, rv⟩ := r1.get h
  refine ⟨⟨xs, v, SqL.of e1, hv⟩, fun x H' y => ?_⟩
  obtain ⟨rfl, y⟩ := y
  have := y xs (SqL.of e1)
  rw [hv] at this
  cases this
  exact ⟨Ext.refl _ _, g, rv⟩
theorem wk_tup (e : H0 a = some (.tup xs)) (r : Reps R H0 (bz G0 fun a => F a ∨ N0 a) xs ds) : Wk R F N0 H0 G0 (Itt R.K a) ds := by
  intro N H G s g
  have e1 : H a = some (.tup xs) := s.t _ _ e
  have r1 := r.mv (s.mv (F := F))
  refine ⟨fun i d h => ?_, fun i h => ⟨xs, SqT.of e1, by rw [r.length]; exact h⟩⟩
  obtain ⟨v, hv, rv⟩ := r1.get h
  refine ⟨⟨xs, v, SqT.of e1, hv⟩, fun x H' y => ?_⟩
  obtain ⟨rfl, y⟩ := y
  have := y xs (SqT.of e1)
  rw [hv] at this
  cases this
  exact ⟨Ext.refl _ _, g, rv⟩
theorem wk_dft (e : TupK R.K a []) : Wk R F N0 H0 G0 (Itt R.K a) [] := fun N H G s g => ⟨fun i d h => by simp at h, fun i h => ⟨[], .inr e, Nat.zero_le _⟩⟩
theorem wk_scr {ns : List Int} (e : ScrAt R.K H0 (bz G0 fun a => F a ∨ N0 a) a ns) : Wk R F N0 H0 G0 (Itl R.K a) (ns.map .int) := by
  intro N H G s g
  have q : SqL R.K H a (ns.map V.int) := (e.mv (s.mv (F := F))).sql
  have u : ∀ ys, SqL R.K H a ys → True := fun _ _ => trivial
  refine ⟨fun i d h => ?_, fun i h => ⟨_, q, by simpa using h⟩⟩
  rw [List.getElem?_map] at h
  obtain ⟨k, hk, rfl⟩ := map_some' h
  have hv : (ns.map V.int)[i]? = some (.int k) := by rw [List.getElem?_map, hk]; rfl
  refine ⟨⟨_, _, q, hv⟩, fun x H' y => ?_⟩
  obtain ⟨rfl, y⟩ := y
  have := y _ q
  rw [hv] at this
  cases this
  exact ⟨Ext.refl _ _, g, .int k⟩
theorem wk_str {z : List Nat} : Wk R F N0 H0 G0 (Its ⟨z.toArray⟩) (z.map fun c => .str [c]) := by
  intro N H G s g
  refine ⟨fun i d h => ?_, fun i h => by show z.toArray.size ≤ i; simpa using h⟩
  rw [List.getElem?_map] at h
  obtain ⟨k, hk, rfl⟩ := map_some' h
  refine ⟨by show i < z.toArray.size; simpa using nth_of hk, fun x H' y => ?_⟩
  obtain ⟨rfl, c, hc, rfl⟩ := y
  have hc' : z.toArray[i]? = some c := hc
  rw [List.getElem?_toArray, hk] at hc'
  cases hc'
  exact ⟨Ext.refl _ _, g, rep_str [k]⟩
def rngD (lo : Int) : Nat → List D
  | 0 => []
  | n + 1 => .int lo :: rngD (lo + 1) n
theorem rngD_length (lo : Int) (n : Nat) : (rngD lo n).length = n := by
  induction n generalizing lo with
  | zero => rfl
  | succ n ih => rw [rngD, List.length_cons, ih]
theorem rngD_get {lo : Int} {n i : Nat} {d : D} (h : (rngD lo n)[i]? = some d) : d = .int (lo + i) := by
  induction n generalizing lo i with
  | zero => simp [rngD] at h
  | succ n ih =>
    cases i with
    | zero => rw [rngD, List.getElem?_cons_zero] at h; cases h; simp
    | succ i =>
      rw [rngD, List.getElem?_cons_succ] at h
      rw [ih h]
      congr 1
      omega
theorem wk_rng {lo : Int} {n : Nat} : Wk R F N0 H0 G0 (Itr lo n) (rngD lo n) := by
  intro N H G s g
  refine ⟨fun i d h => ⟨by have := nth_of h; rw [rngD_length] at this; exact this, fun x H' y => ?_⟩, fun i h => by rw [rngD_length] at h; exact h⟩
  obtain ⟨rfl, rfl⟩ := y
  rw [rngD_get h]
  exact ⟨Ext.refl _ _, g, .int _⟩
end
def itemsD : D → Option (List D)
  | .lst l => some l
  | .tup l => some l
  | .dft => some []
  | .str s => some (s.map fun c => .str [c])
  | .scr ns => some (ns.map .int)
  | _ => none
@[irreducible] def gotL (x : Option (List D)) (k : List D → Prop) : Prop := match x with | some d => k d | none => False
theorem gotL_some {x : Option (List D)} {k : List D → Prop} (h : gotL x k) : ∃ d, x = some d ∧ k d := by
  unfold gotL at h
  cases x with
  | none => exact h.elim
  | some d => exact ⟨d, rfl, h⟩
abbrev iSeq (fe : WE) : WA := fun M ρ G Q E => fe M ρ G (fun d G1 => gotL (itemsD d) fun ds => Q ds G1) E
abbrev big : Int := 4611686018427387904
theorem big_eq : (2 : Int) ^ 62 = big := by decide +kernel
abbrev iRg1 (fe : WE) : WA := fun M ρ G Q E => fe M ρ G (fun d G1 => match d with | .int j => -big ≤ j ∧ j < big ∧ Q (rngD 0 j.toNat) G1 | _ => False) E
def LI (R : Rc) (o : List Nat) (M : Orc) (Wx : WX) (f : WA) : TI := fun σ H Rr => ∃ F ad ρ G Qd Ed, RelS R F o ad ρ G σ H ∧ f M ρ G Qd Ed ∧
  (∀ J H' ds G', Ext H G H' G' → RelG R G' (fo F o ad) H' → Wk R F (ow o ad) H' G' J ds → Qd ds G' → Rr J H') ∧
  (∀ cls dd x H' G', Ext H G H' G' → RelG R G' (fo F o ad) H' → RelX R H' (bz G' (fo F o ad)) cls dd x → Ed x G' → Wx cls dd σ H')
structure JI (Γ : Gl) (S : Sc) (o : List Nat) (tg iter : Expr) (f : WA) : Prop where
  run : ∀ n X Wx, At Γ S n X Wx → PI X tg iter (LI Γ.R o (Γ.M n) Wx f)
theorem pi_anti {X : Cx} {tg e : Expr} {t t' : TI} (h : PI X tg e t) (i : ∀ σ H Q, t' σ H Q → t σ H Q) : PI X tg e t' := ⟨fun pins s σ H Q I q => h.run pins s σ H Q I (i σ H Q q)⟩
theorem ji_seq {tg e : Expr} {fe : WE} (he : JE Γ S o e fe) : JI Γ S o tg e (iSeq fe) := by
  refine ⟨fun n X Wx a => pi_anti (pi_sq (he.run n X Wx a)) fun σ H Q ⟨F, ad, ρ, G, Qd, Ed, rs, hf, k1, k2⟩ => ?_⟩
  have hK : X.K = Γ.R.K := a.K
  refine ⟨F, ad, ρ, G, _, Ed, rs, hf, fun v H1 d G1 e1 g1 r1 q1 => ?_, k2⟩
  obtain ⟨ds, hd, q⟩ := gotL_some q1
  rw [hK]
  cases r1 <;> first | (cases hd; done) | skip
  · cases hd
    rename_i x
    refine .inr (.inr ⟨x, rfl, k1 _ H1 _ G1 e1 g1 ?_ q⟩)
    have := wk_str (R := Γ.R) (F := F) (N0 := ow o ad) (H0 := H1) (G0 := G1) (z := x.cps.toList)
    simpa using this
  · cases hd
    rename_i hx r
    exact .inr (.inl ⟨_, rfl, ⟨_, SqT.of hx⟩, k1 _ H1 _ G1 e1 g1 (wk_tup hx r) q⟩)
  · cases hd
    rename_i hx
    exact .inr (.inl ⟨_, rfl, ⟨_, .inr hx⟩, k1 _ H1 _ G1 e1 g1 (wk_dft hx) q⟩)
  · cases hd
    rename_i hx hn r
    exact .inl ⟨_, rfl, ⟨_, SqL.of hx⟩, k1 _ H1 _ G1 e1 g1 (wk_list hx hn r) q⟩
  · cases hd
    rename_i hx
    exact .inl ⟨_, rfl, ⟨_, hx.sql⟩, k1 _ H1 _ G1 e1 g1 (wk_scr hx) q⟩
theorem ji_rg1 {tg e : Expr} {p pos : Pos} {fe : WE} (hm : Γ.mg "range" = none) (he : JE Γ S o e fe) (hg : glB S.sc "range" = true := by rfl) (hst : noStar e = true := by rfl) : JI Γ S o tg (.Call (.Name "range" p) [e] [] pos) (iRg1 fe) := by
  refine ⟨fun n X Wx a => pi_anti (pi_range1 (glB_ok a hg) (by rw [a.mg]; exact hm) (pa_cons (he.run n X Wx a) pa_nil (star_no hst)) (star_no hst)) fun σ H Q ⟨F, ad, ρ, G, Qd, Ed, rs, hf, k1, k2⟩ => ?_⟩
  refine ⟨F, ad, ρ, G, _, Ed, rs, hf, fun v H1 d G1 e1 g1 r1 q1 => ?_, k2⟩
  cases d with
  | int j =>
    obtain ⟨h1, h2, q⟩ := q1
    cases r1
    exact ⟨j, rfl, by rw [big_eq]; exact h1, by rw [big_eq]; exact h2, k1 _ H1 _ G1 e1 g1 wk_rng q⟩
  | _ => exact q1.elim
end
end DL
set_option Elab.async false
set_option linter.all false
set_option maxRecDepth 100000
set_option maxHeartbeats 4000000
namespace DL
open PySem PySem.Spec PyProof.Rows L2
/-! ### for -/
def forW (M : Orc) (t : TgF) (body : WS) (K : KS) (E : XKD) : List D → Rho → Gs → Prop
  | [], ρ, G => K.nx ρ G
  | d :: ds, ρ, G => match t d ρ with
    | some ρ1 => body M ρ1 G { nx := forW M t body K E ds, ct := forW M t body K E ds, bk := K.nx, rt := K.rt } E
    | none => False
abbrev sFor (fi : WA) (t : TgF) (body : WS) : WS := fun M ρ G K E => fi M ρ G (fun ds G1 => forW M t body K E ds ρ G1) E
section
variable {Γ : Gl} {S : Sc} {ob o o' : List Nat}
theorem lg_for {R : Rc} {M : Orc} {Wx : WX} {fi : WA} {t : TgF} {vs : List Nat} {body : WS} {σ : St} {H : Hp} {D0 : Ends} (h : LS R ob o o M Wx (sFor fi t body) D0 σ H) :
    tFor (LI R o M Wx fi) (LTg R o vs t) (LS R o o o M Wx body) D0 σ H := by
  obtain ⟨F, ad, ρ, G, K, Ed, rs, hf, c⟩ := h
  refine ⟨F, ad, ρ, G, _, Ed, rs, hf, fun J H1 ds G1 e1 g1 wk q => ?_, fun cls dd x H' G' e g r q => c.exE e g r q⟩
  refine ⟨fun i m σ' H' => m = ds.length - i ∧ i ≤ ds.length ∧ ∃ ad' ρ' G', Stp (ow o ad) H1 G1 (ow o ad') H' G' ∧ RelS R F o ad' ρ' G' σ' H' ∧ forW M t body K Ed (ds.drop i) ρ' G', ⟨ds.length, by simp, Nat.zero_le _, ad, ρ, G1, .refl, rs.step e1 g1, q⟩, ?_⟩
  rintro i m σ' H' ⟨rfl, hi, ad', ρ', G', st, rs', fw⟩
  have wk' := wk (ow o ad') H' G' st rs'.g
  by_cases hlt : i < ds.length
  · have hd : ds.drop i = ds[i] :: ds.drop (i + 1) := List.drop_eq_getElem_cons hlt
    have hget : ds[i]? = some ds[i] := List.getElem?_eq_getElem hlt
    rw [hd] at fw
    obtain ⟨go, yl⟩ := wk'.1 i _ hget
    refine .inr ⟨go, fun σ2 H2 => ∃ ad2 ρ2 G2, Stp (ow o ad) H1 G1 (ow o ad2) H2 G2 ∧ RelS R F o ad2 ρ2 G2 σ2 H2 ∧ forW M t body K Ed (ds.drop (i + 1)) ρ2 G2, fun σ2 H2 z => ⟨ds.length - (i + 1), by omega, rfl, hlt, z⟩, fun x H2 y => ?_⟩
    obtain ⟨e2, g2, r2⟩ := yl x H2 y
    simp only [forW] at fw
    split at fw
    · rename_i ρ1 ht
      refine ⟨F, ad', ρ', G', _, ρ1, rs'.step e2 g2, r2, ht, fun σ3 rs3 _ => ?_⟩
      have s3 : Stp (ow o ad) H1 G1 (ow o ad') H2 G' := st.trans (Stp.ext e2)
      have s0 : Stp (ow o ad) H G (ow o ad') H2 G' := (Stp.ext e1).trans s3
      refine ⟨F, ad', ρ1, G', _, Ed, rs3, fw, ⟨?_, ?_, ?_, ?_, ?_⟩⟩
      · exact fun σ4 H4 ad4 ρ4 G4 t4 r4 q4 => ⟨ad4, ρ4, G4, s3.trans t4, r4, q4⟩
      · exact fun σ4 H4 ad4 ρ4 G4 t4 r4 q4 => c.nx σ4 H4 ad4 ρ4 G4 (s0.trans t4) r4 q4
      · exact fun σ4 H4 ad4 ρ4 G4 t4 r4 q4 => ⟨ad4, ρ4, G4, s3.trans t4, r4, q4⟩
      · exact fun v H4 d G4 t4 g4 r4 q4 => c.rt v H4 d G4 (s0.trans t4) g4 r4 q4
      · exact fun cls dd x σ4 H4 G4 t4 g4 r4 q4 => c.ex cls dd x σ4 H4 G4 (s0.trans t4) g4 r4 q4
    · exact fw.elim
  · have hz : ds.drop i = [] := List.drop_eq_nil_of_le (by omega)
    rw [hz] at fw
    exact .inl ⟨wk'.2 i (by omega), c.nx σ' H' ad' ρ' G' ((Stp.ext e1).trans st) rs' fw⟩
theorem js_for {tg iter : Expr} {body : List Stmt} {pos : Pos} {fi : WA} {t : TgF} {vs : List Nat} {f : WS} (hi : JI Γ S o tg iter fi) (hg : JG Γ S o tg vs t) (hb : JB Γ S o o body o f) (hcl : S.calm = true := by rfl) (hs : ∀ (env : Env) x, foldedSetIterable iter env x = pure x := by intro _ _; rfl) :
    JS Γ S ob o (.For tg iter body [] pos) o (sFor fi t f) :=
  ⟨fun n X Wx a => ps_anti (ps_for a.pass (a.calm.trans hcl) (hi.run n X Wx a) (hg.run n X Wx a) (hb.run n X Wx a) (hs _)) fun σ H D _ q => lg_for q⟩
/-! ### comprehensions -/
def noX : XKD := fun _ _ => False
def lcW (M : Orc) (ρ : Rho) (t : TgF) (tt : WT) (fe : WE) (Q : KD) : List D → List D → Gs → Prop
  | [], acc, G => Q (.lst acc) G
  | d :: ds, acc, G => match t d ρ with
    | some ρ1 => tt M ρ1 G (fun b G1 => if b = true then fe M ρ1 G1 (fun y G2 => acc.length < lim ∧ lcW M ρ t tt fe Q ds (acc ++ [y]) G2) noX else lcW M ρ t tt fe Q ds acc G1) noX
    | none => False
def blkS (S : Sc) (scope : Scope) : Sc := ⟨S.N, relS scope S.sc, S.calm, some scope.names, S.rm, S.cod⟩
/-- one more that is busy -/
def oneM (F : Bz) (D : Addr) : Bz := fun a => F a ∨ a = D
theorem RelS.more {R : Rc} {F : Bz} {ad : Nat → Addr} {ρ : Rho} {G : Gs} {σ : St} {H : Hp} {L : Addr} {ob : HO} (r : RelS R F o ad ρ G σ H) (hD : H L = none) (nt : ∀ ps, ob ≠ .tbl ps) : RelS R (oneM F L) o ad ρ G σ (upd H L ob) := by
  obtain ⟨gD, fD⟩ := r.g.fresh hD
  have kp : ∀ a u, H a = some u → upd H L ob a = some u := fun a u e => by rw [upd_ne (ne_of_none e hD)]; exact e
  have m : Mv H (bz G (fo F o ad)) (upd H L ob) (bz G (fo (oneM F L) o ad)) := ⟨fun a u e _ b => ⟨kp _ _ e, fun z => by
    rcases z with z | (z | z) | z
    · exact b (.inl z)
    · exact b (.inr (.inl z))
    · rw [z, hD] at e; cases e
    · exact b (.inr (.inr z))⟩, fun a xs e => kp _ _ e⟩
  refine ⟨⟨fun a d e => (r.g.cell a d e).mv m fun u q _ => kp _ _ q, r.g.tabs.ext kp, fun a h => ?_⟩, r.len, fun i d h hn => ?_, fun i hi => ?_, r.inj⟩
  · rcases h with (h | h) | h
    · obtain ⟨h1, u, h2, h3⟩ := r.g.fr a (.inl h)
      exact ⟨h1, u, kp _ _ h2, h3⟩
    · rw [h]; exact ⟨gD, ob, upd_same, nt⟩
    · obtain ⟨h1, u, h2, h3⟩ := r.g.fr a (.inr h)
      exact ⟨h1, u, kp _ _ h2, h3⟩
  · obtain ⟨v, h1, h2⟩ := r.slot i d h hn
    exact ⟨v, h1, h2.mv m⟩
  · obtain ⟨d, h1, h2, h3, h4⟩ := r.own i hi
    exact ⟨d, h1, h2, h3.mv m fun u z _ => kp _ _ z, fun z => z.elim h4 fun z => fD (.inr ⟨i, hi, z.symm⟩)⟩
end
end DL
set_option Elab.async false
set_option linter.all false
set_option maxRecDepth 100000
set_option maxHeartbeats 4000000
namespace DL
open PySem PySem.Spec PyProof.Rows L2
/-! ### a def's body -/
def startR (N : List Str) (ds : List D) : Rho := ds.map some ++ List.replicate (N.length - ds.length) none
/-- run a body -/
def runB (b : WS) (M : Orc) (N : List Str) : List D → W := fun ds G Q E => b M (startR N ds) G { nx := fun _ G' => Q .non G', rt := Q, bk := fun _ _ => False, ct := fun _ _ => False } E
def cxC (P : Program) (w : World) (K : PySem.W.Frag) (mg : Str → Option Value) (base : Heap) (N : List Str) (qual : Str) (scope : Scope) (f : Addr) (cd : Value) (A : Around) (outer : List Env) (s : Shared) (H : Hp) (E : XK) (c : Bool) : Cx :=
  { cxOf (L2.CX P w) P w K mg base N qual scope f cd A outer s H E with calm := c }
theorem inv_startC {P : Program} {w : World} {K : PySem.W.Frag} {mg : Str → Option Value} {base : Heap} {N ps : List Str} {qual : Str} {scope : Scope} {f : Addr} {cd : Value} {A : Around} {outer : List Env} {s s1 : Shared} {H : Hp} {E : XK} {us : List Value} {vs : List V} {c : Bool}
    (S : FnScope N ps scope) (hc : c = true → A.handled = none) (e0 : Env0 P w K mg base A outer s H) (hl : vs.length = ps.length) (r : Vals vs us)
    (x : InCallC s s.heap.objs.size (bindL (envOfC qual scope s.heap.objs.size f cd).kindOf (ps.zip us) fun _ => none) (cellsFrom (s.heap.objs.size + 1) scope.names []) (bindC (envOfC qual scope s.heap.objs.size f cd).kindOf (ps.zip us) fun _ => none) s1) :
    Inv (cxC P w K mg base N qual scope f cd A outer s H E c) [] (L2.start N vs) H s1 := by
  have hpl : ps.length ≤ N.length := by have := congrArg List.length S.pre; rw [List.length_take] at this; omega
  obtain ⟨h1, tk, rfl, hk⟩ := x.done
  have noA : ∀ b : Addr, b ∉ (cxC P w K mg base N qual scope f cd A outer s H E c).ex := fun b z => absurd (show b ∈ ([] : List Addr) from z) (by simp)
  refine ⟨⟨e0.mod, S.kind, rfl, rfl, Nat.le_refl _, fun y z c h1 h2 => ?_, fun y hy => ?_, fun y c _ h => ?_, hc, Around.frames_deeper e0.frames, .inr ⟨rfl, rfl⟩, fun b z => absurd z (noA b), e0.bs, e0.bsz, fun b _ _ => noA b, fun b z => absurd z (noA b), e0.funs, e0.frf⟩,
    rfl, e0.bare, Un.kept hk, ⟨_, x.toInCall.ns, fun i y v h1 h2 h3 => ?_⟩, fun y c h => ⟨_, x.cell y c h⟩, e0.hok.fresh (Nat.le_refl _), fun y c h => ?_, fun p hp => absurd (show p ∈ ([] : List (Addr × Obj)) from hp) (by simp), e0.hok.kept hk, ?_⟩
  · exact name_of_addr x.apart (PySem.mem_of_lookup h1) (PySem.mem_of_lookup h2)
  · have hy : scope.names.lookup y = some .cell ∨ scope.names.lookup y = some .free := hy
    rcases hy with hy | hy
    · exact cell_has hy
    · exact absurd rfl (S.nofree _ (PySem.mem_of_lookup hy))
  · exact Nat.le_of_lt (x.above y c (PySem.mem_of_lookup h))
  · have hi : i < vs.length := by
      unfold L2.start at h2
      by_cases hi : i < vs.length
      · exact hi
      · rw [List.getElem?_append_right (by simpa using hi)] at h2
        rw [List.getElem?_replicate] at h2
        split at h2 <;> cases h2
    have ha : vs[i]? = some v := by
      unfold L2.start at h2
      rw [List.getElem?_append_left (by simpa using hi), List.getElem?_map] at h2
      cases e : vs[i]? with
      | none => rw [e] at h2; cases h2
      | some a => rw [e] at h2; cases h2; rfl
    obtain ⟨u, hu, rv⟩ := r.get ha
    have hp : ps[i]? = some y := by
      rw [← S.pre, List.getElem?_take_of_lt (by omega)]; exact h1
    have ndP : ps.Nodup := by rw [← S.pre]; exact S.nd.sublist (List.take_sublist _ _)
    refine ⟨u, rv, ?_⟩
    rcases S.par y (List.mem_of_getElem? hp) with k | k
    · exact .inl ⟨k, bindL_get ndP hp hu k⟩
    · obtain ⟨c, e⟩ := cell_has (n := s.heap.objs.size + 1) k
      refine .inr ⟨.inl k, c, e, ?_⟩
      have q := x.cell y c e
      rw [bindC_get ndP hp hu (by show scope.names.lookup y ≠ _; rw [k]; decide)] at q
      exact q
  · exact e0.hok.fresh (Nat.le_of_lt (x.above y c (PySem.mem_of_lookup h)))
  · unfold L2.start
    show _ = N.length
    rw [List.length_append, List.length_map, List.length_replicate]
    omega
/-- a def keeps what its body keeps -/
theorem fn_ofC {P : Program} {w : World} {K : PySem.W.Frag} {mg : Str → Option Value} {base : Heap} {k : Nat} {f : Addr} {name qual : Str} {params : Arguments} {body : List Stmt} {scope : Scope} {dV kV doc pm cdv ct oc : Value} {an od : Option Addr}
    {osl : Array (Option Value)} {N ps : List Str} {sp : Sp} {c : Bool} (lk : K.lookup f = some ⟨oc, od, .func (PySem.W.fnOf name qual params body scope dV kV doc pm an cdv ct), osl⟩) (hcd : PySem.W.codeIn K cdv qual = true) (S : FnScope N ps scope)
    (len : ∀ vs H Q E, sp vs H Q E → vs.length = ps.length)
    (hbody : ∀ (A : Around) (outer : List Env) (s : Shared) (H : Hp) (vs : List V) (Q : VK) (E : XK), A.guards = some [] → L2H.RoomH k (A.deeper (envOfC qual scope s.heap.objs.size f cdv)) → sp vs H Q E →
      ∃ t, PSs (cxC P w K mg base N qual scope f cdv A outer s H E c) body t ∧ t { nx := fun _ H' => Q .non H', rt := Q } (L2.start N vs) H) :
    OkF P w K mg base c (k + 1) f (PySem.W.fnOf name qual params body scope dV kV doc pm an cdv ct) ps sp := by
  refine ⟨len, fun A outer s H args us vs Q E hr hgd hcl e0 hb r hsp => ?_⟩
  have hl := len _ _ _ _ hsp
  have KX : K.In s.heap := e0.mod.kin.keeps fun b o e => (e0.bs b o e).1
  have lim : s.heap.NoLimit := e0.mod.nolimit.keeps fun b o e => (e0.bs b o e).1
  have hkind : ∀ y ∈ ps.zip us, scope.names.lookup y.1 = some .local ∨ (scope.names.lookup y.1 = some .cell ∧ ((cellsFrom (s.heap.objs.size + 1) scope.names []).lookup y.1).isSome = true) := fun ⟨n, v⟩ hy => by
    rcases S.par n (List.of_mem_zip hy).1 with q | q
    · exact .inl q
    · exact .inr ⟨q, PySem.W.cellsFrom_some _ _ _ (.inl q)⟩
  refine codeAny_call_function hr.depth (KX _ _ lk) rfl S.co S.gen rfl (PySem.W.codeRec_of KX hcd) (hb _ _ _ _ ?_)
  refine wpAny_newFunctionEnv_cells S.kind hkind fun env he s1 x => ?_
  subst he
  refine ⟨lim.keeps x.toInCall.keep, codeAny_func ?_⟩
  obtain ⟨t, ht, hq⟩ := hbody A outer s H vs Q E hgd (hr.deeper _) hsp
  have I : Inv (cxC P w K mg base N qual scope f cdv A outer s H E c) [] (L2.start N vs) H s1 := inv_startC S hcl e0 hl r x
  refine wpAny_mono (ht.run [] s1 (L2.start N vs) H _ I hq) (fun fl s' hs => ?_) fun e s' hs => hs
  have fin : ∀ {σ' : St} {H' : Hp} {v : V} {u : Value}, Inv (cxC P w K mg base N qual scope f cdv A outer s H E c) [] σ' H' s' → RelV v u → Q v H' → CE outer P w H s Q u s' :=
    fun {σ' H' v u} J rv q => ⟨v, H', J.os, J.bare, J.base, J.hok, rv, q⟩
  cases fl with
  | ret u =>
    obtain ⟨v, σ', H', J, rv, q⟩ := hs
    exact fin J rv q
  | next =>
    obtain ⟨σ', H', J, q⟩ := hs
    exact fin (v := V.non) (u := Value.none) J rfl q
  | brk =>
    obtain ⟨_, _, _, q⟩ := hs
    exact False.elim q
  | cont =>
    obtain ⟨_, _, _, q⟩ := hs
    exact False.elim q
theorem reps_start {R : Rc} {F : Bz} {ad : Nat → Addr} {G : Gs} {H : Hp} {N : List Str} {vs : List V} {ds : List D} (g : RelG R G F H) (r : Reps R H (bz G F) vs ds) : RelS R F [] ad (startR N ds) G (L2.start N vs) H := by
  have hl := r.length
  refine RelS.nil g (by simp [startR, L2.start, hl]) fun i d h => ?_
  unfold startR at h
  unfold L2.start
  by_cases hi : i < ds.length
  · rw [List.getElem?_append_left (by simpa using hi), List.getElem?_map] at h
    obtain ⟨d', h1, h2⟩ := map_some' h
    cases h2
    obtain ⟨v, h3, h4⟩ := r.get h1
    exact ⟨v, by rw [List.getElem?_append_left (by simpa [hl] using hi), List.getElem?_map, h3]; rfl, h4⟩
  · rw [List.getElem?_append_right (by simpa using hi), List.getElem?_replicate] at h
    split at h <;> cases h
/-- the table's entry of a def, from its body -/
theorem ok_of {Γ : Gl} {n f : Nat} {e : FnE} {name qual : Str} {params : Arguments} {body : List Stmt} {scope : Scope} {dV kV doc pm cdv ct oc : Value} {an od : Option Addr} {osl : Array (Option Value)} {N : List Str} {o' : List Nat} {b : WS} {cod : Option (Addr × Str)} (hcod : ∀ c q, cod = some (c, q) → cdv = .ref c ∧ qual ++ ".<locals>." = q) (hn : Γ.ok n)
    (lk : Γ.R.K.lookup e.addr = some ⟨oc, od, .func (PySem.W.fnOf name qual params body scope dV kV doc pm an cdv ct), osl⟩) (hfd : e.fd = PySem.W.fnOf name qual params body scope dV kV doc pm an cdv ct) (hcd : PySem.W.codeIn Γ.R.K cdv qual = true) (S : FnScope N e.ps scope)
    (hb : JB Γ ⟨N, scope, e.calm, none, 5, cod⟩ [] [] body o' b) (hM : Γ.M (n + 1) f = runB b (Γ.M n) N) : OkF Γ.P Γ.w Γ.R.K Γ.mg Γ.base e.calm (lv (n + 1)) e.addr e.fd e.ps (spD Γ.R e.ps.length (Γ.M (n + 1) f)) := by
  rw [hfd, hM]
  have len : ∀ vs H Q E, spD Γ.R e.ps.length (runB b (Γ.M n) N) vs H Q E → vs.length = e.ps.length := fun vs H Q E ⟨F, ds, G, Qd, Ed, h1, h2, h3, _⟩ => h3.length.trans h1
  refine fn_ofC (k := lv n + 5) lk hcd S len fun A outer s H vs Q E hgd hr ⟨F, ds, G, Qd, Ed, h1, g, r, hf, k1, k2⟩ => ?_
  have a : At Γ ⟨N, scope, e.calm, none, 5, cod⟩ n (cxC Γ.P Γ.w Γ.R.K Γ.mg Γ.base N qual scope e.addr cdv A outer s H E e.calm) (fun cls d _ H' => E cls d H') := {
    prog := rfl, w := rfl, K := rfl, mg := rfl, base := rfl, N := rfl, nd := S.nd, sc := rfl, calm := rfl, fn := fun _ => rfl
    tk := takes_of (E := E) rfl rfl rfl rfl, room := hr, gd := hgd, cod := hcod, ok := hn, pass := passes_of rfl }
  refine ⟨_, hb.run n _ _ a, F, fun _ => 0, startR N ds, G, _, Ed, reps_start g r, hf, ?_, ?_, ?_, ?_, ?_⟩
  · exact fun σ' H' ad' ρ' G' st r' q => k1 .non H' .non G' (st.toExt fun _ => ow_nil) (r'.g.less fun a z => .inl z) .non q
  · exact fun _ _ _ _ _ _ _ z => z
  · exact fun _ _ _ _ _ _ _ z => z
  · exact fun v H' d G' st g' r' q => k1 v H' d G' (st.toExt fun _ => ow_nil) g' r' q
  · exact fun cls dd x σ' H' G' st g' r' q => k2 cls dd x H' G' (st.toExt fun _ => ow_nil) g' r' q
/-! ### calls of defs -/
abbrev eCall (f : Nat) (fa : WA) : WE := fun M ρ G Q E => fa M ρ G (fun xs G1 => M f xs G1 Q E) E
/-- the callee runs -/
theorem run_okF {Γ : Gl} {S : Sc} {n : Nat} {X : Cx} {Wx : WX} {e : FnE} {f : Nat} (a : At Γ S n X Wx) (ht : Γ.tb f = some e) (hc : (!e.calm || S.calm) = true) {pins : List (Addr × Obj)} {σ : St} {H : Hp} {s : Shared} {Q : VK} {args : Args} {us : List Value} {vs : List V}
    (I : Inv X pins σ H s) (hb : us.length = e.ps.length → BindsTo s e.fd args (e.ps.zip us)) (r : Vals vs us) (h : spD Γ.R e.ps.length (Γ.M n f) vs H Q (fun cls d H' => Wx cls d σ H')) :
    codeAny (model X.prog X.w) X.A (.call (.ref e.addr) args) (fun r s' => match r with | .ok (.ret u) => EP X pins σ Q u s' | .ok _ => False | .error e => X.xe e s') s := by
  have F := a.ok f e ht
  have hl : us.length = e.ps.length := by rw [← r.length]; exact F.len _ _ _ _ h
  have e0 : Env0 Γ.P Γ.w Γ.R.K Γ.mg Γ.base X.A X.stack s H := by
    have := I.env0
    rw [a.prog, a.w, a.K, a.mg, a.base] at this
    exact this
  have hcl : e.calm = true → X.A.handled = none := fun z => I.ok.hd (a.calm.trans (by rw [z] at hc; exact hc))
  rw [a.prog, a.w]
  refine codeAny_mono (F.run X.A X.stack s H args us vs Q _ (a.room.mono (Nat.le_add_right _ _)) a.gd hcl e0 (hb hl) r h) fun r s' hq => ?_
  cases r with
  | error e =>
    rw [← a.prog, ← a.w] at hq
    exact a.tk e s' (XE.of_call I (fun cls d H' h => h) hq)
  | ok fl =>
    cases fl with
    | ret u =>
      rw [← a.prog, ← a.w] at hq
      exact I.after hq
    | next => exact hq
    | brk => exact hq
    | cont => exact hq
theorem call_okF {Γ : Gl} {S : Sc} {n : Nat} {X : Cx} {Wx : WX} {e : FnE} {f : Nat} (a : At Γ S n X Wx) (ht : Γ.tb f = some e) (hc : (!e.calm || S.calm) = true) (hb : Binds Γ.R.K e.fd e.ps []) {pins : List (Addr × Obj)} {σ : St} {H : Hp} {s : Shared} {Q : VK} {us : List Value} {vs : List V}
    (I : Inv X pins σ H s) (r : Vals vs us) (h : spD Γ.R e.ps.length (Γ.M n f) vs H Q (fun cls d H' => Wx cls d σ H')) : wpAny (model X.prog X.w) X.A (call (.ref e.addr) us) (EP X pins σ Q) X.xe s := by
  refine wpAny_call (codeAny_mono (run_okF a ht hc (args := ⟨us, []⟩) I (fun hl => ?_) r h) fun r s' hq => ?_)
  · have := hb s us (by rw [← a.K]; exact I.kIn) (by rw [List.append_nil]; exact hl)
    rw [List.append_nil] at this
    exact this
  cases r with
  | error e => exact hq
  | ok fl =>
    cases fl with
    | ret u => exact hq
    | next => exact hq.elim
    | brk => exact hq.elim
    | cont => exact hq.elim
section
variable {Γ : Gl} {S : Sc} {o : List Nat}
theorem LA.sp {R : Rc} {M : Orc} {Wx : WX} {fa : WA} {f k : Nat} {σ : St} {H : Hp} {Q : VK} (h : LE R o M Wx (eCall f fa) σ H Q) : LA k R o M Wx fa σ H fun vs H1 => spD R k (M f) vs H1 Q (fun cls d H' => Wx cls d σ H') := by
  obtain ⟨F, ad, ρ, G, Qd, Ed, rs, hf, k1, k2⟩ := h
  refine ⟨F, ad, ρ, G, _, Ed, rs, hf, fun vs H1 ds G1 e1 g1 r1 q1 => ?_, k2⟩
  exact ⟨fo F o ad, ds, G1, Qd, Ed, by rw [← r1.1.length]; exact r1.2, g1, r1.1, q1, fun v H' d G' e g r q => k1 v H' d G' (e1.trans e) g r q, fun cls dd x H' G' e g r q => k2 cls dd x H' G' (e1.trans e) g r q⟩
theorem je_call {x : Str} {p pos : Pos} {e1 : Expr} {es : List Expr} {e : FnE} {f : Nat} {fa : WA} (ht : Γ.tb f = some e) (hm : Γ.mg x = some (.ref e.addr)) (hk : PySem.W.keepIn Γ.R.K (.ref e.addr) = true) (hb : Binds Γ.R.K e.fd e.ps []) (ha : JA Γ S o (e1 :: es) fa)
    (hl : (e1 :: es).length = e.ps.length := by rfl) (hc : (!e.calm || S.calm) = true := by rfl) (hg : glB S.sc x = true := by rfl) (hdb : dbgB x = false := by decide +kernel) (hst : noStars (e1 :: es) = true := by rfl) : JE Γ S o (.Call (.Name x p) (e1 :: es) [] pos) (eCall f fa) := by
  refine ⟨fun n X Wx a => ?_⟩
  have A := ha.run n X Wx a
  rw [hl] at A
  refine pe_anti (t := fun σ H Q => LA e.ps.length Γ.R o (Γ.M n) Wx fa σ H fun vs H1 => spD Γ.R e.ps.length (Γ.M n f) vs H1 Q (fun cls d H' => Wx cls d σ H')) ⟨fun pins s σ H Q I h => ?_⟩ fun σ H Q q => LA.sp q
  refine wpAny_Call_Name_kw (ld_glob I (glB_ok a hg) (by rw [a.mg]; exact hm) ?_ (Bool.or_eq_false_iff.mp hdb).1)
  refine PySem.W.callWith_K (h₀ := X.base) I.ok.mod.kin (by rw [a.K]; exact hk) (thn (A.run pos pins s σ H _ I h) fun us s1 ⟨vs, H1, I1, r, q⟩ => ⟨I1.kIn, ?_⟩) (star_no (Bool.and_eq_true_iff.mp hst).1) (stars_no (Bool.and_eq_true_iff.mp hst).2)
  exact call_okF a ht hc hb I1 r q
end
end DL
set_option Elab.async false
set_option linter.all false
set_option maxRecDepth 100000
set_option maxHeartbeats 4000000
namespace DL
open PySem PySem.Spec PyProof.Rows L2
/-! ### cells -/
def gput (G : Gs) (p : Addr) (d : D) : Gs := fun a => if a = p then some d else G a
def gdel (G : Gs) (p : Addr) : Gs := fun a => if a = p then none else G a
theorem gput_same {G : Gs} {p : Addr} {d : D} : gput G p d p = some d := if_pos rfl
theorem gput_ne {G : Gs} {p a : Addr} {d : D} (h : a ≠ p) : gput G p d a = G a := if_neg h
section
variable {R : Rc} {F : Bz} {G : Gs} {H : Hp} {p : Addr} {ob : HO} {d : D}
theorem bz_gput_new (hG : G p = none) : ∀ a, bz (gput G p d) F a ↔ bz G F a ∨ a = p := fun a => by
  unfold bz
  by_cases q : a = p
  · subst q
    exact ⟨fun _ => .inr rfl, fun _ => .inl (by rw [gput_same]; exact fun z => nomatch z)⟩
  · rw [gput_ne q]
    exact ⟨.inl, fun h => h.resolve_right q⟩
/-- a cell is born -/
theorem RelG.cellNew (g : RelG R G F H) (hp : H p = none) (fr : FO R H (bz G F) ob d) : RelG R (gput G p d) F (upd H p ob) ∧ Ext H G (upd H p ob) (gput G p d) := by
  obtain ⟨gp, fp⟩ := g.fresh hp
  have kp : ∀ a u, H a = some u → upd H p ob a = some u := fun a u e => by rw [upd_ne (ne_of_none e hp)]; exact e
  have m : Mv H (bz G F) (upd H p ob) (bz (gput G p d) F) := ⟨fun a u e _ b => ⟨kp _ _ e, fun z => ((bz_gput_new gp a).mp z).elim b fun z => by rw [z, hp] at e; cases e⟩, fun a xs e => kp _ _ e⟩
  refine ⟨⟨fun a d' e => ?_, g.tabs.ext kp, fun a h => ?_⟩, fun a u e n ga => ⟨kp _ _ e, by rw [gput_ne (ne_of_none e hp)]; exact ga⟩, fun a xs e => kp _ _ e, fun a f u e => f u (kp _ _ e)⟩
  · by_cases q : a = p
    · subst q
      rw [gput_same] at e
      cases e
      exact FO.repC (fr.mv m)
    · rw [gput_ne q] at e
      exact (g.cell a d' e).mv m fun u z _ => kp _ _ z
  · obtain ⟨h1, u, h2, h3⟩ := g.fr a h
    exact ⟨by rw [gput_ne (ne_of_none h2 hp)]; exact h1, u, kp _ _ h2, h3⟩
/-- a cell is changed -/
theorem RelG.cellSet {d0 : D} (g : RelG R G F H) (h0 : G p = some d0) (fr : FO R H (bz G F) ob d) : RelG R (gput G p d) F (upd H p ob) ∧ Ext H G (upd H p ob) (gput G p d) := by
  obtain ⟨u0, hu, nu1, nu2, nu3⟩ := (g.cell p d0 h0).kinds
  have kp : ∀ a u, a ≠ p → H a = some u → upd H p ob a = some u := fun a u n e => by rw [upd_ne n]; exact e
  have bzp : bz G F p := .inl (by rw [h0]; exact fun z => nomatch z)
  have eqB : ∀ a, bz (gput G p d) F a ↔ bz G F a := fun a => by
    by_cases q : a = p
    · subst q
      exact ⟨fun _ => bzp, fun _ => .inl (by rw [gput_same]; exact fun z => nomatch z)⟩
    · unfold bz; rw [gput_ne q]
  have m : Mv H (bz G F) (upd H p ob) (bz (gput G p d) F) := ⟨fun a u e _ b => ⟨kp _ _ (fun z => b (z ▸ bzp)) e, fun z => b ((eqB a).mp z)⟩, fun a xs e => kp _ _ (fun z => by rw [z, hu] at e; cases e; exact nu2 _ rfl) e⟩
  refine ⟨⟨fun a d' e => ?_, fun c hc => ?_, fun a h => ?_⟩, fun a u e n ga => ?_, fun a xs e => m.t a xs e, fun a f u e => ?_⟩
  · by_cases q : a = p
    · subst q
      rw [gput_same] at e
      cases e
      exact FO.repC (fr.mv m)
    · rw [gput_ne q] at e
      exact (g.cell a d' e).mv m fun u z _ => kp _ _ q z
  · obtain ⟨ps, t1, t2, t3⟩ := g.tabs c hc
    refine ⟨ps, kp _ _ (fun z => by rw [z, hu] at t1; cases t1; exact nu1 _ rfl) t1, t2, fun pos cv q => ?_⟩
    obtain ⟨c', e1, e2⟩ := t3 pos cv q
    exact ⟨c', e1, kp _ _ (fun z => by rw [z, hu] at e2; cases e2; exact nu3 _ _ rfl) e2⟩
  · obtain ⟨h1, u, h2, h3⟩ := g.fr a h
    have q : a ≠ p := fun z => by rw [z, h0] at h1; cases h1
    exact ⟨by rw [gput_ne q]; exact h1, u, kp _ _ q h2, h3⟩
  · have q : a ≠ p := fun z => by rw [z, h0] at ga; cases ga
    exact ⟨kp _ _ q e, by rw [gput_ne q]; exact ga⟩
  · by_cases q : a = p
    · rw [q] at f
      exact (f.no upd_same fr.mut).elim
    · exact f u (by rw [upd_ne q]; exact e)
end
section
variable {Γ : Gl} {S : Sc} {ob o o' : List Nat}
/-- a fresh object as a cell -/
abbrev eNew (fe : WE) : WE := fun M ρ G Q E => fe M ρ G (fun d G1 => ∀ p, G1 p = none → Q (.ref p) (gput G1 p d)) E
theorem je_new {e : Expr} {fe : WE} (he : JF Γ S o e fe) : JE Γ S o e (eNew fe) :=
  ⟨fun n X Wx a => pe_anti (he.run n X Wx a) fun σ H Q ⟨F, ad, ρ, G, Qd, Ed, rs, hf, k1, k2⟩ => ⟨F, ad, ρ, G, _, Ed, rs, hf, fun p ob H' d G' e g hp fr q => by
    obtain ⟨g2, e2⟩ := g.cellNew hp fr
    exact k1 _ _ _ _ (e.trans e2) g2 (.ref p) (q p (g.fresh hp).1), k2⟩⟩
/-- c[i] = e, c a cell that is a list -/
def setI (l : List D) (i : D) (v : D) : Option (List D) := match i with
  | .int k => (HT_ix l.length k).map fun j => l.set j v
  | _ => none
where HT_ix (n : Nat) (k : Int) : Option Nat := ixN n k
abbrev sIx (fo fi fe : WE) : WS := fun M ρ G K E => fe M ρ G (fun v G1 => fo M ρ G1 (fun d G2 => fi M ρ G2 (fun i G3 => match d with
  | .ref p => (match G3 p with
    | some (.lst l) => gotL (setI l i v) fun l' => K.nx ρ (gput G3 p (.lst l'))
    | _ => False)
  | _ => False) E) E) E
theorem Cn.nxG {R : Rc} {F : Bz} {ob o : List Nat} {Wx : WX} {ad : Nat → Addr} {H : Hp} {G : Gs} {K : KS} {Ed : XKD} {D0 : Ends} {ρ : Rho} {σ : St} (c : Cn R F ob o o Wx ad H G K Ed D0) (rs : RelS R F o ad ρ G σ H) {H' : Hp} {G' : Gs} (e : Ext H G H' G') (g : RelG R G' (fo F o ad) H') (q : K.nx ρ G') : D0.nx σ H' :=
  c.nx σ H' ad ρ G' (Stp.ext e) (rs.step e g) q
theorem js_setIx {x i v : Expr} {p1 pos : Pos} {fo' fi fe : WE} (hx : JE Γ S o x fo') (hi : JE Γ S o i fi) (hv : JE Γ S o v fe) (hs : ∀ env : Env, swapsWithSole [.Subscript x i p1] v pos.line env = pure false := by intro _; rfl) (hw : ∀ env : Env, swappedStores [.Subscript x i p1] v env = pure none := by intro _; rfl)
    (ha : ∀ (env : Env) v, assign (.Subscript x i p1) env v = (do
      let ov ← holding [v] (eval x env)
      let iv ← holding [v, ov] (eval i env)
      standAt p1
      holding [v, ov, iv] (setItem ov iv v)
      release [v, ov, iv] []) := by intro _ _; rfl) : JS Γ S ob o (.Assign [.Subscript x i p1] v pos) o (sIx fo' fi fe) := by
  refine ⟨fun n X Wx a => ps_anti (ps_asg (hv.run n X Wx a) (pg_sub (hx.run n X Wx a) (hi.run n X Wx a) set_list (ha _)) (hs _) (hw _) rfl) fun σ H D0 _ ⟨F, ad, ρ, G, K, Ed, rs, hf, c⟩ => ?_⟩
  refine ⟨F, ad, ρ, G, _, Ed, rs, hf, fun v1 H1 d1 G1 e1 g1 r1 q1 => ?_, fun cls dd x H' G' e g r q => c.exE e g r q⟩
  refine ⟨F, ad, ρ, G1, _, Ed, rs.step e1 g1, q1, fun v2 H2 d2 G2 e2 g2 r2 q2 => ?_, fun cls dd x H' G' e g r q => c.exE (e1.trans e) g r q⟩
  have e12 := e1.trans e2
  refine ⟨F, ad, ρ, G2, _, Ed, rs.step e12 g2, q2, fun v3 H3 d3 G3 e3 g3 r3 q3 => ?_, fun cls dd x H' G' e g r q => c.exE (e12.trans e) g r q⟩
  have e13 := e12.trans e3
  cases d2 with
  | ref p =>
    cases r2
    dsimp only at q3
    split at q3
    · rename_i l hl
      unfold gotL at q3
      split at q3
      · rename_i l' hl'
        have rc := g3.cell p _ hl
        cases rc with
        | @lst xs ds hx rx =>
          unfold setI at hl'
          split at hl'
          · rename_i k
            cases r3
            obtain ⟨j, hj, rfl⟩ := map_some' hl'
            have hj' : ixN l.length k = some j := hj
            have rv := r1.mv (e2.trans e3).mv
            obtain ⟨g4, e4⟩ := g3.cellSet (ob := .lst (xs.set j v1)) hl (.lst (rx.set rv j))
            refine ⟨p, xs, k, j, rfl, rfl, hx, by rw [rx.length]; exact hj', ?_⟩
            exact c.nxG rs (e13.trans e4) g4 q3
          · cases hl'
      · exact q3.elim
    · exact q3.elim
  | _ => exact q3.elim
end
end DL
set_option Elab.async false
set_option linter.all false
set_option maxRecDepth 100000
set_option maxHeartbeats 4000000
namespace DL
open PySem PySem.Spec PyProof.Rows L2
/-! ### several stores at once -/
inductive Fl (R : Rc) (H : Hp) (B : Bz) : List Bool → List V → List D → List Addr → Prop
  | nil : Fl R H B [] [] [] []
  | old {v : V} {d : D} {fl : List Bool} {vs : List V} {ds : List D} {ps : List Addr} : Rep R H B v d → Fl R H B fl vs ds ps → Fl R H B (false :: fl) (v :: vs) (d :: ds) ps
  | new {p : Addr} {d : D} {fl : List Bool} {vs : List V} {ds : List D} {ps : List Addr} : RepC R H B p d → Fl R H B fl vs ds ps → Fl R H B (true :: fl) (.ref p :: vs) (d :: ds) (p :: ps)
theorem Fl.less {R : Rc} {H : Hp} {B B' : Bz} (l : ∀ a, B' a → B a) : ∀ {fl : List Bool} {vs : List V} {ds : List D} {ps : List Addr}, Fl R H B fl vs ds ps → Fl R H B' fl vs ds ps
  | _, _, _, _, .nil => .nil
  | _, _, _, _, .old r t => .old (r.mv (Mv.less l)) (t.less l)
  | _, _, _, _, .new r t => .new (r.mv (Mv.less l) fun _ e _ => e) (t.less l)
section
variable {R : Rc} {F F' : Bz} {o : List Nat} {ad : Nat → Addr} {ρ : Rho} {G : Gs} {σ : St} {H : Hp} {p : Addr} {d : D} {i : Nat}
@[reducible] def setsR : Rho → List Nat → List D → Rho
  | ρ, i :: is, d :: ds => setsR (ρ.set i (some d)) is ds
  | ρ, _, _ => ρ
end
end DL
set_option Elab.async false
set_option linter.all false
set_option maxRecDepth 100000
set_option maxHeartbeats 4000000
namespace DL
open PySem PySem.Spec PyProof.Rows L2
section
variable {Γ : Gl}
/-! ### lists of truths, of intsL -/
def bools : List D → Option (List Bool)
  | [] => some []
  | .bl b :: r => (bools r).map (b :: ·)
  | _ => none
def anyD : List D → Option D
  | [.lst l] => (bools l).map fun bs => .bl (bs.any id)
  | _ => none
/-! ### repr -/
def showB : Nat → D → Bool
  | _, .non | _, .bl _ | _, .str _ | _, .dft => true
  | _, .int i => decide (i.natAbs.log2 < 1920)
  | n + 1, .lst l => l.all (showB n)
  | n + 1, .tup l => l.all (showB n)
  | _, _ => false
theorem flat_show : ∀ (n : Nat) (d : D), showB n d = true → flat n d = true ∧ (toP n d).showable = true ∧ (toP n d).hasDict = false
  | 0, d, h => by
    cases d <;> first
      | (cases h; done)
      | exact ⟨rfl, rfl, rfl⟩
      | exact ⟨rfl, h, rfl⟩
  | n + 1, d, h => by
    have all : ∀ l : List D, l.all (showB n) = true → l.all (flat n) = true ∧ PyData.showableAll (l.map (toP n)) = true ∧ PyData.hasDictAll (l.map (toP n)) = false := by
      intro l
      induction l with
      | nil => intro _; exact ⟨rfl, rfl, rfl⟩
      | cons x l ih =>
        intro h
        rw [List.all_cons, Bool.and_eq_true] at h
        obtain ⟨a1, a2, a3⟩ := flat_show n x h.1
        obtain ⟨b1, b2, b3⟩ := ih h.2
        refine ⟨by rw [List.all_cons, a1, b1]; rfl, ?_, ?_⟩
        · show ((toP n x).showable && PyData.showableAll (l.map (toP n))) = true
          rw [a2, b2]; rfl
        · show ((toP n x).hasDict || PyData.hasDictAll (l.map (toP n))) = false
          rw [a3, b3]; rfl
    cases d <;> first
      | (cases h; done)
      | exact ⟨rfl, rfl, rfl⟩
      | exact ⟨rfl, h, rfl⟩
      | exact all _ h
end
end DL
set_option Elab.async false
set_option linter.all false
set_option maxRecDepth 100000
set_option maxHeartbeats 4000000
namespace DL
open PySem PySem.Spec PyProof.Rows L2
section
variable {Γ : Gl} {S : Sc} {ob o o' : List Nat}
/-! ### x.append(y.pop(e)), both own -/
/-! ### c[k], y = e: c a cell -/
abbrev sDivm (i : Nat) (k : Int) (j : Nat) (fe : WE) : WS := fun M ρ G K E => fe M ρ G (fun d G1 => match d, nth ρ i with
  | .tup [a, b], some (.ref p) => (match G1 p with
    | some (.lst l) => gotL (setI l (.int k) a) fun l' => K.nx (ρ.set j (some b)) (gput G1 p (.lst l'))
    | _ => False)
  | _, _ => False) E
theorem js_divm {i j : Nat} {k : Int} {x y : Str} {e : Expr} {p1 p2 p3 p4 p5 pos : Pos} {kc kt : Nat} {fe : WE} (hN : S.N[i]? = some x) (hN2 : S.N[j]? = some y) (he : JE Γ S o e fe) (hv : visB S.sc x = true := by rfl) (hl : locB S y = true := by rfl) (ho : memN i o = false := by rfl) (ho2 : memN j o = false := by rfl) (hd : dbgB x = false := by decide +kernel)
    (hcl : S.calm = true := by rfl) (hw : ∀ env : Env, env.scope = S.sc → swappedStores [.Tuple [.Subscript (.Name x p1) (.Constant (.int k) kc p2) p3, .Name y p4] kt p5] e env = pure none) (hs : ∀ env : Env, swapsWithSole [.Tuple [.Subscript (.Name x p1) (.Constant (.int k) kc p2) p3, .Name y p4] kt p5] e pos.line env = pure false := by intro _; rfl) :
    JS Γ S ob o (.Assign [.Tuple [.Subscript (.Name x p1) (.Constant (.int k) kc p2) p3, .Name y p4] kt p5] e pos) o (sDivm i k j fe) := by
  have hd2 := Bool.or_eq_false_iff.mp hd
  refine ⟨fun n X Wx a => ps_anti (ps_asg (he.run n X Wx a) (pg_tup (a.calm.trans hcl) (pgs_cons (pg_sub (pe_var (i := i) (by rw [a.N]; exact hN) (by rw [a.sc]; exact visB_ok hv) hd2.1 hd2.2) pe_int set_list (by intro _; rfl)) (pgs_cons (pg_name a.nd (by rw [a.N]; exact hN2) (locB_ok a hl).1 (locB_ok a hl).2) pgs_nil rfl) rfl) rfl rfl) (hs _) (hw _ a.sc) rfl) fun σ H D0 _ ⟨F, ad, ρ, G, K, Ed, rs, hf, c⟩ => ?_⟩
  refine ⟨F, ad, ρ, G, _, Ed, rs, hf, fun v H1 d G1 e1 g1 r1 q1 => ?_, fun cls dd x H' G' e g r q => c.exE e g r q⟩
  split at q1
  · rename_i da db p hnth
    split at q1
    · rename_i l hG
      unfold gotL at q1
      split at q1
      · rename_i l' hl'
        cases r1 with
        | @tup T xs ds hT rT =>
          cases rT with
          | @cons va vs da _ ra rt =>
            cases rt with
            | @cons vb vs db _ rb rt =>
              cases rt
              have rs1 := rs.step e1 g1
              obtain ⟨vx, hx1, hx2⟩ := rs1.slot i _ (nth_some hnth) (memN_no ho)
              cases hx2
              have rc := g1.cell p _ hG
              cases rc with
              | @lst ys es hy ry =>
                unfold setI at hl'
                obtain ⟨q, hq, rfl⟩ := map_some' hl'
                have hq' : ixN l.length k = some q := hq
                obtain ⟨g4, e4⟩ := g1.cellSet (ob := .lst (ys.set q va)) hG (.lst (ry.set ra q))
                refine ⟨T, [va, vb], rfl, SqT.of hT, rfl, va, [vb], rfl, ?_⟩
                refine ⟨_, hx1, p, ys, k, q, rfl, rfl, hy, by rw [ry.length]; exact hq', vb, [], rfl, rfl, ?_⟩
                have rs4 := rs1.step e4 g4
                have rb4 := rb.mv e4.mv
                exact c.nx _ _ ad _ _ (Stp.ext (e1.trans e4)) (rs4.put (memN_no ho2) rb4) q1
      · exact q1.elim
    · exact q1.elim
  · exact q1.elim
/-! ### x += e, ints -/
/-! ### attributes -/
/-- a member f of a class: its place among the instance's -/
structure FldOk (R : Rc) (f : Str) (c k : Nat) : Prop where
  C : ∀ C, R.cls c = some C → Cls R.K C ∧ NoAttr R.K C f
  at_ : (R.fld c)[k]? = some f
  nd : (R.fld c).Nodup
  sm : (R.fld c).length < 1000
theorem FldOk.lookup {R : Rc} {f : Str} {c k : Nat} (h : FldOk R f c k) {H : Hp} {B : Bz} {fs : List (Str × V)} {ds : List D} {d : D} (hf : fs.map Prod.fst = (R.fld c).take fs.length) (r : Reps R H B (fs.map Prod.snd) ds) (e : ds[k]? = some d) : ∃ v, fs.lookup f = some v ∧ Rep R H B v d := by
  obtain ⟨v, h1, h2⟩ := r.get e
  refine ⟨v, ?_, h2⟩
  rw [List.getElem?_map] at h1
  obtain ⟨⟨g, w⟩, h3, h4⟩ := map_some' h1
  have h4' : w = v := h4
  subst h4'
  have hk : k < fs.length := (List.getElem?_eq_some_iff.mp h3).1
  have hg : (fs.map Prod.fst)[k]? = some g := by rw [List.getElem?_map, h3]; rfl
  have hg2 := hg
  rw [hf, List.getElem?_take_of_lt hk, h.at_] at hg2
  cases hg2
  have nd : (fs.map Prod.fst).Nodup := by rw [hf]; exact h.nd.sublist (List.take_sublist _ _)
  have key : ∀ {fs : List (Str × V)} {k : Nat}, (fs.map Prod.fst).Nodup → fs[k]? = some (f, w) → fs.lookup f = some w := by
    intro fs
    induction fs with
    | nil => intro k _ h; simp at h
    | cons p r ih =>
      intro k nd h
      obtain ⟨g, x⟩ := p
      cases k with
      | zero =>
        simp at h
        obtain ⟨rfl, rfl⟩ := h
        simp [List.lookup]
      | succ k =>
        have nd' := List.nodup_cons.mp (show (g :: r.map Prod.fst).Nodup from nd)
        have h' : r[k]? = some (f, w) := by simpa using h
        have hg : (f == g) = false := beq_eq_false_iff_ne.mpr fun z => nd'.1 (by rw [← z]; exact List.mem_map.mpr ⟨_, List.mem_of_getElem? h', rfl⟩)
        rw [List.lookup_cons, hg]
        exact ih nd'.2 h'
  exact key nd h3
end
end DL
set_option Elab.async false
set_option linter.all false
set_option maxRecDepth 100000
set_option maxHeartbeats 4000000
namespace DL
open PySem PySem.Spec PyProof.Rows L2
section
variable {Γ : Gl} {S : Sc} {ob o o' : List Nat}
/-! ### attributes read -/
/-- member f of class c: a field, a property -/
inductive AttrOk (Γ : Gl) (f : Str) (c : Nat) : Sum Nat Nat → Prop
  | fld {k : Nat} : FldOk Γ.R f c k → AttrOk Γ f c (.inl k)
  | prop {g : Nat} {e : FnE} {p : Addr} : Γ.tb g = some e → (∀ C, Γ.R.cls c = some C → Cls Γ.R.K C ∧ PropOf Γ.R.K C f p e.addr) → Binds Γ.R.K e.fd e.ps [] → e.ps.length = 1 → e.calm = true → AttrOk Γ f c (.inr g)
@[reducible] def tabN (tab : List (Nat × Sum Nat Nat)) (c : Nat) : Option (Sum Nat Nat) := match tab with
  | [] => none
  | (c', x) :: r => if Nat.beq c' c then some x else tabN r c
inductive TabOk (Γ : Gl) (f : Str) : List (Nat × Sum Nat Nat) → Prop
  | nil : TabOk Γ f []
  | cons {c : Nat} {x : Sum Nat Nat} {r : List (Nat × Sum Nat Nat)} : AttrOk Γ f c x → TabOk Γ f r → TabOk Γ f ((c, x) :: r)
theorem TabOk.get {f : Str} : ∀ {tab : List (Nat × Sum Nat Nat)} {c : Nat} {x : Sum Nat Nat}, TabOk Γ f tab → tabN tab c = some x → AttrOk Γ f c x
  | [], _, _, _, e => by cases e
  | (c', y) :: r, c, x, .cons h t, e => by
    unfold tabN at e
    by_cases q : Nat.beq c' c = true
    · rw [if_pos q] at e
      cases e
      have := Nat.eq_of_beq_eq_true q
      subst this
      exact h
    · rw [if_neg q] at e
      exact t.get e
/-! ### methods -/
structure MethOk (Γ : Gl) (m : Str) (c g : Nat) (e : FnE) : Prop where
  tb : Γ.tb g = some e
  C : ∀ C, Γ.R.cls c = some C → Cls Γ.R.K C ∧ Meth Γ.R.K C m e.addr
  b : Binds Γ.R.K e.fd e.ps []
  nf : m ∉ Γ.R.fld c
  cl : e.calm = true
inductive MTab (Γ : Gl) (m : Str) (k : Nat) : List (Nat × Nat) → Prop
  | nil : MTab Γ m k []
  | cons {c g : Nat} {e : FnE} {r : List (Nat × Nat)} : MethOk Γ m c g e → e.ps.length = k + 1 → MTab Γ m k r → MTab Γ m k ((c, g) :: r)
@[reducible] def tabM (tab : List (Nat × Nat)) (c : Nat) : Option Nat := match tab with
  | [] => none
  | (c', x) :: r => if Nat.beq c' c then some x else tabM r c
theorem MTab.get {m : Str} {k : Nat} : ∀ {tab : List (Nat × Nat)} {c g : Nat}, MTab Γ m k tab → tabM tab c = some g → ∃ e, MethOk Γ m c g e ∧ e.ps.length = k + 1
  | [], _, _, _, e => by cases e
  | (c', y) :: r, c, x, .cons h hl t, e => by
    unfold tabM at e
    by_cases q : Nat.beq c' c = true
    · rw [if_pos q] at e
      cases e
      have := Nat.eq_of_beq_eq_true q
      subst this
      exact ⟨_, h, hl⟩
    · rw [if_neg q] at e
      exact t.get e
end
end DL
set_option Elab.async false
set_option linter.all false
set_option maxRecDepth 100000
set_option maxHeartbeats 4000000
namespace DL
open PySem PySem.Spec PyProof.Rows L2
section
variable {Γ : Gl} {S : Sc} {ob o o' : List Nat}
@[irreducible] def gotO (x : Option D) (k : D → Prop) : Prop := match x with | some d => k d | none => False
/-- the instance at x, frozen behind its __init__ -/
def mkW (M : Orc) (c g : Nat) (args : D → List D) (G : Gs) (Q : KD) (E : XKD) : Prop := ∀ x, G x = none → M g (args (.ref x)) (gput G x (.obj c [])) (fun d G1 => d = .non ∧ gotO (G1 x) fun d' => Q d' (gdel G1 x)) E
/-- keywords' values -/
structure JK (Γ : Gl) (S : Sc) (o : List Nat) (kws : List Keyword) (f : WA) : Prop where
  run : ∀ n X Wx, At Γ S n X Wx → PK X kws (LA kws.length Γ.R o (Γ.M n) Wx f)
theorem pk_anti {X : Cx} {e : List Keyword} {t t' : TA} (h : PK X e t) (i : ∀ σ H Q, t' σ H Q → t σ H Q) : PK X e t' := ⟨fun pos pins s σ H Q I q => h.run pos pins s σ H Q I (i σ H Q q)⟩
theorem jk_nil : JK Γ S o [] aNil := ⟨fun n X Wx x => pk_anti pk_nil fun σ H Q ⟨F, ad, ρ, G, Qd, Ed, rs, hf, k1, k2⟩ => k1 [] H [] G (Ext.refl _ _) rs.g ⟨.nil, rfl⟩ hf⟩
theorem jk_cons {nm : Option Str} {kp : Pos} {e : Expr} {es : List Keyword} {fa : WE} {fr : WA} (ha : JE Γ S o e fa) (hr : JK Γ S o es fr) : JK Γ S o (⟨nm, e, kp⟩ :: es) (aCons fa fr) := by
  refine ⟨fun n X Wx x => pk_anti (pk_cons (ha.run n X Wx x) (hr.run n X Wx x)) fun σ H Q ⟨F, ad, ρ, G, Qd, Ed, rs, hf, k1, k2⟩ => ?_⟩
  refine ⟨F, ad, ρ, G, _, Ed, rs, hf, fun v H1 dx G1 e1 g1 r1 q1 => ?_, k2⟩
  exact ⟨F, ad, ρ, G1, _, Ed, rs.step e1 g1, q1, fun vs H2 ds G2 e2 g2 r2 q2 => k1 _ H2 _ G2 (e1.trans e2) g2 ⟨.cons (r1.mv e2.mv) r2.1, congrArg Nat.succ r2.2⟩ q2, fun cls dd x H' G' e g r q => k2 cls dd x H' G' (e1.trans e) g r q⟩
def kwNames : List Keyword → List Str
  | [] => []
  | ⟨some n, _, _⟩ :: r => n :: kwNames r
  | ⟨none, _, _⟩ :: r => kwNames r
def kwAll : List Keyword → Bool
  | [] => true
  | ⟨some n, _, _⟩ :: r => kwAll r
  | ⟨none, _, _⟩ :: r => false
theorem kw_ok {env : Env} {pos : Pos} : ∀ {kws : List Keyword}, kwAll kws = true → (backToKw pos (keywordEach kws env)).all (·.1.isSome) = true ∧ (backToKw pos (keywordEach kws env)).filterMap (·.1) = kwNames kws ∧ (backToKw pos (keywordEach kws env)).any (·.1.isNone) = false ∧ (kwNames kws).length = kws.length
  | [], _ => ⟨rfl, rfl, rfl, rfl⟩
  | ⟨some n, v, p⟩ :: r, h => by
    obtain ⟨h1, h2, h3, h4⟩ := kw_ok (env := env) (pos := pos) (kws := r) h
    refine ⟨?_, ?_, ?_, ?_⟩
    · show (true && (backToKw pos (keywordEach r env)).all (·.1.isSome)) = true
      rw [h1]; rfl
    · show n :: (backToKw pos (keywordEach r env)).filterMap (·.1) = _
      rw [h2]; rfl
    · show (false || (backToKw pos (keywordEach r env)).any (·.1.isNone)) = false
      rw [h3]; rfl
    · show (kwNames r).length + 1 = r.length + 1
      rw [h4]
  | ⟨none, _, _⟩ :: r, h => by cases h
end
end DL
set_option Elab.async false
set_option linter.all false
set_option maxRecDepth 100000
set_option maxHeartbeats 4000000
namespace DL
open PySem PySem.Spec PyProof.Rows L2
section
variable {Γ : Gl} {S : Sc} {ob o o' : List Nat}
/-- a class's own special method -/
structure SpOk (Γ : Gl) (m : Str) (c g : Nat) (e : FnE) : Prop where
  tb : Γ.tb g = some e
  C : ∀ C, Γ.R.cls c = some C → PySem.W.findIn Γ.R.K (.ref C) m = some (some (.ref e.addr)) ∧ PySem.W.isFn Γ.R.K (.ref e.addr) = true
  b : Binds Γ.R.K e.fd e.ps []
  cl : e.calm = true
inductive STab (Γ : Gl) (m : Str) (k : Nat) : List (Nat × Nat) → Prop
  | nil : STab Γ m k []
  | cons {c g : Nat} {e : FnE} {r : List (Nat × Nat)} : SpOk Γ m c g e → e.ps.length = k → STab Γ m k r → STab Γ m k ((c, g) :: r)
theorem STab.get {m : Str} {k : Nat} : ∀ {tab : List (Nat × Nat)} {c g : Nat}, STab Γ m k tab → tabM tab c = some g → ∃ e, SpOk Γ m c g e ∧ e.ps.length = k
  | [], _, _, _, e => by cases e
  | (c', y) :: r, c, x, .cons h hl t, e => by
    unfold tabM at e
    by_cases q : Nat.beq c' c = true
    · rw [if_pos q] at e
      cases e
      have := Nat.eq_of_beq_eq_true q
      subst this
      exact ⟨_, h, hl⟩
    · rw [if_neg q] at e
      exact t.get e
/-- an expression's end, told -/
def Told (R : Rc) (F : Bz) (o : List Nat) (ad : Nat → Addr) (H : Hp) (G : Gs) (Qd : KD) (v : V) (H1 : Hp) : Prop := ∃ d G1, Ext H G H1 G1 ∧ RelG R G1 (fo F o ad) H1 ∧ Rep R H1 (bz G1 (fo F o ad)) v d ∧ Qd d G1
theorem Told.vw {R : Rc} {F : Bz} {ad : Nat → Addr} {G1 : Gs} {H1 : Hp} {v : V} {d : D} (g : RelG R G1 (fo F o ad) H1) (r : Rep R H1 (bz G1 (fo F o ad)) v d) : Vw R H1 (bz G1 (fo F o ad)) v (lk G1 d) := rpO.vw (o := o) (ad := ad) (F := F) (.inl r) g
end
end DL
set_option Elab.async false
set_option linter.all false
set_option maxRecDepth 100000
set_option maxHeartbeats 4000000
namespace DL
open PySem PySem.Spec PyProof.Rows L2
section
variable {Γ : Gl} {S : Sc} {ob o o' : List Nat}
/-! ### code that is not come to -/
/-! ### g(lambda: e), g: try: b = a() / except ..; rest. No exception comes -/
/-- a lambda's scope -/
def lamS (S : Sc) (scope : Scope) (rm : Nat) : Sc := ⟨S.N, scope, true, some [], rm, none⟩
end
end DL
set_option Elab.async false
set_option linter.all false
set_option maxRecDepth 100000
set_option maxHeartbeats 4000000
namespace DL
open PySem PySem.Spec PyProof.Rows L2
/-! ### dict comprehensions (keys: ints, texts) -/
end DL
set_option Elab.async false
set_option linter.all false
set_option maxRecDepth 100000
set_option maxHeartbeats 4000000
namespace DL
open PySem PySem.Spec PyProof.Rows L2 LamX
theorem law_callD {P : Program} {w : World} {R : Rc} {mg mb : Str → Option Value} {k : Nat} {c : Bool} {f : List D → W} {fa a : Addr} {cs : List (Addr × Addr)} {fd : FuncData} {x : Str} {s₁ : Shared} {vs : List Value} {ns : List Int}
    (KX : R.K.In s₁.heap) (hns : s₁.heap.Ns mainGlobals mg) (hb : s₁.heap.Ns builtinsNs mb) (hbb : ∀ x : Str, x ≠ "__name__" → mb x = bootBuiltins x) (hlim : s₁.heap.NoLimit) (hg : s₁.gens = #[])
    (hT : ∀ p ∈ cs, s₁.heap.get? p.2 = some { cls := .none, data := .fields #[] }) (nT : ∀ p ∈ cs, R.K.lookup p.2 = none) (C : ∀ p ∈ cs, PySem.W.CodeHd s₁.heap p.1 p.2)
    (hbm : ∃ (bm : Addr) (ob : Obj), mg "__builtins__" = some (.ref bm) ∧ bm ≠ builtinsNs ∧ s₁.heap.get? bm = some ob ∧ ob.cls = .type "module" ∧ ob.dict = some builtinsNs ∧ ob.data = .plain)
    (ha : s₁.heap.get? a = some { cls := .type "list", data := .seq vs.toArray }) (hi : IntsAre vs ns) (hl : ns.length ≤ sizeLine) (hr : L2H.RoomH k callerA)
    (F : ∀ base : Heap, R.K.In base → base.Ns mainGlobals mg → (∀ p ∈ cs, TabB base mg p.1 p.2) → OkF P w R.K mg base c k fa fd [x] (spD R 1 f)) (hbind : ∀ (s : Shared) (u : Value), BindsTo s fd ⟨[u], []⟩ [(x, u)])
    (hT2 : ∀ t ∈ R.T, ∃ p ∈ cs, p.2 = t.1) (hf : f [.scr ns] (fun _ => none) (fun d _ => d = .bl true) fun _ _ => False) :
    codeAny (model P w) callerA (.call (.ref fa) ⟨[.ref a], []⟩) (fun r s' => r = .ok (.ret (.bool true)) ∧ OldK s₁.heap s'.heap ∧ s'.os = s₁.os ∧ AllBare s'.gens) s₁ := by
  have rv := vals_ints hi
  have lenV := hi.length
  have isT : ∀ b : Addr, b ∈ cs.map (·.2) → s₁.heap.get? b = some { cls := .none, data := .fields #[] } := fun b hb => by
    obtain ⟨p, hp, e⟩ := List.mem_map.mp hb
    rw [← e]
    exact hT p hp
  have aT : a ∉ cs.map (·.2) := fun z => by
    have q := isT a z
    rw [ha] at q
    have z' : Data.seq vs.toArray _ = Data.fields #[] := congrArg Obj.data (Option.some.inj q)
    cases z'
  have memT : ∀ p ∈ cs, p.2 ∈ cs.map (·.2) := fun p hp => List.mem_map.mpr ⟨p, hp, rfl⟩
  -- from an abstract heap in which nothing but the script and the tables may be tracked
  have core : ∀ H : Hp, (∀ p ∈ cs, H p.2 = some (.tbl #[])) → (∀ b, H b = none ∨ b ∈ cs.map (·.2) ∨ ∃ o xs, H b = some (.frz o (.lst xs))) → ScrAt R.K H (fun _ => False) a ns → HOk P w H s₁.heap → (∀ b, H b ≠ none → b = a ∨ b ∈ cs.map (·.2)) → (H a ≠ none → R.K.lookup a = none) →
      codeAny (model P w) callerA (.call (.ref fa) ⟨[.ref a], []⟩) (fun r s' => r = .ok (.ret (.bool true)) ∧ OldK s₁.heap s'.heap ∧ s'.os = s₁.os ∧ AllBare s'.gens) s₁ := by
    intro H hH hO hS hok hA hK
    have base_of : ∀ {b : Addr} {o : Obj}, s₁.heap.get? b = some o → H b = none → (hidT s₁.heap H).get? b = some o := fun e n => hidT_get e n
    have noD : ∀ {b : Addr} {o : Obj}, s₁.heap.get? b = some o → (∀ vs n, o.data ≠ .seq vs n) → o.data ≠ .fields #[] → H b = none := fun {b o} e h1 h2 => by
      cases q : H b with
      | none => rfl
      | some u =>
        rcases hA b (by rw [q]; simp) with e' | e'
        · rw [e', ha] at e
          cases e
          exact (h1 _ _ rfl).elim
        · rw [isT b e'] at e
          cases e
          exact (h2 rfl).elim
    have noA : ∀ {b : Addr} {o : Obj} {es : Array DictEntry} {ep : Nat}, s₁.heap.get? b = some o → o.data = .dict es ep → H b = none := fun {b o es ep} e d => by
      refine noD e (fun vs n z => ?_) fun z => ?_
      · rw [d] at z
        cases z
      · rw [d] at z
        cases z
    have nsK : ∀ {b : Addr} {m : Str → Option Value}, s₁.heap.Ns b m → (hidT s₁.heap H).Ns b m := fun {b m} ⟨o, es, ep, e, d, r⟩ => ⟨o, es, ep, base_of e (noA e d), d, r⟩
    have hKb : R.K.In (hidT s₁.heap H) := fun b o e => base_of (KX b o e) (by
      cases q : H b with
      | none => rfl
      | some u =>
        rcases hA b (by rw [q]; simp) with e' | e'
        · rw [e'] at e q
          rw [hK (by rw [q]; simp)] at e
          cases e
        · obtain ⟨p, hp, ep⟩ := List.mem_map.mp e'
          rw [← ep, nT p hp] at e
          cases e)
    have hM : L2.Mod R.K mg (hidT s₁.heap H) := ⟨hKb, nsK hns, ⟨mb, nsK hb, hbb⟩, let ⟨mc, h1, h2⟩ := hlim; ⟨mc, nsK h1, h2⟩⟩
    have TB : ∀ p ∈ cs, TabB (hidT s₁.heap H) mg p.1 p.2 := fun p hp => by
      have hTp := hT p hp
      refine ⟨?_, ?_, fun z => ?_⟩
      · obtain ⟨o, us, file, tf, flags, tg, inF, text, tt, e1, r1, r2, r3, r4, r5, r6, r7, r8, hne⟩ := C p hp
        refine ⟨o, us, file, tf, flags, tg, inF, text, tt, base_of e1 (noD e1 (fun vs n z => ?_) fun z => ?_), r1, r2, r3, r4, r5, r6, r7, r8, hne⟩
        · rw [r2] at z
          cases z
        · rw [r2] at z
          cases z
          simp at r3
      · obtain ⟨bm, ob, b1, b2, b3, b4, b5, b6⟩ := hbm
        have nG : bm ≠ mainGlobals := fun q => by
          obtain ⟨o, es, ep, e, hd, _⟩ := hns
          rw [q, e] at b3
          cases b3
          rw [hd] at b6
          cases b6
        have nP : bm ≠ p.2 := fun q => by
          rw [q, hTp] at b3
          cases b3
          cases b6
        refine ⟨bm, ob, b1, b2, nG, nP, base_of b3 (noD b3 (fun vs n z => ?_) fun z => ?_), b4, b5, b6⟩
        · rw [b6] at z
          cases z
        · rw [b6] at z
          cases z
      · obtain ⟨o, es, ep, e, hd, _⟩ := hns
        rw [z, hTp] at e
        cases e
        cases hd
    have e0 : Env0 P w R.K mg (hidT s₁.heap H) callerA [] s₁ H := ⟨rfl, hM, fun b o e => of_hidT e, Nat.le_of_eq (hidT_size _ _), trivial, fun b hb => absurd (show b ∈ ([] : List Addr) from hb) (by simp), hok, .of_eq hg⟩
    have sp : spD R 1 f [.ref a] H (fun v _ => v = .bl true) fun _ _ _ => False := by
      refine ⟨fun _ => False, [.scr ns], fun _ => none, fun d _ => d = .bl true, fun _ _ => False, rfl, ⟨fun _ _ z => (nomatch z), fun t ht => ?_, fun _ z => z.elim⟩, .cons (.scr (hS.mv (Mv.less fun b z => z.elim (fun z => z rfl) id))) .nil, hf, fun v H' d G' _ _ r q => ?_, fun _ _ _ _ _ _ _ _ z => z⟩
      · obtain ⟨p, hp, e⟩ := hT2 t ht
        rw [← e]
        exact TabS.nil (hH p hp)
      · cases q
        cases r
        rfl
    refine codeAny_mono ((F _ hKb (nsK hns) TB).run callerA [] s₁ H ⟨[.ref a], []⟩ [.ref a] [.ref a] _ _ hr rfl (fun _ => rfl) e0 (hbind s₁ (.ref a)) (.cons rfl .nil) sp) fun r s' h => ?_
    cases r with
    | error e => exact (let ⟨_, _, _, _, _, _, _, _, _, _, _, _, z⟩ := h; False.elim z)
    | ok fl =>
      cases fl with
      | next => exact False.elim h
      | brk => exact False.elim h
      | cont => exact False.elim h
      | ret u =>
        obtain ⟨v, H', os, bare, un, hok', r', q⟩ := h
        have q' : v = .bl true := q
        subst q'
        obtain rfl : u = Value.bool true := r'
        have key : ∀ b o, b ∉ cs.map (·.2) → s₁.heap.get? b = some o → s'.heap.get? b = some o := fun b o nb e => by
          cases q : H b with
          | none => exact un.keep b o e q (by intro z; exact absurd (show b ∈ ([] : List Addr) from z) (by simp)) (by simp)
          | some u =>
            rcases hO b with z | z | ⟨ob, xs, z⟩
            · rw [q] at z; cases z
            · exact absurd z nb
            · have z2 := un.frzs b ob _ z
              obtain ⟨e1, _⟩ := hok b _ z
              obtain ⟨e2, _⟩ := hok' b _ z2
              rw [e] at e1; cases e1
              exact e2
        have grown : ∀ p ∈ cs, ∃ more : Array Value, s'.heap.get? p.2 = some { cls := .none, data := .fields more } := fun p hp => by
          obtain ⟨more, z⟩ := un.tbls p.2 #[] (hH p hp)
          exact ⟨_, hok' p.2 _ z⟩
        refine ⟨rfl, ⟨fun b o e => ?_, fun b o e => ?_⟩, os, bare⟩
        · by_cases hb : b ∈ cs.map (·.2)
          · obtain ⟨p, hp, ep⟩ := List.mem_map.mp hb
            obtain ⟨more, hm⟩ := grown p hp
            rw [← ep] at e ⊢
            rw [hT p hp] at e
            cases e
            exact .inr (.inl ⟨((C p hp).tab (hT p hp)).isCodeTable, rfl, #[], more, rfl, by rw [Array.empty_append]; exact hm⟩)
          · exact .inl (key b o hb e)
        · by_cases hb : b ∈ cs.map (·.2)
          · obtain ⟨p, hp, ep⟩ := List.mem_map.mp hb
            obtain ⟨more, hm⟩ := grown p hp
            rw [← ep]
            exact ⟨_, hm⟩
          · exact ⟨o, key b o hb e⟩
  cases hk : R.K.lookup a with
  | some o =>
    have e := KX a o hk
    rw [ha] at e
    cases e
    refine core (fun b => if b ∈ cs.map (·.2) then some (.tbl #[]) else none) (fun p hp => if_pos (memT p hp)) (fun b => ?_) (.inr ⟨_, vs.toArray, _, hk, rfl, rfl, rfl, by rw [List.size_toArray, lenV]; exact hl, by simpa using rv⟩) (fun b u z => ?_) (fun b z => ?_) fun z => absurd (show (if a ∈ cs.map (·.2) then some (HO.tbl #[]) else none) = none from if_neg aT) z
    · by_cases hb : b ∈ cs.map (·.2)
      · exact .inr (.inl hb)
      · exact .inl (if_neg hb)
    · by_cases hb : b ∈ cs.map (·.2)
      · have z' := (if_pos hb).symm.trans z
        cases z'
        exact isT b hb
      · have z' := (if_neg hb).symm.trans z
        cases z'
    · by_cases hb : b ∈ cs.map (·.2)
      · exact .inr hb
      · exact absurd (if_neg hb) z
  | none =>
    refine core (fun b => if b = a then some (.frz { cls := .type "list", data := .seq vs.toArray } (.lst (ns.map V.int))) else if b ∈ cs.map (·.2) then some (.tbl #[]) else none) (fun p hp => (if_neg (show ¬ p.2 = a from fun z => aT (by rw [← z]; exact memT p hp))).trans (if_pos (memT p hp))) (fun b => ?_)
      (.inl ⟨{ cls := .type "list", data := .seq vs.toArray }, if_pos rfl, id⟩) (fun b u z => ?_) (fun b z => ?_) fun _ => hk
    · by_cases hb : b = a
      · exact .inr (.inr ⟨_, _, if_pos hb⟩)
      · by_cases hb2 : b ∈ cs.map (·.2)
        · exact .inr (.inl hb2)
        · exact .inl ((if_neg hb).trans (if_neg hb2))
    · by_cases hb : b = a
      · have z' := (if_pos hb).symm.trans z
        cases z'
        rw [hb]
        exact ⟨ha, by rw [List.length_map]; exact hl, vs, _, rv, ha⟩
      · have z1 := (if_neg hb).symm.trans z
        by_cases hb2 : b ∈ cs.map (·.2)
        · have z' := (if_pos hb2).symm.trans z1
          cases z'
          exact isT b hb2
        · have z' := (if_neg hb2).symm.trans z1
          cases z'
    · by_cases hb : b = a
      · exact .inl hb
      · by_cases hb2 : b ∈ cs.map (·.2)
        · exact .inr hb2
        · exact absurd ((if_neg hb).trans (if_neg hb2)) z
/-- what is known of the law at the head's heap h: the table tb, the room k, the promise f -/
def LawAtD (l : PySem.W.OpenLaw) (w : World) (R : Rc) (f : List D → W) (n : Nat) (x : Str) (mg : Str → Option Value) (fa : Addr) (h : Heap) : Prop :=
  ∃ (fd : FuncData) (c : Bool) (k : Nat) (cs : List (Addr × Addr)), L2H.RoomH k callerA ∧ (∀ p ∈ cs, h.get? p.2 = some { cls := .none, data := .fields #[] }) ∧ (∀ p ∈ cs, R.K.lookup p.2 = none) ∧ (∀ p ∈ cs, PySem.W.CodeHd h p.1 p.2) ∧ (∀ (s : Shared) (u : Value), BindsTo s fd ⟨[u], []⟩ [(x, u)]) ∧
    (∀ t ∈ R.T, ∃ p ∈ cs, p.2 = t.1) ∧
    (∀ (ns : List Int), ns.length ≤ n → (∀ z ∈ ns, Builtin.Int.intBits z ≤ 1048576) → f [.scr ns] (fun _ => none) (fun d _ => d = .bl true) fun _ _ => False) ∧
    ∀ base : Heap, R.K.In base → base.Ns mainGlobals mg → (∀ p ∈ cs, TabB base mg p.1 p.2) → OkF l.prog w R.K mg base c k fa fd [x] (spD R 1 f)
theorem walk_ofD {l : PySem.W.OpenLaw} {n : Nat} {q : Program} {loose : List Str} {XP : (Str → Option Value) → Heap → Prop} {YP : World → Heap → Prop} {d : DefRec} {x : Str}
    (hn : l.most = some n) (hn2 : n ≤ sizeLine) (hdf : d.params.defaults = [])
    (F : ∀ (w : World) (mg : Str → Option Value) (fa : Addr) (h : Heap), YP w h → h.Ns mainGlobals mg → mg d.name = some (.ref fa) → ∃ (R : Rc) (f : List D → W), R.K.In h ∧ LawAtD l w R f n x mg fa h) :
    PySem.W.WalkO q loose XP YP l.row.toRowW d [] (fun f vs => PySem.call f vs) := by
  refine Att.attach_callB hn hdf fun w s₀ s₁ mg mb fa o pm cd doc a vs ns G Y ho hd hcd hmg hobj hints hlen hbits hg => ?_
  obtain ⟨R, f, KX, fd, c, k, cs, hr, hT, nT, C, hb, hT2, hf, hF⟩ := F w mg fa _ Y G.T.g hmg
  exact law_callD KX G.T.g G.T.b G.T.builtins G.T.nolimit hg hT nT C G.T.bmain hobj hints (Nat.le_trans hlen hn2) hr hF hb hT2 (hf ns hlen hbits)
end DL
set_option Elab.async false
set_option linter.all false
set_option maxRecDepth 100000
set_option maxHeartbeats 4000000
namespace DL
open PySem PySem.Spec PyProof.Rows L2
/-! ### the head: what is looked at behind the top -/
/-- a def: where it stands, its parts, its defaults -/
structure DefH where
  at_ : PySem.W.Frag → Addr
  name : Str
  qual : Str
  params : Arguments
  body : List Stmt
  scope : Scope
  dfl : List (PySem.W.Frag → V) := []
def fdOf (K : PySem.W.Frag) (a : Addr) : FuncData := match K.lookup a with
  | some ⟨_, _, .func fd, _⟩ => fd
  | _ => default
def DefH.val (d : DefH) : He.FnW := some (d.name, d.qual, d.params, .stmts d.body, d.scope, mainGlobals, [], builtinsNs)
def DefH.look (d : DefH) (K : PySem.W.Frag) : He.FnW := match K.lookup (d.at_ K) with
  | some ⟨_, _, .func fd, _⟩ => some (fd.name, fd.qualname, fd.params, fd.body, fd.scope, fd.globals, fd.closure, fd.builtins)
  | _ => none
def DefH.ok (d : DefH) (K : PySem.W.Frag) : Bool := PySem.W.keepIn K (.ref (d.at_ K)) && (match K.lookup (d.at_ K) with
  | some ⟨_, _, .func fd, _⟩ => PySem.W.codeIn K fd.code d.qual && He.dflB K fd.defaults (d.dfl.map fun f => f K)
  | _ => false)
theorem DefH.fun_ {d : DefH} {K : PySem.W.Frag} (e : d.look K = d.val) (c : d.ok K = true) : FunD K d.name d.qual d.params d.body d.scope (d.dfl.map fun f => f K) [] (d.at_ K) (fdOf K (d.at_ K)) := by
  have ⟨kp, c2⟩ := Bool.and_eq_true_iff.mp c
  cases q : K.lookup (d.at_ K) with
  | none => rw [q] at c2; cases c2
  | some ob =>
    obtain ⟨oc, od, dt, osl⟩ := ob
    cases dt with
    | func fd =>
      have ef : fdOf K (d.at_ K) = fd := by unfold fdOf; rw [q]
      rw [q] at c2
      have ⟨k1, k2⟩ := Bool.and_eq_true_iff.mp c2
      unfold DefH.look at e
      rw [q] at e
      obtain ⟨n1, n2, n3, n4, n5, n6, n7, n8, n9, n10, n11, n12, n13, n14, n15⟩ := fd
      have e' := Option.some.inj e
      simp only [Prod.mk.injEq] at e'
      obtain ⟨rfl, rfl, rfl, rfl, rfl, rfl, rfl, rfl⟩ := e'
      rw [ef]
      exact ⟨⟨oc, od, n8, n9, n10, n11, n12, n13, n14, osl, rfl, q, k1, He.dflB_ok k2, .inl rfl⟩, kp⟩
    | _ => rw [q] at c2; cases c2
/-- all looks at K -/
def lookH (fn : List DefH) (fx : List (PySem.W.Frag → Bool)) (K : PySem.W.Frag) : Bool × List He.FnW := ((fx.all fun f => f K) && fn.all fun d => d.ok K, fn.map fun d => d.look K)
structure SaysH (fn : List DefH) (fx : List (PySem.W.Frag → Bool)) (tf : List He.Defn) (h : Heap) (K : PySem.W.Frag) : Prop where
  f : ∀ g ∈ fx, g K = true
  o : ∀ d ∈ fn, d.ok K = true
  v : (fn.map fun d => d.look K) = fn.map DefH.val
  hd : ∀ p ∈ tf, PySem.W.codeHdIn K (He.cT K p).1 (He.cT K p).2 = true
  out : ∀ p ∈ tf, K.lookup (He.cT K p).2 = none
  emp : ∀ p ∈ tf, h.get? (He.cT K p).2 = some { cls := .none, data := .fields #[] }
def obsH (n : Nat) (fn : List DefH) (fx : List (PySem.W.Frag → Bool)) (tf : List He.Defn) (g : Addr → Option Obj) : (Bool × List He.FnW) × Bool :=
  (lookH fn fx (He.frT g (He.asD g n)), He.tabsB g tf (He.frT g (He.asD g n)))
def valH (fn : List DefH) : (Bool × List He.FnW) × Bool := ((true, fn.map DefH.val), true)
theorem says_of {n : Nat} {fn : List DefH} {fx : List (PySem.W.Frag → Bool)} {tf : List He.Defn} {h : Heap} (e : obsH n fn fx tf h.get? = valH fn) : SaysH fn fx tf h (He.frT h.get? (He.asD h.get? n)) := by
  have e1 : (lookH fn fx (He.frT h.get? (He.asD h.get? n))).1 = true := congrArg (fun z : (Bool × List He.FnW) × Bool => z.1.1) e
  have e2 : (lookH fn fx (He.frT h.get? (He.asD h.get? n))).2 = fn.map DefH.val := congrArg (fun z : (Bool × List He.FnW) × Bool => z.1.2) e
  have e3 : He.tabsB h.get? tf (He.frT h.get? (He.asD h.get? n)) = true := congrArg (fun z : (Bool × List He.FnW) × Bool => z.2) e
  have ⟨a1, a2⟩ := Bool.and_eq_true_iff.mp e1
  have tb : ∀ p ∈ tf, PySem.W.codeHdIn (He.frT h.get? (He.asD h.get? n)) (He.cT (He.frT h.get? (He.asD h.get? n)) p).1 (He.cT (He.frT h.get? (He.asD h.get? n)) p).2 = true ∧ ∃ ob, h.get? (He.cT (He.frT h.get? (He.asD h.get? n)) p).2 = some ob ∧ He.emptyTab ob = true := by
    intro p hp
    have ⟨b1, b2⟩ := Bool.and_eq_true_iff.mp (List.all_eq_true.mp e3 p hp)
    refine ⟨b1, ?_⟩
    split at b2
    · rename_i ob q
      exact ⟨ob, q, b2⟩
    · cases b2
  refine ⟨fun g hg => List.all_eq_true.mp a1 g hg, fun d hd => List.all_eq_true.mp a2 d hd, e2, fun p hp => (tb p hp).1, fun p hp => ?_, fun p hp => ?_⟩
  · obtain ⟨_, ob, q, z⟩ := tb p hp
    exact He.frT_none q z
  · obtain ⟨_, ob, q, z⟩ := tb p hp
    rw [q, He.emptyTab_eq z]
def hookH (n : Nat) (fn : List DefH) (fx : List (PySem.W.Frag → Bool)) (tf : List He.Defn) : PySem.W.Hook where
  α := (Bool × List He.FnW) × Bool
  obs := fun s => obsH n fn fx tf s.heap.get?
  val := fun _ => valH fn
  says := fun _ h => ∃ K : PySem.W.Frag, K.In h ∧ SaysH fn fx tf h K
  of := fun _ _ e => ⟨_, He.frT_in, says_of e⟩
  keeps := fun _ _ _ ⟨K, hK, c⟩ k => ⟨K, PySem.W.Frag.In.keeps hK k, ⟨c.f, c.o, c.v, c.hd, c.out, fun p hp => k _ _ (c.emp p hp)⟩⟩
theorem obsH_eq {n : Nat} {fn : List DefH} {fx : List (PySem.W.Frag → Bool)} {tf : List He.Defn} {g : Addr → Option Obj} {s : Shared} (h : ∀ a, g a = s.heap.get? a) : obsH n fn fx tf g = (hookH n fn fx tf).obs s := by
  obtain rfl : g = s.heap.get? := funext h
  rfl
section
variable {fn : List DefH} {fx : List (PySem.W.Frag → Bool)} {tf : List He.Defn} {h : Heap} {K : PySem.W.Frag}
theorem SaysH.fact (c : SaysH fn fx tf h K) (i : Nat) {f : PySem.W.Frag → Bool} (e : fx[i]? = some f := by rfl) : f K = true := c.f f (List.mem_of_getElem? e)
theorem SaysH.fn_ (c : SaysH fn fx tf h K) (i : Nat) {d : DefH} (e : fn[i]? = some d := by rfl) : FunD K d.name d.qual d.params d.body d.scope (d.dfl.map fun f => f K) [] (d.at_ K) (fdOf K (d.at_ K)) := by
  have z : (fn.map fun d => d.look K)[i]? = (fn.map DefH.val)[i]? := by rw [c.v]
  rw [List.getElem?_map, List.getElem?_map, e] at z
  exact DefH.fun_ (Option.some.inj z) (c.o d (List.mem_of_getElem? e))
end
/-! ### the law's tables -/
def lkN {α : Type} : List (Nat × α) → Nat → Option α
  | [], _ => none
  | (i, x) :: r, k => if Nat.beq i k then some x else lkN r k
/-- the program's meaning, n calls deep -/
def MofR (bs : Nat → Option (WS × List Str)) : Nat → Orc
  | 0 => fun _ _ _ _ _ => False
  | n + 1 => fun f => match bs f with
    | some b => runB b.1 (MofR bs n) b.2
    | none => fun _ _ _ _ => False
@[irreducible] def Mof (bs : Nat → Option (WS × List Str)) (n : Nat) : Orc := MofR bs n
theorem Mof_eq {bs : Nat → Option (WS × List Str)} {n f : Nat} {b : WS} {N : List Str} (h : bs f = some (b, N)) : Mof bs (n + 1) f = runB b (Mof bs n) N := by
  unfold Mof
  show (match bs f with | some b => runB b.1 (MofR bs n) b.2 | none => fun _ _ _ _ => False) = _
  rw [h]
/-- nothing is promised at level 0 -/
theorem ok_zero {P : Program} {w : World} {R : Rc} {mg : Str → Option Value} {base : Heap} {c : Bool} {k f : Nat} {fd : FuncData} {ps : List Str} {M : Orc} {i : Nat} (h : ∀ ds G Q E, ¬ M i ds G Q E) : OkF P w R.K mg base c k f fd ps (spD R ps.length (M i)) :=
  ⟨fun vs H Q E ⟨F, ds, G, Qd, Ed, h1, h2, h3, _⟩ => h3.length.trans h1, fun A outer s H args us vs Q E _ _ _ _ _ _ ⟨F, ds, G, Qd, Ed, h1, h2, h3, hf, _⟩ => (h ds G Qd Ed hf).elim⟩
/-- the table keeps what its bodies keep -/
theorem ok_all {Γ : Gl} {bs : Nat → Option (WS × List Str)} (hM : Γ.M = Mof bs) (h : ∀ n f e, Γ.ok n → Γ.tb f = some e → OkF Γ.P Γ.w Γ.R.K Γ.mg Γ.base e.calm (lv (n + 1)) e.addr e.fd e.ps (spD Γ.R e.ps.length (Γ.M (n + 1) f))) : ∀ n, Γ.ok n
  | 0 => fun f e _ => by
    rw [hM]
    exact ok_zero (M := Mof bs 0) fun _ _ _ _ z => by unfold Mof at z; exact z
  | n + 1 => fun f e he => h n f e (ok_all hM h n) he
/-! ### the module's numbers and texts -/
section
variable {Γ : Gl} {S : Sc} {o : List Nat}
theorem je_gint {x : Str} {i : Int} {pos : Pos} (h : ∃ t, Γ.mg x = some (.int i t)) (hg : glB S.sc x = true := by rfl) (hd : dbgB x = false := by decide +kernel) : JE Γ S o (.Name x pos) (eC (.int i)) := by
  obtain ⟨t, h⟩ := h
  exact je_glob h (v := .int i) ⟨t, rfl⟩ (fun _ _ => .int i) hg hd
end
end DL
set_option Elab.async false
set_option linter.all false
set_option maxRecDepth 100000
set_option maxHeartbeats 4000000
namespace DL
open PySem PySem.Spec PyProof.Rows L2
local macro_rules | `(tactic| walk_at "dk") => `(tactic| first | decide +kernel | (dsimp only [blkS, lamS]; decide +kernel))
local macro_rules | `(tactic| walk_at "sw") => `(tactic| (intro env h; cases env; cases h; rfl))
section
variable {Γ : Gl} {S : Sc} {ob o o' : List Nat}
/-! ### shorter forms -/
abbrev eIx (fa fb : WE) : WE := fun M ρ G Q E => fa M ρ G (fun x G1 => fb M ρ G1 (fun y G2 => got (ixD (lk G2 x) y) fun d => Q d G2) E) E
theorem je_ixx {a b : Expr} {pos : Pos} {fa fb : WE} (ha : JO Γ S o a fa) (hb : JE Γ S o b fb) (hs : PlainIx b := by intro _ _; rfl) : JE Γ S o (.Subscript a b pos) (eIx fa fb) := je_ix ha hb hs
abbrev isiW (q : D → Option Bool) : D → Option D := fun d => (q d).map .bl
end
/-! ### a def of the table -/
theorem ok_def {Γ : Gl} {n f : Nat} {e : FnE} {name qual : Str} {params : Arguments} {body : List Stmt} {scope : Scope} {dvs : List V} {N : List Str} {o' : List Nat} {b : WS} {cod : Option (Addr × Str)} (F : FunD Γ.R.K name qual params body scope dvs [] e.addr e.fd) (hn : Γ.ok n)
    (S : C8.scC N e.ps scope = true) (hb : JB Γ ⟨N, scope, e.calm, none, 5, cod⟩ [] [] body o' b) (hM : Γ.M (n + 1) f = runB b (Γ.M n) N) (hcod : ∀ c q, cod = some (c, q) → e.fd.code = .ref c ∧ qual ++ ".<locals>." = q := by intro _ _ h; cases h) :
    OkF Γ.P Γ.w Γ.R.K Γ.mg Γ.base e.calm (lv (n + 1)) e.addr e.fd e.ps (spD Γ.R e.ps.length (Γ.M (n + 1) f)) := by
  obtain ⟨oc, od, dV, kV, doc, pm, an, cdv, ct, osl, hfd, lk, hcd, _, _⟩ := F.ex
  rw [hfd] at lk hcod
  exact ok_of hcod hn lk hfd hcd (C8.fnScope_by S) hb hM
/-! ### arrangements -/
theorem Reps.getD {R : Rc} {H : Hp} {B : Bz} {vs : List V} {ds : List D} (r : Reps R H B vs ds) (i : Nat) : Rep R H B (vs.getD i .non) (ds.getD i .non) := by
  induction vs generalizing ds i with
  | nil => cases r; simp; exact .non
  | cons v vs ih =>
    cases r with
    | cons h t =>
      cases i with
      | zero => exact h
      | succ i => exact ih t i
theorem Vals.getD {vs : List V} {us : List Value} (r : Vals vs us) (i : Nat) : RelV (vs.getD i .non) (us.getD i .none) := by
  induction vs generalizing us i with
  | nil => cases r; simp; rfl
  | cons v vs ih =>
    cases r with
    | cons h t =>
      cases i with
      | zero => exact h
      | succ i => exact ih t i
/-! ### classes -/
theorem lkN_mem {α : Type} {l : List (Nat × α)} {c : Nat} {x : α} (h : lkN l c = some x) : (c, x) ∈ l := by
  induction l with
  | nil => cases h
  | cons p r ih =>
    obtain ⟨i, y⟩ := p
    unfold lkN at h
    split at h
    · rename_i q
      cases h
      rw [Nat.eq_of_beq_eq_true q]
      exact List.mem_cons_self
    · exact List.mem_cons_of_mem _ (ih h)
def clsFB (K : PySem.W.Frag) (C : Addr) : Bool := (PySem.W.plainGet K C Str.empty && (PySem.W.hasDictIn K C && (PySem.W.plainOver K C && He.eqO (PySem.W.findIn K (.ref C) "__setattr__") (some (some (.builtin "object.__setattr__")))))) &&
  (He.eqO (PySem.W.findIn K (.ref C) "__class__") (some (some (.builtin "object.__class__"))) && (He.eqO (PySem.W.specialIn K (.builtin "object.__class__") "__get__") (some (some (.builtin "getset_descriptor.__get__"))) && (decide (PySem.W.takesIn K (.builtin "object.__class__") = some true) && decide (PySem.W.mroIn K C (.type "object") = some true)))) &&
  (["int", "bool", "str", "tuple"].all fun t => decide (PySem.W.kitOne K (.ref C) (.type t) = some false))
theorem ClsF.cls {R : Rc} (f : ClsF R) {c : Nat} {C : Addr} (h : R.cls c = some C) : Cls R.K C := (f.ins c C h).1
/-! ### lambdas -/
end DL
set_option Elab.async false
set_option linter.all false
set_option maxRecDepth 100000
set_option maxHeartbeats 4000000
/-! exceptions of classes over any built-in one, each storing one field -/
namespace DLX
open PySem PySem.W PySem.Calls PyProof.Rows PySem.HandSPX
section
open Builtin Builtin.ObjectAttr
variable {prog : Program} {w : World} {A : Around} {E : Value → Shared → Prop} {R : Result → Shared → Prop} {hp : Heap} {g : Array GenState} {d : Drawn} {t : Nat} {os : OsState}
theorem exc_osaB {B : String} {bmB : List Value} {K : W.Frag} {name : Str} {tk : Tok} {v : Value} {x C : Addr} {fv : Array Value} (SF : StoreFacts B bmB "object.__setattr__" "object")
    (X : K.In hp) (hx : hp.get? x = some { cls := .ref C, data := .fields fv }) (hov : excOver K C bmB = true) (hh : hasDictIn K C = true) (ha : W.findIn K (.ref C) name = some none)
    (hq : ∀ h' tk' dx, (∀ b o, b ≠ x → hp.get? b = some o → h'.get? b = some o) → hp.objs.size ≤ dx → dx ≠ x → h'.get? x = some { cls := .ref C, dict := some dx, data := .fields fv } →
      h'.Ns1 dx (fun y => if y = name then some v else none) → R (.ok (.ret .none)) ⟨h', g, d, tk', os⟩) :
    codeAny (model prog w) A (.call (.builtin "object.__setattr__") ⟨[.ref x, .str name tk, v], []⟩) R ⟨hp, g, d, t, os⟩ := by
  have hxs : x ≠ hp.objs.size := Nat.ne_of_lt (Heap.lt_size hx)
  have ht : takerIn K C name = some none := by unfold takerIn; rw [ha]; rfl
  obtain ⟨cd, hcd, hd'⟩ := any_some hh
  refine osa_openX (s := ⟨hp, g, d, t, os⟩) (od := none) SF X ⟨hx, rfl, rfl, trivial⟩ hov ht fun b => ?_
  have hcls : W.Looks (model prog w) hp (classData C) cd := W.looks_clsIn X hcd
  obtain ⟨nm, bs, mro, ns, qn, hd, sn, sb, ab, col, del⟩ := cd
  dsimp only at hd'
  subst hd'
  show wpAny _ _ (storeInOwnDict (.ref x) (.ref C) (.str name tk) name v b) _ _ _
  unfold storeInOwnDict ownDictForStores
  repeat (first | with_reducible refine store_in_new ?_ ?_ | with_reducible refine wpAny_loadPart_at hx ?_ | with_reducible refine hcls.at ?_ | wp_step)
  · exact ⟨_, #[], _, (Heap.get?_update_ne _ _ _ _ hxs.symm).trans (Heap.get?_push_at rfl rfl), rfl, fun e he => absurd he (by simp), fun _ => rfl⟩
  · intro h' tk' hn' hs
    have hx₁ : (hp.push { cls := .type "dict", data := .dict #[] }).get? x = some { cls := .ref C, data := .fields fv } := Heap.get?_push_of_some _ hx
    refine hq h' tk' hp.objs.size (fun b o hb ho => ?_) (Nat.le_refl _) hxs.symm ?_ hn'
    · exact (hs.2 b (Nat.ne_of_lt (Heap.lt_size ho))).trans ((Heap.get?_update_ne _ _ _ _ hb).trans (Heap.get?_push_of_some _ ho))
    · exact (hs.2 x hxs).trans (Heap.get?_update_self _ hx₁ rfl)
end
end DLX
namespace DLX
open PySem PySem.Spec PyProof.Rows L2
/-- what the written part says of an own exception class -/
structure ExC (K : PySem.W.Frag) (C : Addr) : Prop where
  cls : ∃ (B newId initId : String) (bmB : List Value), ExcBaseFacts B newId initId bmB ∧ StoreFacts B bmB "object.__setattr__" "object" ∧ PySem.W.excInitIn K C bmB newId = true ∧ PySem.W.excOver K C bmB = true
  hd : PySem.W.hasDictIn K C = true
  sa : PySem.W.findIn K (.ref C) "__setattr__" = some (some (.builtin "object.__setattr__"))
  exC : PySem.W.subIn K (.ref C) (.type "BaseException") = some true
  tyC : PySem.W.typeIn K (.ref C) = some (.type "type")
  kC : PySem.W.keepIn K (.ref C) = true
section
variable {X : Cx} {pins : List (Addr × Obj)} {σ : L2.St} {H : Hp} {s : Shared} {a C dx : Addr} {f : Str} {y : V} {u : Value} {fs : List (Str × V)} {Q : Unit → Shared → Prop} {E : Value → Shared → Prop} {A : Around}
/-- self.f = y, the first one -/
theorem ost_newB (T : ExC X.K C) (I : Inv X pins σ H s) (e : H a = some (exo a C none)) (hno : PySem.W.findIn X.K (.ref C) f = some none) (ry : RelV y u)
    (h : ∀ dx s', H dx = none → dx ≠ a → Inv X pins σ (upd (upd H dx (exd dx [(f, y)])) a (exo a C (some dx))) s' → Q () s') : wpAny (model X.prog X.w) A (setAttr (.ref a) f u) Q E s := by
  obtain ⟨B, newId, initId, bmB, FB, SF, hin, hov⟩ := T.cls
  obtain ⟨t1, ho⟩ := exo_at I.hok e
  obtain ⟨hp, g, d, t, os⟩ := s
  refine PySem.W.set_plain I.kIn (ox := { cls := .ref C, dict := none, data := .fields #[.ref t1, .none, .none, .none, .bool false, .none] }) (od := none) ⟨ho, rfl, rfl, trivial⟩ T.sa ?_
  refine exc_osaB SF I.kIn ho hov T.hd hno (fun h' tk' dx k dn dne hx hn => ?_)
  have hnd : H dx = none := I.hok.fresh dn
  have nd : ∀ {b : Addr} {o : Obj}, hp.get? b = some o → b ≠ dx := fun {b o} q => Nat.ne_of_lt (Nat.lt_of_lt_of_le (Heap.lt_size q) dn)
  have na : ∀ {b : Addr}, H b = none → b ≠ a := fun {b} n z => by
    rw [z, e] at n
    cases n
  have Un1 : Un X.fs [] H (upd (upd H dx (exd dx [(f, y)])) a (exo a C (some dx))) hp h' := {
    keep := fun b o q n _ _ => k b o (na n) q
    slot := fun b o q n _ _ => ⟨o.slots, k b o (na n) q⟩
    free := fun b o q n _ => by rw [upd_ne (na n), upd_ne (nd q)]; exact n
    there := fun b o q _ => by
      by_cases hb : b = a
      · exact ⟨_, by rw [hb]; exact hx⟩
      · exact ⟨o, k b o hb q⟩
    tups := fun b xs q => by rw [upd_ne (at_ne e q exo_tup), upd_ne (ne_of_none q hnd)]; exact q
    frzs := fun b o v q => by rw [upd_ne (at_ne e q exo_frz), upd_ne (ne_of_none q hnd)]; exact q
    tbls := fun b ps q => ⟨#[], by rw [upd_ne (at_ne e q exo_tbl), upd_ne (ne_of_none q hnd), q]; simp⟩ }
  refine h dx _ hnd dne (I.un (t' := tk') Un1 fun b o q => ?_)
  by_cases hb : b = a
  · subst hb
    rw [upd_same] at q
    cases q
    exact exo_ok hx
  · rw [upd_ne hb] at q
    by_cases hd : b = dx
    · subst hd
      rw [upd_same] at q
      cases q
      exact exd_ok hn (relO_put (fs := []) ry fun g => True.intro)
    · rw [upd_ne hd] at q
      exact (I.hok b o q).stay (fun c v hc z => k c v (by
          rcases hc with hc | hc
          · rw [hc]
            exact hb
          · exact at_ne e hc exo_own) z)
        (fun c hc => by rw [upd_ne (at_ne e hc exo_own), upd_ne (ne_of_none hc hnd)]; exact hc) (fun c xs hc => by rw [upd_ne (at_ne e hc exo_tup), upd_ne (ne_of_none hc hnd)]; exact hc)
/-- self.f = e -/
def tOst1 (K : PySem.W.Frag) (f : Str) (to te : TE) : TS := fun D σ H => te σ H fun y H1 => to σ H1 fun x H2 => ∃ a C : Addr, x = .ref a ∧ ExC K C ∧ PySem.W.findIn K (.ref C) f = some none ∧
  H2 a = some (exo a C none) ∧ ∀ dx, H2 dx = none → dx ≠ a → D.nx σ (upd (upd H2 dx (exd dx [(f, y)])) a (exo a C (some dx)))
theorem ps_ost1 {o e : Expr} {to te : TE} {p' pos : Pos} (ho : PE X o to) (he : PE X e te) (hs : swapsWith e (some (.Attribute o f p')) pos.line X.env = pure false := by rfl) : PS X (.Assign [.Attribute o f p'] e pos) (tOst1 X.K f to te) := by
  refine ⟨fun pins s σ H D I h => ?_⟩
  refine plainObj_wpAny_Assign_Attribute (thn (he.run pins s σ H _ I h) fun v s1 ⟨y, H1, I1, r1, q1⟩ => thn (ho.run pins s1 σ H1 _ I1 q1) fun u s2 ⟨x, H2, I2, r2, a, C, ex, T, hno, ea, q⟩ => ?_) hs
  subst ex
  obtain rfl : u = Value.ref a := r2
  exact ost_newB T I2 ea hno r1 fun dx s' n ne J => ⟨σ, _, J, q dx n ne⟩
end
/-- an __init__ that stores its one argument as f -/
def spI (K : PySem.W.Frag) (C : Addr) (f : Str) : Sp := fun vs H Q _ => ∃ (a : Addr) (v : V), vs = [.ref a, v] ∧ ExC K C ∧ PySem.W.findIn K (.ref C) f = some none ∧ H a = some (exo a C none) ∧
  ∀ d, H d = none → d ≠ a → Q .non (upd (upd H d (exd d [(f, v)])) a (exo a C (some d)))
/-- the class with its __init__ -/
structure ExI (P : Program) (w : World) (K : PySem.W.Frag) (mg : Str → Option Value) (base : Heap) (C : Addr) (f : Str) : Prop where
  T : ExC K C
  no : PySem.W.findIn K (.ref C) f = some none
  fn : ∃ (fI : Addr) (fd : FuncData) (ps : List Str), PySem.W.findIn K (.ref C) "__init__" = some (some (.ref fI)) ∧ PySem.W.typeIn K (.ref fI) = some (.type "function") ∧ FnOk P w K mg base C8.CX0 1 fI fd ps (spI K C f) ∧ L2.Binds K fd ps []
theorem exI_of {P : Program} {w : World} {K : PySem.W.Frag} {mg : Str → Option Value} {base : Heap} {C fI : Addr} {f self x : Str} {qual : Str} {params : Arguments} {scope : Scope} {fd : FuncData} {p1 p2 p3 pos : Pos}
    (T : ExC K C) (no : PySem.W.findIn K (.ref C) f = some none) (iC : PySem.W.findIn K (.ref C) "__init__" = some (some (.ref fI))) (tI : PySem.W.typeIn K (.ref fI) = some (.type "function"))
    (F : FunD K "__init__" qual params [.Assign [.Attribute (.Name self p1) f p2] (.Name x p3) pos] scope [] [] fI fd) (S : FnScope [self, x] [self, x] scope) (hb : L2.Binds K fd [self, x] [])
    (v1 : DL.visB scope self = true) (v2 : DL.visB scope x = true) (d1 : DL.dbgB self = false) (d2 : DL.dbgB x = false) (hs : ∀ env : Env, swapsWith (.Name x p3) (some (.Attribute (.Name self p1) f p2)) pos.line env = pure false) : ExI P w K mg base C f := by
  refine ⟨T, no, fI, fd, _, iC, tI, ?_, hb⟩
  refine F.ok S (fun vs H Q E ⟨a, v, e, _⟩ => by rw [e]; rfl) fun cdv A outer s H vs Q E hr h => ?_
  obtain ⟨a, v, rfl, T, no, ea, q⟩ := h
  have e1 := Bool.or_eq_false_iff.mp d1
  have e2 := Bool.or_eq_false_iff.mp d2
  refine ⟨_, pss_one (ps_ost1 (pe_var (i := 0) rfl (DL.visB_ok v1) e1.1 e1.2) (pe_var (i := 1) rfl (DL.visB_ok v2) e2.1 e2.2) (hs _)), ?_⟩
  refine ⟨_, rfl, _, rfl, a, C, rfl, T, no, ea, fun dx n ne => q dx n ne⟩
/-- C(e) -/
def tMkX (C : Addr) (f : Str) (ta : TA) : L2.St → Hp → XK → Prop := fun σ H Q => ta σ H fun vs H1 => ∃ v, vs = [v] ∧ ∀ d, H1 d = none → Q (.ref C) (some d) (upd H1 d (.xd [(f, v)]))
theorem pmk_oexB {X : Cx} {x f : Str} {C : Addr} {e : Expr} {ta : TA} {p pos : Pos} (T : ExI X.prog X.w X.K X.mg X.base C f) (hr : Room 2 X.A) (hg : Gl X x) (hm : X.mg x = some (.ref C)) (ha : PA X [e] ta)
    (hdb : (x == ("__debug__" : Str)) = false := by decide) (he : starEach [e] X.env = (false, eval e X.env) :: starEach [] X.env := by rfl) (hpl : (backTo pos (starEach [] X.env)).any (·.1) = false := by rfl) :
    PMk X (.Call (.Name x p) [e] [] pos) (tMkX C f ta) := by
  intro pins s σ H Q I h
  obtain ⟨B, newId, initId, bmB, FB, SF, hin, hov⟩ := T.T.cls
  obtain ⟨fI, fd, ps, iC, tI, F1, hb⟩ := T.fn
  refine wpAny_Call_Name_kw (ld_glob I hg hm ?_ hdb)
  refine PySem.W.callWith_K (h₀ := X.base) I.ok.mod.kin T.T.kC (thn (ha.run pos pins s σ H _ I h) fun us s1 ⟨vs, H1, I1, r1, v, ev, q1⟩ => ⟨I1.kIn, ?_⟩) he hpl
  subst ev
  show wpAny _ _ (call (.ref C) us) _ _ _
  obtain ⟨hp, g, dr, tk, os⟩ := s1
  obtain ⟨nm, N', qn, bs, bm, hdct, sn, sub, ab, col, dd, k0, k1, k2, k3, k5, hC, hT⟩ := PySem.W.excInit_of I1.kIn hin
  have hsz : hp.objs.size ≤ hp.objs.size + 1 := Nat.le_succ _
  have hn : H1 (hp.objs.size + 1) = none := I1.hok.fresh hsz
  have kk : ∀ b o, hp.get? b = some o → ((hp.push (PySem.W.kdv_tup us)).push (PySem.HandSPX.excO C hp.objs.size)).get? b = some o := fun b o e => Heap.get?_push_of_some _ (Heap.get?_push_of_some _ e)
  have hget : ((hp.push (PySem.W.kdv_tup us)).push (PySem.HandSPX.excO C hp.objs.size)).get? (hp.objs.size + 1) = some (PySem.HandSPX.excO C hp.objs.size) := by heap_get
  have I2 : Inv X pins σ (upd H1 (hp.objs.size + 1) (exo (hp.objs.size + 1) C none)) ⟨(hp.push (PySem.W.kdv_tup us)).push (PySem.HandSPX.excO C hp.objs.size), g, dr, tk, os⟩ :=
    I1.laid (t' := tk) (a := hp.objs.size + 1) (o := exo (hp.objs.size + 1) C none) (h' := (hp.push (PySem.W.kdv_tup us)).push (PySem.HandSPX.excO C hp.objs.size)) kk hsz (exo_ok hget)
  have r2 : Vals [V.ref (hp.objs.size + 1), v] (Value.ref (hp.objs.size + 1) :: us) := .cons rfl r1
  have hq : spI X.K C f [V.ref (hp.objs.size + 1), v] (upd H1 (hp.objs.size + 1) (exo (hp.objs.size + 1) C none)) (fun v' H2 => v' = .non ∧ ∃ (d : Addr) (fs : List (Str × V)), H2 (hp.objs.size + 1) = some (exo (hp.objs.size + 1) C (some d)) ∧ H2 d = some (exd d fs) ∧ H1 d = none ∧ Q (.ref C) (some d) (upd (del H2 (hp.objs.size + 1)) d (.xd fs))) (fun _ _ _ => False) := by
    refine ⟨_, v, rfl, T.T, T.no, upd_same, fun d n ne => ⟨rfl, d, [(f, v)], upd_same, by rw [upd_ne ne, upd_same], by rw [upd_ne ne] at n; exact n, ?_⟩⟩
    have e : upd (del (upd (upd (upd H1 (hp.objs.size + 1) (exo (hp.objs.size + 1) C none)) d (exd d [(f, v)])) (hp.objs.size + 1) (exo (hp.objs.size + 1) C (some d))) (hp.objs.size + 1)) d (.xd [(f, v)]) = upd H1 d (.xd [(f, v)]) := by
      funext b
      by_cases hbd : b = d
      · rw [hbd, upd_same, upd_same]
      · rw [upd_ne hbd, upd_ne hbd]
        by_cases hba : b = hp.objs.size + 1
        · rw [hba, del_same, hn]
        · rw [del_ne hba, upd_ne hba, upd_ne hbd, upd_ne hba]
    rw [e]
    exact q1 d (by rw [upd_ne ne] at n; exact n)
  have hl : (Value.ref (hp.objs.size + 1) :: us).length = ps.length := by
    have e := r2.length
    rw [F1.len _ _ _ _ hq] at e
    exact e.symm
  have hus : us.length ≤ sizeLine := by
    rw [← Paired.length r1, sizeLine_eq]
    exact (by decide : 1 ≤ 16777216)
  refine wpAny_call (PySem.HandSPX.call_own FB hT hC (PySem.W.looks_findIn I1.kIn iC) (fun self => PySem.W.bind_fn I1.kIn self tI) hus
    (codeAny_mono (F1.run _ X.stack _ _ ⟨Value.ref (hp.objs.size + 1) :: us, []⟩ (Value.ref (hp.objs.size + 1) :: us) _ _ (fun _ _ _ => False) (hr.make C us []) (I2.env0.make C us []) (by
      have := hb ⟨(hp.push (PySem.W.kdv_tup us)).push (PySem.HandSPX.excO C hp.objs.size), g, dr, tk, os⟩ (Value.ref (hp.objs.size + 1) :: us) I2.kIn (by rw [List.append_nil]; exact hl)
      rw [List.append_nil] at this
      exact this) r2 hq) fun r s' hq' => ?_))
  cases r with
  | error er => exact (show False from hq').elim
  | ok fl =>
    cases fl with
    | ret u =>
      obtain ⟨v', H2, os2, bare2, un2, hok2, rv, ev, d, fs, ea, ed, hd1, q2⟩ := hq'
      subst ev
      obtain ⟨h2, g2, d2, t2, os'⟩ := s'
      exact ⟨rv, mk_end (raises_own T.T.exC T.T.tyC) I1 hsz kk un2 hok2 os2 bare2 ea ed hd1 q2⟩
    | next => exact False.elim hq'
    | brk => exact False.elim hq'
    | cont => exact False.elim hq'
end DLX
namespace DL
open PySem PySem.Spec PyProof.Rows L2
section
variable {Γ : Gl} {S : Sc} {ob o o' : List Nat}
/-! ### raise C(e) -/
/-- the class numbered c at C, its field f -/
structure RaiseF (Γ : Gl) (x f : Str) (c : Nat) (C : Addr) : Prop where
  I : DLX.ExI Γ.P Γ.w Γ.R.K Γ.mg Γ.base C f
  mg : Γ.mg x = some (.ref C)
  ev : Γ.R.exv c = some (.ref C)
  fl : (Γ.R.fld c).take 1 = [f]
end
end DL
set_option Elab.async false
set_option linter.all false
set_option maxRecDepth 100000
set_option maxHeartbeats 4000000
namespace DLX
open PySem PySem.Spec PyProof.Rows L2
/-! try: body / except (A, B, C) as n: suite -/
section
variable {X : Cx} {pins : List (Addr × Obj)} {σ : L2.St} {H : Hp} {sI s s' : Shared} {B : Heap}
theorem xo_ok {P : Program} {w : World} {H : Hp} {h : Heap} {a : Addr} {cls : Value} {d : Option Addr} {oe : Obj} (he : h.get? a = some oe) (hz : Zc cls d oe) (hd : ∃ vs, oe.data = .fields vs) : ObjOk P w H h a (DL.XO a cls d) :=
  ⟨⟨oe, he, hz.1, hz.2, hd⟩, ⟨_, he⟩, fun h1 h2 z k => by
    obtain ⟨ob, q, r⟩ := z
    exact ⟨ob, k _ q, r⟩⟩
theorem landedX {a : Addr} {cls : Value} {d : Option Addr} (I : Inv X pins σ H sI) (nb : ∀ b o, sI.heap.get? b = some o → b ∉ frs X.stack → B.get? b = some o) (st : B.StaysIn s'.heap) (up : sI.heap.UpToSlots s'.heap) (os : s'.os = sI.os) (ag : AllBare s'.gens)
    (ba : B.get? a = none) (na : H a = none) (nf : a ∉ frs X.stack) {oe : Obj} (he : s'.heap.get? a = some oe) (hz : Zc cls d oe) (hd : ∃ vs, oe.data = .fields vs) : Inv X pins σ (upd H a (DL.XO a cls d)) s' := by
  have ns : ∀ o, sI.heap.get? a ≠ some o := fun o z => by
    rw [nb a o z nf] at ba; cases ba
  have nfr : ∀ b ∈ frs X.stack, ∀ o, sI.heap.get? b = some o → ∃ sl, s'.heap.get? b = some { o with slots := sl } := fun b hb o e => by
    obtain ⟨_, o', e', hd⟩ := I.stack.mem hb
    rw [e] at e'; cases e'
    exact up b o e hd
  have ne : ∀ {b : Addr} {u : HO}, H b = some u → b ≠ a := fun {b u} q z => by rw [z, na] at q; cases q
  have hok : HOk X.prog X.w (upd H a (DL.XO a cls d)) s'.heap := fun b u q => by
    by_cases hb : b = a
    · subst hb
      rw [upd_same] at q
      cases q
      exact xo_ok he hz hd
    · rw [upd_ne hb] at q
      exact ((I.inGround nb).kept st b u q).stay (fun _ _ _ r => r) (fun c hc => by rw [upd_ne (ne hc)]; exact hc) fun c xs hc => by rw [upd_ne (ne hc)]; exact hc
  have J := I.call (ch := []) (h' := s'.heap) (g' := s'.gens) (t' := s'.toks) (d' := s'.drawn) (H' := upd H a (DL.XO a cls d))
    ⟨fun b o e _ hb _ => st b o (nb b o e hb), fun b o e _ hb _ => nfr b hb o e, fun b o e n _ => by
      have hb : b ≠ a := by rintro rfl; exact ns o e
      rw [upd_ne hb]; exact n, fun b o e _ => by
      by_cases hb : b ∈ frs X.stack
      · obtain ⟨sl, q⟩ := nfr b hb o e
        exact ⟨_, q⟩
      · exact ⟨o, st b o (nb b o e hb)⟩, fun b xs e => by rw [upd_ne (ne e)]; exact e, fun b o u e => by rw [upd_ne (ne e)]; exact e, fun b ps e => ⟨#[], by rw [upd_ne (ne e), e]; simp⟩⟩
    hok ag (fun _ z => nomatch z)
  obtain ⟨a1, a2, a3, a4, a5⟩ := s'
  have e5 : a5 = sI.os := os
  subst e5
  exact J
end
end DLX
set_option Elab.async false
set_option linter.all false
set_option maxRecDepth 100000
set_option maxHeartbeats 4000000
namespace DL
open PySem PySem.Spec PyProof.Rows L2
end DL
set_option Elab.async false
set_option linter.all false
set_option maxRecDepth 100000
set_option maxHeartbeats 4000000
namespace DL
open PySem PySem.Spec PyProof.Rows L2
/-! ### caught exceptions: fields, isinstance -/
structure ExT (K : PySem.W.Frag) (C : Addr) : Prop where
  xf : XfC K C
  cl : (PySem.W.clsIn K C).isSome = true
  ha : PySem.W.findIn K (.ref C) "__class__" = some (some (.builtin "object.__class__"))
  hn : PySem.W.specialIn K (.builtin "object.__class__") "__get__" = some (some (.builtin "getset_descriptor.__get__"))
  ht : PySem.W.takesIn K (.builtin "object.__class__") = some true
  hm : PySem.W.mroIn K C (.type "object") = some true
def exTB (K : PySem.W.Frag) (C : Addr) : Bool := xfB K C && ((PySem.W.clsIn K C).isSome && (He.eqO (PySem.W.findIn K (.ref C) "__class__") (some (some (.builtin "object.__class__"))) && (He.eqO (PySem.W.specialIn K (.builtin "object.__class__") "__get__") (some (some (.builtin "getset_descriptor.__get__"))) &&
  (decide (PySem.W.takesIn K (.builtin "object.__class__") = some true) && decide (PySem.W.mroIn K C (.type "object") = some true)))))
theorem exTB_ok {K : PySem.W.Frag} {C : Addr} (h : exTB K C = true) : ExT K C := by
  have ⟨h1, h⟩ := Bool.and_eq_true_iff.mp h
  have ⟨h2, h⟩ := Bool.and_eq_true_iff.mp h
  have ⟨h3, h⟩ := Bool.and_eq_true_iff.mp h
  have ⟨h4, h⟩ := Bool.and_eq_true_iff.mp h
  have ⟨h5, h6⟩ := Bool.and_eq_true_iff.mp h
  exact ⟨xfB_ok h1, h2, He.eqO_ok h3, He.eqO_ok h4, of_decide_eq_true h5, of_decide_eq_true h6⟩
/-- what is seen of an exception's value -/
theorem vw_exn {R : Rc} {H : Hp} {B : Bz} {v : V} {c : Nat} {ds : List D} (r : Vw R H B v (.exn c ds)) : ∃ a cv dd, v = .ref a ∧ R.exv c = some cv ∧ H a = some (XO a cv dd) ∧ ((ds = [] ∧ dd = none) ∨ ∃ d fs, dd = some d ∧ H d = some (.xd fs) ∧ fs.map Prod.fst = (R.fld c).take fs.length ∧ Reps R H B (fs.map Prod.snd) ds) := by
  rcases r with r | ⟨a, rfl, r⟩
  · cases r with
    | exn h1 h2 h3 n1 n2 h4 h5 => exact ⟨_, _, _, rfl, h1, h2, .inr ⟨_, _, rfl, h3, h4, h5⟩⟩
    | exn0 h1 h2 n => exact ⟨_, _, _, rfl, h1, h2, .inl ⟨rfl, rfl⟩⟩
  · cases r
theorem xo_inst {X : Cx} {pins : List (Addr × Obj)} {σ : L2.St} {H : Hp} {s : Shared} {a C : Addr} {dd : Option Addr} (I : Inv X pins σ H s) (h : H a = some (XO a (.ref C) dd)) (hd : ∀ d, dd = some d → ∃ fs, H d = some (.xd fs)) : ∃ oe od, PySem.W.InstAt s.heap a oe C od ∧ (∀ d, dd = some d → ∃ o, od = some o ∧ s.heap.get? d = some o) := by
  have x : ObjOk X.prog X.w H s.heap a (.ext fun h => ∃ ob, h.get? a = some ob ∧ ob.cls = .ref C ∧ ob.dict = dd ∧ ∃ vs, ob.data = .fields vs) := I.hok a _ h
  obtain ⟨⟨ob, h1, h2, h3, vs, h4⟩, _⟩ := x
  have nc : PySem.W.notCls ob = true := by unfold PySem.W.notCls; rw [h4] <;> rfl
  cases dd with
  | none => exact ⟨ob, none, ⟨h1, h2, nc, by rw [h3]; trivial⟩, fun _ z => by cases z⟩
  | some d =>
    obtain ⟨fs, hx⟩ := hd d rfl
    have y : ObjOk X.prog X.w H s.heap d (.xd fs) := I.hok d _ hx
    obtain ⟨mA, ⟨od, es, ep, ho, hr⟩, _⟩ := y
    exact ⟨ob, some od, ⟨h1, h2, nc, by rw [h3]; exact ho⟩, fun _ z => by cases z; exact ⟨od, rfl, ho⟩⟩
/-- isinstance(e, c) -/
def rIsX (R : Rc) : List V → Hp → VK → Prop := fun xs H Q => ∃ (a : Addr) (c : V) (C : Addr) (dd : Option Addr) (u : Value) (b : Bool), xs = [.ref a, c] ∧ ClsV c u ∧ H a = some (XO a (.ref C) dd) ∧ (∀ d, dd = some d → ∃ fs, H d = some (.xd fs)) ∧ ExT R.K C ∧ PySem.W.kitOne R.K (.ref C) u = some b ∧ Q (.bl b) H
theorem call_isX {X : Cx} {R : Rc} (hK : X.K = R.K) : CallR X (.builtin "isinstance") (rIsX R) := by
  intro pins s σ H xs us Q I r h
  obtain ⟨a, c, C, dd, u, b, rfl, k, hx, hd, T, e, q⟩ := h
  obtain ⟨u1, u2, rfl, r1, r2⟩ := vals2 r
  have e2 := k.eq r2
  subst e2
  obtain rfl : u1 = Value.ref a := r1
  obtain ⟨oe, od, J, _⟩ := xo_inst I hx hd
  rw [← hK] at T e
  exact PySem.W.kia_one (PySem.W.kitx_exc (od := od) T.cl T.xf.ga T.xf.gg T.xf.exC T.ha T.hn T.ht T.hm) I.kIn J e (fun z => nomatch z) fun tk => ⟨.bl b, H, I.tok tk, rfl, q⟩
/-- exceptions of these classes -/
def isExn (cs : List Nat) : D → Option Bool
  | .exn c _ => some (cs.contains c)
  | _ => none
structure IsX (R : Rc) (u : V) (w : Value) (cs : List Nat) : Prop where
  c : ClsV u w
  ok : ∀ c cv, R.exv c = some cv → ∃ C, cv = .ref C ∧ ExT R.K C ∧ PySem.W.kitOne R.K (.ref C) w = some (cs.contains c)
section
variable {Γ : Gl} {S : Sc} {o : List Nat}
theorem je_isX {a c : Expr} {u : V} {w : Value} {cs : List Nat} {fa : WE} {p pos : Pos} (f : IsX Γ.R u w cs) (hm : Γ.mg "isinstance" = none) (ha : JO Γ S o a fa) (hc : ∀ n X Wx, At Γ S n X Wx → PE X c (tC u)) (hg : glB S.sc "isinstance" = true := by rfl) (he : noStars [a, c] = true := by rfl) :
    JE Γ S o (.Call (.Name "isinstance" p) [a, c] [] pos) (eUn (isiW (isExn cs)) fa) := by
  refine ⟨fun n X Wx x => ?_⟩
  have hK : X.K = Γ.R.K := x.K
  refine pe_anti (pe_callB (call_isX hK) (glB_ok x hg) (by rw [x.mg]; exact hm) (by decide +kernel) (pa_cons (ha.run n X Wx x) (pa_cons (hc n X Wx x) pa_nil (star_no (Bool.and_eq_true_iff.mp (Bool.and_eq_true_iff.mp he).2).1)) (star_no (Bool.and_eq_true_iff.mp he).1)) (by decide) (by decide +kernel) (star_no (Bool.and_eq_true_iff.mp he).1) (stars_no (Bool.and_eq_true_iff.mp he).2)) fun σ H Q ⟨F, ad, ρ, G, Qd, Ed, rs, hf, k1, k2⟩ => ?_
  refine ⟨F, ad, ρ, G, _, Ed, rs, hf, fun v H1 dx G1 e1 g1 r1 q1 => ?_, k2⟩
  obtain ⟨d, hd, qq⟩ := got_some q1
  obtain ⟨b, hb, rfl⟩ := map_some' hd
  have vw := r1.vw g1
  obtain ⟨c', l, el, rfl⟩ : ∃ c' l, lk G1 dx = .exn c' l ∧ b = cs.contains c' := by
    cases e : lk G1 dx <;> rw [e] at hb <;> first | (cases hb; done) | skip
    rename_i c' l
    exact ⟨c', l, rfl, (Option.some.inj hb).symm⟩
  rw [el] at vw
  obtain ⟨p, cv, dd, rfl, h1, h2, h3⟩ := vw_exn vw
  obtain ⟨C, rfl, T, hk⟩ := f.ok _ _ h1
  refine ⟨p, u, C, dd, w, _, rfl, f.c, h2, fun d hd => ?_, T, hk, k1 _ _ _ G1 e1 g1 (.bl _) qq⟩
  rcases h3 with ⟨_, z⟩ | ⟨d', fs, z, h4, _⟩
  · rw [z] at hd; cases hd
  · rw [z] at hd; cases hd; exact ⟨fs, h4⟩
/-! e.f -/
abbrev eXAt (tab : List (Nat × Nat)) (fe : WE) : WE := fun M ρ G Q E => fe M ρ G (fun d G1 => match lk G1 d with
  | .exn c l => (match tabM tab c with
    | some k => got l[k]? fun v => Q v G1
    | none => False)
  | _ => False) E
/-- field f of class c: its place -/
structure XFld (R : Rc) (f : Str) (c k : Nat) : Prop where
  cv : ∃ C, R.exv c = some (.ref C) ∧ XfC R.K C ∧ PySem.W.findIn R.K (.ref C) f = some none
  at_ : (R.fld c)[k]? = some f
  nd : (R.fld c).Nodup
inductive XTab (R : Rc) (f : Str) : List (Nat × Nat) → Prop
  | nil : XTab R f []
  | cons {c k : Nat} {r : List (Nat × Nat)} : XFld R f c k → XTab R f r → XTab R f ((c, k) :: r)
theorem XTab.get {R : Rc} {f : Str} : ∀ {tab : List (Nat × Nat)} {c k : Nat}, XTab R f tab → tabM tab c = some k → XFld R f c k
  | _, _, _, .nil, e => by cases e
  | (c', k') :: r, c, k, .cons h t, e => by
    unfold tabM at e
    split at e
    · rename_i hb
      cases e
      have := Nat.eq_of_beq_eq_true hb
      subst this
      exact h
    · exact t.get e
theorem lookup_at {f : Str} {v : V} : ∀ {fs : List (Str × V)} {k : Nat}, (fs.map Prod.fst).Nodup → (fs.map Prod.fst)[k]? = some f → (fs.map Prod.snd)[k]? = some v → fs.lookup f = some v
  | [], k, _, h, _ => by simp at h
  | (g, x) :: r, 0, _, h, h2 => by
    have hg : g = f := by simpa using h
    have hx : x = v := by simpa using h2
    subst hg hx
    simp [List.lookup]
  | (g, x) :: r, k + 1, nd, h, h2 => by
    have nd' := List.nodup_cons.mp (show (g :: r.map Prod.fst).Nodup from nd)
    have h' : (r.map Prod.fst)[k]? = some f := by simpa using h
    have hg : ¬ g = f := fun z => nd'.1 (by rw [z]; exact List.mem_of_getElem? h')
    have hg2 : (f == g) = false := by simpa using fun z : f = g => hg z.symm
    simp only [List.lookup, hg2]
    exact lookup_at nd'.2 h' (by simpa using h2)
theorem je_xat {e : Expr} {f : Str} {pos : Pos} {tab : List (Nat × Nat)} {fe : WE} (ht : XTab Γ.R f tab) (he : JE Γ S o e fe) (hsup : noSup e = true := by rfl) : JE Γ S o (.Attribute e f pos) (eXAt tab fe) := by
  refine ⟨fun n X Wx a => ⟨fun pins s σ H Q I h => ?_⟩⟩
  obtain ⟨F, ad, ρ, G, Qd, Ed, rs, hf, k1, k2⟩ := h
  have hK : X.K = Γ.R.K := a.K
  refine attr_of (ab_no hsup) (thn ((he.run n X Wx a).run pins s σ H _ I ⟨F, ad, ρ, G, _, Ed, rs, hf, fun v H1 d G1 e1 g1 r1 q1 => (show ∃ d G1, Ext H G H1 G1 ∧ RelG Γ.R G1 (fo F o ad) H1 ∧ Rep Γ.R H1 (bz G1 (fo F o ad)) v d ∧ _ from ⟨d, G1, e1, g1, r1, q1⟩), k2⟩) fun u s1 ⟨v, H1, I1, rv, d, G1, e1, g1, r1, q1⟩ => ?_)
  have vw := rpO.vw (R := Γ.R) (F := F) (o := o) (ad := ad) (.inl r1) g1
  split at q1
  · rename_i c l hlk
    rw [hlk] at vw
    split at q1
    · rename_i k htab
      obtain ⟨w, hw, qq⟩ := got_some q1
      have X1 := ht.get htab
      obtain ⟨C, hcv, T, hno⟩ := X1.cv
      obtain ⟨p, cv, dd, rfl, h1, h2, h3⟩ := vw_exn vw
      rw [hcv] at h1
      cases h1
      obtain rfl : u = Value.ref p := rv
      rcases h3 with ⟨z, _⟩ | ⟨dx, fs, rfl, h4, h5, h6⟩
      · rw [z] at hw; cases hw
      · obtain ⟨wv, hwv, rw'⟩ := h6.get hw
        have nd : (fs.map Prod.fst).Nodup := by rw [h5]; exact X1.nd.sublist (List.take_sublist _ _)
        have hkl : k < fs.length := by have := (List.getElem?_eq_some_iff.mp hwv).1; simpa using this
        have hat : (fs.map Prod.fst)[k]? = some f := by rw [h5, List.getElem?_take_of_lt hkl]; exact X1.at_
        have hl := lookup_at nd hat hwv
        obtain ⟨oe, od, J, hd⟩ := xo_inst I1 h2 fun _ z => by cases z; exact ⟨fs, h4⟩
        obtain ⟨oD, rfl, hoD⟩ := hd dx rfl
        have hx : ObjOk X.prog X.w H1 s1.heap dx (.xd fs) := I1.hok dx _ h4
        obtain ⟨mA, hns, hr⟩ := hx
        obtain ⟨od2, ho2, hl2⟩ := lookIn_ns hns
        rw [hoD] at ho2
        cases ho2
        obtain ⟨uu, hu, ru⟩ := RelO.some_of (v := wv) (o := mA f) (by rw [← hl]; exact hr f)
        rw [← hK] at T hno
        exact HandSPX.exc_get I1.kIn J T.ga T.gg T.exC (PySem.W.findObj_own T.hdC hno rfl (by rw [hl2, hu])) (handed_of ru) ⟨wv, H1, I1.tok _, ru, k1 _ _ _ G1 e1 g1 rw' qq⟩
    · exact q1.elim
  · exact q1.elim
end
end DL
set_option Elab.async false
set_option linter.all false
set_option maxRecDepth 100000
set_option maxHeartbeats 4000000
namespace DL
open PySem PySem.Spec PyProof.Rows L2
/-! ### l.index(x), l.count(x) -/
def idxD : D → D → Option D
  | .lst ys, x => if flat 60 x && ys.all (flat 60) then (ys.findIdx? fun y => deq 60 y x).map fun (n : Nat) => D.int n else none
  | _, _ => none
def cntD : D → D → Option D
  | .lst ys, x => if flat 60 x && ys.all (flat 60) then some (.int ((ys.countP fun y => deq 60 y x : Nat) : Int)) else none
  | _, _ => none
theorem place_toP {x : D} (hx : flat 60 x = true) (ys : List D) (h : ys.all (flat 60) = true) : SeqAt.dataPlace (ys.map (toP 60)) (toP 60 x) = ys.findIdx? fun y => deq 60 y x := by
  unfold SeqAt.dataPlace
  induction ys with
  | nil => rfl
  | cons y ys ih =>
    simp only [List.all_cons, Bool.and_eq_true] at h
    simp only [List.map_cons, List.findIdx?_cons, eqv_toP 60 y x h.1 hx, ih h.2]
theorem count_toP {x : D} (hx : flat 60 x = true) (ys : List D) (h : ys.all (flat 60) = true) : (ys.map (toP 60)).countP (fun z => PyData.eqv z (toP 60 x)) = ys.countP fun y => deq 60 y x := by
  induction ys with
  | nil => rfl
  | cons y ys ih =>
    simp only [List.all_cons, Bool.and_eq_true] at h
    simp only [List.map_cons, List.countP_cons, eqv_toP 60 y x h.1 hx, ih h.2]
theorem cntD_lst {ys : List D} {x d : D} (e : cntD (.lst ys) x = some d) : (flat 60 x = true ∧ ys.all (flat 60) = true) ∧ d = .int ((ys.countP fun y => deq 60 y x : Nat) : Int) := by
  have e2 : (if (flat 60 x && ys.all (flat 60)) = true then some (D.int ((ys.countP fun y => deq 60 y x : Nat) : Int)) else none) = some d := e
  by_cases hf : (flat 60 x && ys.all (flat 60)) = true
  · rw [if_pos hf] at e2
    exact ⟨Bool.and_eq_true_iff.mp hf, (Option.some.inj e2).symm⟩
  · rw [if_neg hf] at e2
    cases e2
theorem idxD_lst {ys : List D} {x d : D} (e : idxD (.lst ys) x = some d) : (flat 60 x = true ∧ ys.all (flat 60) = true) ∧ ∃ n : Nat, (ys.findIdx? fun y => deq 60 y x) = some n ∧ d = .int n := by
  have e2 : (if (flat 60 x && ys.all (flat 60)) = true then ((ys.findIdx? fun y => deq 60 y x).map fun (n : Nat) => D.int n) else none) = some d := e
  by_cases hf : (flat 60 x && ys.all (flat 60)) = true
  · rw [if_pos hf] at e2
    obtain ⟨n, h1, h2⟩ := map_some' e2
    exact ⟨Bool.and_eq_true_iff.mp hf, n, h1, h2.symm⟩
  · rw [if_neg hf] at e2
    cases e2
theorem sou_count : OpS (fun v u => call (.builtin "list.count") [v, u]) cntD := by
  intro Γ S n X Wx a pins s σ H x y v u Q F G dx dy d I rx ry g vx vy e k
  cases dx with
  | lst ys =>
    obtain ⟨hf, rfl⟩ := cntD_lst e
    have hK : X.K = Γ.R.K := a.K
    have hr : X.A.units + 1 + min (PyData.depthAll (ys.map (toP 60))) (toP 60 dy).depth < cLine := by
      have := depth_toP _ _ hf.1
      have := a.units
      omega
    obtain ⟨as, r1⟩ := Dp.reads I _ y u (by rw [hK]; exact dp_vw vy hf.1) ry
    have p1 := plain_toP _ _ hf.1
    have p2 := plainAll_map (plain_toP 60) ys hf.2
    obtain ⟨bs, r2⟩ := Dp.reads I (.list (ys.map (toP 60))) x v (by rw [hK]; exact dp_vw (n := 61) vx hf.2) rx
    cases r2 with
    | list h1 h2 h3 h4 =>
      refine SeqAt.count_list_data ⟨_, h1, h2, _, h3⟩ h4 r1 p2 p1 hr ⟨.int _, H, I.tok _, ⟨_, rfl⟩, ?_⟩
      rw [count_toP hf.1 ys hf.2]
      exact k _ _ (Ext.refl _ _) g (.int _)
  | _ => cases e
theorem sou_index : OpS (fun v u => call (.builtin "list.index") [v, u]) idxD := by
  intro Γ S n X Wx a pins s σ H x y v u Q F G dx dy d I rx ry g vx vy e k
  cases dx with
  | lst ys =>
    obtain ⟨hf, j, hj, rfl⟩ := idxD_lst e
    have hK : X.K = Γ.R.K := a.K
    have hr : X.A.units + 1 + min (PyData.depthAll (ys.map (toP 60))) (toP 60 dy).depth < cLine := by
      have := depth_toP _ _ hf.1
      have := a.units
      omega
    obtain ⟨as, r1⟩ := Dp.reads I _ y u (by rw [hK]; exact dp_vw vy hf.1) ry
    have p1 := plain_toP _ _ hf.1
    have p2 := plainAll_map (plain_toP 60) ys hf.2
    obtain ⟨b, xs, rfl, hH, rp⟩ := vx.lst
    obtain rfl : v = Value.ref b := rx
    obtain ⟨bs, r2⟩ := Dp.reads I (.list (ys.map (toP 60))) (.ref b) (.ref b) (by rw [hK]; exact dp_vw (n := 61) vx hf.2) rfl
    obtain ⟨hz, its, n2, rv, hob⟩ := I.hok b _ hH
    have hys : xs.length = ys.length := rp.length
    cases r2 with
    | list h1 h2 h3 h4 =>
      obtain ⟨hjs, hit, hno⟩ := SeqAt.hit_at (d := toP 60 dy) h4 p2 (by rw [place_toP hf.1 ys hf.2]; exact hj)
      obtain ⟨⟨cls, dd, data, sls⟩, e1, e2, n3, e3⟩ : ∃ oo, s.heap.get? b = some oo ∧ oo.cls = .type "list" ∧ ∃ n3, oo.data = .seq _ n3 := ⟨_, h1, h2, _, h3⟩
      simp only at e2 e3
      subst e2 e3
      have hl := SeqAt.len_at h4
      rw [List.length_map] at hl
      have hsl := sizeLine_eq
      refine call_meets PySem.F.slot_list_index ⟨_, e1, rfl⟩ PySem.F.entry_list_index (PySem.F.args_list_index_2 _ _)
        (SeqAt.list_indexAt b _ _ _ _ u (fun z => PyData.eqv (SeqAt.readOf s.heap z) (toP 60 dy)) j hjs (by omega) hit hno) ⟨e1, SeqAt.items_plain h4 r1 p2 p1 hr, ?_⟩
      exact ⟨.int _, H, I.tok _, ⟨_, rfl⟩, k _ _ (Ext.refl _ _) g (.int _)⟩
  | _ => cases e
section
variable {Γ : Gl} {S : Sc} {o : List Nat}
abbrev onL (d : D) (k : Prop) : Prop := match d with | .lst _ => k | _ => False
theorem onL_some {d : D} {k : Prop} (h : onL d k) : ∃ ds, d = .lst ds ∧ k := by
  cases d <;> first | exact h.elim | exact ⟨_, rfl, h⟩
abbrev eM1 (op : D → D → Option D) (fa fb : WE) : WE := fun M ρ G Q E => fa M ρ G (fun x G1 => onL (lk G1 x) (fb M ρ G1 (fun y G2 => got (op (lk G2 x) (lk G2 y)) fun d => Q d G2) E)) E
theorem je_m1 {a b : Expr} {name id : String} {p p2 : Pos} {op : D → D → Option D} {fa fb : WE} (slot : Slot "list" name id) (hty : typeOf (.builtin id) = pure (.type "method_descriptor")) (h : OpS (fun v u => call (.builtin id) [v, u]) op)
    (ha : JO Γ S o a fa) (hb : JO Γ S o b fb) (hst : noStars [b] = true := by rfl) (hsup : noSup a = true := by rfl) (hline : (p.endLine == p2.line) = true := by rfl) :
    JE Γ S o (.Call (.Attribute a name p) [b] [] p2) (eM1 op fa fb) := by
  refine ⟨fun n X Wx z => ?_⟩
  have hst1 := (Bool.and_eq_true_iff.mp hst).1
  refine pe_anti (pe_bm (r := fun x xs H Q => ∃ y, xs = [y] ∧ lr2 Γ.R op x y H Q) PySem.F.plainAttrs_list slot hty (fun pins s σ H x xs v us Q I rx rxs q => ?_) (ha.run n X Wx z) (pa_cons (hb.run n X Wx z) pa_nil (star_no hst1)) (ab_no hsup) (by rw [star_no hst1]; rfl) hline (star_no hst1) rfl) fun σ H Q q => ?_
  · obtain ⟨y, rfl, q⟩ := q
    obtain ⟨u, rfl, ru⟩ := rxs.one
    exact h.opr z pins s σ H _ _ v u Q I rx ru q
  · obtain ⟨F, ad, ρ, G, Qd, Ed, rs, hf, k1, k2⟩ := q
    refine ⟨F, ad, ρ, G, _, Ed, rs, hf, fun v H1 dx G1 e1 g1 r1 q1 => ?_, k2⟩
    obtain ⟨ds, hds, q1⟩ := onL_some q1
    have vw := r1.vw g1
    rw [hds] at vw
    obtain ⟨a0, xs, rfl, hH, _⟩ := vw.lst
    refine ⟨.inl ⟨rfl, xs, SqL.of hH⟩, F, ad, ρ, G1, _, Ed, rs.step e1 g1, q1, fun u H2 dy G2 e2 g2 r2 q2 => ?_, fun cls dd x H' G' e g r q => k2 cls dd x H' G' (e1.trans e) g r q⟩
    obtain ⟨d, hd, q⟩ := got_some q2
    exact ⟨_, rfl, _, G2, _, _, d, g2, (r1.step g1 e2).vw g2, r2.vw g2, hd, fun v' H' e g r => k1 v' H' d G2 (e1.trans (e2.trans e)) g r q⟩
end
end DL
set_option Elab.async false
set_option linter.all false
set_option maxRecDepth 100000
set_option maxHeartbeats 4000000
namespace DL
open PySem PySem.Spec PyProof.Rows L2
/-! ### what the head says of exception classes -/
def bmOf (B : String) : List Value := [.type B, .type "Exception", .type "BaseException", .type "object"]
def excB (K : PySem.W.Frag) (B newId : String) (C : Addr) : Bool :=
  PySem.W.excInitIn K C (bmOf B) newId && (PySem.W.excOver K C (bmOf B) && (PySem.W.hasDictIn K C && (He.eqO (PySem.W.findIn K (.ref C) "__setattr__") (some (some (.builtin "object.__setattr__"))) &&
  (decide (PySem.W.subIn K (.ref C) (.type "BaseException") = some true) && (decide (PySem.W.typeIn K (.ref C) = some (.type "type")) && PySem.W.keepIn K (.ref C))))))
theorem exc_of {K : PySem.W.Frag} {B newId initId : String} {C : Addr} (FB : ExcBaseFacts B newId initId (bmOf B)) (SF : StoreFacts B (bmOf B) "object.__setattr__" "object") (h : excB K B newId C = true) : DLX.ExC K C := by
  have ⟨h1, h⟩ := Bool.and_eq_true_iff.mp h
  have ⟨h2, h⟩ := Bool.and_eq_true_iff.mp h
  have ⟨h3, h⟩ := Bool.and_eq_true_iff.mp h
  have ⟨h4, h⟩ := Bool.and_eq_true_iff.mp h
  have ⟨h5, h⟩ := Bool.and_eq_true_iff.mp h
  have ⟨h6, h7⟩ := Bool.and_eq_true_iff.mp h
  exact ⟨⟨B, newId, initId, bmOf B, FB, SF, h1, h2⟩, h3, He.eqO_ok h4, of_decide_eq_true h5, of_decide_eq_true h6, h7⟩
theorem excV {K : PySem.W.Frag} {C : Addr} (h : excB K "ValueError" "ValueError.__new__" C = true) : DLX.ExC K C := exc_of PySem.F.excBase_ValueError PySem.F.store_ValueError h
theorem excL {K : PySem.W.Frag} {C : Addr} (h : excB K "LookupError" "LookupError.__new__" C = true) : DLX.ExC K C := exc_of PySem.F.excBase_LookupError PySem.F.store_LookupError h
theorem excA {K : PySem.W.Frag} {C : Addr} (h : excB K "ArithmeticError" "ArithmeticError.__new__" C = true) : DLX.ExC K C := exc_of PySem.F.excBase_ArithmeticError PySem.F.store_ArithmeticError h
/-- the __init__ of such a class, its field -/
def exiB (K : PySem.W.Frag) (f : Str) (C fI : Addr) : Bool := He.eqO (PySem.W.findIn K (.ref C) f) (some none) && (He.eqO (PySem.W.findIn K (.ref C) "__init__") (some (some (.ref fI))) && decide (PySem.W.typeIn K (.ref fI) = some (.type "function")))
theorem exi_of {P : Program} {w : World} {K : PySem.W.Frag} {mg : Str → Option Value} {base : Heap} {C fI : Addr} {f self x : Str} {qual : Str} {params : Arguments} {scope : Scope} {fd : FuncData} {p1 p2 p3 pos : Pos}
    (T : DLX.ExC K C) (h : exiB K f C fI = true)
    (F : FunD K "__init__" qual params [.Assign [.Attribute (.Name self p1) f p2] (.Name x p3) pos] scope [] [] fI fd) (hs : C8.scC [self, x] [self, x] scope = true) (hb : L2.Binds K fd [self, x] [])
    (v1 : visB scope self = true := by rfl) (v2 : visB scope x = true := by rfl) (d1 : dbgB self = false := by decide +kernel) (d2 : dbgB x = false := by decide +kernel) (hw : ∀ env : Env, swapsWith (.Name x p3) (some (.Attribute (.Name self p1) f p2)) pos.line env = pure false := by intro _; rfl) : DLX.ExI P w K mg base C f := by
  have ⟨h1, h⟩ := Bool.and_eq_true_iff.mp h
  have ⟨h2, h3⟩ := Bool.and_eq_true_iff.mp h
  exact DLX.exI_of T (He.eqO_ok h1) (He.eqO_ok h2) (of_decide_eq_true h3) F (C8.fnScope_by hs) hb v1 v2 d1 d2 hw
def exvL (l : List (Nat × Addr)) : Nat → Option Value := fun c => (lkN l c).map .ref
theorem exv_mem {l : List (Nat × Addr)} {c : Nat} {cv : Value} (h : exvL l c = some cv) : ∃ C, cv = .ref C ∧ (c, C) ∈ l := by
  unfold exvL at h
  cases e : lkN l c with
  | none => rw [e] at h; cases h
  | some C => rw [e] at h; cases h; exact ⟨C, rfl, lkN_mem e⟩
def isxB (K : PySem.W.Frag) (l : List (Nat × Addr)) (w : Value) (cs : List Nat) : Bool := l.all fun p => exTB K p.2 && decide (PySem.W.kitOne K (.ref p.2) w = some (cs.contains p.1))
theorem isx_of {R : Rc} {l : List (Nat × Addr)} {u : V} {w : Value} {cs : List Nat} (hR : R.exv = exvL l) (c : ClsV u w) (h : isxB R.K l w cs = true) : IsX R u w cs := by
  refine ⟨c, fun k cv e => ?_⟩
  rw [hR] at e
  obtain ⟨C, rfl, hm⟩ := exv_mem e
  have ⟨h1, h2⟩ := Bool.and_eq_true_iff.mp (List.all_eq_true.mp h _ hm)
  exact ⟨C, rfl, exTB_ok h1, of_decide_eq_true h2⟩
theorem clsV_ref {C : Addr} : ClsV (.ref C) (.ref C) := by first | exact .ref _ | constructor
theorem clsV_ty {T : String} : ClsV (.ty T) (.type T) := by first | exact .ty _ | constructor
def xfldB (K : PySem.W.Frag) (f : Str) (C : Addr) : Bool := xfB K C && He.eqO (PySem.W.findIn K (.ref C) f) (some none)
theorem xfld_of {R : Rc} {f : Str} {c k : Nat} {C : Addr} (h0 : R.exv c = some (.ref C)) (h : xfldB R.K f C = true) (h1 : (R.fld c)[k]? = some f) (h2 : decide (R.fld c).Nodup = true) : XFld R f c k :=
  have ⟨a, b⟩ := Bool.and_eq_true_iff.mp h
  ⟨⟨C, h0, xfB_ok a, He.eqO_ok b⟩, h1, of_decide_eq_true h2⟩
section
variable {Γ : Gl} {S : Sc} {o : List Nat}
theorem je_isXC {a : Expr} {C : Addr} {x : Str} {cs : List Nat} {fa : WE} {p p2 pos : Pos} (f : IsX Γ.R (.ref C) (.ref C) cs) (hm : Γ.mg "isinstance" = none) (ha : JO Γ S o a fa) (hx : Γ.mg x = some (.ref C)) (hg : glB S.sc "isinstance" = true := by rfl) (hg2 : glB S.sc x = true := by rfl)
    (he : noStars [a, .Name x p2] = true := by rfl) (hd : dbgB x = false := by decide +kernel) : JE Γ S o (.Call (.Name "isinstance" p) [a, .Name x p2] [] pos) (eUn (isiW (isExn cs)) fa) :=
  je_isX f hm ha (fun n X Wx a => pe_glob (v := .ref C) (glB_ok a hg2) (by rw [a.mg]; exact hx) rfl (Bool.or_eq_false_iff.mp hd).1) hg he
theorem je_isXT {a : Expr} {T : String} {x : Str} {cs : List Nat} {fa : WE} {p p2 pos : Pos} (f : IsX Γ.R (.ty T) (.type T) cs) (hm : Γ.mg "isinstance" = none) (ha : JO Γ S o a fa) (hx : Γ.mg x = none) (hv : bootBuiltins x = some (.type T)) (hg : glB S.sc "isinstance" = true := by rfl) (hg2 : glB S.sc x = true := by rfl)
    (he : noStars [a, .Name x p2] = true := by rfl) (hn : x ≠ "__name__" := by decide) (hd : dbgB x = false := by decide +kernel) : JE Γ S o (.Call (.Name "isinstance" p) [a, .Name x p2] [] pos) (eUn (isiW (isExn cs)) fa) :=
  je_isX f hm ha (fun n X Wx a => pe_bltn (v := .ty T) (glB_ok a hg2) (by rw [a.mg]; exact hx) hv rfl hn (Bool.or_eq_false_iff.mp hd).1) hg he
end
end DL
set_option Elab.async false
set_option linter.all false
set_option maxRecDepth 100000
set_option maxHeartbeats 4000000
namespace DL
open PySem PySem.Spec PyProof.Rows L2
section
variable {Γ : Gl} {S : Sc} {o : List Nat}
/-! ### an empty dict -/
abbrev eDN (b : Bool) : WE := fun _ _ G Q _ => Q (.dic b []) G
theorem jf_dnK {pos : Pos} : JF Γ S o (.Dict [] [] pos) (eDN false) := by
  refine ⟨fun n X Wx a => pe_anti pe_dnewK fun σ H Q ⟨F, ad, ρ, G, Qd, Ed, rs, hf, k1, k2⟩ => ?_⟩
  exact fun p hp => k1 _ _ _ _ G (Ext.refl _ _) rs.g hp (.dicK .nil) hf
end
end DL
set_option Elab.async false
set_option linter.all false
set_option maxRecDepth 100000
set_option maxHeartbeats 4000000
namespace L2
open PySem PySem.Spec PyProof.Rows
end L2
namespace DL
open PySem PySem.Spec PyProof.Rows L2
end DL
set_option Elab.async false
set_option linter.all false
set_option maxRecDepth 100000
set_option maxHeartbeats 4000000
namespace DL
open PySem PySem.Spec PyProof.Rows L2
/-- n positional values and the keywords ks, no defaults -/
theorem kbn_kw {K : PySem.W.Frag} {x qual : Str} {params : Arguments} {body : List Stmt} {scope : Scope} {f : Addr} {fd : FuncData} {ps : List Str} (F : FunD K x qual params body scope [] [] f fd) (n : Nat) (ks : List Str) (g : {α : Type} → α → List α → List α → List α)
    (hrel : ∀ {vs zs : List V} {us ws : List Value}, Vals vs us → Vals zs ws → Vals (g .non vs zs) (g .none us ws))
    (h : ∀ (kV doc pm : Value) (an : Option Addr) (cdv ct : Value) (us ws : List Value), us.length = n → ws.length = ks.length → bindArgs (PySem.W.fnOf x qual params body scope .none kV doc pm an cdv ct) ⟨us, ks.zip ws⟩ = pure (ps.zip (g .none us ws))) : ∃ q, KBn K fd ps n ks q (fun vs zs => g .non vs zs) := by
  obtain ⟨oc, od, dV, kV, doc, pm, an, cdv, ct, osl, rfl, lk, hcd, hD, hK⟩ := F.ex
  rcases hD with ⟨_, rfl⟩ | ⟨e, _⟩
  · exact ⟨fun us ws => g .none us ws, fun s us ws X l1 l2 => .of_eq (h kV doc pm an cdv ct us ws l1 l2), fun r1 r2 => hrel r1 r2⟩
  · exact absurd rfl e
end DL
set_option Elab.async false
set_option linter.all false
set_option maxRecDepth 100000
set_option maxHeartbeats 4000000
namespace DL
open PySem PySem.Spec PyProof.Rows L2
theorem RepK.len {R : Rc} {H : Hp} {B : Bz} : ∀ {kvs : List (Key × V)} {ds : List (D × D)}, RepK R H B kvs ds → kvs.length = ds.length
  | _, _, .nil => rfl
  | _, _, .cons _ r => congrArg Nat.succ r.len
section
variable {Γ : Gl} {S : Sc} {ob o o' : List Nat}
/-! ### d[k] = e, d an own dict -/
/-! ### an exception, made and kept -/
theorem pe_pmk {X : Cx} {e : Expr} {t : L2.St → Hp → XK → Prop} (h : PMk X e t) : PE X e (fun σ H Q => t σ H fun cls d H1 => ∀ a, H1 a = none → Q (.ref a) (upd H1 a (XO a cls d))) := by
  refine ⟨fun pins s σ H Q I q => ?_⟩
  refine wpAny_mono (h pins s σ H _ I q) (fun u s1 ⟨a, oe, vs, sI, H', cls, d, eu, J, k, hne, ha, hz, hd, _, na, os, ag, _, q1⟩ => ?_) fun _ _ z => z
  subst eu
  have nf : a ∉ frs X.stack := fun z => by
    obtain ⟨_, o', e', _⟩ := J.stack.mem z
    rw [hne] at e'; cases e'
  exact ⟨.ref a, _, DLX.landedX J (fun b o q _ => q) (fun b o q => k b o q) (Heap.UpToSlots.of_keeps k) os ag hne na nf ha hz ⟨_, hd⟩, rfl, q1 a na⟩
abbrev eExn (c : Nat) (fe : WE) : WE := fun M ρ G Q E => fe M ρ G (fun d G1 => Q (.exn c [d]) G1) E
theorem je_exn {x f : Str} {c : Nat} {C : Addr} {e : Expr} {fe : WE} {p pos : Pos} (R0 : RaiseF Γ x f c C) (he : JE Γ S o e fe) (hrm : Nat.ble 2 S.rm = true := by rfl) (hcl : S.calm = true := by rfl) (hg : glB S.sc x = true := by rfl) (hdb : dbgB x = false := by decide +kernel) (hst : noStars [e] = true := by rfl) :
    JE Γ S o (.Call (.Name x p) [e] [] pos) (eExn c fe) := by
  have hrm2 := Nat.le_of_ble_eq_true hrm
  refine ⟨fun n X Wx a => ⟨fun pins s σ H Q I ⟨F, ad, ρ, G, Qd, Ed, rs, hf, k1, k2⟩ => ?_⟩⟩
  have hd : X.A.handled = none := I.ok.hd (a.calm.trans hcl)
  have T : DLX.ExI X.prog X.w X.K X.mg X.base C f := by rw [a.prog, a.w, a.K, a.mg, a.base]; exact R0.I
  have A := (ja_cons he ja_nil (h := (Bool.and_eq_true_iff.mp hst).1)).run n X Wx a
  refine (pe_pmk (DLX.pmk_oexB (p := p) T ⟨hd, by have := a.room.dp; omega, by have := a.room.un; omega⟩ (glB_ok a hg) (by rw [a.mg]; exact R0.mg) A (Bool.or_eq_false_iff.mp hdb).1 (star_no (Bool.and_eq_true_iff.mp hst).1) (stars_no (Bool.and_eq_true_iff.mp hst).2))).run pins s σ H Q I ?_
  refine ⟨F, ad, ρ, G, (fun ds G1 => Qd (.exn c ds) G1), Ed, rs, hf, fun vs H1 ds G1 e1 g1 r1 q1 => ?_, k2⟩
  obtain ⟨r1, l1⟩ := r1
  match vs, ds, r1, l1 with
  | [v], [d], .cons rv .nil, _ =>
    refine ⟨v, rfl, fun dd hdd a ha => ?_⟩
    have hne : dd ≠ a := fun z => by rw [← z, upd_same] at ha; cases ha
    have hna : H1 a = none := by rw [upd_ne (Ne.symm hne)] at ha; exact ha
    have g2 := g1.new (o := .xd [(f, v)]) hdd
    have e2 : Ext H1 G1 (upd H1 dd (.xd [(f, v)])) G1 := Ext.upd hdd
    have g3 := g2.new (o := XO a (.ref C) (some dd)) ha
    have e3 : Ext (upd H1 dd (.xd [(f, v)])) G1 (upd (upd H1 dd (.xd [(f, v)])) a (XO a (.ref C) (some dd))) G1 := Ext.upd ha
    refine k1 _ _ _ G1 (e1.trans (e2.trans e3)) g3 ?_ q1
    refine .exn (d := dd) R0.ev upd_same (by rw [upd_ne hne]; exact upd_same) (g2.busy ha) (g1.busy hdd) (by rw [show ([(f, v)] : List (Str × V)).length = 1 from rfl, R0.fl]; rfl) (.cons ((rv.mv (ext_new hdd)).mv (ext_new ha)) .nil)
end
end DL
set_option Elab.async false
set_option linter.all false
set_option maxRecDepth 100000
set_option maxHeartbeats 4000000
namespace DLS
open PySem PySem.Spec PyProof.Rows L2
/-! ### sets of keys of any kind, by the list of their entries -/
/-- the set at a: its entries in the table's order; the table rises and can be walked -/
def Tab (w : World) (h : Heap) (a : Addr) (l : List (Int × Value)) : Prop :=
  ∃ o es ep t, h.get? a = some o ∧ o.ExactSet ∧ o.data = .set es ep t ∧ es.toList = l ∧ es.size < scanBound ∧ t.fits es.size = true ∧ Ris t.place.toList ∧ (w.params.followText "set-order" = true ∨ t.led = true)
section
variable {P : Program} {w : World} {A : Around} {E : Value → Shared → Prop} {s : Shared} {a : Addr} {l : List (Int × Value)}
theorem Tab.at {h h' : Heap} (T : Tab w h a l) (k : ∀ o, h.get? a = some o → h'.get? a = some o) : Tab w h' a l :=
  let ⟨o, es, ep, t, ho, r⟩ := T; ⟨o, es, ep, t, k o ho, r⟩
variable {K : Type} [DecidableEq K] {knd : KeyKind P w K}
/-! ### sets of texts -/
def txt (e : Int × Value) : Str := match e.2 with | .str k _ => k | _ => Str.empty
def IsTxt (w : World) (e : Int × Value) : Prop := ∃ k tk, e.2 = Value.str k tk ∧ e.1 = hashStr w k
/-- the set of the texts M at a -/
def TxtSet (w : World) (h : Heap) (a : Addr) (M : List Str) : Prop := ∃ l, Tab w h a l ∧ (∀ e ∈ l, IsTxt w e) ∧ (l.map txt).Nodup ∧ ∀ k, k ∈ l.map txt ↔ k ∈ M
theorem TxtSet.at {h h' : Heap} {M : List Str} (T : TxtSet w h a M) (k : ∀ o, h.get? a = some o → h'.get? a = some o) : TxtSet w h' a M := let ⟨l, t, r⟩ := T; ⟨l, t.at k, r⟩
end
end DLS
set_option Elab.async false
set_option linter.all false
set_option maxRecDepth 100000
set_option maxHeartbeats 4000000
set_option Elab.async false
set_option linter.all false
set_option maxRecDepth 100000
set_option maxHeartbeats 4000000
namespace DL
open PySem PySem.Spec PyProof.Rows L2
end DL
set_option Elab.async false
set_option linter.all false
set_option maxRecDepth 100000
set_option maxHeartbeats 4000000
namespace DL
open PySem PySem.Spec PyProof.Rows L2
/-! ### dict(..) of a list of pairs -/
end DL
set_option Elab.async false
set_option linter.all false
set_option maxRecDepth 100000
set_option maxHeartbeats 4000000
namespace DL
open PySem PySem.Spec PyProof.Rows L2
end DL
set_option Elab.async false
set_option linter.all false
set_option maxRecDepth 100000
set_option maxHeartbeats 4000000
namespace DL
open PySem PySem.Spec PyProof.Rows L2
/-! ### s.upper(), of plain signs -/
end DL
set_option Elab.async false
set_option linter.all false
set_option maxRecDepth 100000
set_option maxHeartbeats 4000000
namespace DL
open PySem PySem.Spec PyProof.Rows L2
/-! ### repr of lists in which dicts of plain contents stand -/
def scal : D → Bool
  | .non | .bl _ | .str _ => true
  | .int i => decide (i.natAbs.log2 < 1920)
  | _ => false
def showX : Nat → D → Bool
  | n + 1, .lst l => l.all (showX n)
  | 0, .lst _ => false
  | _, .dic false l => l.all fun p => scal p.1 && scal p.2
  | n, d => showB n d
def toQ : Nat → D → PyData
  | n + 1, .lst l => .list (l.map (toQ n))
  | _, .dic false l => .dict (l.map fun p => (toP 0 p.1, toP 0 p.2))
  | n, d => toP n d
/-- what a value in the heap h shows, and that the model's own showing comes to it -/
def GoodK (P : Program) (w : World) (h : Heap) (v : Value) (d : PyData) : Prop := ∃ as bs, Reads h v d as ∧ ReadAtMost h d.depth bs ∧ ReprK P w bs h d.depth v d.shown
section
variable {P : Program} {w : World} {h : Heap}
theorem gk_plain {v : Value} {d : PyData} {as : List Addr} (r : Reads h v d as) (hs : d.showable = true) (hn : d.hasDict = false) (hz : d.shown.length ≤ sizeLine) : GoodK P w h v d := by
  obtain ⟨bs, b1, b2⟩ := ReprK.of_reads (prog := P) (w := w) r hs (fun z => absurd (hn.symm.trans z) Bool.false_ne_true) hz
  exact ⟨as, bs, r, b1, b2⟩
/-- all of some values -/
theorem gk_all : ∀ {vs : List Value} {ds : List PyData}, Paired (fun v d => GoodK P w h v d) vs ds → ∃ as bs, ReadsAll h vs ds as ∧ ReadAtMost h (PyData.depthAll ds) bs ∧ ReprAllK P w bs h (PyData.depthAll ds) vs (PyData.shownAll ds)
  | _, _, .nil => ⟨[], [], .nil, (fun _ z => nomatch z), .nil⟩
  | _, _, .cons (a := v) (b := d) g t => by
    obtain ⟨as, bs, r1, r2, r3⟩ := g
    obtain ⟨cs, es, q1, q2, q3⟩ := gk_all t
    refine ⟨as ++ cs, bs ++ es, .cons r1 q1, ReadAtMost.append ?_ ?_, ?_⟩
    · exact r2.mono (by unfold PyData.depthAll; exact Nat.le_max_left _ _)
    · exact q2.mono (by rw [PyData.depthAll]; exact Nat.le_max_right _ _)
    · rw [PyData.depthAll, PyData.shownAll]
      refine .cons (ReprK.level_le (ReprK.more r3 fun b z => List.mem_append.mpr (.inl z)) ?_) (ReprAllK.more_le (fun b z => List.mem_append.mpr (.inr z)) ?_ q3)
      · exact Nat.le_max_left _ _
      · exact Nat.le_max_right _ _
theorem gk_list {a : Addr} {its : List Value} {n : Nat} {ds : List PyData} (ha : h.get? a = some { cls := .type "list", data := .seq its.toArray n }) (g : Paired (fun v d => GoodK P w h v d) its ds) : GoodK P w h (.ref a) (.list ds) := by
  obtain ⟨as, bs, r1, r2, r3⟩ := gk_all g
  have r : Reads h (.ref a) (.list ds) (a :: as) := .list ha rfl rfl (by simpa using r1)
  have dp : (PyData.list ds).depth = PyData.depthAll ds + 1 := by rw [PyData.depth]
  have hna : a ∉ bs := not_mem_of_deeper r (by omega) r2
  refine ⟨a :: as, a :: bs, r, ReadAtMost.cons r (by omega) r2, ?_⟩
  rw [dp, PyData.shown]
  cases its with
  | nil =>
    cases g
    exact ReprK.listEmpty ha rfl rfl
  | cons x l => exact ReprK.list ha rfl rfl hna (by simpa using r3.length_eq) fun i y e => r3.item i y (by simpa using e)
end
section
variable {X : Cx} {pins : List (Addr × Obj)} {σ : L2.St} {H : Hp} {s : Shared} {R : Rc} {B : Bz}
theorem toP_scal {n : Nat} {d : D} (h : scal d = true) : toP n d = toP 0 d ∧ (toP 0 d).showable = true ∧ (toP 0 d).hasDict = false ∧ (∀ l, d ≠ .lst l) ∧ flat 0 d = true := by
  cases d <;> first
    | (cases h; done)
    | exact ⟨by cases n <;> rfl, rfl, rfl, by simp, rfl⟩
    | exact ⟨by cases n <;> rfl, h, rfl, by simp, rfl⟩
theorem reads_key {w : World} {P : Program} {hp : Heap} {k : Key} {v : Value} (h : (mixKind P w).is k v = true) : Reads hp v (toP 0 (keyD k)) [] := by
  rcases keyIs_shape h with ⟨i, t, rfl, rfl⟩ | ⟨x, t, rfl, rfl⟩
  · exact .int i t
  · have e : toP 0 (keyD (.inr x)) = .str x := by simp [keyD, toP]
    rw [e]
    exact .str x t
theorem reads_scal {hp : Heap} {x : V} {v : Value} {d : D} (r : Rep R H B x d) (rx : RelV x v) (h : scal d = true) : Reads hp v (toP 0 d) [] := by
  cases d with
  | non => cases r; cases rx; exact .none
  | bl b => cases r; cases rx; exact .bool b
  | int i => cases r; obtain ⟨t, rfl⟩ := rx; exact .int i t
  | str z =>
    cases r with
    | str y =>
      obtain ⟨t, rfl⟩ := rx
      have e : toP 0 (.str y.cps.toList) = .str y := by simp [toP]
      rw [e]
      exact .str y t
  | _ => cases h
theorem reads_pairs {P : Program} {w : World} {hp : Heap} : ∀ {kvs : List (Key × V)} {ds : List (D × D)} {vs : List (Key × Value)} {es : List DictEntry}, RepK R H B kvs ds → KV kvs vs → Pairs (mixKind P w) es vs → (ds.all fun p => scal p.1 && scal p.2) = true →
    ReadsAll hp (es.map (·.key)) ((ds.map fun p => (toP 0 p.1, toP 0 p.2)).map (·.1)) [] ∧ ReadsAll hp (es.map (·.val)) ((ds.map fun p => (toP 0 p.1, toP 0 p.2)).map (·.2)) []
  | _, _, _, _, .nil, .nil, .nil, _ => ⟨.nil, .nil⟩
  | _, _, _, _, .cons r1 r2, .cons k1 k2, .cons p1 p2 p3, h => by
    rw [List.all_cons, Bool.and_eq_true, Bool.and_eq_true] at h
    obtain ⟨i1, i2⟩ := reads_pairs (hp := hp) r2 k2 p3 h.2
    obtain ⟨e1, e2⟩ := k1
    have a1 : Reads hp _ (toP 0 (keyD _)) [] := reads_key p1
    rw [← e1] at a1
    have a2 := reads_scal (hp := hp) r1 e2 h.1.2
    rw [← p2] at a2
    exact ⟨.cons (as := []) (bs := []) a1 i1, .cons (as := []) (bs := []) a2 i2⟩
theorem show_scal {ds : List (D × D)} (h : (ds.all fun p => scal p.1 && scal p.2) = true) : PyData.showableKv (ds.map fun p => (toP 0 p.1, toP 0 p.2)) = true := by
  induction ds with
  | nil => rfl
  | cons p ds ih =>
    rw [List.all_cons, Bool.and_eq_true, Bool.and_eq_true] at h
    have a1 := (toP_scal (n := 0) h.1.1).2.1
    have a2 := (toP_scal (n := 0) h.1.2).2.1
    rw [List.map_cons]
    unfold PyData.showableKv
    rw [a1, a2, ih h.2]
    rfl
theorem gk_of (I : Inv X pins σ H s) (hK : X.K = R.K) : ∀ (n : Nat) (d : D) (x : V) (v : Value), showX n d = true → Rep R H B x d → RelV x v → (toQ n d).shown.length ≤ sizeLine → GoodK X.prog X.w s.heap v (toQ n d) := by
  intro n
  induction n with
  | zero =>
    intro d x v hs r rx hz
    cases d with
    | lst l => cases hs
    | dic b l => cases b with
      | true => cases hs
      | false => exact dict_ I hs r rx hz
    | obj c l => cases hs
    | exn c l => cases hs
    | scr l => cases hs
    | ref l => cases hs
    | fn l => cases hs
    | cls l => cases hs
    | ty l => cases hs
    | _ => exact flat_ I hK hs r rx hz
  | succ n ih =>
    intro d x v hs r rx hz
    cases d with
    | lst l =>
      cases r with
      | @lst a xs _ hH hB rr =>
        cases rx
        obtain ⟨_, its, m, rv, hob⟩ := I.hok a _ hH
        have hz2 : (listText (PyData.shownAll (l.map (toQ n)))).length ≤ sizeLine := by
          have e : (toQ (n + 1) (.lst l)).shown = listText (PyData.shownAll (l.map (toQ n))) := by rw [toQ, PyData.shown]
          rw [← e]; exact hz
        refine gk_list hob (items_ ih rr rv (show l.all (showX n) = true from hs) fun t ht => Nat.le_trans (listText_mem_le ht) hz2)
    | dic b l => cases b with
      | true => cases hs
      | false => exact dict_ I hs r rx hz
    | obj c l => cases hs
    | exn c l => cases hs
    | scr l => cases hs
    | ref l => cases hs
    | fn l => cases hs
    | cls l => cases hs
    | ty l => cases hs
    | _ => exact flat_ I hK hs r rx hz
where
  dict_ {n : Nat} {l : List (D × D)} {x : V} {v : Value} (I : Inv X pins σ H s) (hs : showX n (.dic false l) = true) (r : Rep R H B x (.dic false l)) (rx : RelV x v) (hz : (toQ n (.dic false l)).shown.length ≤ sizeLine) : GoodK X.prog X.w s.heap v (toQ n (.dic false l)) := by
    have hs2 : (l.all fun p => scal p.1 && scal p.2) = true := by cases n <;> exact hs
    have eq : toQ n (.dic false l) = .dict (l.map fun p => (toP 0 p.1, toP 0 p.2)) := by cases n <;> rw [toQ]
    rw [eq] at hz ⊢
    cases r with
    | @dicK a kvs _ hH hB rk =>
      cases rx
      obtain ⟨_, hsys, vs, kv, o, es, ep, ho, hx, hd, _, pr, _⟩ := I.hok a _ hH
      obtain ⟨k1, k2⟩ := reads_pairs (hp := s.heap) rk kv pr hs2
      have rd : Reads s.heap (.ref a) (.dict (l.map fun p => (toP 0 p.1, toP 0 p.2))) (a :: [] ++ []) := .dict ho hx.1 hd k1 k2
      obtain ⟨bs, b1, b2⟩ := ReprK.of_reads (prog := X.prog) (w := X.w) rd (by rw [PyData.showable]; exact show_scal hs2) (fun _ z => by
        have : sysModules = a := by simpa using z
        rw [this] at hsys
        simp at hsys) hz
      exact ⟨_, bs, rd, b1, b2⟩
  flat_ {n : Nat} {d : D} {x : V} {v : Value} (I : Inv X pins σ H s) (hK : X.K = R.K) (hs : showB n d = true) (r : Rep R H B x d) (rx : RelV x v) (hz : (toP n d).shown.length ≤ sizeLine) : GoodK X.prog X.w s.heap v (toP n d) := by
    obtain ⟨h1, h2, h3⟩ := flat_show n d hs
    obtain ⟨as, r1⟩ := Dp.reads I _ x v (by rw [hK]; exact dp_of n x d r h1) rx
    exact gk_plain r1 h2 h3 hz
  items_ {n : Nat} {xs : List V} {l : List D} {its : List Value} (ih : ∀ (d : D) (x : V) (v : Value), showX n d = true → Rep R H B x d → RelV x v → (toQ n d).shown.length ≤ sizeLine → GoodK X.prog X.w s.heap v (toQ n d)) (rr : Reps R H B xs l) (rv : Vals xs its) (hs : l.all (showX n) = true) (hz : ∀ t ∈ PyData.shownAll (l.map (toQ n)), t.length ≤ sizeLine) : Paired (fun v d => GoodK X.prog X.w s.heap v d) its (l.map (toQ n)) := by
    induction l generalizing xs its with
    | nil => cases rr; cases rv; exact .nil
    | cons d l ihl =>
      cases rr with
      | cons r1 r2 =>
        cases rv with
        | cons v1 v2 =>
          rw [List.all_cons, Bool.and_eq_true] at hs
          rw [List.map_cons, PyData.shownAll] at hz
          refine .cons (ih _ _ _ hs.1 r1 v1 (hz _ List.mem_cons_self)) (ihl r2 v2 hs.2 fun t ht => hz t (List.mem_cons_of_mem _ ht))
theorem depth_all {n : Nat} {l : List D} (ih : ∀ d, showX n d = true → (toQ n d).depth ≤ n + 1) : l.all (showX n) = true → PyData.depthAll (l.map (toQ n)) ≤ n + 1 := by
  induction l with
  | nil => intro _; exact Nat.zero_le _
  | cons d l ihl =>
    intro h
    rw [List.all_cons, Bool.and_eq_true] at h
    have a1 := ih d h.1
    have a2 := ihl h.2
    rw [List.map_cons, PyData.depthAll]
    omega
theorem depth_kv {l : List (D × D)} : (l.all fun p => scal p.1 && scal p.2) = true → PyData.depthKv (l.map fun p => (toP 0 p.1, toP 0 p.2)) = 0 := by
  have z : ∀ {d : D}, scal d = true → (toP 0 d).depth = 0 := fun {d} h => by cases d <;> first | (cases h; done) | rfl
  induction l with
  | nil => intro _; rfl
  | cons p l ihl =>
    intro h
    rw [List.all_cons, Bool.and_eq_true, Bool.and_eq_true] at h
    rw [List.map_cons, PyData.depthKv, z h.1.1, z h.1.2, ihl h.2]
    rfl
theorem depth_toQ : ∀ (n : Nat) (d : D), showX n d = true → (toQ n d).depth ≤ n + 1 := by
  have other : ∀ (n : Nat) (d : D), showB n d = true → (toP n d).depth ≤ n + 1 := fun n d h => depth_toP n d (flat_show n d h).1
  have dc : ∀ (n : Nat) (l : List (D × D)), showX n (.dic false l) = true → (toQ n (.dic false l)).depth ≤ n + 1 := fun n l h => by
    have eq : toQ n (.dic false l) = .dict (l.map fun p => (toP 0 p.1, toP 0 p.2)) := by cases n <;> rw [toQ]
    have h2 : (l.all fun p => scal p.1 && scal p.2) = true := by cases n <;> exact h
    rw [eq, PyData.depth, depth_kv h2]
    omega
  intro n
  induction n with
  | zero =>
    intro d h
    cases d with
    | lst l => cases h
    | dic b l => cases b with
      | true => cases h
      | false => exact dc 0 l h
    | _ => first | (cases h; done) | exact other 0 _ h
  | succ n ih =>
    intro d h
    cases d with
    | lst l =>
      have e : (toQ (n + 1) (.lst l)).depth = PyData.depthAll (l.map (toQ n)) + 1 := by rw [toQ, PyData.depth]
      have := depth_all ih (show l.all (showX n) = true from h)
      omega
    | dic b l => cases b with
      | true => cases h
      | false => exact dc (n + 1) l h
    | _ => first | (cases h; done) | exact other (n + 1) _ h
end
def reprXT (l : List D) : List Nat := (toQ 60 (.lst l)).shown.cps.toList
def reprX0 : List D → Option D
  | [.lst l] => if showX 60 (.lst l) = true ∧ (reprXT l).length ≤ lim then some (.str (reprXT l)) else none
  | _ => none
@[irreducible] def reprX (l : List D) : Option D := reprX0 l
section
variable {Γ : Gl}
theorem soc_reprX : CalS Γ false (.builtin "repr") reprX := by
  intro S n X Wx a hc pins s σ H xs us Q F G ds d I rv g vs e k
  unfold reprX at e
  match ds, vs, e with
  | [.lst l], vs, e =>
    simp only [reprX0] at e
    split at e
    · rename_i hb
      cases e
      obtain ⟨x, rfl, vx⟩ := al1 vs
      obtain ⟨u, rfl, ru⟩ := vals1 rv
      obtain ⟨b, ys, rfl, h1, r1⟩ := vx.lst
      cases ru
      have hK : X.K = Γ.R.K := a.K
      obtain ⟨_, its, m, vi, hob⟩ := I.hok b _ h1
      have hsh : (toQ 60 (.lst l)).shown = listText (PyData.shownAll (l.map (toQ 59))) := by rw [toQ, PyData.shown]
      have hall : l.all (showX 59) = true := hb.1
      have hz : (listText (PyData.shownAll (l.map (toQ 59)))).length ≤ sizeLine := by rw [← hsh, ← lim_eq]; simpa [reprXT, Str.length] using hb.2
      have gi := gk_of.items_ (gk_of I hK 59) r1 vi hall fun t ht => Nat.le_trans (listText_mem_le ht) hz
      have fin : ∀ h' v tk, (∀ c o, s.heap.get? c = some o → h'.get? c = some o) → EP X pins σ Q (.str (listText (PyData.shownAll (l.map (toQ 59)))) v) { s with heap := h', toks := tk } := fun h' v tk hk => by
        rw [← hsh]
        exact ⟨.str (toQ 60 (.lst l)).shown, H, I.kept hk, ⟨v, rfl⟩, k _ H (Ext.refl _ _) g (.str _)⟩
      have dp := depth_all (depth_toQ 59) hall
      have hu := a.units
      refine call_repr_slot (by omega) ⟨_, hob, rfl⟩ PySem.F.slot_list_repr.toG ?_
      obtain ⟨as, bs, q1, q2, q3⟩ := gk_all gi
      have rd : Reads s.heap (.ref b) (.list (l.map (toQ 59))) (b :: as) := .list hob rfl rfl (by simpa using q1)
      have hna : b ∉ bs := not_mem_of_deeper rd (by rw [PyData.depth]; omega) q2
      cases its with
      | nil =>
        have hl : l.map (toQ 59) = [] := List.eq_nil_of_length_eq_zero gi.length.symm
        rw [hl] at fin
        exact call_list_repr_empty ⟨_, hob, rfl⟩ hob rfl ⟨_, _, rfl, fin s.heap _ _ fun _ _ e => e⟩
      | cons y its =>
        refine call_list_reprK (A := X.A.in1) hob rfl rfl hna (by simpa using q3.length_eq) (fun i y e => q3.item i y (by simpa using e)) a.gd (fun c _ => Clear.nil c) (by show X.A.units + 1 + _ < cLine; omega) (fun _ _ e => e) (fun h' v tk hk => ⟨_, _, rfl, fin h' v tk hk⟩) hz
    · cases e
end
end DL
set_option Elab.async false
set_option linter.all false
set_option maxRecDepth 100000
set_option maxHeartbeats 4000000
/-! exceptions made by a keyword, and of classes without an own __init__ -/
namespace PySem.HandSPX
open PySem PySem.W PySem.Calls PyProof.Rows
section
variable {M : Model} {A : Around} {E : Value → Shared → Prop} {h : Heap} {g : Array GenState} {d : Drawn} {t : Nat} {os : OsState} {nm q k : Str} {C N : Addr} {bs bm bmB : List Value} {hdct : Bool} {sn : List Str} {sub : List Value} {ab : Bool} {col : Option Bool} {dd : Option Addr} {k0 k1 k2 k3 k5 : Option Value} {B newId initId : String} {u : Value}
theorem newK_check {Q : Unit → Shared → Prop} (F : ExcBaseFacts B newId initId bmB) (hT : ∀ X : String, bm.contains (.type X) = bmB.contains (.type X)) (hC : h.get? C = some (excClassObj nm q C N bs bm hdct sn sub ab col dd k0 k1 k2 k3 k5 newId)) (z : Q () ⟨h, g, d, t, os⟩) : wpAny M A (checkBuiltinCall newId ⟨[.ref C], [(k, u)]⟩) Q E ⟨h, g, d, t, os⟩ := by
  have inB : (Value.ref C :: bm).contains (.type B) = true := by rw [List.contains_cons, hT, F.hasB, Bool.or_true]
  have star := F.noStar
  simp only [checkBuiltinCall, F.newKind, F.newSplit, F.newRow]
  repeat (first | refine wpAny_loadPart_at hC ?_ | (refine wpAny_isSubtype_exc hC ?_; rw [inB]) | refine wpAny_staticBase_exc hC ?_ | refine wpAny_madeBy_exc hC ?_ | simp only [bne_self_eq_false, Bool.false_eq_true, if_false] | wp_step)
  exact z
end
section
variable {prog : Program} {w : World} {A : Around} {E : Value → Shared → Prop} {R : Result → Shared → Prop} {h : Heap} {g : Array GenState} {d : Drawn} {t : Nat} {os : OsState} {nm q k : Str} {C N : Addr} {bs bm bmB : List Value} {hdct : Bool} {sn : List Str} {sub : List Value} {ab : Bool} {col : Option Bool} {dd : Option Addr} {k0 k1 k2 k3 k5 : Option Value} {B newId initId : String} {u : Value}
theorem newK_made (F : ExcBaseFacts B newId initId bmB) (hT : ∀ X : String, bm.contains (.type X) = bmB.contains (.type X)) (hC : h.get? C = some (excClassObj nm q C N bs bm hdct sn sub ab col dd k0 k1 k2 k3 k5 newId))
    (z : R (.ok (.ret (.ref (h.objs.size + 1)))) ⟨(h.push (W.kdv_tup [])).push (excO C h.objs.size), g, d, t, os⟩) : codeAny (model prog w) A (.builtin newId ⟨[.ref C], [(k, u)]⟩) R ⟨h, g, d, t, os⟩ := by
  have ends := F.ends
  have inB : (Value.ref C :: bm).contains (.type B) = true := by rw [List.contains_cons, hT, F.hasB, Bool.or_true]
  have inA : (Value.ref C :: bm).contains (.type "AttributeError") = false := by rw [List.contains_cons, hT, F.noAttr]; rfl
  have inN : (Value.ref C :: bm).contains (.type "NameError") = false := by rw [List.contains_cons, hT, F.noName]; rfl
  refine codeAny_builtinAt F.entry ?_
  unfold Builtin.«BaseException.__new__»
  refine wpAt_bind ?_
  show wpAt _ _ _ (stack >>= _) _ _ _
  refine wpAt_bind (wpAt_stack fun p below => wpAt_of_wpAny ?_)
  wp_walk
  refine wpAt_of_wpAny ?_
  rw [F.owner]
  repeat (first | with_reducible refine wpAny_madeHere_exc F.canon hC ?_ | with_reducible refine wpAny_loadPart_at hC ?_ | (with_reducible refine wpAny_isSubtype_exc hC ?_; first | rw [inB] | rw [inA] | rw [inN]) | wp_step)
  show R _ _
  rw [Heap.size_push]
  exact z
theorem callK_type {Q : Fin → Shared → Prop} {fI : Addr} (F : ExcBaseFacts B newId initId bmB) (hT : ∀ X : String, bm.contains (.type X) = bmB.contains (.type X)) (hC : h.get? C = some (excClassObj nm q C N bs bm hdct sn sub ab col dd k0 k1 k2 k3 k5 newId))
    (hi : W.Looks (model prog w) h (typeLookup (.ref C) "__init__") (some (.ref fI))) (hb : ∀ self, W.Looks (model prog w) h (bindSpecial (.ref fI) self) (.ref fI, [self]))
    (z : codeAny (model prog w) A (.call (.ref fI) ⟨[.ref (h.objs.size + 1)], [(k, u)]⟩) (fun r s' => match r with | .ok (.ret v) => v = .none ∧ Q (.done (.ret (.ref (h.objs.size + 1)))) s' | .ok _ => False | .error e => E e s') ⟨(h.push (W.kdv_tup [])).push (excO C h.objs.size), g, d, t, os⟩) :
    wpAny (model prog w) A (Builtin.«type.__call__» ⟨[.ref C], [(k, u)]⟩) Q E ⟨h, g, d, t, os⟩ := by
  repeat (first | with_reducible refine wpAny_loadPart_at hC ?_ | with_reducible refine wpAny_madeBy_exc hC ?_ | wp_step)
  refine codeAny_call_builtin_code (Code.quiet_builtin _ F.quiet) (newK_check F hT hC ?_)
  refine newK_made F hT hC ?_
  show wpAny _ _ _ _ _ _
  have kp : ∀ b o, h.get? b = some o → ((h.push (W.kdv_tup [])).push (excO C h.objs.size)).get? b = some o := fun b o e => Heap.get?_push_of_some _ (Heap.get?_push_of_some _ e)
  have hC2 := kp _ _ hC
  have got : ((h.push (W.kdv_tup [])).push (excO C h.objs.size)).get? (h.objs.size + 1) = some (excO C h.objs.size) := by heap_get
  have inC : (Value.ref C :: bm).contains (.ref C) = true := by simp
  have i2 := hi.keeps kp
  have b2 := (hb (.ref (h.objs.size + 1))).keeps kp
  unfold isInstance
  repeat (first | with_reducible refine wpAny_loadPart_at got ?_ | (with_reducible refine wpAny_isSubtype_exc hC2 ?_; rw [inC]) | wp_step)
  show wpAny _ _ (typeLookup (.ref C) _) _ _ _
  refine i2.at ?_
  refine wpAny_holding (wpAny_bind (b2.at ?_))
  refine wpAny_bind (wpAny_call (codeAny_mono z fun r s' y => ?_))
  rcases r with e | (v | _ | _ | _) <;> first | exact y | exact y.elim | skip
  obtain ⟨rfl, y⟩ := y
  first
    | exact wpAny_pure (wpAny_pure y)
    | (wp_walk; exact y)
theorem callK_own {fI : Addr} (F : ExcBaseFacts B newId initId bmB) (hT : ∀ X : String, bm.contains (.type X) = bmB.contains (.type X)) (hC : h.get? C = some (excClassObj nm q C N bs bm hdct sn sub ab col dd k0 k1 k2 k3 k5 newId))
    (hi : W.Looks (model prog w) h (typeLookup (.ref C) "__init__") (some (.ref fI))) (hb : ∀ self, W.Looks (model prog w) h (bindSpecial (.ref fI) self) (.ref fI, [self]))
    (z : codeAny (model prog w) (A.under (.builtin "type.__call__" ⟨[.ref C], [(k, u)]⟩)) (.call (.ref fI) ⟨[.ref (h.objs.size + 1)], [(k, u)]⟩) (W.InitBack (h.objs.size + 1) R) ⟨(h.push (W.kdv_tup [])).push (excO C h.objs.size), g, d, t, os⟩) :
    codeAny (model prog w) A (.call (.ref C) ⟨[], [(k, u)]⟩) R ⟨h, g, d, t, os⟩ := by
  have t1 := tc_lookup
  have t2 := tc_bind (.ref C)
  have ty : (⟨h, g, d, t, os⟩ : Shared).TypeIs (.ref C) "type" := ⟨_, hC, rfl⟩
  refine codeAny_of_tree ?_
  show wpAny _ _ (callAny (.ref C) _) _ _ _
  repeat (any_goals (first | assumption | with_reducible refine wpAny_loadPart_at hC ?_ | wp_step))
  refine ⟨rfl, ?_⟩
  refine codeAny_call_builtin_at (Code.quiet_builtin _ (by decide +kernel)) entry_typeCall (wpAny_check_type_call_sub hC (callK_type F hT hC hi hb ?_))
  refine codeAny_mono z fun r s' y => ?_
  rcases r with e | (v | _ | _ | _) <;> exact y
end
end PySem.HandSPX
namespace DLX
open PySem PySem.Spec PyProof.Rows L2 DL
/-- the class with its __init__, called by the keyword k -/
structure ExJ (P : Program) (w : World) (K : PySem.W.Frag) (mg : Str → Option Value) (base : Heap) (C : Addr) (f k : Str) : Prop where
  T : ExC K C
  no : PySem.W.findIn K (.ref C) f = some none
  fn : ∃ (fI : Addr) (fd : FuncData) (ps : List Str), PySem.W.findIn K (.ref C) "__init__" = some (some (.ref fI)) ∧ PySem.W.typeIn K (.ref fI) = some (.type "function") ∧ FnOk P w K mg base C8.CX0 1 fI fd ps (spI K C f) ∧ ∃ q, KBn K fd ps 1 [k] q (fun vs zs => vs ++ zs)
theorem exj_of {P : Program} {w : World} {K : PySem.W.Frag} {mg : Str → Option Value} {base : Heap} {C fI : Addr} {f k self x : Str} {qual : Str} {params : Arguments} {scope : Scope} {fd : FuncData} {p1 p2 p3 pos : Pos}
    (T : ExC K C) (h : exiB K f C fI = true) (F : FunD K "__init__" qual params [.Assign [.Attribute (.Name self p1) f p2] (.Name x p3) pos] scope [] [] fI fd) (hs : C8.scC [self, x] [self, x] scope = true)
    (hb : ∀ (kV doc pm : Value) (an : Option Addr) (cdv ct : Value) (us ws : List Value), us.length = 1 → ws.length = ([k] : List Str).length → bindArgs (PySem.W.fnOf "__init__" qual params [.Assign [.Attribute (.Name self p1) f p2] (.Name x p3) pos] scope .none kV doc pm an cdv ct) ⟨us, [k].zip ws⟩ = pure ([self, x].zip (us ++ ws)))
    (v1 : visB scope self = true := by rfl) (v2 : visB scope x = true := by rfl) (d1 : dbgB self = false := by decide +kernel) (d2 : dbgB x = false := by decide +kernel) (hw : ∀ env : Env, swapsWith (.Name x p3) (some (.Attribute (.Name self p1) f p2)) pos.line env = pure false := by intro _; rfl) : ExJ P w K mg base C f k := by
  have ⟨h1, h⟩ := Bool.and_eq_true_iff.mp h
  have ⟨h2, h3⟩ := Bool.and_eq_true_iff.mp h
  refine ⟨T, He.eqO_ok h1, fI, fd, _, He.eqO_ok h2, of_decide_eq_true h3, ?_, kbn_kw F 1 [k] (fun _ us ws => us ++ ws) (fun r1 r2 => r1.append r2) hb⟩
  have e1 := Bool.or_eq_false_iff.mp d1
  have e2 := Bool.or_eq_false_iff.mp d2
  refine F.ok (C8.fnScope_by hs) (fun vs H Q E ⟨a, v, e, _⟩ => by rw [e]; rfl) fun cdv A outer s H vs Q E hr h => ?_
  obtain ⟨a, v, rfl, T, no, ea, q⟩ := h
  refine ⟨_, pss_one (ps_ost1 (pe_var (i := 0) rfl (visB_ok v1) e1.1 e1.2) (pe_var (i := 1) rfl (visB_ok v2) e2.1 e2.2) (hw _)), ?_⟩
  exact ⟨_, rfl, _, rfl, a, C, rfl, T, no, ea, fun dx n ne => q dx n ne⟩
/-- C(k = e) -/
theorem pmk_oexK {X : Cx} {x f k : Str} {C : Addr} {kws : List Keyword} {ta : TA} {p pos : Pos} (T : ExJ X.prog X.w X.K X.mg X.base C f k) (hr : Room 2 X.A) (hg : Gl X x) (hm : X.mg x = some (.ref C)) (ha : PK X kws ta) (hka : kwAll kws = true) (hkn : kwNames kws = [k]) (hdb : (x == ("__debug__" : Str)) = false := by decide) :
    PMk X (.Call (.Name x p) [] kws pos) (tMkX C f ta) := by
  intro pins s σ H Q I h
  obtain ⟨B, newId, initId, bmB, FB, SF, hin, hov⟩ := T.T.cls
  obtain ⟨fI, fd, ps, iC, tI, F1, bq, hb⟩ := T.fn
  obtain ⟨w1, w2, w3, w4⟩ := kw_ok (env := X.env) (pos := pos) hka
  refine wpAny_Call_Name_kw (ld_glob I hg hm ?_ hdb)
  refine PySem.W.callWith_KW0 (h₀ := X.base) I.ok.mod.kin T.T.kC w1 ?_ (by show (false || (backToKw pos (keywordEach kws X.env)).any (·.1.isNone)) = false; rw [w3]; rfl)
  refine thn (ha.run pos pins s σ H _ I h) fun us s1 ⟨vs, H1, I1, r1, v, ev, q1⟩ => ⟨I1.kIn, ?_⟩
  rw [w2, hkn]
  subst ev
  obtain ⟨u, rfl, ru⟩ := vals1 r1
  show wpAny _ _ (call (.ref C) [] [(k, u)]) _ _ _
  obtain ⟨hp, g, dr, tk, os⟩ := s1
  obtain ⟨nm, N', qn, bs, bm, hdct, sn, sub, ab, col, dd, k0, k1, k2, k3, k5, hC, hT⟩ := PySem.W.excInit_of I1.kIn hin
  have big : hp.objs.size ≤ hp.objs.size + 1 := Nat.le_succ _
  have hn : H1 (hp.objs.size + 1) = none := I1.hok.fresh big
  have kk : ∀ b o, hp.get? b = some o → ((hp.push (PySem.W.kdv_tup [])).push (PySem.HandSPX.excO C hp.objs.size)).get? b = some o := fun b o e => Heap.get?_push_of_some _ (Heap.get?_push_of_some _ e)
  have got : ((hp.push (PySem.W.kdv_tup [])).push (PySem.HandSPX.excO C hp.objs.size)).get? (hp.objs.size + 1) = some (PySem.HandSPX.excO C hp.objs.size) := by heap_get
  have I2 : Inv X pins σ (upd H1 (hp.objs.size + 1) (exo (hp.objs.size + 1) C none)) ⟨(hp.push (PySem.W.kdv_tup [])).push (PySem.HandSPX.excO C hp.objs.size), g, dr, tk, os⟩ :=
    I1.laid (t' := tk) (a := hp.objs.size + 1) (o := exo (hp.objs.size + 1) C none) (h' := (hp.push (PySem.W.kdv_tup [])).push (PySem.HandSPX.excO C hp.objs.size)) kk big (exo_ok got)
  have r2 : Vals [V.ref (hp.objs.size + 1), v] (bq [Value.ref (hp.objs.size + 1)] [u]) := hb.rel (vs := [V.ref (hp.objs.size + 1)]) (us := [Value.ref (hp.objs.size + 1)]) (zs := [v]) (ws := [u]) (.cons rfl .nil) (.cons ru .nil)
  have hq : spI X.K C f [V.ref (hp.objs.size + 1), v] (upd H1 (hp.objs.size + 1) (exo (hp.objs.size + 1) C none)) (fun v' H2 => v' = .non ∧ ∃ (d : Addr) (fs : List (Str × V)), H2 (hp.objs.size + 1) = some (exo (hp.objs.size + 1) C (some d)) ∧ H2 d = some (exd d fs) ∧ H1 d = none ∧ Q (.ref C) (some d) (upd (del H2 (hp.objs.size + 1)) d (.xd fs))) (fun _ _ _ => False) := by
    refine ⟨_, v, rfl, T.T, T.no, upd_same, fun d n ne => ⟨rfl, d, [(f, v)], upd_same, by rw [upd_ne ne, upd_same], by rw [upd_ne ne] at n; exact n, ?_⟩⟩
    have e : upd (del (upd (upd (upd H1 (hp.objs.size + 1) (exo (hp.objs.size + 1) C none)) d (exd d [(f, v)])) (hp.objs.size + 1) (exo (hp.objs.size + 1) C (some d))) (hp.objs.size + 1)) d (.xd [(f, v)]) = upd H1 d (.xd [(f, v)]) := by
      funext b
      by_cases z1 : b = d
      · rw [z1, upd_same, upd_same]
      · rw [upd_ne z1, upd_ne z1]
        by_cases z2 : b = hp.objs.size + 1
        · rw [z2, del_same, hn]
        · rw [del_ne z2, upd_ne z2, upd_ne z1, upd_ne z2]
    rw [e]
    exact q1 d (by rw [upd_ne ne] at n; exact n)
  refine wpAny_call (PySem.HandSPX.callK_own FB hT hC (PySem.W.looks_findIn I1.kIn iC) (fun self => PySem.W.bind_fn I1.kIn self tI)
    (codeAny_mono (F1.run _ X.stack _ _ ⟨[Value.ref (hp.objs.size + 1)], [(k, u)]⟩ (bq [Value.ref (hp.objs.size + 1)] [u]) _ _ (fun _ _ _ => False) (hr.make C [] [(k, u)]) (I2.env0.make C [] [(k, u)])
      (hb.to ⟨(hp.push (PySem.W.kdv_tup [])).push (PySem.HandSPX.excO C hp.objs.size), g, dr, tk, os⟩ [Value.ref (hp.objs.size + 1)] [u] I2.kIn rfl rfl) r2 hq) fun r s' hq' => ?_))
  cases r with
  | error er => exact (show False from hq').elim
  | ok fl =>
    cases fl with
    | ret u =>
      obtain ⟨v', H2, os2, bare2, un2, hok2, rv, ev, d, fs, ea, ed, hd1, q2⟩ := hq'
      subst ev
      obtain ⟨h2, g2, d2, t2, os'⟩ := s'
      exact ⟨rv, mk_end (raises_own T.T.exC T.T.tyC) I1 big kk un2 hok2 os2 bare2 ea ed hd1 q2⟩
    | next => exact False.elim hq'
    | brk => exact False.elim hq'
    | cont => exact False.elim hq'
/-- C(), C without an own __init__ -/
theorem pmk_own0 {X : Cx} {C : Addr} {bmB : List Value} {B newId initId : String} {x : Str} {p pos : Pos} (F : ExcBaseFacts B newId initId bmB) (q : PySem.W.excIn X.K C bmB newId = true) (gC : X.mg x = some (.ref C)) (kC : PySem.W.keepIn X.K (.ref C) = true) (r : Raises X (.ref C)) (hg : Gl X x)
    (hdb : (x == ("__debug__" : Str)) = false := by decide) : PMk X (.Call (.Name x p) [] [] pos) (fun _ H Q => Q (.ref C) none H) := by
  intro pins s σ H Q I h
  refine wpAny_Call_Name_kw (ld_glob I hg gC ?_ hdb)
  refine PySem.W.callWith_KW0 (h₀ := X.base) (kws := []) I.ok.mod.kin kC rfl (thn (pk_nil.run pos pins s σ H (fun vs H1 => vs = [] ∧ H = H1) I ⟨rfl, rfl⟩) fun us s1 ⟨vs, H1, I1, r1, ev, eH⟩ => ?_)
  subst ev
  subst eH
  refine ⟨I1.kIn, ?_⟩
  cases r1
  show wpAny _ _ (call (.ref C) []) _ _ _
  obtain ⟨bm, N, nm, qn, bs, hdct, sn, sub, ab, col, dd, k0, k1, k2, k3, k5, mN, hC, hN, hni, T⟩ := exc_obj I1.kIn q
  refine wpAny_call_exc_subT F T hC hN hni (fun h' e hm => ?_) (Nat.zero_le _)
  exact mk_of I1 hm r h (I1.hok.gone hm.new)
end DLX
namespace DL
open PySem PySem.Spec PyProof.Rows L2
/-- the class numbered c at C, made by the keyword k -/
structure RaiseK (Γ : Gl) (x f k : Str) (c : Nat) (C : Addr) : Prop where
  I : DLX.ExJ Γ.P Γ.w Γ.R.K Γ.mg Γ.base C f k
  mg : Γ.mg x = some (.ref C)
  ev : Γ.R.exv c = some (.ref C)
  fl : (Γ.R.fld c).take 1 = [f]
/-- the class numbered c at C, without an own __init__ -/
structure Raise0 (Γ : Gl) (x : Str) (c : Nat) (C : Addr) : Prop where
  I : ∃ (B newId initId : String) (bmB : List Value), ExcBaseFacts B newId initId bmB ∧ PySem.W.excIn Γ.R.K C bmB newId = true
  mg : Γ.mg x = some (.ref C)
  ev : Γ.R.exv c = some (.ref C)
  ex : PySem.W.subIn Γ.R.K (.ref C) (.type "BaseException") = some true
  ty : PySem.W.typeIn Γ.R.K (.ref C) = some (.type "type")
  kC : PySem.W.keepIn Γ.R.K (.ref C) = true
def exnB (K : PySem.W.Frag) (B newId : String) (C : Addr) : Bool := PySem.W.excIn K C (bmOf B) newId && (decide (PySem.W.subIn K (.ref C) (.type "BaseException") = some true) && (decide (PySem.W.typeIn K (.ref C) = some (.type "type")) && PySem.W.keepIn K (.ref C)))
theorem raise0_of {Γ : Gl} {x : Str} {c : Nat} {C : Addr} {B newId initId : String} (FB : ExcBaseFacts B newId initId (bmOf B)) (h : exnB Γ.R.K B newId C = true) (mg : Γ.mg x = some (.ref C)) (ev : Γ.R.exv c = some (.ref C)) : Raise0 Γ x c C := by
  have ⟨h1, h⟩ := Bool.and_eq_true_iff.mp h
  have ⟨h2, h⟩ := Bool.and_eq_true_iff.mp h
  have ⟨h3, h4⟩ := Bool.and_eq_true_iff.mp h
  exact ⟨⟨B, newId, initId, bmOf B, FB, h1⟩, mg, ev, of_decide_eq_true h2, of_decide_eq_true h3, h4⟩
theorem raise0_A {Γ : Gl} {x : Str} {c : Nat} {C : Addr} (h : exnB Γ.R.K "ArithmeticError" "ArithmeticError.__new__" C = true) (mg : Γ.mg x = some (.ref C)) (ev : Γ.R.exv c = some (.ref C)) : Raise0 Γ x c C := raise0_of PySem.F.excBase_ArithmeticError h mg ev
section
variable {Γ : Gl} {S : Sc} {ob o o' : List Nat}
abbrev eExnK (c : Nat) (fk : WA) : WE := fun M ρ G Q E => fk M ρ G (fun ds G1 => Q (.exn c ds) G1) E
abbrev eExn0 (c : Nat) : WE := fun _ _ G Q _ => Q (.exn c []) G
theorem je_exnK {x f k : Str} {c : Nat} {C : Addr} {kws : List Keyword} {fk : WA} {p pos : Pos} (R0 : RaiseK Γ x f k c C) (hk : JK Γ S o kws fk) (hka : kwAll kws = true := by rfl) (hkn : kwNames kws = [k] := by rfl) (hrm : Nat.ble 2 S.rm = true := by rfl) (hcl : S.calm = true := by rfl) (hg : glB S.sc x = true := by rfl) (hdb : dbgB x = false := by decide +kernel) :
    JE Γ S o (.Call (.Name x p) [] kws pos) (eExnK c fk) := by
  have hrm2 := Nat.le_of_ble_eq_true hrm
  refine ⟨fun n X Wx a => ⟨fun pins s σ H Q I ⟨F, ad, ρ, G, Qd, Ed, rs, hf, k1, k2⟩ => ?_⟩⟩
  have hd : X.A.handled = none := I.ok.hd (a.calm.trans hcl)
  have T : DLX.ExJ X.prog X.w X.K X.mg X.base C f k := by rw [a.prog, a.w, a.K, a.mg, a.base]; exact R0.I
  refine (pe_pmk (DLX.pmk_oexK (p := p) (pos := pos) T ⟨hd, by have := a.room.dp; omega, by have := a.room.un; omega⟩ (glB_ok a hg) (by rw [a.mg]; exact R0.mg) (hk.run n X Wx a) hka hkn (Bool.or_eq_false_iff.mp hdb).1)).run pins s σ H Q I ?_
  refine ⟨F, ad, ρ, G, (fun ds G1 => Qd (.exn c ds) G1), Ed, rs, hf, fun vs H1 ds G1 e1 g1 r1 q1 => ?_, k2⟩
  obtain ⟨r1, l1⟩ := r1
  have hlen : kws.length = 1 := by
    have := (kw_ok (env := X.env) (pos := pos) hka).2.2.2
    rw [hkn] at this
    exact this.symm
  rw [hlen] at l1
  match vs, ds, r1, l1 with
  | [v], [d], .cons rv .nil, _ =>
    refine ⟨v, rfl, fun dd hdd a ha => ?_⟩
    have hne : dd ≠ a := fun z => by rw [← z, upd_same] at ha; cases ha
    have g2 := g1.new (o := .xd [(f, v)]) hdd
    have e2 : Ext H1 G1 (upd H1 dd (.xd [(f, v)])) G1 := Ext.upd hdd
    have g3 := g2.new (o := XO a (.ref C) (some dd)) ha
    have e3 : Ext (upd H1 dd (.xd [(f, v)])) G1 (upd (upd H1 dd (.xd [(f, v)])) a (XO a (.ref C) (some dd))) G1 := Ext.upd ha
    refine k1 _ _ _ G1 (e1.trans (e2.trans e3)) g3 ?_ q1
    refine .exn (d := dd) R0.ev upd_same (by rw [upd_ne hne]; exact upd_same) (g2.busy ha) (g1.busy hdd) (by rw [show ([(f, v)] : List (Str × V)).length = 1 from rfl, R0.fl]; rfl) (.cons ((rv.mv (ext_new hdd)).mv (ext_new ha)) .nil)
theorem je_exn0 {x : Str} {c : Nat} {C : Addr} {p pos : Pos} (R0 : Raise0 Γ x c C) (hg : glB S.sc x = true := by rfl) (hdb : dbgB x = false := by decide +kernel) : JE Γ S o (.Call (.Name x p) [] [] pos) (eExn0 c) := by
  refine ⟨fun n X Wx a => ⟨fun pins s σ H Q I ⟨F, ad, ρ, G, Qd, Ed, rs, hf, k1, k2⟩ => ?_⟩⟩
  obtain ⟨B, newId, initId, bmB, FB, hin⟩ := R0.I
  refine (pe_pmk (DLX.pmk_own0 (p := p) (pos := pos) FB (by rw [a.K]; exact hin) (by rw [a.mg]; exact R0.mg) (by rw [a.K]; exact R0.kC) (raises_own (by rw [a.K]; exact R0.ex) (by rw [a.K]; exact R0.ty)) (glB_ok a hg) (Bool.or_eq_false_iff.mp hdb).1)).run pins s σ H Q I ?_
  intro e he
  have g1 := rs.g.new (o := XO e (.ref C) none) he
  exact k1 _ _ _ G (Ext.upd he) g1 (.exn0 R0.ev upd_same (rs.g.busy he)) hf
end
end DL
set_option Elab.async false
set_option linter.all false
set_option maxRecDepth 100000
namespace DL
open PySem PySem.Spec PyProof.Rows L2
def N_law_tide : List Str := ["_law_script", "_law_turn", "_law_stirred", "_law_each", "_law_great"]
abbrev b_law_tide : WS := (sSeq (sSet 2 (eBin addD (eC (.int 49979687)) (eBin mulD (eC (.int 46)) (eVar 1)))) (sSeq (sFor (iSeq (eSl slD (eVar 0) eNoP (eP (eC (.int 45))))) (tN 3) (sSet 2 (eBin modD (eCal intD (aCons (eBin addD (eBin addD (eBin mulD (eVar 2) (eC (.int 18397))) (eBin modD (eCal intD (aCons (eVar 3) aNil)) (eC (.int 1000000021)))) (eC (.int 9))) aNil)) (eC (.int 2147483179))))) (sSeq (sSet 4 (eIf (xAnd (xBl (eBin ltD (eVar 1) (eCal lenD (aCons (eVar 0) aNil)))) (xBl (eBin geD (eCal absD (aCons (eIx (eVar 0) (eVar 1)) aNil)) (eBin powD (eC (.int 10)) (eC (.int 18)))))) (eCal absD (aCons (eIx (eVar 0) (eVar 1)) aNil)) (eC (.int 0)))) (sRet (eNew (eLst (aCons (eVar 4) (aCons (eVar 2) (aCons (eC (.int 0)) aNil)))))))))
abbrev i_law_tide : Nat := 16
def N_law_cast : List Str := ["_law_tide_here", "_law_many", "_law_stirred", "_law_by", "_law_figure"]
abbrev b_law_cast : WS := (sSeq (sIx (eVar 0) (eC (.int 2)) (eBin addD (eIx (eVar 0) (eC (.int 2))) (eC (.int 1)))) (sSeq (sSet 2 (eCal intD (aCons (eIx (eVar 0) (eC (.int 1))) aNil))) (sSeq (sSet 3 (eBin addD (eBin modD (eCal intD (aCons (eVar 2) aNil)) (eC (.int 22501))) (eC (.int 30011)))) (sSeq (sIx (eVar 0) (eC (.int 1)) (eBin modD (eCal intD (aCons (eBin addD (eBin addD (eBin mulD (eVar 2) (eVar 3)) (eBin mulD (eC (.int 40093)) (eIx (eVar 0) (eC (.int 2))))) (eC (.int 1))) aNil)) (eC (.int 2147483179)))) (sSeq (sIf (xBl (eBin gtD (eIx (eVar 0) (eC (.int 0))) (eC (.int 0)))) (sSeq (sDivm 0 0 4 (eCal divmodD (aCons (eIx (eVar 0) (eC (.int 0))) (aCons (eVar 1) aNil)))) (sRet (eVar 4))) sNx) (sRet (eBin modD (eCal intD (aCons (eBin fdivD (eIx (eVar 0) (eC (.int 1))) (eC (.int 512))) aNil)) (eVar 1))))))))
abbrev i_law_cast : Nat := 17
def N_law_of : List Str := ["_law_tide_here", "_law_things"]
abbrev b_law_of : WS := (sRet (eIx (eVar 1) (eCall 17 (aCons (eVar 0) (aCons (eCal lenD (aCons (eVar 1) aNil)) aNil)))))
abbrev i_law_of : Nat := 18
def N_law_sort : List Str := ["_law_e", "_law_own", "_law_words", "_law_bases", "_law_plain", "_law_at"]
abbrev b_law_sort : WS := (sSeq (sSet 1 (eLst (aCons (eUn (isiW (isExn [2])) (eVar 0)) (aCons (eUn (isiW (isExn [3])) (eVar 0)) (aCons (eUn (isiW (isExn [4])) (eVar 0)) aNil))))) (sSeq (sSet 1 (eBin catL (eVar 1) (eLst (aCons (eUn (isiW (isExn [5])) (eVar 0)) (aCons (eUn (isiW (isExn [6])) (eVar 0)) (aCons (eUn (isiW (isExn [7])) (eVar 0)) aNil)))))) (sSeq (sSet 1 (eBin catL (eVar 1) (eLst (aCons (eUn (isiW (isExn [8])) (eVar 0)) (aCons (eUn (isiW (isExn [9])) (eVar 0)) (aCons (eUn (isiW (isExn [10])) (eVar 0)) aNil)))))) (sSeq (sSet 1 (eBin catL (eVar 1) (eLst (aCons (eUn (isiW (isExn [11])) (eVar 0)) (aCons (eUn (isiW (isExn [12])) (eVar 0)) (aCons (eUn (isiW (isExn [13])) (eVar 0)) aNil)))))) (sSeq (sSet 1 (eBin catL (eVar 1) (eLst (aCons (eUn (isiW (isExn [15])) (eVar 0)) (aCons (eUn (isiW (isExn [17])) (eVar 0)) (aCons (eUn (isiW (isExn [18])) (eVar 0)) aNil)))))) (sSeq (sApp 1 (eUn (isiW (isExn [19])) (eVar 0))) (sSeq (sSet 2 (eLst (aCons (eC (.str [116, 101, 120, 116])) (aCons (eC (.str [110, 117, 109, 98, 101, 114])) (aCons (eC (.str [110, 97, 109, 101])) (aCons (eC (.str [119, 105, 115, 104])) (aCons (eC (.str [105, 110, 100, 101, 120])) (aCons (eC (.str [110, 111, 32, 112, 108, 97, 110])) (aCons (eC (.str [110, 111, 32, 119, 101, 98])) (aCons (eC (.str [112, 108, 97, 110])) (aCons (eC (.str [115, 116, 101, 112, 115])) (aCons (eC (.str [110, 101, 101, 100, 115])) aNil)))))))))))) (sSeq (sSet 2 (eBin catL (eVar 2) (eLst (aCons (eC (.str [111, 114, 100, 101, 114])) (aCons (eC (.str [104, 105, 103, 104, 115])) aNil))))) (sSeq (sSet 2 (eBin catL (eVar 2) (eLst (aCons (eC (.str [117, 110, 107, 110, 111, 119, 110])) (aCons (eC (.str [109, 97, 110, 121])) (aCons (eC (.str [117, 110, 100, 111])) (aCons (eC (.str [98, 114, 111, 107, 101, 110])) aNil))))))) (sSeq (sSet 3 (eLst (aCons (eUn (isiW (isExn [1, 2, 3, 4, 5, 6, 7, 8, 9, 10, 11, 12, 13])) (eVar 0)) (aCons (eUn (isiW (isExn [14, 15])) (eVar 0)) (aCons (eUn (isiW (isExn [16, 17, 18, 19])) (eVar 0)) aNil))))) (sSeq (sSet 4 (eLst (aCons (eUn (isiW (isExn [1, 2, 3, 4, 5, 6, 7, 8, 9, 10, 11, 12, 13])) (eVar 0)) (aCons (eUn (isiW (isExn [14, 15])) (eVar 0)) (aCons (eUn (isiW (isExn [16, 17, 18, 19])) (eVar 0)) aNil))))) (sSeq (sSet 5 (eIf (xBl (eBin eqD (eM1 cntD (eVar 1) (eC (.bl true))) (eC (.int 1)))) (eM1 idxD (eVar 1) (eC (.bl true))) (eC (.int 99)))) (sRet (eIf (xAnd (xBl (eBin ltD (eVar 5) (eC (.int 16)))) (xBl (eChain eqD eqD (eVar 3) (eVar 4) (eLst (aCons (eBin ltD (eVar 5) (eC (.int 12))) (aCons (eBin eqD (eVar 5) (eC (.int 12))) (aCons (eBin gtD (eVar 5) (eC (.int 12))) aNil))))))) (eIx (eVar 2) (eVar 5)) (eC (.str []))))))))))))))))
abbrev i_law_sort : Nat := 19
def N_law_made : List Str := ["_law_thing", "_law_found", "_law_some"]
abbrev b_law_made : WS := (sSeq (sSet 1 (eLst (aCons (eExn 2 (eVar 0)) (aCons (eExn 3 (eVar 0)) (aCons (eExn 4 (eVar 0)) (aCons (eExn 5 (eVar 0)) (aCons (eExn 6 (eVar 0)) aNil))))))) (sSeq (sSet 1 (eBin catL (eVar 1) (eLst (aCons (eExn 7 (eVar 0)) (aCons (eExn 8 (eVar 0)) (aCons (eExn 9 (eVar 0)) (aCons (eExn 10 (eVar 0)) (aCons (eExn 11 (eVar 0)) aNil)))))))) (sSeq (sSet 1 (eBin catL (eVar 1) (eLst (aCons (eExn 12 (eVar 0)) (aCons (eExn 13 (eVar 0)) (aCons (eExn 15 (eVar 0)) (aCons (eExn 17 (eVar 0)) (aCons (eExn0 18) aNil)))))))) (sSeq (sSet 2 (eLst (aCons (eExnK 2 (aCons (eVar 0) aNil)) (aCons (eExnK 3 (aCons (eVar 0) aNil)) (aCons (eExnK 4 (aCons (eVar 0) aNil)) (aCons (eExnK 5 (aCons (eVar 0) aNil)) aNil)))))) (sSeq (sSet 2 (eBin catL (eVar 2) (eLst (aCons (eExnK 6 (aCons (eVar 0) aNil)) (aCons (eExnK 7 (aCons (eVar 0) aNil)) (aCons (eExnK 8 (aCons (eVar 0) aNil)) (aCons (eExnK 9 (aCons (eVar 0) aNil)) aNil))))))) (sSeq (sSet 2 (eBin catL (eVar 2) (eLst (aCons (eExnK 10 (aCons (eVar 0) aNil)) (aCons (eExnK 11 (aCons (eVar 0) aNil)) (aCons (eExnK 12 (aCons (eVar 0) aNil)) aNil)))))) (sSeq (sSet 2 (eBin catL (eVar 2) (eLst (aCons (eExnK 13 (aCons (eVar 0) aNil)) (aCons (eExnK 15 (aCons (eVar 0) aNil)) (aCons (eExnK 17 (aCons (eVar 0) aNil)) (aCons (eExn0 18) aNil))))))) (sRet (eLst (aCons (eBin catL (eVar 1) (eLst (aCons (eExn 19 (eVar 0)) aNil))) (aCons (eBin catL (eVar 2) (eLst (aCons (eExnK 19 (aCons (eVar 0) aNil)) aNil))) aNil)))))))))))
abbrev i_law_made : Nat := 20
def N_law_kept : List Str := ["_law_e", "_law_word"]
abbrev b_law_kept : WS := (sSeq (sSet 1 (eCall 19 (aCons (eVar 0) aNil))) (sSeq (sIf (xBl (eBin inD (eVar 1) (eLst (aCons (eC (.str [112, 108, 97, 110])) (aCons (eC (.str [115, 116, 101, 112, 115])) (aCons (eC (.str [110, 101, 101, 100, 115])) (aCons (eC (.str [111, 114, 100, 101, 114])) (aCons (eC (.str [104, 105, 103, 104, 115])) (aCons (eC (.str [98, 114, 111, 107, 101, 110])) aNil))))))))) (sRet (eLst (aCons (eVar 1) (aCons (eXAt [(9, 0), (10, 0), (11, 0), (12, 0), (13, 0), (19, 0)] (eVar 0)) aNil)))) sNx) (sRet (eLst (aCons (eVar 1) (aCons (eIf (xBl (eBin ninD (eVar 1) (eLst (aCons (eC (.str [117, 110, 100, 111])) (aCons (eC (.str [])) aNil))))) (eXAt [(2, 0), (3, 0), (4, 0), (5, 0), (6, 0), (7, 0), (8, 0), (15, 0), (17, 0)] (eVar 0)) (eC .non)) aNil))))))
abbrev i_law_kept : Nat := 21
def N_law_right_k01 : List Str := ["_law_tide_here", "_law_words", "_law_turn", "_law_menu", "_law_thing", "_law_some", "_law_at", "_law_due", "_law_told"]
abbrev b_law_right_k01 : WS := (sSeq (sSet 1 (eLst (aCons (eC (.str [116, 101, 120, 116])) (aCons (eC (.str [110, 117, 109, 98, 101, 114])) (aCons (eC (.str [110, 97, 109, 101])) (aCons (eC (.str [119, 105, 115, 104])) (aCons (eC (.str [105, 110, 100, 101, 120])) (aCons (eC (.str [110, 111, 32, 112, 108, 97, 110])) (aCons (eC (.str [110, 111, 32, 119, 101, 98])) (aCons (eC (.str [112, 108, 97, 110])) (aCons (eC (.str [115, 116, 101, 112, 115])) (aCons (eC (.str [110, 101, 101, 100, 115])) aNil)))))))))))) (sSeq (sSet 1 (eBin catL (eVar 1) (eLst (aCons (eC (.str [111, 114, 100, 101, 114])) (aCons (eC (.str [104, 105, 103, 104, 115])) aNil))))) (sSeq (sSet 1 (eBin catL (eVar 1) (eLst (aCons (eC (.str [117, 110, 107, 110, 111, 119, 110])) (aCons (eC (.str [109, 97, 110, 121])) (aCons (eC (.str [117, 110, 100, 111])) (aCons (eC (.str [98, 114, 111, 107, 101, 110])) aNil))))))) (sSeq (sFor (iRg1 (eC (.int 3))) (tN 2) (sSeq (sSet 3 (eLst (aCons (eC .non) (aCons (eC (.bl true)) (aCons (eC (.int 0)) (aCons (eUn negD (eC (.int 7))) (aCons (eBin powD (eC (.int 10)) (eC (.int 30))) (aCons (eC (.str [])) (aCons (eC (.str [97, 32, 98])) (aCons (eTup aNil) (aCons (eTup (aCons (eC (.int 1)) (aCons (eC (.str [120])) aNil))) (aCons (eLst aNil) (aCons (eLst (aCons (eC .non) aNil)) (aCons (eDN false) (aCons (eTup (aCons (eC (.str [115, 116, 101, 112])) aNil)) (aCons (eC (.bl false)) aNil)))))))))))))))) (sSeq (sSet 4 (eCall 18 (aCons (eVar 0) (aCons (eVar 3) aNil)))) (sFor (iSeq (eCall 20 (aCons (eVar 4) aNil))) (tN 5) (sFor (iRg1 (eC (.int 16))) (tN 6) (sSeq (sSet 7 (eLst (aCons (eIx (eVar 1) (eVar 6)) (aCons (eIf (xBl (eBin eqD (eIx (eVar 1) (eVar 6)) (eC (.str [117, 110, 100, 111])))) (eC .non) (eVar 4)) aNil)))) (sIf (xBl (eBin neD (eCal reprX (aCons (eCall 21 (aCons (eIx (eVar 5) (eVar 6)) aNil)) aNil)) (eCal reprX (aCons (eVar 7) aNil)))) (sRet (eC (.bl false))) sNx))))))) (sSeq (sSet 8 (eLst (aCons (eC (.int 1000000000000)) (aCons (eC (.int 1000000000000)) (aCons (eC (.int 1000000000000000000000000000000)) (aCons (eC (.int 30)) (aCons (eC (.int 16)) (aCons (eC (.int 10)) (aCons (eC (.int 10)) (aCons (eC (.int 45)) aNil)))))))))) (sSeq (sSet 7 (eLst (aCons (eBin powD (eC (.int 10)) (eC (.int 12))) (aCons (eBin powD (eC (.int 10)) (eC (.int 12))) (aCons (eBin powD (eC (.int 10)) (eC (.int 30))) (aCons (eC (.int 30)) (aCons (eC (.int 16)) (aCons (eC (.int 10)) (aCons (eC (.int 10)) (aCons (eC (.int 45)) aNil)))))))))) (sRet (eBin eqD (eCal reprX (aCons (eBin catL (eVar 8) (eLst (aCons (eC (.int 500)) (aCons (eC (.int 6)) aNil)))) aNil)) (eCal reprX (aCons (eBin catL (eVar 7) (eLst (aCons (eC (.int 500)) (aCons (eC (.int 6)) aNil)))) aNil))))))))))
abbrev i_law_right_k01 : Nat := 22
def N_law_k01 : List Str := ["_law_script", "_law_turn"]
abbrev b_law_k01 : WS := (sSeq (sFor (iRg1 (eCal maxD (aCons (eC (.int 2)) (aCons (eCal minD (aCons (eCal lenD (aCons (eVar 0) aNil)) (aCons (eC (.int 4)) aNil))) aNil)))) (tN 1) (sIf (xNot (xTru (eCall 22 (aCons (eCall 16 (aCons (eVar 0) (aCons (eVar 1) aNil))) aNil)))) (sRet (eC (.bl false))) sNx)) (sRet (eC (.bl true))))
abbrev i_law_k01 : Nat := 23
def bs : Nat → Option (WS × List Str) := lkN [(16, (b_law_tide, N_law_tide)), (17, (b_law_cast, N_law_cast)), (18, (b_law_of, N_law_of)), (19, (b_law_sort, N_law_sort)), (20, (b_law_made, N_law_made)), (21, (b_law_kept, N_law_kept)), (22, (b_law_right_k01, N_law_right_k01)), (23, (b_law_k01, N_law_k01))]
theorem hb_law_tide : bs i_law_tide = some (b_law_tide, N_law_tide) := rfl
theorem hb_law_cast : bs i_law_cast = some (b_law_cast, N_law_cast) := rfl
theorem hb_law_of : bs i_law_of = some (b_law_of, N_law_of) := rfl
theorem hb_law_sort : bs i_law_sort = some (b_law_sort, N_law_sort) := rfl
theorem hb_law_made : bs i_law_made = some (b_law_made, N_law_made) := rfl
theorem hb_law_kept : bs i_law_kept = some (b_law_kept, N_law_kept) := rfl
theorem hb_law_right_k01 : bs i_law_right_k01 = some (b_law_right_k01, N_law_right_k01) := rfl
theorem hb_law_k01 : bs i_law_k01 = some (b_law_k01, N_law_k01) := rfl
end DL
set_option Elab.async false
set_option linter.all false
set_option maxRecDepth 100000
set_option maxHeartbeats 4000000
namespace DL
open PySem PySem.Spec PyProof.Rows L2
theorem run_eq {n f : Nat} {b : WS} {N : List Str} {ds : List D} {G : Gs} {Q : KD} {E : XKD} (h : bs f = some (b, N)) (q : b (Mof bs n) (startR N ds) G { nx := fun _ G' => Q .non G', rt := Q, bk := fun _ _ => False, ct := fun _ _ => False } E) : Mof bs (n + 1) f ds G Q E := by
  rw [Mof_eq h]; exact q
theorem run_2 {n f : Nat} {b : WS} {N : List Str} {ds : List D} {G : Gs} {Q : KD} {E : XKD} {a0 a1 : Option D} (h : bs f = some (b, N)) (e : startR N ds = [a0, a1]) (q : b (Mof bs n) [a0, a1] G { nx := fun _ G' => Q .non G', rt := Q, bk := fun _ _ => False, ct := fun _ _ => False } E) : Mof bs (n + 1) f ds G Q E := run_eq h (by rw [e]; exact q)
theorem run_3 {n f : Nat} {b : WS} {N : List Str} {ds : List D} {G : Gs} {Q : KD} {E : XKD} {a0 a1 a2 : Option D} (h : bs f = some (b, N)) (e : startR N ds = [a0, a1, a2]) (q : b (Mof bs n) [a0, a1, a2] G { nx := fun _ G' => Q .non G', rt := Q, bk := fun _ _ => False, ct := fun _ _ => False } E) : Mof bs (n + 1) f ds G Q E := run_eq h (by rw [e]; exact q)
theorem run_5 {n f : Nat} {b : WS} {N : List Str} {ds : List D} {G : Gs} {Q : KD} {E : XKD} {a0 a1 a2 a3 a4 : Option D} (h : bs f = some (b, N)) (e : startR N ds = [a0, a1, a2, a3, a4]) (q : b (Mof bs n) [a0, a1, a2, a3, a4] G { nx := fun _ G' => Q .non G', rt := Q, bk := fun _ _ => False, ct := fun _ _ => False } E) : Mof bs (n + 1) f ds G Q E := run_eq h (by rw [e]; exact q)
theorem run_6 {n f : Nat} {b : WS} {N : List Str} {ds : List D} {G : Gs} {Q : KD} {E : XKD} {a0 a1 a2 a3 a4 a5 : Option D} (h : bs f = some (b, N)) (e : startR N ds = [a0, a1, a2, a3, a4, a5]) (q : b (Mof bs n) [a0, a1, a2, a3, a4, a5] G { nx := fun _ G' => Q .non G', rt := Q, bk := fun _ _ => False, ct := fun _ _ => False } E) : Mof bs (n + 1) f ds G Q E := run_eq h (by rw [e]; exact q)
theorem run_9 {n f : Nat} {b : WS} {N : List Str} {ds : List D} {G : Gs} {Q : KD} {E : XKD} {a0 a1 a2 a3 a4 a5 a6 a7 a8 : Option D} (h : bs f = some (b, N)) (e : startR N ds = [a0, a1, a2, a3, a4, a5, a6, a7, a8]) (q : b (Mof bs n) [a0, a1, a2, a3, a4, a5, a6, a7, a8] G { nx := fun _ G' => Q .non G', rt := Q, bk := fun _ _ => False, ct := fun _ _ => False } E) : Mof bs (n + 1) f ds G Q E := run_eq h (by rw [e]; exact q)
theorem got_ok {o : Option D} {k : D → Prop} {d : D} (h : o = some d) (q : k d) : got o k := by subst h; unfold got; exact q
theorem gotL_ok {o : Option (List D)} {k : List D → Prop} {d : List D} (h : o = some d) (q : k d) : gotL o k := by subst h; unfold gotL; exact q
theorem gotB_ok {o : Option Bool} {k : Bool → Prop} {d : Bool} (h : o = some d) (q : k d) : gotB o k := by subst h; unfold gotB; exact q
theorem gotO_ok {o : Option D} {k : D → Prop} {d : D} (h : o = some d) (q : k d) : gotO o k := by subst h; unfold gotO; exact q
theorem and_rfl {α : Type} {a : α} {P : Prop} (h : P) : a = a ∧ P := ⟨rfl, h⟩
theorem rg_nat {a : Nat} {P : Prop} (h : a ≤ 1000000) (q : P) : -big ≤ (a : Int) ∧ (a : Int) < big ∧ P := ⟨by unfold big; omega, by unfold big; omega, q⟩
theorem rg0_nat {a : Nat} {P : Prop} (h : a ≤ 1000000) (q : P) : 0 ≤ (a : Int) ∧ (a : Int) < big ∧ P := ⟨by omega, by unfold big; omega, q⟩
theorem rg_int {a : Int} {P : Prop} (h0 : -1000000 ≤ a) (h : a ≤ 1000000) (q : P) : -big ≤ a ∧ a < big ∧ P := ⟨by unfold big; omega, by unfold big; omega, q⟩
theorem if_t {P Q : Prop} (h : P) : if true = true then P else Q := h
theorem if_f {P Q : Prop} (h : Q) : if false = true then P else Q := h
theorem if_dt {p : Prop} [Decidable p] {P Q : Prop} (a : p) (h : P) : if decide p = true then P else Q := by rw [if_pos (decide_eq_true a)]; exact h
theorem if_df {p : Prop} [Decidable p] {P Q : Prop} (a : ¬ p) (h : Q) : if decide p = true then P else Q := by rw [if_neg (by simpa using a)]; exact h
theorem if_ntt {P Q : Prop} (h : Q) : if (!true) = true then P else Q := h
theorem if_ntf {P Q : Prop} (h : P) : if (!false) = true then P else Q := h
theorem if_nt {p : Prop} [Decidable p] {P Q : Prop} (a : ¬ p) (h : P) : if (!decide p) = true then P else Q := by rw [if_pos (by simpa using a)]; exact h
theorem if_nf {p : Prop} [Decidable p] {P Q : Prop} (a : p) (h : Q) : if (!decide p) = true then P else Q := by rw [if_neg (by simpa using a)]; exact h
theorem if_bt {b : Bool} {P Q : Prop} (a : b = true) (h : P) : if b = true then P else Q := by rw [if_pos a]; exact h
theorem if_bf {b : Bool} {P Q : Prop} (a : b = false) (h : Q) : if b = true then P else Q := by rw [a]; exact h
theorem if_nbt {b : Bool} {P Q : Prop} (a : b = false) (h : P) : if (!b) = true then P else Q := by rw [a]; exact h
theorem if_nbf {b : Bool} {P Q : Prop} (a : b = true) (h : Q) : if (!b) = true then P else Q := by rw [a]; exact h
theorem if_b {b : Bool} {P Q : Prop} (h : b = true → P) (h2 : b = false → Q) : if b = true then P else Q := by
  cases b
  · exact h2 rfl
  · exact h rfl
theorem gput_at {G : Gs} {p : Addr} {d : D} : gput G p d p = some d := if_pos rfl
theorem lk_gput {G : Gs} {p : Addr} {d : D} : lk (gput G p d) (.ref p) = d := by show ((gput G p d) p).getD _ = _; rw [gput_at]; rfl
theorem gput_gput {G : Gs} {p : Addr} {d e : D} : gput (gput G p d) p e = gput G p e := by
  funext a; unfold gput; split <;> rfl
theorem nx_0 {kk : Rho → Gs → Prop} {G : Gs} {a x : Option D} {r : Rho} (q : kk (x :: r) G) : nxW kk (List.set (a :: r) 0 x) G := q
theorem nx_1 {kk : Rho → Gs → Prop} {G : Gs} {a b x : Option D} {r : Rho} (q : kk (a :: x :: r) G) : nxW kk (List.set (a :: b :: r) 1 x) G := q
theorem nx_2 {kk : Rho → Gs → Prop} {G : Gs} {a b c x : Option D} {r : Rho} (q : kk (a :: b :: x :: r) G) : nxW kk (List.set (a :: b :: c :: r) 2 x) G := q
theorem nx_3 {kk : Rho → Gs → Prop} {G : Gs} {a b c d x : Option D} {r : Rho} (q : kk (a :: b :: c :: x :: r) G) : nxW kk (List.set (a :: b :: c :: d :: r) 3 x) G := q
theorem nx_4 {kk : Rho → Gs → Prop} {G : Gs} {a b c d e x : Option D} {r : Rho} (q : kk (a :: b :: c :: d :: x :: r) G) : nxW kk (List.set (a :: b :: c :: d :: e :: r) 4 x) G := q
theorem nx_5 {kk : Rho → Gs → Prop} {G : Gs} {a b c d e f x : Option D} {r : Rho} (q : kk (a :: b :: c :: d :: e :: x :: r) G) : nxW kk (List.set (a :: b :: c :: d :: e :: f :: r) 5 x) G := q
theorem nx_6 {kk : Rho → Gs → Prop} {G : Gs} {a b c d e f g x : Option D} {r : Rho} (q : kk (a :: b :: c :: d :: e :: f :: x :: r) G) : nxW kk (List.set (a :: b :: c :: d :: e :: f :: g :: r) 6 x) G := q
theorem nx_7 {kk : Rho → Gs → Prop} {G : Gs} {a b c d e f g h x : Option D} {r : Rho} (q : kk (a :: b :: c :: d :: e :: f :: g :: x :: r) G) : nxW kk (List.set (a :: b :: c :: d :: e :: f :: g :: h :: r) 7 x) G := q
theorem nx_8 {kk : Rho → Gs → Prop} {G : Gs} {a b c d e f g h i x : Option D} {r : Rho} (q : kk (a :: b :: c :: d :: e :: f :: g :: h :: x :: r) G) : nxW kk (List.set (a :: b :: c :: d :: e :: f :: g :: h :: i :: r) 8 x) G := q
theorem nx_9 {kk : Rho → Gs → Prop} {G : Gs} {a b c d e f g h i j x : Option D} {r : Rho} (q : kk (a :: b :: c :: d :: e :: f :: g :: h :: i :: x :: r) G) : nxW kk (List.set (a :: b :: c :: d :: e :: f :: g :: h :: i :: j :: r) 9 x) G := q
theorem nx_10 {kk : Rho → Gs → Prop} {G : Gs} {a b c d e f g h i j k x : Option D} {r : Rho} (q : kk (a :: b :: c :: d :: e :: f :: g :: h :: i :: j :: x :: r) G) : nxW kk (List.set (a :: b :: c :: d :: e :: f :: g :: h :: i :: j :: k :: r) 10 x) G := q
theorem nx_11 {kk : Rho → Gs → Prop} {G : Gs} {a b c d e f g h i j k l x : Option D} {r : Rho} (q : kk (a :: b :: c :: d :: e :: f :: g :: h :: i :: j :: k :: x :: r) G) : nxW kk (List.set (a :: b :: c :: d :: e :: f :: g :: h :: i :: j :: k :: l :: r) 11 x) G := q
theorem nx_12 {kk : Rho → Gs → Prop} {G : Gs} {a b c d e f g h i j k l m x : Option D} {r : Rho} (q : kk (a :: b :: c :: d :: e :: f :: g :: h :: i :: j :: k :: l :: x :: r) G) : nxW kk (List.set (a :: b :: c :: d :: e :: f :: g :: h :: i :: j :: k :: l :: m :: r) 12 x) G := q
theorem nx_13 {kk : Rho → Gs → Prop} {G : Gs} {a b c d e f g h i j k l m n x : Option D} {r : Rho} (q : kk (a :: b :: c :: d :: e :: f :: g :: h :: i :: j :: k :: l :: m :: x :: r) G) : nxW kk (List.set (a :: b :: c :: d :: e :: f :: g :: h :: i :: j :: k :: l :: m :: n :: r) 13 x) G := q
theorem nx_14 {kk : Rho → Gs → Prop} {G : Gs} {a0 a1 a2 a3 a4 a5 a6 a7 a8 a9 a10 a11 a12 a13 a14 x : Option D} {r : Rho} (q : kk (a0 :: a1 :: a2 :: a3 :: a4 :: a5 :: a6 :: a7 :: a8 :: a9 :: a10 :: a11 :: a12 :: a13 :: x :: r) G) : nxW kk (List.set (a0 :: a1 :: a2 :: a3 :: a4 :: a5 :: a6 :: a7 :: a8 :: a9 :: a10 :: a11 :: a12 :: a13 :: a14 :: r) 14 x) G := q
theorem nx_15 {kk : Rho → Gs → Prop} {G : Gs} {a0 a1 a2 a3 a4 a5 a6 a7 a8 a9 a10 a11 a12 a13 a14 a15 x : Option D} {r : Rho} (q : kk (a0 :: a1 :: a2 :: a3 :: a4 :: a5 :: a6 :: a7 :: a8 :: a9 :: a10 :: a11 :: a12 :: a13 :: a14 :: x :: r) G) : nxW kk (List.set (a0 :: a1 :: a2 :: a3 :: a4 :: a5 :: a6 :: a7 :: a8 :: a9 :: a10 :: a11 :: a12 :: a13 :: a14 :: a15 :: r) 15 x) G := q
theorem nx_16 {kk : Rho → Gs → Prop} {G : Gs} {a0 a1 a2 a3 a4 a5 a6 a7 a8 a9 a10 a11 a12 a13 a14 a15 a16 x : Option D} {r : Rho} (q : kk (a0 :: a1 :: a2 :: a3 :: a4 :: a5 :: a6 :: a7 :: a8 :: a9 :: a10 :: a11 :: a12 :: a13 :: a14 :: a15 :: x :: r) G) : nxW kk (List.set (a0 :: a1 :: a2 :: a3 :: a4 :: a5 :: a6 :: a7 :: a8 :: a9 :: a10 :: a11 :: a12 :: a13 :: a14 :: a15 :: a16 :: r) 16 x) G := q
theorem nx_17 {kk : Rho → Gs → Prop} {G : Gs} {a0 a1 a2 a3 a4 a5 a6 a7 a8 a9 a10 a11 a12 a13 a14 a15 a16 a17 x : Option D} {r : Rho} (q : kk (a0 :: a1 :: a2 :: a3 :: a4 :: a5 :: a6 :: a7 :: a8 :: a9 :: a10 :: a11 :: a12 :: a13 :: a14 :: a15 :: a16 :: x :: r) G) : nxW kk (List.set (a0 :: a1 :: a2 :: a3 :: a4 :: a5 :: a6 :: a7 :: a8 :: a9 :: a10 :: a11 :: a12 :: a13 :: a14 :: a15 :: a16 :: a17 :: r) 17 x) G := q
theorem nx_18 {kk : Rho → Gs → Prop} {G : Gs} {a0 a1 a2 a3 a4 a5 a6 a7 a8 a9 a10 a11 a12 a13 a14 a15 a16 a17 a18 x : Option D} {r : Rho} (q : kk (a0 :: a1 :: a2 :: a3 :: a4 :: a5 :: a6 :: a7 :: a8 :: a9 :: a10 :: a11 :: a12 :: a13 :: a14 :: a15 :: a16 :: a17 :: x :: r) G) : nxW kk (List.set (a0 :: a1 :: a2 :: a3 :: a4 :: a5 :: a6 :: a7 :: a8 :: a9 :: a10 :: a11 :: a12 :: a13 :: a14 :: a15 :: a16 :: a17 :: a18 :: r) 18 x) G := q
theorem nx_19 {kk : Rho → Gs → Prop} {G : Gs} {a0 a1 a2 a3 a4 a5 a6 a7 a8 a9 a10 a11 a12 a13 a14 a15 a16 a17 a18 a19 x : Option D} {r : Rho} (q : kk (a0 :: a1 :: a2 :: a3 :: a4 :: a5 :: a6 :: a7 :: a8 :: a9 :: a10 :: a11 :: a12 :: a13 :: a14 :: a15 :: a16 :: a17 :: a18 :: x :: r) G) : nxW kk (List.set (a0 :: a1 :: a2 :: a3 :: a4 :: a5 :: a6 :: a7 :: a8 :: a9 :: a10 :: a11 :: a12 :: a13 :: a14 :: a15 :: a16 :: a17 :: a18 :: a19 :: r) 19 x) G := q
theorem nx_20 {kk : Rho → Gs → Prop} {G : Gs} {a0 a1 a2 a3 a4 a5 a6 a7 a8 a9 a10 a11 a12 a13 a14 a15 a16 a17 a18 a19 a20 x : Option D} {r : Rho} (q : kk (a0 :: a1 :: a2 :: a3 :: a4 :: a5 :: a6 :: a7 :: a8 :: a9 :: a10 :: a11 :: a12 :: a13 :: a14 :: a15 :: a16 :: a17 :: a18 :: a19 :: x :: r) G) : nxW kk (List.set (a0 :: a1 :: a2 :: a3 :: a4 :: a5 :: a6 :: a7 :: a8 :: a9 :: a10 :: a11 :: a12 :: a13 :: a14 :: a15 :: a16 :: a17 :: a18 :: a19 :: a20 :: r) 20 x) G := q
theorem nx_21 {kk : Rho → Gs → Prop} {G : Gs} {a0 a1 a2 a3 a4 a5 a6 a7 a8 a9 a10 a11 a12 a13 a14 a15 a16 a17 a18 a19 a20 a21 x : Option D} {r : Rho} (q : kk (a0 :: a1 :: a2 :: a3 :: a4 :: a5 :: a6 :: a7 :: a8 :: a9 :: a10 :: a11 :: a12 :: a13 :: a14 :: a15 :: a16 :: a17 :: a18 :: a19 :: a20 :: x :: r) G) : nxW kk (List.set (a0 :: a1 :: a2 :: a3 :: a4 :: a5 :: a6 :: a7 :: a8 :: a9 :: a10 :: a11 :: a12 :: a13 :: a14 :: a15 :: a16 :: a17 :: a18 :: a19 :: a20 :: a21 :: r) 21 x) G := q
theorem nx_22 {kk : Rho → Gs → Prop} {G : Gs} {a0 a1 a2 a3 a4 a5 a6 a7 a8 a9 a10 a11 a12 a13 a14 a15 a16 a17 a18 a19 a20 a21 a22 x : Option D} {r : Rho} (q : kk (a0 :: a1 :: a2 :: a3 :: a4 :: a5 :: a6 :: a7 :: a8 :: a9 :: a10 :: a11 :: a12 :: a13 :: a14 :: a15 :: a16 :: a17 :: a18 :: a19 :: a20 :: a21 :: x :: r) G) : nxW kk (List.set (a0 :: a1 :: a2 :: a3 :: a4 :: a5 :: a6 :: a7 :: a8 :: a9 :: a10 :: a11 :: a12 :: a13 :: a14 :: a15 :: a16 :: a17 :: a18 :: a19 :: a20 :: a21 :: a22 :: r) 22 x) G := q
theorem nx_23 {kk : Rho → Gs → Prop} {G : Gs} {a0 a1 a2 a3 a4 a5 a6 a7 a8 a9 a10 a11 a12 a13 a14 a15 a16 a17 a18 a19 a20 a21 a22 a23 x : Option D} {r : Rho} (q : kk (a0 :: a1 :: a2 :: a3 :: a4 :: a5 :: a6 :: a7 :: a8 :: a9 :: a10 :: a11 :: a12 :: a13 :: a14 :: a15 :: a16 :: a17 :: a18 :: a19 :: a20 :: a21 :: a22 :: x :: r) G) : nxW kk (List.set (a0 :: a1 :: a2 :: a3 :: a4 :: a5 :: a6 :: a7 :: a8 :: a9 :: a10 :: a11 :: a12 :: a13 :: a14 :: a15 :: a16 :: a17 :: a18 :: a19 :: a20 :: a21 :: a22 :: a23 :: r) 23 x) G := q
theorem nx_24 {kk : Rho → Gs → Prop} {G : Gs} {a0 a1 a2 a3 a4 a5 a6 a7 a8 a9 a10 a11 a12 a13 a14 a15 a16 a17 a18 a19 a20 a21 a22 a23 a24 x : Option D} {r : Rho} (q : kk (a0 :: a1 :: a2 :: a3 :: a4 :: a5 :: a6 :: a7 :: a8 :: a9 :: a10 :: a11 :: a12 :: a13 :: a14 :: a15 :: a16 :: a17 :: a18 :: a19 :: a20 :: a21 :: a22 :: a23 :: x :: r) G) : nxW kk (List.set (a0 :: a1 :: a2 :: a3 :: a4 :: a5 :: a6 :: a7 :: a8 :: a9 :: a10 :: a11 :: a12 :: a13 :: a14 :: a15 :: a16 :: a17 :: a18 :: a19 :: a20 :: a21 :: a22 :: a23 :: a24 :: r) 24 x) G := q
theorem nx_25 {kk : Rho → Gs → Prop} {G : Gs} {a0 a1 a2 a3 a4 a5 a6 a7 a8 a9 a10 a11 a12 a13 a14 a15 a16 a17 a18 a19 a20 a21 a22 a23 a24 a25 x : Option D} {r : Rho} (q : kk (a0 :: a1 :: a2 :: a3 :: a4 :: a5 :: a6 :: a7 :: a8 :: a9 :: a10 :: a11 :: a12 :: a13 :: a14 :: a15 :: a16 :: a17 :: a18 :: a19 :: a20 :: a21 :: a22 :: a23 :: a24 :: x :: r) G) : nxW kk (List.set (a0 :: a1 :: a2 :: a3 :: a4 :: a5 :: a6 :: a7 :: a8 :: a9 :: a10 :: a11 :: a12 :: a13 :: a14 :: a15 :: a16 :: a17 :: a18 :: a19 :: a20 :: a21 :: a22 :: a23 :: a24 :: a25 :: r) 25 x) G := q
theorem nx_n {kk : Rho → Gs → Prop} {G : Gs} {ρ : Rho} {i j : Nat} {x y : Option D} (q : nxW (fun ρ1 G1 => nxW kk (List.set ρ1 j y) G1) (List.set ρ i x) G) : nxW kk (List.set (List.set ρ i x) j y) G := q
theorem nx_s {kk : Rho → Gs → Prop} {G : Gs} {ρ : Rho} {i : Nat} {is : List Nat} {d : D} {ds : List D} (q : nxW (fun ρ1 G1 => nxW kk (setsR ρ1 is ds) G1) (List.set ρ i (some d)) G) : nxW kk (setsR ρ (i :: is) (d :: ds)) G := q
theorem nx_s0 {kk : Rho → Gs → Prop} {G : Gs} {ρ : Rho} (q : kk ρ G) : nxW kk (setsR ρ [] []) G := q
theorem nx_u {kk : Rho → Gs → Prop} {G : Gs} {ρ : Rho} (q : kk ρ G) : nxW kk ρ G := q
/-! ### what is asked of a call -/
/-- a pure call -/
def Pf (M : Orc) (f : Nat) (xs : List D) (d : D) : Prop := ∀ G Q E, Q d G → M f xs G Q E
theorem tabN_hd {c : Nat} {x : Sum Nat Nat} {r : List (Nat × Sum Nat Nat)} : tabN ((c, x) :: r) c = some x := by unfold tabN; simp
theorem tabN_tl {c c' : Nat} {x : Sum Nat Nat} {r : List (Nat × Sum Nat Nat)} (h : Nat.beq c' c = false) : tabN ((c', x) :: r) c = tabN r c := by rw [tabN.eq_2, h]; rfl
theorem tabM_hd {c : Nat} {x : Nat} {r : List (Nat × Nat)} : tabM ((c, x) :: r) c = some x := by unfold tabM; simp
theorem tabM_tl {c c' : Nat} {x : Nat} {r : List (Nat × Nat)} (h : Nat.beq c' c = false) : tabM ((c', x) :: r) c = tabM r c := by rw [tabM.eq_2, h]; rfl
section
variable {M : Orc} {ρ : Rho} {G : Gs} {K : KS} {E : XKD} {fe : WE} {i j : Nat}
theorem divm_ok {k : Int} {p : Addr} {l l' : List D} {a b : D} (h : ∀ Q E, Q (.tup [a, b]) G → fe M ρ G Q E) (hn : nth ρ i = some (.ref p)) (hG : G p = some (.lst l)) (hs : setI l (.int k) a = some l') (q : K.nx (ρ.set j (some b)) (gput G p (.lst l'))) : sDivm i k j fe M ρ G K E := by
  refine h _ _ ?_
  show (match (D.tup [a, b]), nth ρ i with | .tup [a, b], some (.ref p) => (match G p with | some (.lst l) => gotL (setI l (.int k) a) fun l' => K.nx (ρ.set j (some b)) (gput G p (.lst l')) | _ => False) | _, _ => False)
  rw [hn]
  show (match G p with | some (.lst l) => gotL (setI l (.int k) a) fun l' => K.nx (ρ.set j (some b)) (gput G p (.lst l')) | _ => False)
  rw [hG]
  exact gotL_ok hs q
end
theorem app_ok {x : Option D} {l : List D} {k : List D → Prop} (h : x = some (.lst l)) (q : k l) : appW x k := by rw [h]; exact q
theorem intw_ok {x : Option D} {a : Int} {k : Int → Prop} (h : x = some (.int a)) (q : k a) : intW x k := by rw [h]; exact q
/-! ### encodings -/
abbrev Nm := List Nat
structure Eo {α : Type} [DecidableEq α] (e : α → D) (k : Nat) : Prop where
  fl : ∀ n x, k ≤ n → flat n (e x) = true
  eq : ∀ n x y, k ≤ n → deq n (e x) (e y) = decide (x = y)
theorem fl_str {n : Nat} {s : List Nat} : flat n (.str s) = true := by cases n <;> rfl
theorem fl_int {n : Nat} {s : Int} : flat n (.int s) = true := by cases n <;> rfl
theorem dq_str {n : Nat} {x y : List Nat} : deq n (.str x) (.str y) = decide (x = y) := by
  have : deq n (D.str x) (D.str y) = (x == y) := by cases n <;> rfl
  rw [this]; by_cases h : x = y <;> simp [h]
theorem dq_int {n : Nat} {x y : Int} : deq n (.int x) (.int y) = decide (x = y) := by
  have : deq n (D.int x) (D.int y) = (x == y) := by cases n <;> rfl
  rw [this]; by_cases h : x = y <;> simp [h]
theorem eo_str : Eo D.str 0 := ⟨fun _ _ _ => fl_str, fun _ _ _ _ => dq_str⟩
theorem eo_int : Eo D.int 0 := ⟨fun _ _ _ => fl_int, fun _ _ _ _ => dq_int⟩
theorem all2_map {α : Type} [DecidableEq α] {e : α → D} {f : D → D → Bool} (h : ∀ x y, f (e x) (e y) = decide (x = y)) : ∀ a b : List α, all2 f (a.map e) (b.map e) = decide (a = b)
  | [], [] => by simp [all2]
  | [], y :: ys => by simp [all2]
  | x :: xs, [] => by simp [all2]
  | x :: xs, y :: ys => by
    simp only [List.map_cons, all2, h, all2_map h xs ys]
    by_cases h1 : x = y <;> by_cases h2 : xs = ys <;> simp [h1, h2]
theorem all_map_fl {α : Type} [DecidableEq α] {e : α → D} {k n : Nat} (h : Eo e k) (hn : k ≤ n) (l : List α) : (l.map e).all (flat n) = true := by
  rw [List.all_eq_true]; intro d hd; obtain ⟨a, _, rfl⟩ := List.mem_map.mp hd; exact h.fl n a hn
theorem eo_tup {α : Type} [DecidableEq α] {e : α → D} {k : Nat} (h : Eo e k) : Eo (fun l : List α => D.tup (l.map e)) (k + 1) :=
  ⟨fun n x hn => by
    cases n with
    | zero => omega
    | succ n => exact all_map_fl h (by omega) x,
   fun n x y hn => by
    cases n with
    | zero => omega
    | succ n => exact all2_map (fun a b => h.eq n a b (by omega)) x y⟩
theorem eo_lst {α : Type} [DecidableEq α] {e : α → D} {k : Nat} (h : Eo e k) : Eo (fun l : List α => D.lst (l.map e)) (k + 1) :=
  ⟨fun n x hn => by
    cases n with
    | zero => omega
    | succ n => exact all_map_fl h (by omega) x,
   fun n x y hn => by
    cases n with
    | zero => omega
    | succ n => exact all2_map (fun a b => h.eq n a b (by omega)) x y⟩
/-- pairs of names -/
def prD (p : Nm × Nm) : D := .tup [.str p.1, .str p.2]
theorem eo_pr : Eo prD 1 := ⟨fun n x hn => by
    cases n with
    | zero => omega
    | succ n => show ([D.str x.1, D.str x.2].all (flat n)) = true; simp [fl_str], fun n x y hn => by
    cases n with
    | zero => omega
    | succ n =>
      show all2 (deq n) [D.str x.1, D.str x.2] [D.str y.1, D.str y.2] = _
      simp only [all2, dq_str, Bool.and_true]
      by_cases h1 : x.1 = y.1 <;> by_cases h2 : x.2 = y.2 <;> simp [h1, h2, Prod.ext_iff]⟩
/-- steps -/
structure Sp3 where
  nm : Nm
  w : Int
  l : Int
deriving DecidableEq
def stD (s : Sp3) : D := .tup [.str s.nm, .int s.w, .int s.l]
theorem eo_st : Eo stD 1 := ⟨fun n x hn => by
    cases n with
    | zero => omega
    | succ n => show ([D.str x.nm, D.int x.w, D.int x.l].all (flat n)) = true; simp [fl_str, fl_int], fun n x y hn => by
    cases n with
    | zero => omega
    | succ n =>
      show all2 (deq n) [D.str x.nm, D.int x.w, D.int x.l] [D.str y.nm, D.int y.w, D.int y.l] = _
      simp only [all2, dq_str, dq_int, Bool.and_true]
      cases x with | mk a b c => cases y with | mk a' b' c' => by_cases h1 : a = a' <;> by_cases h2 : b = b' <;> by_cases h3 : c = c' <;> simp [h1, h2, h3]⟩
structure Wb where
  st : List Sp3
  ps : List (Nm × Nm)
  nd : D
  kn : Nm → List Nm
abbrev Wb.names (w : Wb) : List Nm := w.st.map Sp3.nm
def knD (kn : Nm → List Nm) (st : List Sp3) : D := .dic false (st.map fun s => (.str s.nm, .tup ((kn s.nm).map D.str)))
def webD (w : Wb) : D := .obj 21 [.tup (w.st.map stD), w.nd, knD w.kn w.st]
theorem lk_web {G : Gs} {w : Wb} : lk G (webD w) = .obj 21 [.tup (w.st.map stD), w.nd, knD w.kn w.st] := rfl
/-! ### operators -/
section
variable {α : Type} [DecidableEq α] {e : α → D} {k : Nat} {x y : α} {l m : List α}
theorem eq_enc (h : Eo e k) (hk : k ≤ 60 := by decide) : eqD (e x) (e y) = some (.bl (decide (x = y))) := by
  unfold eqD; rw [h.fl _ _ hk, h.fl _ _ hk, h.eq _ _ _ hk]; rfl
theorem ne_enc (h : Eo e k) (hk : k ≤ 60 := by decide) : neD (e x) (e y) = some (.bl (!decide (x = y))) := by
  unfold neD; rw [h.fl _ _ hk, h.fl _ _ hk, h.eq _ _ _ hk]; rfl
theorem mem_enc (h : Eo e k) (hk : k ≤ 60) : memD (e x) (l.map e) = some (decide (x ∈ l)) := by
  unfold memD; rw [h.fl _ _ hk, all_map_fl h hk]
  simp only [Bool.and_self, if_true, List.any_map]
  congr 1
  induction l with
  | nil => simp
  | cons a r ih =>
    rw [List.any_cons, ih]
    show (deq 60 (e a) (e x) || _) = _
    rw [h.eq _ _ _ hk]
    by_cases h1 : a = x
    · subst h1; simp
    · have : ¬ x = a := fun z => h1 z.symm
      simp [h1, this]
theorem in_lst (h : Eo e k) (hk : k ≤ 60 := by decide) : inD (e x) (.lst (l.map e)) = some (.bl (decide (x ∈ l))) := by
  have : inD (e x) (.lst (l.map e)) = (memD (e x) (l.map e)).map .bl := by cases (e x) <;> rfl
  rw [this, mem_enc h hk]; rfl
theorem in_tup (h : Eo e k) (hk : k ≤ 60 := by decide) : inD (e x) (.tup (l.map e)) = some (.bl (decide (x ∈ l))) := by
  have : inD (e x) (.tup (l.map e)) = (memD (e x) (l.map e)).map .bl := by cases (e x) <;> rfl
  rw [this, mem_enc h hk]; rfl
theorem nin_lst (h : Eo e k) (hk : k ≤ 60 := by decide) : ninD (e x) (.lst (l.map e)) = some (.bl (!decide (x ∈ l))) := by
  have : ninD (e x) (.lst (l.map e)) = (memD (e x) (l.map e)).map fun b => .bl !b := by cases (e x) <;> rfl
  rw [this, mem_enc h hk]; rfl
theorem nin_tup (h : Eo e k) (hk : k ≤ 60 := by decide) : ninD (e x) (.tup (l.map e)) = some (.bl (!decide (x ∈ l))) := by
  have : ninD (e x) (.tup (l.map e)) = (memD (e x) (l.map e)).map fun b => .bl !b := by cases (e x) <;> rfl
  rw [this, mem_enc h hk]; rfl
theorem len_lst {l : List D} (h : l.length ≤ lim) : lenD [.lst l] = some (.int l.length) := if_pos h
end
theorem eq_str {x y : Nm} : eqD (D.str x) (D.str y) = some (.bl (decide (x = y))) := eq_enc eo_str
theorem ne_str {x y : Nm} : neD (D.str x) (D.str y) = some (.bl (!decide (x = y))) := ne_enc eo_str
theorem in_lst_str {x : Nm} {l : List (Nm)} : inD (D.str x) (.lst (l.map D.str)) = some (.bl (decide (x ∈ l))) := by rw [in_lst eo_str]; try congr
theorem nin_lst_str {x : Nm} {l : List (Nm)} : ninD (D.str x) (.lst (l.map D.str)) = some (.bl (!decide (x ∈ l))) := by rw [nin_lst eo_str]; try congr
theorem eq_lst_str {x y : List (Nm)} : eqD (.lst (x.map D.str)) (.lst (y.map D.str)) = some (.bl (decide (x = y))) := eq_enc (eo_lst eo_str)
theorem ne_lst_str {x y : List (Nm)} : neD (.lst (x.map D.str)) (.lst (y.map D.str)) = some (.bl (!decide (x = y))) := ne_enc (eo_lst eo_str)
theorem in_tup_str {x : Nm} {l : List (Nm)} : inD (D.str x) (.tup (l.map D.str)) = some (.bl (decide (x ∈ l))) := by rw [in_tup eo_str]; try congr
theorem nin_tup_str {x : Nm} {l : List (Nm)} : ninD (D.str x) (.tup (l.map D.str)) = some (.bl (!decide (x ∈ l))) := by rw [nin_tup eo_str]; try congr
theorem eq_tup_str {x y : List (Nm)} : eqD (.tup (x.map D.str)) (.tup (y.map D.str)) = some (.bl (decide (x = y))) := eq_enc (eo_tup eo_str)
theorem ne_tup_str {x y : List (Nm)} : neD (.tup (x.map D.str)) (.tup (y.map D.str)) = some (.bl (!decide (x = y))) := ne_enc (eo_tup eo_str)
theorem eq_int {x y : Int} : eqD (D.int x) (D.int y) = some (.bl (decide (x = y))) := eq_enc eo_int
theorem ne_int {x y : Int} : neD (D.int x) (D.int y) = some (.bl (!decide (x = y))) := ne_enc eo_int
theorem eq_pr {x y : Nm × Nm} : eqD (prD x) (prD y) = some (.bl (decide (x = y))) := eq_enc eo_pr
theorem ne_pr {x y : Nm × Nm} : neD (prD x) (prD y) = some (.bl (!decide (x = y))) := ne_enc eo_pr
theorem in_lst_pr {x : Nm × Nm} {l : List (Nm × Nm)} : inD (prD x) (.lst (l.map prD)) = some (.bl (decide (x ∈ l))) := by rw [in_lst eo_pr]; try congr
theorem nin_lst_pr {x : Nm × Nm} {l : List (Nm × Nm)} : ninD (prD x) (.lst (l.map prD)) = some (.bl (!decide (x ∈ l))) := by rw [nin_lst eo_pr]; try congr
theorem in_tup_pr {x : Nm × Nm} {l : List (Nm × Nm)} : inD (prD x) (.tup (l.map prD)) = some (.bl (decide (x ∈ l))) := by rw [in_tup eo_pr]; try congr
theorem nin_tup_pr {x : Nm × Nm} {l : List (Nm × Nm)} : ninD (prD x) (.tup (l.map prD)) = some (.bl (!decide (x ∈ l))) := by rw [nin_tup eo_pr]; try congr
theorem eq_st {x y : Sp3} : eqD (stD x) (stD y) = some (.bl (decide (x = y))) := eq_enc eo_st
theorem ne_st {x y : Sp3} : neD (stD x) (stD y) = some (.bl (!decide (x = y))) := ne_enc eo_st
theorem in_lst_st {x : Sp3} {l : List (Sp3)} : inD (stD x) (.lst (l.map stD)) = some (.bl (decide (x ∈ l))) := by rw [in_lst eo_st]; try congr
theorem in_tup_st {x : Sp3} {l : List (Sp3)} : inD (stD x) (.tup (l.map stD)) = some (.bl (decide (x ∈ l))) := by rw [in_tup eo_st]; try congr
theorem bools_map {α : Type} {p : α → Bool} : ∀ l : List α, bools (l.map fun x => .bl (p x)) = some (l.map p)
  | [] => rfl
  | x :: r => by simp only [List.map_cons, bools, bools_map r]; rfl
theorem any_map {α : Type} {p : α → Bool} {l : List α} : anyD [.lst (l.map fun x => .bl (p x))] = some (.bl (l.any p)) := by
  show (bools _).map _ = _; rw [bools_map]; simp [Function.comp_def]
theorem mul_ii {a b : Int} (h : a.natAbs.log2 + b.natAbs.log2 < 1000000) : mulD (.int a) (.int b) = some (.int (a * b)) := if_pos h
theorem mod_ii {a b : Int} (h : 0 < b) : modD (.int a) (.int b) = some (.int (a % b)) := if_pos h
theorem fdiv_ii {a b : Int} (h : 0 < b ∧ b.natAbs.log2 < 9000) : fdivD (.int a) (.int b) = some (.int (a / b)) := if_pos h
theorem pow_ii {a b : Int} (h : 0 ≤ b ∧ b ≤ 1000000 ∧ a.natAbs < 2 ^ 64) : powD (.int a) (.int b) = some (.int (a ^ b.toNat)) := if_pos h
theorem divmod_ii {a b : Int} (h : 0 < b ∧ b.natAbs.log2 < 9000) : divmodD [.int a, .int b] = some (.tup [.int (a / b), .int (a % b)]) := if_pos h
theorem log2_abs {a : Int} (k : Nat) (h0 : -(2 ^ k) < a) (h : a < 2 ^ k) (hk : 0 < k) : a.natAbs.log2 < k := by
  by_cases z : a.natAbs = 0
  · rw [z]; simpa using hk
  · refine (Nat.log2_lt z).mpr ?_
    have : (a.natAbs : Int) < 2 ^ k := by omega
    exact_mod_cast this
/-- numbers of some size -/
def Sm (a : Int) : Prop := a.natAbs.log2 < 400000
theorem sm_of {a : Int} (h0 : -(2 ^ 300) < a) (h : a < 2 ^ 300) : Sm a := Nat.lt_trans (log2_abs 300 h0 h (by decide)) (by decide)
theorem mul_sm {a b : Int} (h1 : Sm a) (h2 : Sm b) : mulD (.int a) (.int b) = some (.int (a * b)) := mul_ii (by unfold Sm at *; omega)
theorem atI_nat {α : Type} {l : List α} {i : Nat} : atI l (i : Int) = l[i]? := by
  unfold atI ixN
  rw [if_pos (by omega)]
  by_cases h : i < l.length
  · rw [if_pos (by omega)]; simp
  · rw [if_neg (by omega)]; simp; omega
theorem atI_mem {α : Type} {l : List α} {i : Int} (h0 : 0 ≤ i) (h1 : i < l.length) : ∃ a, a ∈ l ∧ atI l i = some a := by
  obtain ⟨j, rfl⟩ := Int.eq_ofNat_of_zero_le h0
  have hj : j < l.length := by omega
  exact ⟨l[j], List.getElem_mem hj, by rw [atI_nat]; simp [hj]⟩
theorem cutD_to {α : Type} {l : List α} {n : Nat} : cutD l none (some (n : Int)) = l.take n := by
  unfold cutD
  rw [HT.sIx_nat, HT.sIx_none]; simp only [List.drop_zero, Nat.sub_zero]
  by_cases h : n ≤ l.length
  · rw [Nat.min_eq_left h]
  · rw [Nat.min_eq_right (by omega), List.take_of_length_le (by omega), List.take_of_length_le (by omega)]
theorem cutD_from {α : Type} {l : List α} {n : Nat} : cutD l (some (n : Int)) none = l.drop n := by
  unfold cutD
  rw [HT.sIx_nat, HT.sIx_none]
  by_cases h : n ≤ l.length
  · rw [Nat.min_eq_left h, List.take_of_length_le (by simp)]
  · rw [Nat.min_eq_right (by omega), List.drop_of_length_le (by omega), List.drop_of_length_le (by omega)]; simp
theorem sl_tupTo {l : List D} {n : Nat} : slD (.tup l) .non (.int n) = some (.tup (l.take n)) := by
  show some (D.tup (cutD l none (some (n : Int)))) = _; rw [cutD_to]
theorem sl_lstTo {l : List D} {n : Nat} : slD (.lst l) .non (.int n) = some (.lst (l.take n)) := by
  show some (D.lst (cutD l none (some (n : Int)))) = _; rw [cutD_to]
theorem sl_tupFrom {l : List D} {n : Nat} : slD (.tup l) (.int n) .non = some (.tup (l.drop n)) := by
  show some (D.tup (cutD l (some (n : Int)) none)) = _; rw [cutD_from]
theorem sl_lstFrom {l : List D} {n : Nat} : slD (.lst l) (.int n) .non = some (.lst (l.drop n)) := by
  show some (D.lst (cutD l (some (n : Int)) none)) = _; rw [cutD_from]
theorem slm_tupTo {α : Type} {e : α → D} {l : List α} {n : Nat} : slD (.tup (l.map e)) .non (.int n) = some (.tup ((l.take n).map e)) := by rw [sl_tupTo, List.map_take]
theorem slm_lstTo {α : Type} {e : α → D} {l : List α} {n : Nat} : slD (.lst (l.map e)) .non (.int n) = some (.lst ((l.take n).map e)) := by rw [sl_lstTo, List.map_take]
theorem slm_tupFrom {α : Type} {e : α → D} {l : List α} {n : Nat} : slD (.tup (l.map e)) (.int n) .non = some (.tup ((l.drop n).map e)) := by rw [sl_tupFrom, List.map_drop]
theorem slm_lstFrom {α : Type} {e : α → D} {l : List α} {n : Nat} : slD (.lst (l.map e)) (.int n) .non = some (.lst ((l.drop n).map e)) := by rw [sl_lstFrom, List.map_drop]
theorem slm_lst1 {α : Type} {e : α → D} {l : List α} : slD (.lst (l.map e)) (.int 1) .non = some (.lst ((l.drop 1).map e)) := slm_lstFrom (n := 1)
theorem slm_tup1 {α : Type} {e : α → D} {l : List α} : slD (.tup (l.map e)) (.int 1) .non = some (.tup ((l.drop 1).map e)) := slm_tupFrom (n := 1)
theorem atI_0 {α : Type} {x : α} {l : List α} : atI (x :: l) 0 = some x := atI_nat (i := 0)
theorem ixm_lst0 {α : Type} {e : α → D} {x : α} {l : List α} : ixD (.lst ((x :: l).map e)) (.int 0) = some (e x) := atI_0
theorem ixm_tup0 {α : Type} {e : α → D} {x : α} {l : List α} : ixD (.tup ((x :: l).map e)) (.int 0) = some (e x) := atI_0
theorem ixm_lst {α : Type} {e : α → D} {x : α} {l : List α} {i : Nat} (h : l[i]? = some x) : ixD (.lst (l.map e)) (.int i) = some (e x) := by
  show atI _ _ = _; rw [atI_nat, List.getElem?_map, h]; rfl
theorem ixm_tup {α : Type} {e : α → D} {x : α} {l : List α} {i : Nat} (h : l[i]? = some x) : ixD (.tup (l.map e)) (.int i) = some (e x) := by
  show atI _ _ = _; rw [atI_nat, List.getElem?_map, h]; rfl
theorem lim_lt {n : Nat} (h : n < 1000000) : n < lim := Nat.lt_trans h (by decide)
theorem lim_of {n : Nat} (h : n ≤ 1000000) : n ≤ lim := Nat.le_trans h (by decide)
/-! ### dicts -/
/-! ### loops -/
section
variable {M : Orc} {ρ : Rho} {t : TgF} {tt : WT} {fe fk : WE} {body : WS} {K : KS} {E : XKD} {G : Gs} {Q : KD}
theorem for_ok (I : List D → Rho → Gs → Prop)
    (step : ∀ d r ρ G (nx : Rho → Gs → Prop), I (d :: r) ρ G → (∀ ρ' G', I r ρ' G' → nx ρ' G') → ∃ ρ1, t d ρ = some ρ1 ∧ body M ρ1 G { nx := nx, ct := nx, bk := K.nx, rt := K.rt } E) (fin : ∀ ρ G, I [] ρ G → K.nx ρ G) :
    ∀ {ds : List D} {ρ : Rho} {G : Gs}, I ds ρ G → forW M t body K E ds ρ G
  | [], ρ, G, h => fin ρ G h
  | d :: r, ρ, G, h => by
    obtain ⟨ρ1, e, q⟩ := step d r ρ G (forW M t body K E r) h fun ρ' G' h' => for_ok I step fin h'
    unfold forW
    rw [e]
    exact q
/-- .. over a mapped list; I: of what is done -/
theorem for_map {α : Type} {e : α → D} {xs : List α} (I : List α → Rho → Gs → Prop) (h0 : I [] ρ G)
    (step : ∀ pre x post ρ G (nx : Rho → Gs → Prop), xs = pre ++ x :: post → I pre ρ G → (∀ ρ' G', I (pre ++ [x]) ρ' G' → nx ρ' G') → ∃ ρ1, t (e x) ρ = some ρ1 ∧ body M ρ1 G { nx := nx, ct := nx, bk := K.nx, rt := K.rt } E)
    (fin : ∀ ρ G, I xs ρ G → K.nx ρ G) : forW M t body K E (xs.map e) ρ G := by
  refine for_ok (fun r ρ G => ∃ pre post, xs = pre ++ post ∧ r = post.map e ∧ I pre ρ G) ?_ ?_ ⟨[], xs, rfl, rfl, h0⟩
  · rintro d r ρ G nx ⟨pre, post, h1, h2, h3⟩ hn
    cases post with
    | nil => cases h2
    | cons x post =>
      cases h2
      exact step pre x post ρ G nx h1 h3 fun ρ' G' h => hn _ _ ⟨pre ++ [x], post, by simp [h1], rfl, h⟩
  · rintro ρ G ⟨pre, post, h1, h2, h3⟩
    cases post with
    | nil => rw [List.append_nil] at h1; exact fin ρ G (h1 ▸ h3)
    | cons x post => cases h2
theorem rngD_map : ∀ (n : Nat) (lo : Int), rngD lo n = (List.range n).map fun i => .int (lo + i)
  | 0, lo => rfl
  | n + 1, lo => by
    rw [List.range_succ_eq_map, List.map_cons, List.map_map]
    show D.int lo :: rngD (lo + 1) n = _
    rw [rngD_map n (lo + 1)]
    simp only [Int.natCast_zero, Int.add_zero, List.cons.injEq, true_and]
    apply List.map_congr_left
    intro i _
    simp only [Function.comp_def, D.int.injEq]
    omega
/-- .. over a range -/
theorem for_rng {lo : Int} {n : Nat} (I : Nat → Rho → Gs → Prop) (h0 : I 0 ρ G)
    (step : ∀ i ρ G (nx : Rho → Gs → Prop), i < n → I i ρ G → (∀ ρ' G', I (i + 1) ρ' G' → nx ρ' G') → ∃ ρ1, t (.int (lo + i)) ρ = some ρ1 ∧ body M ρ1 G { nx := nx, ct := nx, bk := K.nx, rt := K.rt } E)
    (fin : ∀ ρ G, I n ρ G → K.nx ρ G) : forW M t body K E (rngD lo n) ρ G := by
  rw [rngD_map]
  refine for_map (fun pre ρ G => I pre.length ρ G) h0 ?_ (fun ρ G h => fin ρ G (by simpa using h))
  intro pre x post ρ G nx h1 h2 hn
  have hx : x = pre.length := by
    have := congrArg (fun l => l[pre.length]?) h1
    simp at this
    have hl := congrArg List.length h1
    simp at hl
    rw [List.getElem?_range (by omega)] at this
    simpa using this.symm
  have hl := congrArg List.length h1
  simp at hl
  subst hx
  exact step pre.length ρ G nx (by omega) h2 fun ρ' G' h => hn _ _ (by simpa using h)
theorem for_rng0 {n : Nat} (I : Nat → Rho → Gs → Prop) (h0 : I 0 ρ G)
    (step : ∀ i ρ G (nx : Rho → Gs → Prop), i < n → I i ρ G → (∀ ρ' G', I (i + 1) ρ' G' → nx ρ' G') → ∃ ρ1, t (.int i) ρ = some ρ1 ∧ body M ρ1 G { nx := nx, ct := nx, bk := K.nx, rt := K.rt } E)
    (fin : ∀ ρ G, I n ρ G → K.nx ρ G) : forW M t body K E (rngD 0 (n : Int).toNat) ρ G :=
  for_rng I h0 (fun i ρ G nx hi h hn => by rw [Int.zero_add]; exact step i ρ G nx hi h hn) fin
end
end DL
set_option Elab.async false
set_option linter.all false
set_option maxRecDepth 100000
set_option maxHeartbeats 4000000
namespace DL
open PySem PySem.Spec PyProof.Rows L2
local macro_rules | `(tactic| walk_at "ar") => `(tactic| first | assumption | omega | (simp only [List.length_cons, List.length_append, List.length_map, List.length_nil, Int.natCast_add, Int.natCast_one] at *; omega))
local macro_rules | `(tactic| walk_at "sm") => `(tactic| first | assumption | exact sm_of (by omega) (by omega))
local macro_rules | `(tactic| walk_at "w") => `(tactic| (with_reducible conv => whnf))
local macro_rules | `(tactic| walk_at "op") => `(tactic| first | ((with_reducible show got (nth _ _) _); refine no_implicit_lambda% (got_ok rfl ?_)) | ((with_reducible show got _ _); first | ((with_reducible show got (eqD _ _) _); first | with_reducible refine got_ok eq_str ?_ | with_reducible refine got_ok eq_int ?_ | with_reducible refine got_ok eq_pr ?_ | with_reducible refine got_ok eq_st ?_ | with_reducible refine got_ok eq_tup_str ?_ | with_reducible refine got_ok eq_lst_str ?_) | ((with_reducible show got (neD _ _) _); first | with_reducible refine got_ok ne_str ?_ | with_reducible refine got_ok ne_int ?_ | with_reducible refine got_ok ne_pr ?_ | with_reducible refine got_ok ne_st ?_ | with_reducible refine got_ok ne_tup_str ?_ | with_reducible refine got_ok ne_lst_str ?_) | ((with_reducible show got (inD _ _) _); first | with_reducible refine got_ok in_lst_str ?_ | with_reducible refine got_ok in_tup_str ?_ | with_reducible refine got_ok in_lst_pr ?_ | with_reducible refine got_ok in_tup_pr ?_ | with_reducible refine got_ok in_lst_st ?_ | with_reducible refine got_ok in_tup_st ?_) | ((with_reducible show got (ninD _ _) _); first | with_reducible refine got_ok nin_lst_str ?_ | with_reducible refine got_ok nin_tup_str ?_ | with_reducible refine got_ok nin_lst_pr ?_ | with_reducible refine got_ok nin_tup_pr ?_) | ((with_reducible show got (mulD _ _) _); with_reducible refine got_ok (mul_sm (by walk_at "sm") (by walk_at "sm")) ?_) | ((with_reducible show got (modD _ _) _); with_reducible refine got_ok (mod_ii (by omega)) ?_) | ((with_reducible show got (fdivD _ _) _); with_reducible refine got_ok (fdiv_ii (by decide)) ?_) | ((with_reducible show got (powD _ _) _); with_reducible refine got_ok (pow_ii (by decide)) ?_) | ((with_reducible show got (slD _ _ _) _); first | with_reducible refine got_ok slm_tupTo ?_ | with_reducible refine got_ok slm_lstTo ?_ | with_reducible refine got_ok slm_tupFrom ?_ | with_reducible refine got_ok slm_lstFrom ?_ | with_reducible refine got_ok slm_tup1 ?_ | with_reducible refine got_ok slm_lst1 ?_) | ((with_reducible show got (ixD _ _) _); first | with_reducible refine got_ok ixm_lst0 ?_ | with_reducible refine got_ok ixm_tup0 ?_ | with_reducible refine got_ok (ixm_lst (by assumption)) ?_ | with_reducible refine got_ok (ixm_tup (by assumption)) ?_) | refine no_implicit_lambda% (got_ok rfl ?_) | rw [lk_gput]) | ((with_reducible show ite _ _ _); first | with_reducible refine if_t ?_ | with_reducible refine if_f ?_ | with_reducible refine if_ntt ?_ | with_reducible refine if_ntf ?_ | with_reducible refine if_bt (by assumption) ?_ | with_reducible refine if_bf (by assumption) ?_ | with_reducible refine if_nbt (by assumption) ?_ | with_reducible refine if_nbf (by assumption) ?_ | with_reducible refine if_dt (by walk_at "ar") ?_ | with_reducible refine if_df (by walk_at "ar") ?_ | with_reducible refine if_nt (by walk_at "ar") ?_ | with_reducible refine if_nf (by walk_at "ar") ?_ | refine no_implicit_lambda% (if_t ?_) | refine no_implicit_lambda% (if_f ?_)) | ((with_reducible show gotL _ _); refine no_implicit_lambda% (gotL_ok rfl ?_)) | ((with_reducible show gotB _ _); refine no_implicit_lambda% (gotB_ok rfl ?_)) | ((with_reducible show gotO _ _); refine no_implicit_lambda% (gotO_ok rfl ?_)) | ((with_reducible show nxW _ _ _); first | with_reducible refine nx_s ?_ | with_reducible refine nx_n ?_ | with_reducible refine nx_0 ?_ | with_reducible refine nx_1 ?_ | with_reducible refine nx_2 ?_ | with_reducible refine nx_3 ?_ | with_reducible refine nx_4 ?_ | with_reducible refine nx_5 ?_ | with_reducible refine nx_6 ?_ | with_reducible refine nx_7 ?_ | with_reducible refine nx_8 ?_ | with_reducible refine nx_9 ?_ | with_reducible refine nx_10 ?_ | with_reducible refine nx_11 ?_ | with_reducible refine nx_12 ?_ | with_reducible refine nx_13 ?_ | with_reducible refine nx_14 ?_ | with_reducible refine nx_15 ?_ | with_reducible refine nx_16 ?_ | with_reducible refine nx_17 ?_ | with_reducible refine nx_18 ?_ | with_reducible refine nx_19 ?_ | with_reducible refine nx_20 ?_ | with_reducible refine nx_21 ?_ | with_reducible refine nx_22 ?_ | with_reducible refine nx_23 ?_ | with_reducible refine nx_24 ?_ | with_reducible refine nx_25 ?_ | with_reducible refine nx_s0 ?_ | with_reducible refine nx_u ?_) | ((with_reducible show And _ _); first | with_reducible refine and_rfl ?_ | with_reducible refine rg0_nat (by walk_at "ar") ?_ | with_reducible refine rg_nat (by walk_at "ar") ?_ | with_reducible refine rg_int (by walk_at "ar") (by walk_at "ar") ?_) | ((with_reducible show appW _ _); refine no_implicit_lambda% (app_ok rfl ?_)) | ((with_reducible show intW _ _); refine no_implicit_lambda% (intw_ok rfl ?_)) | ((fail_if_success (with_reducible first | show got _ _ | show ite _ _ _ | show And _ _ | show Mof _ _ _ _ _ _ _ | show gotL _ _ | show gotO _ _ | show gotB _ _ | show appW _ _ | show intW _ _ | show forW _ _ _ _ _ _ _ _ | show lcW _ _ _ _ _ _ _ _ _ | show mkW _ _ _ _ _ _ _ | show nxW _ _ _ | show Exists _)); first | rw [lk_gput] | rw [gput_at] | rw [tabN_hd] | rw [tabM_hd] | rw [lk_web] | rw [tabN_tl rfl] | rw [tabM_tl rfl]))
local macro_rules | `(tactic| walk_at "go") => `(tactic| ((repeat ((with_reducible conv => whnf); walk_at "op")); (try (with_reducible conv => whnf))))
end DL
set_option Elab.async false
set_option linter.all false
set_option maxRecDepth 100000
set_option maxHeartbeats 4000000
namespace DL
open PySem PySem.Spec PyProof.Rows L2
local macro_rules | `(tactic| walk_at "ar") => `(tactic| first | assumption | omega | (simp only [List.length_cons, List.length_append, List.length_map, List.length_nil, Int.natCast_add, Int.natCast_one] at *; omega))
local macro_rules | `(tactic| walk_at "sm") => `(tactic| first | assumption | exact sm_of (by omega) (by omega))
local macro_rules | `(tactic| walk_at "w") => `(tactic| (with_reducible conv => whnf))
local macro_rules | `(tactic| walk_at "op") => `(tactic| first | ((with_reducible show got (nth _ _) _); refine no_implicit_lambda% (got_ok rfl ?_)) | ((with_reducible show got _ _); first | ((with_reducible show got (eqD _ _) _); first | with_reducible refine got_ok eq_str ?_ | with_reducible refine got_ok eq_int ?_ | with_reducible refine got_ok eq_pr ?_ | with_reducible refine got_ok eq_st ?_ | with_reducible refine got_ok eq_tup_str ?_ | with_reducible refine got_ok eq_lst_str ?_) | ((with_reducible show got (neD _ _) _); first | with_reducible refine got_ok ne_str ?_ | with_reducible refine got_ok ne_int ?_ | with_reducible refine got_ok ne_pr ?_ | with_reducible refine got_ok ne_st ?_ | with_reducible refine got_ok ne_tup_str ?_ | with_reducible refine got_ok ne_lst_str ?_) | ((with_reducible show got (inD _ _) _); first | with_reducible refine got_ok in_lst_str ?_ | with_reducible refine got_ok in_tup_str ?_ | with_reducible refine got_ok in_lst_pr ?_ | with_reducible refine got_ok in_tup_pr ?_ | with_reducible refine got_ok in_lst_st ?_ | with_reducible refine got_ok in_tup_st ?_) | ((with_reducible show got (ninD _ _) _); first | with_reducible refine got_ok nin_lst_str ?_ | with_reducible refine got_ok nin_tup_str ?_ | with_reducible refine got_ok nin_lst_pr ?_ | with_reducible refine got_ok nin_tup_pr ?_) | ((with_reducible show got (mulD _ _) _); with_reducible refine got_ok (mul_sm (by walk_at "sm") (by walk_at "sm")) ?_) | ((with_reducible show got (modD _ _) _); with_reducible refine got_ok (mod_ii (by omega)) ?_) | ((with_reducible show got (fdivD _ _) _); with_reducible refine got_ok (fdiv_ii (by decide)) ?_) | ((with_reducible show got (powD _ _) _); with_reducible refine got_ok (pow_ii (by decide)) ?_) | ((with_reducible show got (slD _ _ _) _); first | with_reducible refine got_ok slm_tupTo ?_ | with_reducible refine got_ok slm_lstTo ?_ | with_reducible refine got_ok slm_tupFrom ?_ | with_reducible refine got_ok slm_lstFrom ?_ | with_reducible refine got_ok slm_tup1 ?_ | with_reducible refine got_ok slm_lst1 ?_) | ((with_reducible show got (ixD _ _) _); first | with_reducible refine got_ok ixm_lst0 ?_ | with_reducible refine got_ok ixm_tup0 ?_ | with_reducible refine got_ok (ixm_lst (by assumption)) ?_ | with_reducible refine got_ok (ixm_tup (by assumption)) ?_) | refine no_implicit_lambda% (got_ok rfl ?_) | rw [lk_gput]) | ((with_reducible show ite _ _ _); first | with_reducible refine if_t ?_ | with_reducible refine if_f ?_ | with_reducible refine if_ntt ?_ | with_reducible refine if_ntf ?_ | with_reducible refine if_bt (by assumption) ?_ | with_reducible refine if_bf (by assumption) ?_ | with_reducible refine if_nbt (by assumption) ?_ | with_reducible refine if_nbf (by assumption) ?_ | with_reducible refine if_dt (by walk_at "ar") ?_ | with_reducible refine if_df (by walk_at "ar") ?_ | with_reducible refine if_nt (by walk_at "ar") ?_ | with_reducible refine if_nf (by walk_at "ar") ?_ | refine no_implicit_lambda% (if_t ?_) | refine no_implicit_lambda% (if_f ?_)) | ((with_reducible show gotL _ _); refine no_implicit_lambda% (gotL_ok rfl ?_)) | ((with_reducible show gotB _ _); refine no_implicit_lambda% (gotB_ok rfl ?_)) | ((with_reducible show gotO _ _); refine no_implicit_lambda% (gotO_ok rfl ?_)) | ((with_reducible show nxW _ _ _); first | with_reducible refine nx_s ?_ | with_reducible refine nx_n ?_ | with_reducible refine nx_0 ?_ | with_reducible refine nx_1 ?_ | with_reducible refine nx_2 ?_ | with_reducible refine nx_3 ?_ | with_reducible refine nx_4 ?_ | with_reducible refine nx_5 ?_ | with_reducible refine nx_6 ?_ | with_reducible refine nx_7 ?_ | with_reducible refine nx_8 ?_ | with_reducible refine nx_9 ?_ | with_reducible refine nx_10 ?_ | with_reducible refine nx_11 ?_ | with_reducible refine nx_12 ?_ | with_reducible refine nx_13 ?_ | with_reducible refine nx_14 ?_ | with_reducible refine nx_15 ?_ | with_reducible refine nx_16 ?_ | with_reducible refine nx_17 ?_ | with_reducible refine nx_18 ?_ | with_reducible refine nx_19 ?_ | with_reducible refine nx_20 ?_ | with_reducible refine nx_21 ?_ | with_reducible refine nx_22 ?_ | with_reducible refine nx_23 ?_ | with_reducible refine nx_24 ?_ | with_reducible refine nx_25 ?_ | with_reducible refine nx_s0 ?_ | with_reducible refine nx_u ?_) | ((with_reducible show And _ _); first | with_reducible refine and_rfl ?_ | with_reducible refine rg0_nat (by walk_at "ar") ?_ | with_reducible refine rg_nat (by walk_at "ar") ?_ | with_reducible refine rg_int (by walk_at "ar") (by walk_at "ar") ?_) | ((with_reducible show appW _ _); refine no_implicit_lambda% (app_ok rfl ?_)) | ((with_reducible show intW _ _); refine no_implicit_lambda% (intw_ok rfl ?_)) | ((fail_if_success (with_reducible first | show got _ _ | show ite _ _ _ | show And _ _ | show Mof _ _ _ _ _ _ _ | show gotL _ _ | show gotO _ _ | show gotB _ _ | show appW _ _ | show intW _ _ | show forW _ _ _ _ _ _ _ _ | show lcW _ _ _ _ _ _ _ _ _ | show mkW _ _ _ _ _ _ _ | show nxW _ _ _ | show Exists _)); first | rw [lk_gput] | rw [gput_at] | rw [tabN_hd] | rw [tabM_hd] | rw [lk_web] | rw [tabN_tl rfl] | rw [tabM_tl rfl]))
local macro_rules | `(tactic| walk_at "go") => `(tactic| ((repeat ((with_reducible conv => whnf); walk_at "op")); (try (with_reducible conv => whnf))))
/-! ### reaching -/
inductive Reach {α : Type} (ps : List (α × α)) : α → α → Prop
  | one {a b : α} : (a, b) ∈ ps → Reach ps a b
  | more {a b c : α} : (a, b) ∈ ps → Reach ps b c → Reach ps a c
theorem Reach.trans {α : Type} {ps : List (α × α)} {a b c : α} (h : Reach ps a b) (g : Reach ps b c) : Reach ps a c := by
  induction h with
  | one h => exact .more h g
  | more h _ ih => exact .more h (ih g)
theorem Reach.mono {α : Type} {ps qs : List (α × α)} (s : ∀ p ∈ ps, p ∈ qs) {a b : α} (h : Reach ps a b) : Reach qs a b := by
  induction h with
  | one h => exact .one (s _ h)
  | more h _ ih => exact .more (s _ h) ih
/-! ### behind_all -/
end DL
set_option Elab.async false
set_option linter.all false
set_option maxRecDepth 100000
set_option maxHeartbeats 4000000
namespace DL
open PySem PySem.Spec PyProof.Rows L2
local macro_rules | `(tactic| walk_at "ar") => `(tactic| first | assumption | omega | (simp only [List.length_cons, List.length_append, List.length_map, List.length_nil, Int.natCast_add, Int.natCast_one] at *; omega))
local macro_rules | `(tactic| walk_at "sm") => `(tactic| first | assumption | exact sm_of (by omega) (by omega))
local macro_rules | `(tactic| walk_at "w") => `(tactic| (with_reducible conv => whnf))
local macro_rules | `(tactic| walk_at "op") => `(tactic| first | ((with_reducible show got (nth _ _) _); refine no_implicit_lambda% (got_ok rfl ?_)) | ((with_reducible show got _ _); first | ((with_reducible show got (eqD _ _) _); first | with_reducible refine got_ok eq_str ?_ | with_reducible refine got_ok eq_int ?_ | with_reducible refine got_ok eq_pr ?_ | with_reducible refine got_ok eq_st ?_ | with_reducible refine got_ok eq_tup_str ?_ | with_reducible refine got_ok eq_lst_str ?_) | ((with_reducible show got (neD _ _) _); first | with_reducible refine got_ok ne_str ?_ | with_reducible refine got_ok ne_int ?_ | with_reducible refine got_ok ne_pr ?_ | with_reducible refine got_ok ne_st ?_ | with_reducible refine got_ok ne_tup_str ?_ | with_reducible refine got_ok ne_lst_str ?_) | ((with_reducible show got (inD _ _) _); first | with_reducible refine got_ok in_lst_str ?_ | with_reducible refine got_ok in_tup_str ?_ | with_reducible refine got_ok in_lst_pr ?_ | with_reducible refine got_ok in_tup_pr ?_ | with_reducible refine got_ok in_lst_st ?_ | with_reducible refine got_ok in_tup_st ?_) | ((with_reducible show got (ninD _ _) _); first | with_reducible refine got_ok nin_lst_str ?_ | with_reducible refine got_ok nin_tup_str ?_ | with_reducible refine got_ok nin_lst_pr ?_ | with_reducible refine got_ok nin_tup_pr ?_) | ((with_reducible show got (mulD _ _) _); with_reducible refine got_ok (mul_sm (by walk_at "sm") (by walk_at "sm")) ?_) | ((with_reducible show got (modD _ _) _); with_reducible refine got_ok (mod_ii (by omega)) ?_) | ((with_reducible show got (fdivD _ _) _); with_reducible refine got_ok (fdiv_ii (by decide)) ?_) | ((with_reducible show got (powD _ _) _); with_reducible refine got_ok (pow_ii (by decide)) ?_) | ((with_reducible show got (slD _ _ _) _); first | with_reducible refine got_ok slm_tupTo ?_ | with_reducible refine got_ok slm_lstTo ?_ | with_reducible refine got_ok slm_tupFrom ?_ | with_reducible refine got_ok slm_lstFrom ?_ | with_reducible refine got_ok slm_tup1 ?_ | with_reducible refine got_ok slm_lst1 ?_) | ((with_reducible show got (ixD _ _) _); first | with_reducible refine got_ok ixm_lst0 ?_ | with_reducible refine got_ok ixm_tup0 ?_ | with_reducible refine got_ok (ixm_lst (by assumption)) ?_ | with_reducible refine got_ok (ixm_tup (by assumption)) ?_) | refine no_implicit_lambda% (got_ok rfl ?_) | rw [lk_gput]) | ((with_reducible show ite _ _ _); first | with_reducible refine if_t ?_ | with_reducible refine if_f ?_ | with_reducible refine if_ntt ?_ | with_reducible refine if_ntf ?_ | with_reducible refine if_bt (by assumption) ?_ | with_reducible refine if_bf (by assumption) ?_ | with_reducible refine if_nbt (by assumption) ?_ | with_reducible refine if_nbf (by assumption) ?_ | with_reducible refine if_dt (by walk_at "ar") ?_ | with_reducible refine if_df (by walk_at "ar") ?_ | with_reducible refine if_nt (by walk_at "ar") ?_ | with_reducible refine if_nf (by walk_at "ar") ?_ | refine no_implicit_lambda% (if_t ?_) | refine no_implicit_lambda% (if_f ?_)) | ((with_reducible show gotL _ _); refine no_implicit_lambda% (gotL_ok rfl ?_)) | ((with_reducible show gotB _ _); refine no_implicit_lambda% (gotB_ok rfl ?_)) | ((with_reducible show gotO _ _); refine no_implicit_lambda% (gotO_ok rfl ?_)) | ((with_reducible show nxW _ _ _); first | with_reducible refine nx_s ?_ | with_reducible refine nx_n ?_ | with_reducible refine nx_0 ?_ | with_reducible refine nx_1 ?_ | with_reducible refine nx_2 ?_ | with_reducible refine nx_3 ?_ | with_reducible refine nx_4 ?_ | with_reducible refine nx_5 ?_ | with_reducible refine nx_6 ?_ | with_reducible refine nx_7 ?_ | with_reducible refine nx_8 ?_ | with_reducible refine nx_9 ?_ | with_reducible refine nx_10 ?_ | with_reducible refine nx_11 ?_ | with_reducible refine nx_12 ?_ | with_reducible refine nx_13 ?_ | with_reducible refine nx_14 ?_ | with_reducible refine nx_15 ?_ | with_reducible refine nx_16 ?_ | with_reducible refine nx_17 ?_ | with_reducible refine nx_18 ?_ | with_reducible refine nx_19 ?_ | with_reducible refine nx_20 ?_ | with_reducible refine nx_21 ?_ | with_reducible refine nx_22 ?_ | with_reducible refine nx_23 ?_ | with_reducible refine nx_24 ?_ | with_reducible refine nx_25 ?_ | with_reducible refine nx_s0 ?_ | with_reducible refine nx_u ?_) | ((with_reducible show And _ _); first | with_reducible refine and_rfl ?_ | with_reducible refine rg0_nat (by walk_at "ar") ?_ | with_reducible refine rg_nat (by walk_at "ar") ?_ | with_reducible refine rg_int (by walk_at "ar") (by walk_at "ar") ?_) | ((with_reducible show appW _ _); refine no_implicit_lambda% (app_ok rfl ?_)) | ((with_reducible show intW _ _); refine no_implicit_lambda% (intw_ok rfl ?_)) | ((fail_if_success (with_reducible first | show got _ _ | show ite _ _ _ | show And _ _ | show Mof _ _ _ _ _ _ _ | show gotL _ _ | show gotO _ _ | show gotB _ _ | show appW _ _ | show intW _ _ | show forW _ _ _ _ _ _ _ _ | show lcW _ _ _ _ _ _ _ _ _ | show mkW _ _ _ _ _ _ _ | show nxW _ _ _ | show Exists _)); first | rw [lk_gput] | rw [gput_at] | rw [tabN_hd] | rw [tabM_hd] | rw [lk_web] | rw [tabN_tl rfl] | rw [tabM_tl rfl]))
local macro_rules | `(tactic| walk_at "go") => `(tactic| ((repeat ((with_reducible conv => whnf); walk_at "op")); (try (with_reducible conv => whnf))))
/-! ### webs -/
end DL
set_option Elab.async false
set_option linter.all false
set_option maxRecDepth 100000
set_option maxHeartbeats 4000000
namespace DL
open PySem PySem.Spec PyProof.Rows L2
local macro_rules | `(tactic| walk_at "ar") => `(tactic| first | assumption | omega | (simp only [List.length_cons, List.length_append, List.length_map, List.length_nil, Int.natCast_add, Int.natCast_one] at *; omega))
local macro_rules | `(tactic| walk_at "sm") => `(tactic| first | assumption | exact sm_of (by omega) (by omega))
local macro_rules | `(tactic| walk_at "w") => `(tactic| (with_reducible conv => whnf))
local macro_rules | `(tactic| walk_at "op") => `(tactic| first | ((with_reducible show got (nth _ _) _); refine no_implicit_lambda% (got_ok rfl ?_)) | ((with_reducible show got _ _); first | ((with_reducible show got (eqD _ _) _); first | with_reducible refine got_ok eq_str ?_ | with_reducible refine got_ok eq_int ?_ | with_reducible refine got_ok eq_pr ?_ | with_reducible refine got_ok eq_st ?_ | with_reducible refine got_ok eq_tup_str ?_ | with_reducible refine got_ok eq_lst_str ?_) | ((with_reducible show got (neD _ _) _); first | with_reducible refine got_ok ne_str ?_ | with_reducible refine got_ok ne_int ?_ | with_reducible refine got_ok ne_pr ?_ | with_reducible refine got_ok ne_st ?_ | with_reducible refine got_ok ne_tup_str ?_ | with_reducible refine got_ok ne_lst_str ?_) | ((with_reducible show got (inD _ _) _); first | with_reducible refine got_ok in_lst_str ?_ | with_reducible refine got_ok in_tup_str ?_ | with_reducible refine got_ok in_lst_pr ?_ | with_reducible refine got_ok in_tup_pr ?_ | with_reducible refine got_ok in_lst_st ?_ | with_reducible refine got_ok in_tup_st ?_) | ((with_reducible show got (ninD _ _) _); first | with_reducible refine got_ok nin_lst_str ?_ | with_reducible refine got_ok nin_tup_str ?_ | with_reducible refine got_ok nin_lst_pr ?_ | with_reducible refine got_ok nin_tup_pr ?_) | ((with_reducible show got (mulD _ _) _); with_reducible refine got_ok (mul_sm (by walk_at "sm") (by walk_at "sm")) ?_) | ((with_reducible show got (modD _ _) _); with_reducible refine got_ok (mod_ii (by omega)) ?_) | ((with_reducible show got (fdivD _ _) _); with_reducible refine got_ok (fdiv_ii (by decide)) ?_) | ((with_reducible show got (powD _ _) _); with_reducible refine got_ok (pow_ii (by decide)) ?_) | ((with_reducible show got (slD _ _ _) _); first | with_reducible refine got_ok slm_tupTo ?_ | with_reducible refine got_ok slm_lstTo ?_ | with_reducible refine got_ok slm_tupFrom ?_ | with_reducible refine got_ok slm_lstFrom ?_ | with_reducible refine got_ok slm_tup1 ?_ | with_reducible refine got_ok slm_lst1 ?_) | ((with_reducible show got (ixD _ _) _); first | with_reducible refine got_ok ixm_lst0 ?_ | with_reducible refine got_ok ixm_tup0 ?_ | with_reducible refine got_ok (ixm_lst (by assumption)) ?_ | with_reducible refine got_ok (ixm_tup (by assumption)) ?_) | refine no_implicit_lambda% (got_ok rfl ?_) | rw [lk_gput]) | ((with_reducible show ite _ _ _); first | with_reducible refine if_t ?_ | with_reducible refine if_f ?_ | with_reducible refine if_ntt ?_ | with_reducible refine if_ntf ?_ | with_reducible refine if_bt (by assumption) ?_ | with_reducible refine if_bf (by assumption) ?_ | with_reducible refine if_nbt (by assumption) ?_ | with_reducible refine if_nbf (by assumption) ?_ | with_reducible refine if_dt (by walk_at "ar") ?_ | with_reducible refine if_df (by walk_at "ar") ?_ | with_reducible refine if_nt (by walk_at "ar") ?_ | with_reducible refine if_nf (by walk_at "ar") ?_ | refine no_implicit_lambda% (if_t ?_) | refine no_implicit_lambda% (if_f ?_)) | ((with_reducible show gotL _ _); refine no_implicit_lambda% (gotL_ok rfl ?_)) | ((with_reducible show gotB _ _); refine no_implicit_lambda% (gotB_ok rfl ?_)) | ((with_reducible show gotO _ _); refine no_implicit_lambda% (gotO_ok rfl ?_)) | ((with_reducible show nxW _ _ _); first | with_reducible refine nx_s ?_ | with_reducible refine nx_n ?_ | with_reducible refine nx_0 ?_ | with_reducible refine nx_1 ?_ | with_reducible refine nx_2 ?_ | with_reducible refine nx_3 ?_ | with_reducible refine nx_4 ?_ | with_reducible refine nx_5 ?_ | with_reducible refine nx_6 ?_ | with_reducible refine nx_7 ?_ | with_reducible refine nx_8 ?_ | with_reducible refine nx_9 ?_ | with_reducible refine nx_10 ?_ | with_reducible refine nx_11 ?_ | with_reducible refine nx_12 ?_ | with_reducible refine nx_13 ?_ | with_reducible refine nx_14 ?_ | with_reducible refine nx_15 ?_ | with_reducible refine nx_16 ?_ | with_reducible refine nx_17 ?_ | with_reducible refine nx_18 ?_ | with_reducible refine nx_19 ?_ | with_reducible refine nx_20 ?_ | with_reducible refine nx_21 ?_ | with_reducible refine nx_22 ?_ | with_reducible refine nx_23 ?_ | with_reducible refine nx_24 ?_ | with_reducible refine nx_25 ?_ | with_reducible refine nx_s0 ?_ | with_reducible refine nx_u ?_) | ((with_reducible show And _ _); first | with_reducible refine and_rfl ?_ | with_reducible refine rg0_nat (by walk_at "ar") ?_ | with_reducible refine rg_nat (by walk_at "ar") ?_ | with_reducible refine rg_int (by walk_at "ar") (by walk_at "ar") ?_) | ((with_reducible show appW _ _); refine no_implicit_lambda% (app_ok rfl ?_)) | ((with_reducible show intW _ _); refine no_implicit_lambda% (intw_ok rfl ?_)) | ((fail_if_success (with_reducible first | show got _ _ | show ite _ _ _ | show And _ _ | show Mof _ _ _ _ _ _ _ | show gotL _ _ | show gotO _ _ | show gotB _ _ | show appW _ _ | show intW _ _ | show forW _ _ _ _ _ _ _ _ | show lcW _ _ _ _ _ _ _ _ _ | show mkW _ _ _ _ _ _ _ | show nxW _ _ _ | show Exists _)); first | rw [lk_gput] | rw [gput_at] | rw [tabN_hd] | rw [tabM_hd] | rw [lk_web] | rw [tabN_tl rfl] | rw [tabM_tl rfl]))
local macro_rules | `(tactic| walk_at "go") => `(tactic| ((repeat ((with_reducible conv => whnf); walk_at "op")); (try (with_reducible conv => whnf))))
theorem pow_le_pow {a b : Nat} (h : a ≤ b) : (2 : Int) ^ a ≤ 2 ^ b := by exact_mod_cast Nat.pow_le_pow_right (by decide) h
/-! ### draws: the tide -/
def TideV (x : D) (c : Nat) : Prop := ∃ g s c' : Int, x = .lst [.int g, .int s, .int c'] ∧ 0 ≤ g ∧ 0 ≤ s ∧ s < 2147483179 ∧ 0 ≤ c' ∧ c' ≤ c
theorem TideV.mono {x : D} {c d : Nat} (h : TideV x c) (hd : c ≤ d) : TideV x d := let ⟨g, s, c', e, h1, h2, h3, h4, h5⟩ := h; ⟨g, s, c', e, h1, h2, h3, h4, by omega⟩
theorem cast_t {n : Nat} {p : Addr} {G0 : Gs} {x : D} {c : Nat} {m : Int} (hm : 0 < m) (hz : m < 2 ^ 8000) (hx : TideV x c) (hc : c < 1000000000) {Q : KD} {E : XKD}
    (k : ∀ i x', 0 ≤ i → i < m → TideV x' (c + 1) → Q (.int i) (gput G0 p x')) : Mof bs (n+1) i_law_cast [.ref p, .int m] (gput G0 p x) Q E := by
  obtain ⟨g, s, c', rfl, h1, h2, h3, h4, h5⟩ := hx
  refine no_implicit_lambda% (run_5 hb_law_cast rfl ?_)
  walk_at "go"
  have n0 : ∀ x : Int, 0 ≤ x % 2147483179 := fun x => Int.emod_nonneg _ (by decide)
  have n1 : ∀ x : Int, x % 2147483179 < 2147483179 := fun x => Int.emod_lt_of_pos _ (by decide)
  have hz2 : m.natAbs.log2 < 9000 := log2_abs 9000 (by omega) (Int.lt_of_lt_of_le hz (pow_le_pow (by decide))) (by decide)
  refine if_b (fun h => ?_) fun h => ?_
  · refine no_implicit_lambda% (divm_ok (a := .int (g / m)) (b := .int (g % m)) (fun Q E q => ?_) rfl gput_at rfl ?_)
    · walk_at "go"
      refine no_implicit_lambda% (got_ok (divmod_ii ⟨hm, hz2⟩) ?_)
      exact q
    walk_at "go"
    rw [gput_gput, gput_gput, gput_gput]
    exact k _ _ (Int.emod_nonneg _ (by omega)) (Int.emod_lt_of_pos _ hm) ⟨_, _, _, rfl, Int.ediv_nonneg h1 (by omega), n0 _, n1 _, by omega, by omega⟩
  · walk_at "go"
    rw [gput_gput, gput_gput]
    exact k _ _ (Int.emod_nonneg _ (by omega)) (Int.emod_lt_of_pos _ hm) ⟨_, _, _, rfl, h1, n0 _, n1 _, by omega, by omega⟩
theorem big_of {m : Int} (h : m < 2 ^ 60) : m < 2 ^ 8000 := Int.lt_of_lt_of_le h (pow_le_pow (by decide))
theorem tide_t {n : Nat} {G : Gs} {ns : List Int} {t : Nat} {Q : KD} {E : XKD} (h1 : t < 64) (hl : ns.length ≤ 63)
    (k : ∀ p x, G p = none → TideV x 0 → Q (.ref p) (gput G p x)) : Mof bs (n + 1) i_law_tide [.scr ns, .int t] G Q E := by
  refine no_implicit_lambda% (run_5 hb_law_tide rfl ?_)
  walk_at "go"
  refine no_implicit_lambda% (for_map (fun pre ρ' G' => G' = G ∧ ∃ (s : Int) (z : Option D), ρ' = [some (.scr ns), some (.int t), some (.int s), z, none] ∧ 0 ≤ s ∧ s < 2147483179) ⟨rfl, _, _, rfl, by omega, by omega⟩ ?_ ?_)
  · rintro pre a post ρ G' nx hx ⟨rfl, s, z, rfl, hs0, hs1⟩ hn
    refine ⟨_, rfl, ?_⟩
    walk_at "go"
    exact hn _ _ ⟨rfl, _, _, rfl, Int.emod_nonneg _ (by decide), Int.emod_lt_of_pos _ (by decide)⟩
  · rintro ρ G' ⟨rfl, s, z, rfl, hs0, hs1⟩
    have fin : ∀ g : Int, 0 ≤ g → ∀ p, G' p = none → Q (.ref p) (gput G' p (.lst [.int g, .int s, .int 0])) := fun g hg p hp => k p _ hp ⟨g, s, 0, rfl, hg, hs0, hs1, by omega, by omega⟩
    walk_at "go"
    refine if_b (fun h => ?_) fun h => ?_
    · have ht : t < ns.length := by simpa using h
      have hix : ixD (.scr ns) (.int t) = some (.int ns[t]) := by
        show (atI ns t).map D.int = _
        rw [atI_nat]; simp [ht]
      walk_at "go"
      refine no_implicit_lambda% (got_ok hix ?_)
      walk_at "go"
      refine if_b (fun h => ?_) fun h => ?_
      · walk_at "go"
        refine no_implicit_lambda% (got_ok hix ?_)
        walk_at "go"
        exact fin _ (by split <;> omega)
      · walk_at "go"
        exact fin _ (by omega)
    · walk_at "go"
      exact fin _ (by omega)
theorem of_t {n : Nat} {p : Addr} {G0 : Gs} {x : D} {c : Nat} {Q : KD} {E : XKD} {ds : List D} (h0 : ds ≠ []) (hl : ds.length ≤ 1000000) (hx : TideV x c) (hc : c < 1000000000)
    (k : ∀ d x', d ∈ ds → TideV x' (c + 1) → Q d (gput G0 p x')) : Mof bs (n + 2) i_law_of [.ref p, .lst ds] (gput G0 p x) Q E := by
  have hpos : 0 < ds.length := List.length_pos_iff.mpr h0
  refine no_implicit_lambda% (run_2 hb_law_of rfl ?_)
  walk_at "go"
  refine no_implicit_lambda% (got_ok (len_lst (lim_of hl)) ?_)
  walk_at "go"
  refine no_implicit_lambda% (cast_t (by omega) (big_of (by omega)) hx hc fun i x' i0 i1 hx' => ?_)
  obtain ⟨d, hd, e⟩ := atI_mem i0 i1
  walk_at "w"
  exact got_ok e (k d x' hd hx')
end DL
set_option Elab.async false
set_option linter.all false
set_option maxRecDepth 100000
set_option maxHeartbeats 4000000
namespace DL
open PySem PySem.Spec PyProof.Rows L2
local macro_rules | `(tactic| walk_at "ar") => `(tactic| first | assumption | omega | (simp only [List.length_cons, List.length_append, List.length_map, List.length_nil, Int.natCast_add, Int.natCast_one] at *; omega))
local macro_rules | `(tactic| walk_at "sm") => `(tactic| first | assumption | exact sm_of (by omega) (by omega))
local macro_rules | `(tactic| walk_at "w") => `(tactic| (with_reducible conv => whnf))
local macro_rules | `(tactic| walk_at "op") => `(tactic| first | ((with_reducible show got (nth _ _) _); refine no_implicit_lambda% (got_ok rfl ?_)) | ((with_reducible show got _ _); first | ((with_reducible show got (eqD _ _) _); first | with_reducible refine got_ok eq_str ?_ | with_reducible refine got_ok eq_int ?_ | with_reducible refine got_ok eq_pr ?_ | with_reducible refine got_ok eq_st ?_ | with_reducible refine got_ok eq_tup_str ?_ | with_reducible refine got_ok eq_lst_str ?_) | ((with_reducible show got (neD _ _) _); first | with_reducible refine got_ok ne_str ?_ | with_reducible refine got_ok ne_int ?_ | with_reducible refine got_ok ne_pr ?_ | with_reducible refine got_ok ne_st ?_ | with_reducible refine got_ok ne_tup_str ?_ | with_reducible refine got_ok ne_lst_str ?_) | ((with_reducible show got (inD _ _) _); first | with_reducible refine got_ok in_lst_str ?_ | with_reducible refine got_ok in_tup_str ?_ | with_reducible refine got_ok in_lst_pr ?_ | with_reducible refine got_ok in_tup_pr ?_ | with_reducible refine got_ok in_lst_st ?_ | with_reducible refine got_ok in_tup_st ?_) | ((with_reducible show got (ninD _ _) _); first | with_reducible refine got_ok nin_lst_str ?_ | with_reducible refine got_ok nin_tup_str ?_ | with_reducible refine got_ok nin_lst_pr ?_ | with_reducible refine got_ok nin_tup_pr ?_) | ((with_reducible show got (mulD _ _) _); with_reducible refine got_ok (mul_sm (by walk_at "sm") (by walk_at "sm")) ?_) | ((with_reducible show got (modD _ _) _); with_reducible refine got_ok (mod_ii (by omega)) ?_) | ((with_reducible show got (fdivD _ _) _); with_reducible refine got_ok (fdiv_ii (by decide)) ?_) | ((with_reducible show got (powD _ _) _); with_reducible refine got_ok (pow_ii (by decide)) ?_) | ((with_reducible show got (slD _ _ _) _); first | with_reducible refine got_ok slm_tupTo ?_ | with_reducible refine got_ok slm_lstTo ?_ | with_reducible refine got_ok slm_tupFrom ?_ | with_reducible refine got_ok slm_lstFrom ?_ | with_reducible refine got_ok slm_tup1 ?_ | with_reducible refine got_ok slm_lst1 ?_) | ((with_reducible show got (ixD _ _) _); first | with_reducible refine got_ok ixm_lst0 ?_ | with_reducible refine got_ok ixm_tup0 ?_ | with_reducible refine got_ok (ixm_lst (by assumption)) ?_ | with_reducible refine got_ok (ixm_tup (by assumption)) ?_) | refine no_implicit_lambda% (got_ok rfl ?_) | rw [lk_gput]) | ((with_reducible show ite _ _ _); first | with_reducible refine if_t ?_ | with_reducible refine if_f ?_ | with_reducible refine if_ntt ?_ | with_reducible refine if_ntf ?_ | with_reducible refine if_bt (by assumption) ?_ | with_reducible refine if_bf (by assumption) ?_ | with_reducible refine if_nbt (by assumption) ?_ | with_reducible refine if_nbf (by assumption) ?_ | with_reducible refine if_dt (by walk_at "ar") ?_ | with_reducible refine if_df (by walk_at "ar") ?_ | with_reducible refine if_nt (by walk_at "ar") ?_ | with_reducible refine if_nf (by walk_at "ar") ?_ | refine no_implicit_lambda% (if_t ?_) | refine no_implicit_lambda% (if_f ?_)) | ((with_reducible show gotL _ _); refine no_implicit_lambda% (gotL_ok rfl ?_)) | ((with_reducible show gotB _ _); refine no_implicit_lambda% (gotB_ok rfl ?_)) | ((with_reducible show gotO _ _); refine no_implicit_lambda% (gotO_ok rfl ?_)) | ((with_reducible show nxW _ _ _); first | with_reducible refine nx_s ?_ | with_reducible refine nx_n ?_ | with_reducible refine nx_0 ?_ | with_reducible refine nx_1 ?_ | with_reducible refine nx_2 ?_ | with_reducible refine nx_3 ?_ | with_reducible refine nx_4 ?_ | with_reducible refine nx_5 ?_ | with_reducible refine nx_6 ?_ | with_reducible refine nx_7 ?_ | with_reducible refine nx_8 ?_ | with_reducible refine nx_9 ?_ | with_reducible refine nx_10 ?_ | with_reducible refine nx_11 ?_ | with_reducible refine nx_12 ?_ | with_reducible refine nx_13 ?_ | with_reducible refine nx_14 ?_ | with_reducible refine nx_15 ?_ | with_reducible refine nx_16 ?_ | with_reducible refine nx_17 ?_ | with_reducible refine nx_18 ?_ | with_reducible refine nx_19 ?_ | with_reducible refine nx_20 ?_ | with_reducible refine nx_21 ?_ | with_reducible refine nx_22 ?_ | with_reducible refine nx_23 ?_ | with_reducible refine nx_24 ?_ | with_reducible refine nx_25 ?_ | with_reducible refine nx_s0 ?_ | with_reducible refine nx_u ?_) | ((with_reducible show And _ _); first | with_reducible refine and_rfl ?_ | with_reducible refine rg0_nat (by walk_at "ar") ?_ | with_reducible refine rg_nat (by walk_at "ar") ?_ | with_reducible refine rg_int (by walk_at "ar") (by walk_at "ar") ?_) | ((with_reducible show appW _ _); refine no_implicit_lambda% (app_ok rfl ?_)) | ((with_reducible show intW _ _); refine no_implicit_lambda% (intw_ok rfl ?_)) | ((fail_if_success (with_reducible first | show got _ _ | show ite _ _ _ | show And _ _ | show Mof _ _ _ _ _ _ _ | show gotL _ _ | show gotO _ _ | show gotB _ _ | show appW _ _ | show intW _ _ | show forW _ _ _ _ _ _ _ _ | show lcW _ _ _ _ _ _ _ _ _ | show mkW _ _ _ _ _ _ _ | show nxW _ _ _ | show Exists _)); first | rw [lk_gput] | rw [gput_at] | rw [tabN_hd] | rw [tabM_hd] | rw [lk_web] | rw [tabN_tl rfl] | rw [tabM_tl rfl]))
local macro_rules | `(tactic| walk_at "go") => `(tactic| ((repeat ((with_reducible conv => whnf); walk_at "op")); (try (with_reducible conv => whnf))))
/-! ### drawn names -/
theorem str_int {i : Nat} (h : i < 1000) : strD [.int i] = some (.str (intText i)) := if_pos (Nat.lt_trans (log2_abs 100 (by omega) (by omega) (by decide)) (by decide))
end DL
set_option Elab.async false
set_option linter.all false
set_option maxRecDepth 100000
set_option maxHeartbeats 4000000
namespace DL
open PySem PySem.Spec PyProof.Rows L2
local macro_rules | `(tactic| walk_at "ar") => `(tactic| first | assumption | omega | (simp only [List.length_cons, List.length_append, List.length_map, List.length_nil, Int.natCast_add, Int.natCast_one] at *; omega))
local macro_rules | `(tactic| walk_at "sm") => `(tactic| first | assumption | exact sm_of (by omega) (by omega))
local macro_rules | `(tactic| walk_at "w") => `(tactic| (with_reducible conv => whnf))
local macro_rules | `(tactic| walk_at "op") => `(tactic| first | ((with_reducible show got (nth _ _) _); refine no_implicit_lambda% (got_ok rfl ?_)) | ((with_reducible show got _ _); first | ((with_reducible show got (eqD _ _) _); first | with_reducible refine got_ok eq_str ?_ | with_reducible refine got_ok eq_int ?_ | with_reducible refine got_ok eq_pr ?_ | with_reducible refine got_ok eq_st ?_ | with_reducible refine got_ok eq_tup_str ?_ | with_reducible refine got_ok eq_lst_str ?_) | ((with_reducible show got (neD _ _) _); first | with_reducible refine got_ok ne_str ?_ | with_reducible refine got_ok ne_int ?_ | with_reducible refine got_ok ne_pr ?_ | with_reducible refine got_ok ne_st ?_ | with_reducible refine got_ok ne_tup_str ?_ | with_reducible refine got_ok ne_lst_str ?_) | ((with_reducible show got (inD _ _) _); first | with_reducible refine got_ok in_lst_str ?_ | with_reducible refine got_ok in_tup_str ?_ | with_reducible refine got_ok in_lst_pr ?_ | with_reducible refine got_ok in_tup_pr ?_ | with_reducible refine got_ok in_lst_st ?_ | with_reducible refine got_ok in_tup_st ?_) | ((with_reducible show got (ninD _ _) _); first | with_reducible refine got_ok nin_lst_str ?_ | with_reducible refine got_ok nin_tup_str ?_ | with_reducible refine got_ok nin_lst_pr ?_ | with_reducible refine got_ok nin_tup_pr ?_) | ((with_reducible show got (mulD _ _) _); with_reducible refine got_ok (mul_sm (by walk_at "sm") (by walk_at "sm")) ?_) | ((with_reducible show got (modD _ _) _); with_reducible refine got_ok (mod_ii (by omega)) ?_) | ((with_reducible show got (fdivD _ _) _); with_reducible refine got_ok (fdiv_ii (by decide)) ?_) | ((with_reducible show got (powD _ _) _); with_reducible refine got_ok (pow_ii (by decide)) ?_) | ((with_reducible show got (slD _ _ _) _); first | with_reducible refine got_ok slm_tupTo ?_ | with_reducible refine got_ok slm_lstTo ?_ | with_reducible refine got_ok slm_tupFrom ?_ | with_reducible refine got_ok slm_lstFrom ?_ | with_reducible refine got_ok slm_tup1 ?_ | with_reducible refine got_ok slm_lst1 ?_) | ((with_reducible show got (ixD _ _) _); first | with_reducible refine got_ok ixm_lst0 ?_ | with_reducible refine got_ok ixm_tup0 ?_ | with_reducible refine got_ok (ixm_lst (by assumption)) ?_ | with_reducible refine got_ok (ixm_tup (by assumption)) ?_) | refine no_implicit_lambda% (got_ok rfl ?_) | rw [lk_gput]) | ((with_reducible show ite _ _ _); first | with_reducible refine if_t ?_ | with_reducible refine if_f ?_ | with_reducible refine if_ntt ?_ | with_reducible refine if_ntf ?_ | with_reducible refine if_bt (by assumption) ?_ | with_reducible refine if_bf (by assumption) ?_ | with_reducible refine if_nbt (by assumption) ?_ | with_reducible refine if_nbf (by assumption) ?_ | with_reducible refine if_dt (by walk_at "ar") ?_ | with_reducible refine if_df (by walk_at "ar") ?_ | with_reducible refine if_nt (by walk_at "ar") ?_ | with_reducible refine if_nf (by walk_at "ar") ?_ | refine no_implicit_lambda% (if_t ?_) | refine no_implicit_lambda% (if_f ?_)) | ((with_reducible show gotL _ _); refine no_implicit_lambda% (gotL_ok rfl ?_)) | ((with_reducible show gotB _ _); refine no_implicit_lambda% (gotB_ok rfl ?_)) | ((with_reducible show gotO _ _); refine no_implicit_lambda% (gotO_ok rfl ?_)) | ((with_reducible show nxW _ _ _); first | with_reducible refine nx_s ?_ | with_reducible refine nx_n ?_ | with_reducible refine nx_0 ?_ | with_reducible refine nx_1 ?_ | with_reducible refine nx_2 ?_ | with_reducible refine nx_3 ?_ | with_reducible refine nx_4 ?_ | with_reducible refine nx_5 ?_ | with_reducible refine nx_6 ?_ | with_reducible refine nx_7 ?_ | with_reducible refine nx_8 ?_ | with_reducible refine nx_9 ?_ | with_reducible refine nx_10 ?_ | with_reducible refine nx_11 ?_ | with_reducible refine nx_12 ?_ | with_reducible refine nx_13 ?_ | with_reducible refine nx_14 ?_ | with_reducible refine nx_15 ?_ | with_reducible refine nx_16 ?_ | with_reducible refine nx_17 ?_ | with_reducible refine nx_18 ?_ | with_reducible refine nx_19 ?_ | with_reducible refine nx_20 ?_ | with_reducible refine nx_21 ?_ | with_reducible refine nx_22 ?_ | with_reducible refine nx_23 ?_ | with_reducible refine nx_24 ?_ | with_reducible refine nx_25 ?_ | with_reducible refine nx_s0 ?_ | with_reducible refine nx_u ?_) | ((with_reducible show And _ _); first | with_reducible refine and_rfl ?_ | with_reducible refine rg0_nat (by walk_at "ar") ?_ | with_reducible refine rg_nat (by walk_at "ar") ?_ | with_reducible refine rg_int (by walk_at "ar") (by walk_at "ar") ?_) | ((with_reducible show appW _ _); refine no_implicit_lambda% (app_ok rfl ?_)) | ((with_reducible show intW _ _); refine no_implicit_lambda% (intw_ok rfl ?_)) | ((fail_if_success (with_reducible first | show got _ _ | show ite _ _ _ | show And _ _ | show Mof _ _ _ _ _ _ _ | show gotL _ _ | show gotO _ _ | show gotB _ _ | show appW _ _ | show intW _ _ | show forW _ _ _ _ _ _ _ _ | show lcW _ _ _ _ _ _ _ _ _ | show mkW _ _ _ _ _ _ _ | show nxW _ _ _ | show Exists _)); first | rw [lk_gput] | rw [gput_at] | rw [tabN_hd] | rw [tabM_hd] | rw [lk_web] | rw [tabN_tl rfl] | rw [tabM_tl rfl]))
local macro_rules | `(tactic| walk_at "go") => `(tactic| ((repeat ((with_reducible conv => whnf); walk_at "op")); (try (with_reducible conv => whnf))))
/-! ### shuffling, counting pairs -/
/-! ### the drawn net -/
end DL
set_option Elab.async false
set_option linter.all false
set_option maxRecDepth 100000
set_option maxHeartbeats 4000000
namespace DL
open PySem PySem.Spec PyProof.Rows L2
local macro_rules | `(tactic| walk_at "ar") => `(tactic| first | assumption | omega | (simp only [List.length_cons, List.length_append, List.length_map, List.length_nil, Int.natCast_add, Int.natCast_one] at *; omega))
local macro_rules | `(tactic| walk_at "sm") => `(tactic| first | assumption | exact sm_of (by omega) (by omega))
local macro_rules | `(tactic| walk_at "w") => `(tactic| (with_reducible conv => whnf))
local macro_rules | `(tactic| walk_at "op") => `(tactic| first | ((with_reducible show got (nth _ _) _); refine no_implicit_lambda% (got_ok rfl ?_)) | ((with_reducible show got _ _); first | ((with_reducible show got (eqD _ _) _); first | with_reducible refine got_ok eq_str ?_ | with_reducible refine got_ok eq_int ?_ | with_reducible refine got_ok eq_pr ?_ | with_reducible refine got_ok eq_st ?_ | with_reducible refine got_ok eq_tup_str ?_ | with_reducible refine got_ok eq_lst_str ?_) | ((with_reducible show got (neD _ _) _); first | with_reducible refine got_ok ne_str ?_ | with_reducible refine got_ok ne_int ?_ | with_reducible refine got_ok ne_pr ?_ | with_reducible refine got_ok ne_st ?_ | with_reducible refine got_ok ne_tup_str ?_ | with_reducible refine got_ok ne_lst_str ?_) | ((with_reducible show got (inD _ _) _); first | with_reducible refine got_ok in_lst_str ?_ | with_reducible refine got_ok in_tup_str ?_ | with_reducible refine got_ok in_lst_pr ?_ | with_reducible refine got_ok in_tup_pr ?_ | with_reducible refine got_ok in_lst_st ?_ | with_reducible refine got_ok in_tup_st ?_) | ((with_reducible show got (ninD _ _) _); first | with_reducible refine got_ok nin_lst_str ?_ | with_reducible refine got_ok nin_tup_str ?_ | with_reducible refine got_ok nin_lst_pr ?_ | with_reducible refine got_ok nin_tup_pr ?_) | ((with_reducible show got (mulD _ _) _); with_reducible refine got_ok (mul_sm (by walk_at "sm") (by walk_at "sm")) ?_) | ((with_reducible show got (modD _ _) _); with_reducible refine got_ok (mod_ii (by omega)) ?_) | ((with_reducible show got (fdivD _ _) _); with_reducible refine got_ok (fdiv_ii (by decide)) ?_) | ((with_reducible show got (powD _ _) _); with_reducible refine got_ok (pow_ii (by decide)) ?_) | ((with_reducible show got (slD _ _ _) _); first | with_reducible refine got_ok slm_tupTo ?_ | with_reducible refine got_ok slm_lstTo ?_ | with_reducible refine got_ok slm_tupFrom ?_ | with_reducible refine got_ok slm_lstFrom ?_ | with_reducible refine got_ok slm_tup1 ?_ | with_reducible refine got_ok slm_lst1 ?_) | ((with_reducible show got (ixD _ _) _); first | with_reducible refine got_ok ixm_lst0 ?_ | with_reducible refine got_ok ixm_tup0 ?_ | with_reducible refine got_ok (ixm_lst (by assumption)) ?_ | with_reducible refine got_ok (ixm_tup (by assumption)) ?_) | refine no_implicit_lambda% (got_ok rfl ?_) | rw [lk_gput]) | ((with_reducible show ite _ _ _); first | with_reducible refine if_t ?_ | with_reducible refine if_f ?_ | with_reducible refine if_ntt ?_ | with_reducible refine if_ntf ?_ | with_reducible refine if_bt (by assumption) ?_ | with_reducible refine if_bf (by assumption) ?_ | with_reducible refine if_nbt (by assumption) ?_ | with_reducible refine if_nbf (by assumption) ?_ | with_reducible refine if_dt (by walk_at "ar") ?_ | with_reducible refine if_df (by walk_at "ar") ?_ | with_reducible refine if_nt (by walk_at "ar") ?_ | with_reducible refine if_nf (by walk_at "ar") ?_ | refine no_implicit_lambda% (if_t ?_) | refine no_implicit_lambda% (if_f ?_)) | ((with_reducible show gotL _ _); refine no_implicit_lambda% (gotL_ok rfl ?_)) | ((with_reducible show gotB _ _); refine no_implicit_lambda% (gotB_ok rfl ?_)) | ((with_reducible show gotO _ _); refine no_implicit_lambda% (gotO_ok rfl ?_)) | ((with_reducible show nxW _ _ _); first | with_reducible refine nx_s ?_ | with_reducible refine nx_n ?_ | with_reducible refine nx_0 ?_ | with_reducible refine nx_1 ?_ | with_reducible refine nx_2 ?_ | with_reducible refine nx_3 ?_ | with_reducible refine nx_4 ?_ | with_reducible refine nx_5 ?_ | with_reducible refine nx_6 ?_ | with_reducible refine nx_7 ?_ | with_reducible refine nx_8 ?_ | with_reducible refine nx_9 ?_ | with_reducible refine nx_10 ?_ | with_reducible refine nx_11 ?_ | with_reducible refine nx_12 ?_ | with_reducible refine nx_13 ?_ | with_reducible refine nx_14 ?_ | with_reducible refine nx_15 ?_ | with_reducible refine nx_16 ?_ | with_reducible refine nx_17 ?_ | with_reducible refine nx_18 ?_ | with_reducible refine nx_19 ?_ | with_reducible refine nx_20 ?_ | with_reducible refine nx_21 ?_ | with_reducible refine nx_22 ?_ | with_reducible refine nx_23 ?_ | with_reducible refine nx_24 ?_ | with_reducible refine nx_25 ?_ | with_reducible refine nx_s0 ?_ | with_reducible refine nx_u ?_) | ((with_reducible show And _ _); first | with_reducible refine and_rfl ?_ | with_reducible refine rg0_nat (by walk_at "ar") ?_ | with_reducible refine rg_nat (by walk_at "ar") ?_ | with_reducible refine rg_int (by walk_at "ar") (by walk_at "ar") ?_) | ((with_reducible show appW _ _); refine no_implicit_lambda% (app_ok rfl ?_)) | ((with_reducible show intW _ _); refine no_implicit_lambda% (intw_ok rfl ?_)) | ((fail_if_success (with_reducible first | show got _ _ | show ite _ _ _ | show And _ _ | show Mof _ _ _ _ _ _ _ | show gotL _ _ | show gotO _ _ | show gotB _ _ | show appW _ _ | show intW _ _ | show forW _ _ _ _ _ _ _ _ | show lcW _ _ _ _ _ _ _ _ _ | show mkW _ _ _ _ _ _ _ | show nxW _ _ _ | show Exists _)); first | rw [lk_gput] | rw [gput_at] | rw [tabN_hd] | rw [tabM_hd] | rw [lk_web] | rw [tabN_tl rfl] | rw [tabM_tl rfl]))
local macro_rules | `(tactic| walk_at "go") => `(tactic| ((repeat ((with_reducible conv => whnf); walk_at "op")); (try (with_reducible conv => whnf))))
/-! ### what repr tells -/
structure RL (n : Nat) (d : D) (k : Nat) : Prop where
  sh : showB n d = true
  le : (toP n d).shown.length ≤ k
theorem RL.mono {n k j : Nat} {d : D} (h : RL n d k) (hj : k ≤ j) : RL n d j := ⟨h.sh, Nat.le_trans h.le hj⟩
theorem rl_non {n : Nat} : RL n .non 8 := ⟨by cases n <;> rfl, by cases n <;> (simp only [toP]; decide)⟩
theorem rl_bl {n : Nat} {b : Bool} : RL n (.bl b) 8 := ⟨by cases n <;> rfl, by cases n <;> (simp only [toP]; cases b <;> decide)⟩
theorem rl_int {n k : Nat} {i : Int} (hk : 1 ≤ k) (hk2 : k ≤ 200) (h0 : -(10 ^ k) < i) (h : i < 10 ^ k) : RL n (.int i) (k + 1) := by
  have hn : i.natAbs < 10 ^ k := by
    have : (i.natAbs : Int) < ((10 ^ k : Nat) : Int) := by rw [Int.natCast_pow]; show _ < (10 : Int) ^ k; omega
    exact_mod_cast this
  have hb : (10 : Nat) ^ k ≤ 2 ^ 800 := by
    have h1 : (10 : Nat) ^ k ≤ 16 ^ k := Nat.pow_le_pow_left (by decide) k
    have h2 : (16 : Nat) ^ k ≤ 16 ^ 200 := Nat.pow_le_pow_right (by decide) hk2
    have h3 : (16 : Nat) ^ 200 = 2 ^ 800 := by rw [show (16 : Nat) = 2 ^ 4 from rfl, ← Nat.pow_mul]
    omega
  refine ⟨?_, ?_⟩
  · have hl : i.natAbs.log2 < 1920 := by
      by_cases z : i.natAbs = 0
      · rw [z]; decide
      · exact (Nat.log2_lt z).mpr (Nat.lt_of_lt_of_le hn (Nat.le_trans hb (Nat.pow_le_pow_right (by decide) (by decide))))
    cases n <;> exact decide_eq_true hl
  · have e := int_text_length_le10 (k := k) hk hn
    have : (toP n (.int i)).shown = Str.ofString (toString i) := by cases n <;> simp only [toP, PyData.shown] <;> rfl
    rw [this, PySem.ofString_length]; exact e
theorem rl_str {n : Nat} {s : List Nat} (h : ∀ c ∈ s, c < 16 ^ 8) : RL n (.str s) (10 * s.length + 2) := by
  refine ⟨by cases n <;> rfl, ?_⟩
  have : (toP n (.str s)).shown = reprText ⟨s.toArray⟩ := by cases n <;> simp only [toP, PyData.shown]
  rw [this]
  have e := StrLaws.reprText_len ⟨s.toArray⟩ (by simpa using h)
  have e2 : (⟨s.toArray⟩ : Str).length = s.length := by simp [Str.length]
  rw [e2] at e
  exact e
theorem rl_seq {n k : Nat} : ∀ {l : List D}, (∀ d ∈ l, RL n d k) → l.all (showB n) = true ∧ ((PyData.shownAll (l.map (toP n))).map (·.length)).sum ≤ k * l.length ∧ (PyData.shownAll (l.map (toP n))).length = l.length
  | [], _ => ⟨rfl, by simp [PyData.shownAll], rfl⟩
  | d :: r, h => by
    obtain ⟨h1, h2, h3⟩ := rl_seq (l := r) fun x hx => h x (List.mem_cons_of_mem _ hx)
    have hd := h d List.mem_cons_self
    refine ⟨by simp [hd.sh, h1], ?_, by simp only [List.map_cons, PyData.shownAll, List.length_cons, h3]⟩
    simp only [List.map_cons, PyData.shownAll, List.sum_cons, List.length_cons, Nat.mul_add, Nat.mul_one]
    have := hd.le
    omega
theorem rl_tup {n k m : Nat} {l : List D} (h : ∀ d ∈ l, RL n d k) (hm : l.length ≤ m) : RL (n + 1) (.tup l) ((k + 2) * m + 3) := by
  obtain ⟨h1, h2, h3⟩ := rl_seq h
  refine ⟨h1, ?_⟩
  simp only [toP, PyData.shown]
  have e := tupleText_len_le (PyData.shownAll (l.map (toP n)))
  have : (k + 2) * l.length ≤ (k + 2) * m := Nat.mul_le_mul_left _ hm
  rw [Nat.add_mul] at this
  omega
end DL
set_option Elab.async false
set_option linter.all false
set_option maxRecDepth 100000
set_option maxHeartbeats 4000000
namespace DL
open PySem PySem.Spec PyProof.Rows L2
local macro_rules | `(tactic| walk_at "ar") => `(tactic| first | assumption | omega | (simp only [List.length_cons, List.length_append, List.length_map, List.length_nil, Int.natCast_add, Int.natCast_one] at *; omega))
local macro_rules | `(tactic| walk_at "sm") => `(tactic| first | assumption | exact sm_of (by omega) (by omega))
local macro_rules | `(tactic| walk_at "w") => `(tactic| (with_reducible conv => whnf))
local macro_rules | `(tactic| walk_at "op") => `(tactic| first | ((with_reducible show got (nth _ _) _); refine no_implicit_lambda% (got_ok rfl ?_)) | ((with_reducible show got _ _); first | ((with_reducible show got (eqD _ _) _); first | with_reducible refine got_ok eq_str ?_ | with_reducible refine got_ok eq_int ?_ | with_reducible refine got_ok eq_pr ?_ | with_reducible refine got_ok eq_st ?_ | with_reducible refine got_ok eq_tup_str ?_ | with_reducible refine got_ok eq_lst_str ?_) | ((with_reducible show got (neD _ _) _); first | with_reducible refine got_ok ne_str ?_ | with_reducible refine got_ok ne_int ?_ | with_reducible refine got_ok ne_pr ?_ | with_reducible refine got_ok ne_st ?_ | with_reducible refine got_ok ne_tup_str ?_ | with_reducible refine got_ok ne_lst_str ?_) | ((with_reducible show got (inD _ _) _); first | with_reducible refine got_ok in_lst_str ?_ | with_reducible refine got_ok in_tup_str ?_ | with_reducible refine got_ok in_lst_pr ?_ | with_reducible refine got_ok in_tup_pr ?_ | with_reducible refine got_ok in_lst_st ?_ | with_reducible refine got_ok in_tup_st ?_) | ((with_reducible show got (ninD _ _) _); first | with_reducible refine got_ok nin_lst_str ?_ | with_reducible refine got_ok nin_tup_str ?_ | with_reducible refine got_ok nin_lst_pr ?_ | with_reducible refine got_ok nin_tup_pr ?_) | ((with_reducible show got (mulD _ _) _); with_reducible refine got_ok (mul_sm (by walk_at "sm") (by walk_at "sm")) ?_) | ((with_reducible show got (modD _ _) _); with_reducible refine got_ok (mod_ii (by omega)) ?_) | ((with_reducible show got (fdivD _ _) _); with_reducible refine got_ok (fdiv_ii (by decide)) ?_) | ((with_reducible show got (powD _ _) _); with_reducible refine got_ok (pow_ii (by decide)) ?_) | ((with_reducible show got (slD _ _ _) _); first | with_reducible refine got_ok slm_tupTo ?_ | with_reducible refine got_ok slm_lstTo ?_ | with_reducible refine got_ok slm_tupFrom ?_ | with_reducible refine got_ok slm_lstFrom ?_ | with_reducible refine got_ok slm_tup1 ?_ | with_reducible refine got_ok slm_lst1 ?_) | ((with_reducible show got (ixD _ _) _); first | with_reducible refine got_ok ixm_lst0 ?_ | with_reducible refine got_ok ixm_tup0 ?_ | with_reducible refine got_ok (ixm_lst (by assumption)) ?_ | with_reducible refine got_ok (ixm_tup (by assumption)) ?_) | refine no_implicit_lambda% (got_ok rfl ?_) | rw [lk_gput]) | ((with_reducible show ite _ _ _); first | with_reducible refine if_t ?_ | with_reducible refine if_f ?_ | with_reducible refine if_ntt ?_ | with_reducible refine if_ntf ?_ | with_reducible refine if_bt (by assumption) ?_ | with_reducible refine if_bf (by assumption) ?_ | with_reducible refine if_nbt (by assumption) ?_ | with_reducible refine if_nbf (by assumption) ?_ | with_reducible refine if_dt (by walk_at "ar") ?_ | with_reducible refine if_df (by walk_at "ar") ?_ | with_reducible refine if_nt (by walk_at "ar") ?_ | with_reducible refine if_nf (by walk_at "ar") ?_ | refine no_implicit_lambda% (if_t ?_) | refine no_implicit_lambda% (if_f ?_)) | ((with_reducible show gotL _ _); refine no_implicit_lambda% (gotL_ok rfl ?_)) | ((with_reducible show gotB _ _); refine no_implicit_lambda% (gotB_ok rfl ?_)) | ((with_reducible show gotO _ _); refine no_implicit_lambda% (gotO_ok rfl ?_)) | ((with_reducible show nxW _ _ _); first | with_reducible refine nx_s ?_ | with_reducible refine nx_n ?_ | with_reducible refine nx_0 ?_ | with_reducible refine nx_1 ?_ | with_reducible refine nx_2 ?_ | with_reducible refine nx_3 ?_ | with_reducible refine nx_4 ?_ | with_reducible refine nx_5 ?_ | with_reducible refine nx_6 ?_ | with_reducible refine nx_7 ?_ | with_reducible refine nx_8 ?_ | with_reducible refine nx_9 ?_ | with_reducible refine nx_10 ?_ | with_reducible refine nx_11 ?_ | with_reducible refine nx_12 ?_ | with_reducible refine nx_13 ?_ | with_reducible refine nx_14 ?_ | with_reducible refine nx_15 ?_ | with_reducible refine nx_16 ?_ | with_reducible refine nx_17 ?_ | with_reducible refine nx_18 ?_ | with_reducible refine nx_19 ?_ | with_reducible refine nx_20 ?_ | with_reducible refine nx_21 ?_ | with_reducible refine nx_22 ?_ | with_reducible refine nx_23 ?_ | with_reducible refine nx_24 ?_ | with_reducible refine nx_25 ?_ | with_reducible refine nx_s0 ?_ | with_reducible refine nx_u ?_) | ((with_reducible show And _ _); first | with_reducible refine and_rfl ?_ | with_reducible refine rg0_nat (by walk_at "ar") ?_ | with_reducible refine rg_nat (by walk_at "ar") ?_ | with_reducible refine rg_int (by walk_at "ar") (by walk_at "ar") ?_) | ((with_reducible show appW _ _); refine no_implicit_lambda% (app_ok rfl ?_)) | ((with_reducible show intW _ _); refine no_implicit_lambda% (intw_ok rfl ?_)) | ((fail_if_success (with_reducible first | show got _ _ | show ite _ _ _ | show And _ _ | show Mof _ _ _ _ _ _ _ | show gotL _ _ | show gotO _ _ | show gotB _ _ | show appW _ _ | show intW _ _ | show forW _ _ _ _ _ _ _ _ | show lcW _ _ _ _ _ _ _ _ _ | show mkW _ _ _ _ _ _ _ | show nxW _ _ _ | show Exists _)); first | rw [lk_gput] | rw [gput_at] | rw [tabN_hd] | rw [tabM_hd] | rw [lk_web] | rw [tabN_tl rfl] | rw [tabM_tl rfl]))
local macro_rules | `(tactic| walk_at "go") => `(tactic| ((repeat ((with_reducible conv => whnf); walk_at "op")); (try (with_reducible conv => whnf))))
/-! ### the errors, as the law sorts them -/
def EL : List (Nat × Nm) := [(2, [116, 101, 120, 116]), (3, [110, 117, 109, 98, 101, 114]), (4, [110, 97, 109, 101]), (5, [119, 105, 115, 104]), (6, [105, 110, 100, 101, 120]), (7, [110, 111, 32, 112, 108, 97, 110]), (8, [110, 111, 32, 119, 101, 98]), (9, [112, 108, 97, 110]), (10, [115, 116, 101, 112, 115]), (11, [110, 101, 101, 100, 115]), (12, [111, 114, 100, 101, 114]), (13, [104, 105, 103, 104, 115]), (15, [117, 110, 107, 110, 111, 119, 110]), (17, [109, 97, 110, 121]), (18, [117, 110, 100, 111]), (19, [98, 114, 111, 107, 101, 110])]
def undoW : Nm := [117, 110, 100, 111]
def exD (p : Nat × Nm) (d : D) : D := if p.2 = undoW then .exn p.1 [] else .exn p.1 [d]
def dueD (p : Nat × Nm) (d : D) : D := if p.2 = undoW then .non else d
theorem so_2 {n : Nat} {l : List D} : Pf (Mof bs (n+1)) i_law_sort [.exn 2 l] (.str [116, 101, 120, 116]) := by
  intro G Q E q
  refine no_implicit_lambda% (run_6 hb_law_sort rfl ?_)
  walk_at "go"
  refine ⟨lim_lt (by simp), ?_⟩
  walk_at "go"
  exact q
theorem so_3 {n : Nat} {l : List D} : Pf (Mof bs (n+1)) i_law_sort [.exn 3 l] (.str [110, 117, 109, 98, 101, 114]) := by
  intro G Q E q
  refine no_implicit_lambda% (run_6 hb_law_sort rfl ?_)
  walk_at "go"
  refine ⟨lim_lt (by simp), ?_⟩
  walk_at "go"
  exact q
theorem so_4 {n : Nat} {l : List D} : Pf (Mof bs (n+1)) i_law_sort [.exn 4 l] (.str [110, 97, 109, 101]) := by
  intro G Q E q
  refine no_implicit_lambda% (run_6 hb_law_sort rfl ?_)
  walk_at "go"
  refine ⟨lim_lt (by simp), ?_⟩
  walk_at "go"
  exact q
theorem so_5 {n : Nat} {l : List D} : Pf (Mof bs (n+1)) i_law_sort [.exn 5 l] (.str [119, 105, 115, 104]) := by
  intro G Q E q
  refine no_implicit_lambda% (run_6 hb_law_sort rfl ?_)
  walk_at "go"
  refine ⟨lim_lt (by simp), ?_⟩
  walk_at "go"
  exact q
theorem so_6 {n : Nat} {l : List D} : Pf (Mof bs (n+1)) i_law_sort [.exn 6 l] (.str [105, 110, 100, 101, 120]) := by
  intro G Q E q
  refine no_implicit_lambda% (run_6 hb_law_sort rfl ?_)
  walk_at "go"
  refine ⟨lim_lt (by simp), ?_⟩
  walk_at "go"
  exact q
theorem so_7 {n : Nat} {l : List D} : Pf (Mof bs (n+1)) i_law_sort [.exn 7 l] (.str [110, 111, 32, 112, 108, 97, 110]) := by
  intro G Q E q
  refine no_implicit_lambda% (run_6 hb_law_sort rfl ?_)
  walk_at "go"
  refine ⟨lim_lt (by simp), ?_⟩
  walk_at "go"
  exact q
theorem so_8 {n : Nat} {l : List D} : Pf (Mof bs (n+1)) i_law_sort [.exn 8 l] (.str [110, 111, 32, 119, 101, 98]) := by
  intro G Q E q
  refine no_implicit_lambda% (run_6 hb_law_sort rfl ?_)
  walk_at "go"
  refine ⟨lim_lt (by simp), ?_⟩
  walk_at "go"
  exact q
theorem so_9 {n : Nat} {l : List D} : Pf (Mof bs (n+1)) i_law_sort [.exn 9 l] (.str [112, 108, 97, 110]) := by
  intro G Q E q
  refine no_implicit_lambda% (run_6 hb_law_sort rfl ?_)
  walk_at "go"
  refine ⟨lim_lt (by simp), ?_⟩
  walk_at "go"
  exact q
theorem so_10 {n : Nat} {l : List D} : Pf (Mof bs (n+1)) i_law_sort [.exn 10 l] (.str [115, 116, 101, 112, 115]) := by
  intro G Q E q
  refine no_implicit_lambda% (run_6 hb_law_sort rfl ?_)
  walk_at "go"
  refine ⟨lim_lt (by simp), ?_⟩
  walk_at "go"
  exact q
theorem so_11 {n : Nat} {l : List D} : Pf (Mof bs (n+1)) i_law_sort [.exn 11 l] (.str [110, 101, 101, 100, 115]) := by
  intro G Q E q
  refine no_implicit_lambda% (run_6 hb_law_sort rfl ?_)
  walk_at "go"
  refine ⟨lim_lt (by simp), ?_⟩
  walk_at "go"
  exact q
theorem so_12 {n : Nat} {l : List D} : Pf (Mof bs (n+1)) i_law_sort [.exn 12 l] (.str [111, 114, 100, 101, 114]) := by
  intro G Q E q
  refine no_implicit_lambda% (run_6 hb_law_sort rfl ?_)
  walk_at "go"
  refine ⟨lim_lt (by simp), ?_⟩
  walk_at "go"
  exact q
theorem so_13 {n : Nat} {l : List D} : Pf (Mof bs (n+1)) i_law_sort [.exn 13 l] (.str [104, 105, 103, 104, 115]) := by
  intro G Q E q
  refine no_implicit_lambda% (run_6 hb_law_sort rfl ?_)
  walk_at "go"
  refine ⟨lim_lt (by simp), ?_⟩
  walk_at "go"
  exact q
theorem so_15 {n : Nat} {l : List D} : Pf (Mof bs (n+1)) i_law_sort [.exn 15 l] (.str [117, 110, 107, 110, 111, 119, 110]) := by
  intro G Q E q
  refine no_implicit_lambda% (run_6 hb_law_sort rfl ?_)
  walk_at "go"
  refine ⟨lim_lt (by simp), ?_⟩
  walk_at "go"
  exact q
theorem so_17 {n : Nat} {l : List D} : Pf (Mof bs (n+1)) i_law_sort [.exn 17 l] (.str [109, 97, 110, 121]) := by
  intro G Q E q
  refine no_implicit_lambda% (run_6 hb_law_sort rfl ?_)
  walk_at "go"
  refine ⟨lim_lt (by simp), ?_⟩
  walk_at "go"
  exact q
theorem so_18 {n : Nat} {l : List D} : Pf (Mof bs (n+1)) i_law_sort [.exn 18 l] (.str [117, 110, 100, 111]) := by
  intro G Q E q
  refine no_implicit_lambda% (run_6 hb_law_sort rfl ?_)
  walk_at "go"
  refine ⟨lim_lt (by simp), ?_⟩
  walk_at "go"
  exact q
theorem so_19 {n : Nat} {l : List D} : Pf (Mof bs (n+1)) i_law_sort [.exn 19 l] (.str [98, 114, 111, 107, 101, 110]) := by
  intro G Q E q
  refine no_implicit_lambda% (run_6 hb_law_sort rfl ?_)
  walk_at "go"
  refine ⟨lim_lt (by simp), ?_⟩
  walk_at "go"
  exact q
theorem kept_2 {n : Nat} {d : D} : Pf (Mof bs (n+2)) i_law_kept [.exn 2 [d]] (.lst [.str [116, 101, 120, 116], d]) := by
  intro G Q E q
  refine no_implicit_lambda% (run_2 hb_law_kept rfl ?_)
  walk_at "go"
  refine no_implicit_lambda% (so_2 _ _ _ ?_)
  walk_at "go"
  exact q
theorem kept_3 {n : Nat} {d : D} : Pf (Mof bs (n+2)) i_law_kept [.exn 3 [d]] (.lst [.str [110, 117, 109, 98, 101, 114], d]) := by
  intro G Q E q
  refine no_implicit_lambda% (run_2 hb_law_kept rfl ?_)
  walk_at "go"
  refine no_implicit_lambda% (so_3 _ _ _ ?_)
  walk_at "go"
  exact q
theorem kept_4 {n : Nat} {d : D} : Pf (Mof bs (n+2)) i_law_kept [.exn 4 [d]] (.lst [.str [110, 97, 109, 101], d]) := by
  intro G Q E q
  refine no_implicit_lambda% (run_2 hb_law_kept rfl ?_)
  walk_at "go"
  refine no_implicit_lambda% (so_4 _ _ _ ?_)
  walk_at "go"
  exact q
theorem kept_5 {n : Nat} {d : D} : Pf (Mof bs (n+2)) i_law_kept [.exn 5 [d]] (.lst [.str [119, 105, 115, 104], d]) := by
  intro G Q E q
  refine no_implicit_lambda% (run_2 hb_law_kept rfl ?_)
  walk_at "go"
  refine no_implicit_lambda% (so_5 _ _ _ ?_)
  walk_at "go"
  exact q
theorem kept_6 {n : Nat} {d : D} : Pf (Mof bs (n+2)) i_law_kept [.exn 6 [d]] (.lst [.str [105, 110, 100, 101, 120], d]) := by
  intro G Q E q
  refine no_implicit_lambda% (run_2 hb_law_kept rfl ?_)
  walk_at "go"
  refine no_implicit_lambda% (so_6 _ _ _ ?_)
  walk_at "go"
  exact q
theorem kept_7 {n : Nat} {d : D} : Pf (Mof bs (n+2)) i_law_kept [.exn 7 [d]] (.lst [.str [110, 111, 32, 112, 108, 97, 110], d]) := by
  intro G Q E q
  refine no_implicit_lambda% (run_2 hb_law_kept rfl ?_)
  walk_at "go"
  refine no_implicit_lambda% (so_7 _ _ _ ?_)
  walk_at "go"
  exact q
theorem kept_8 {n : Nat} {d : D} : Pf (Mof bs (n+2)) i_law_kept [.exn 8 [d]] (.lst [.str [110, 111, 32, 119, 101, 98], d]) := by
  intro G Q E q
  refine no_implicit_lambda% (run_2 hb_law_kept rfl ?_)
  walk_at "go"
  refine no_implicit_lambda% (so_8 _ _ _ ?_)
  walk_at "go"
  exact q
theorem kept_9 {n : Nat} {d : D} : Pf (Mof bs (n+2)) i_law_kept [.exn 9 [d]] (.lst [.str [112, 108, 97, 110], d]) := by
  intro G Q E q
  refine no_implicit_lambda% (run_2 hb_law_kept rfl ?_)
  walk_at "go"
  refine no_implicit_lambda% (so_9 _ _ _ ?_)
  walk_at "go"
  exact q
theorem kept_10 {n : Nat} {d : D} : Pf (Mof bs (n+2)) i_law_kept [.exn 10 [d]] (.lst [.str [115, 116, 101, 112, 115], d]) := by
  intro G Q E q
  refine no_implicit_lambda% (run_2 hb_law_kept rfl ?_)
  walk_at "go"
  refine no_implicit_lambda% (so_10 _ _ _ ?_)
  walk_at "go"
  exact q
theorem kept_11 {n : Nat} {d : D} : Pf (Mof bs (n+2)) i_law_kept [.exn 11 [d]] (.lst [.str [110, 101, 101, 100, 115], d]) := by
  intro G Q E q
  refine no_implicit_lambda% (run_2 hb_law_kept rfl ?_)
  walk_at "go"
  refine no_implicit_lambda% (so_11 _ _ _ ?_)
  walk_at "go"
  exact q
theorem kept_12 {n : Nat} {d : D} : Pf (Mof bs (n+2)) i_law_kept [.exn 12 [d]] (.lst [.str [111, 114, 100, 101, 114], d]) := by
  intro G Q E q
  refine no_implicit_lambda% (run_2 hb_law_kept rfl ?_)
  walk_at "go"
  refine no_implicit_lambda% (so_12 _ _ _ ?_)
  walk_at "go"
  exact q
theorem kept_13 {n : Nat} {d : D} : Pf (Mof bs (n+2)) i_law_kept [.exn 13 [d]] (.lst [.str [104, 105, 103, 104, 115], d]) := by
  intro G Q E q
  refine no_implicit_lambda% (run_2 hb_law_kept rfl ?_)
  walk_at "go"
  refine no_implicit_lambda% (so_13 _ _ _ ?_)
  walk_at "go"
  exact q
theorem kept_15 {n : Nat} {d : D} : Pf (Mof bs (n+2)) i_law_kept [.exn 15 [d]] (.lst [.str [117, 110, 107, 110, 111, 119, 110], d]) := by
  intro G Q E q
  refine no_implicit_lambda% (run_2 hb_law_kept rfl ?_)
  walk_at "go"
  refine no_implicit_lambda% (so_15 _ _ _ ?_)
  walk_at "go"
  exact q
theorem kept_17 {n : Nat} {d : D} : Pf (Mof bs (n+2)) i_law_kept [.exn 17 [d]] (.lst [.str [109, 97, 110, 121], d]) := by
  intro G Q E q
  refine no_implicit_lambda% (run_2 hb_law_kept rfl ?_)
  walk_at "go"
  refine no_implicit_lambda% (so_17 _ _ _ ?_)
  walk_at "go"
  exact q
theorem kept_18 {n : Nat} : Pf (Mof bs (n+2)) i_law_kept [.exn 18 []] (.lst [.str [117, 110, 100, 111], .non]) := by
  intro G Q E q
  refine no_implicit_lambda% (run_2 hb_law_kept rfl ?_)
  walk_at "go"
  refine no_implicit_lambda% (so_18 _ _ _ ?_)
  walk_at "go"
  exact q
theorem kept_19 {n : Nat} {d : D} : Pf (Mof bs (n+2)) i_law_kept [.exn 19 [d]] (.lst [.str [98, 114, 111, 107, 101, 110], d]) := by
  intro G Q E q
  refine no_implicit_lambda% (run_2 hb_law_kept rfl ?_)
  walk_at "go"
  refine no_implicit_lambda% (so_19 _ _ _ ?_)
  walk_at "go"
  exact q
theorem kept_ok {n : Nat} {d : D} : ∀ p ∈ EL, Pf (Mof bs (n+2)) i_law_kept [exD p d] (.lst [.str p.2, dueD p d]) := by
  intro p hp
  simp only [EL, List.mem_cons, List.not_mem_nil, or_false] at hp
  rcases hp with rfl | rfl | rfl | rfl | rfl | rfl | rfl | rfl | rfl | rfl | rfl | rfl | rfl | rfl | rfl | rfl
  · exact kept_2
  · exact kept_3
  · exact kept_4
  · exact kept_5
  · exact kept_6
  · exact kept_7
  · exact kept_8
  · exact kept_9
  · exact kept_10
  · exact kept_11
  · exact kept_12
  · exact kept_13
  · exact kept_15
  · exact kept_17
  · exact kept_18
  · exact kept_19
theorem made_ok {n : Nat} {d : D} : Pf (Mof bs (n+1)) i_law_made [d] (.lst [.lst (EL.map fun p => exD p d), .lst (EL.map fun p => exD p d)]) := by
  intro G Q E q
  refine no_implicit_lambda% (run_3 hb_law_made rfl ?_)
  walk_at "go"
  exact q
/-! ### texts of lists with dicts -/
structure RLX (n : Nat) (d : D) (k : Nat) : Prop where
  sh : showX n d = true
  le : (toQ n d).shown.length ≤ k
theorem RLX.mono {n : Nat} {d : D} {k m : Nat} (h : RLX n d k) (hm : k ≤ m) : RLX n d m := ⟨h.sh, Nat.le_trans h.le hm⟩
theorem rlx_of {n : Nat} {d : D} {k : Nat} (h : RL n d k) (h1 : ∀ l, d ≠ .lst l) (h2 : ∀ b l, d ≠ .dic b l) : RLX n d k := by
  have e : showX n d = showB n d ∧ toQ n d = toP n d := by
    cases d with
    | lst l => exact absurd rfl (h1 l)
    | dic b l => exact absurd rfl (h2 b l)
    | _ => cases n <;> exact ⟨rfl, rfl⟩
  exact ⟨e.1.trans h.sh, by rw [e.2]; exact h.le⟩
theorem rlx_seq {n k : Nat} : ∀ {l : List D}, (∀ d ∈ l, RLX n d k) → l.all (showX n) = true ∧ ((PyData.shownAll (l.map (toQ n))).map (·.length)).sum ≤ k * l.length ∧ (PyData.shownAll (l.map (toQ n))).length = l.length
  | [], _ => ⟨rfl, by simp [PyData.shownAll], rfl⟩
  | d :: r, h => by
    obtain ⟨h1, h2, h3⟩ := rlx_seq (l := r) fun x hx => h x (List.mem_cons_of_mem _ hx)
    have hd := h d List.mem_cons_self
    refine ⟨by simp [hd.sh, h1], ?_, by simp only [List.map_cons, PyData.shownAll, List.length_cons, h3]⟩
    simp only [List.map_cons, PyData.shownAll, List.sum_cons, List.length_cons, Nat.mul_add, Nat.mul_one]
    have := hd.le
    omega
theorem rlx_lst {n k m : Nat} {l : List D} (h : ∀ d ∈ l, RLX n d k) (hm : l.length ≤ m) : RLX (n + 1) (.lst l) ((k + 2) * m + 3) := by
  obtain ⟨h1, h2, h3⟩ := rlx_seq h
  refine ⟨h1, ?_⟩
  simp only [toQ, PyData.shown]
  have e := listText_len_le (PyData.shownAll (l.map (toQ n)))
  have : (k + 2) * l.length ≤ (k + 2) * m := Nat.mul_le_mul_left _ hm
  rw [Nat.add_mul] at this
  omega
theorem rlx_dic0 {n : Nat} : RLX n (.dic false []) 10 := by
  have e : toQ n (.dic false []) = .dict [] := by cases n <;> rw [toQ] <;> rfl
  refine ⟨by cases n <;> rfl, ?_⟩
  rw [e]
  decide
theorem reprx_ok {l : List D} {k : Nat} (h : RLX 60 (.lst l) k) (hk : k ≤ lim) : reprX [.lst l] = some (.str (reprXT l)) := by
  have : (reprXT l).length ≤ lim := by
    unfold reprXT
    have e : ((toQ 60 (.lst l)).shown.cps.toList).length = (toQ 60 (.lst l)).shown.length := by simp [Str.length]
    rw [e]; exact Nat.le_trans h.le hk
  unfold reprX
  exact if_pos ⟨h.sh, this⟩
/-- the values that an error is made with -/
def menu01 : List D := [.non, .bl true, .int 0, .int (-7), .int (10 ^ 30), .str [], .str [97, 32, 98], .tup [], .tup [.int 1, .str [120]], .lst [], .lst [.non], .dic false [], .tup [.str [115, 116, 101, 112]], .bl false]
theorem menu_rl {n : Nat} {d : D} (h : d ∈ menu01) : RLX (n + 3) d 300 := by
  simp only [menu01, List.mem_cons, List.not_mem_nil, or_false] at h
  have sml : ∀ {n : Nat} {s : Nm}, (∀ c ∈ s, c < 16 ^ 8) → s.length ≤ 4 → RL n (.str s) 50 := fun h1 h2 => (rl_str h1).mono (by omega)
  rcases h with rfl | rfl | rfl | rfl | rfl | rfl | rfl | rfl | rfl | rfl | rfl | rfl | rfl | rfl
  · exact (rlx_of rl_non (by simp) (by simp)).mono (by decide)
  · exact (rlx_of rl_bl (by simp) (by simp)).mono (by decide)
  · exact (rlx_of (rl_int (k := 4) (by decide) (by decide) (by decide) (by decide)) (by simp) (by simp)).mono (by decide)
  · exact (rlx_of (rl_int (k := 4) (by decide) (by decide) (by decide) (by decide)) (by simp) (by simp)).mono (by decide)
  · exact (rlx_of (rl_int (k := 31) (by decide) (by decide) (by decide) (by decide)) (by simp) (by simp)).mono (by decide)
  · exact (rlx_of (sml (by simp) (by simp)) (by simp) (by simp)).mono (by decide)
  · exact (rlx_of (sml (by decide) (by simp)) (by simp) (by simp)).mono (by decide)
  · exact (rlx_of (rl_tup (k := 50) (m := 2) (by simp) (by simp)) (by simp) (by simp)).mono (by decide)
  · refine no_implicit_lambda% ((rlx_of (rl_tup (k := 50) (m := 2) (fun d hd => ?_) (by simp)) (by simp) (by simp)).mono (by decide))
    simp only [List.mem_cons, List.not_mem_nil, or_false] at hd
    rcases hd with rfl | rfl
    · exact (rl_int (k := 4) (by decide) (by decide) (by decide) (by decide)).mono (by decide)
    · exact sml (by decide) (by simp)
  · exact (rlx_lst (k := 50) (m := 2) (by simp) (by simp)).mono (by decide)
  · refine no_implicit_lambda% ((rlx_lst (k := 50) (m := 2) (fun d hd => ?_) (by simp)).mono (by decide))
    rw [List.mem_singleton.mp hd]
    exact (rlx_of rl_non (by simp) (by simp)).mono (by decide)
  · exact rlx_dic0.mono (by decide)
  · refine no_implicit_lambda% ((rlx_of (rl_tup (k := 50) (m := 2) (fun d hd => ?_) (by simp)) (by simp) (by simp)).mono (by decide))
    rw [List.mem_singleton.mp hd]
    exact sml (by decide) (by simp)
  · exact (rlx_of rl_bl (by simp) (by simp)).mono (by decide)
theorem told_rl {p : Nat × Nm} {d : D} (hp : p ∈ EL) (hd : d ∈ menu01) : RLX 60 (.lst [.str p.2, dueD p d]) 1000 := by
  refine no_implicit_lambda% ((rlx_lst (n := 59) (k := 300) (m := 2) (fun e he => ?_) (by simp)).mono (by decide))
  simp only [List.mem_cons, List.not_mem_nil, or_false] at he
  rcases he with rfl | rfl
  · have h8 : (∀ c ∈ p.2, c < 16 ^ 8) ∧ p.2.length ≤ 8 := by
      have key : EL.all (fun p => p.2.all (fun c => decide (c < 16 ^ 8)) && decide (p.2.length ≤ 8)) = true := by decide +kernel
      have := List.all_eq_true.mp key p hp
      simp only [Bool.and_eq_true, decide_eq_true_eq, List.all_eq_true] at this
      exact this
    exact (rlx_of (rl_str h8.1) (by simp) (by simp)).mono (by omega)
  · unfold dueD
    by_cases c : p.2 = undoW
    · rw [if_pos c]
      exact (rlx_of rl_non (by simp) (by simp)).mono (by decide)
    · rw [if_neg c]
      exact menu_rl (n := 56) hd
/-- the limits -/
def lims : List Int := [1000000000000, 1000000000000, 1000000000000000000000000000000, 30, 16, 10, 10, 45, 500, 6]
theorem lims_rl : RLX 60 (.lst (lims.map D.int)) 1000 := by
  refine no_implicit_lambda% ((rlx_lst (n := 59) (k := 40) (m := 10) (fun e he => ?_) (by decide)).mono (by decide))
  obtain ⟨i, hi, rfl⟩ := List.mem_map.mp he
  have key : lims.all (fun i => decide (-(10 ^ 31) < i) && decide (i < 10 ^ 31)) = true := by decide +kernel
  have := List.all_eq_true.mp key i hi
  simp only [Bool.and_eq_true, decide_eq_true_eq] at this
  exact (rlx_of (rl_int (k := 31) (by decide) (by decide) this.1 this.2) (by simp) (by simp)).mono (by decide)
theorem right_k01 {n : Nat} {p : Addr} {G0 : Gs} {x : D} (hx : TideV x 0) {Q : KD} {E : XKD} (q : ∀ G1 x', Q (.bl true) (gput G1 p x')) : Mof bs (n+3) i_law_right_k01 [.ref p] (gput G0 p x) Q E := by
  refine no_implicit_lambda% (run_9 hb_law_right_k01 rfl ?_)
  walk_at "go"
  refine no_implicit_lambda% (for_rng0 (n := 3) (fun t ρ' G' => ∃ (z2 z3 z4 z5 z6 z7 z8 : Option D) (x' : D), ρ' = [some (.ref p), some (.lst (EL.map fun p => D.str p.2)), z2, z3, z4, z5, z6, z7, z8] ∧ G' = gput G0 p x' ∧ TideV x' (10 * t)) ⟨_, _, _, _, _, _, _, _, rfl, rfl, hx⟩ ?_ ?_)
  · rintro t ρ G nx ht ⟨z2, z3, z4, z5, z6, z7, z8, x1, rfl, rfl, hx1⟩ hn
    refine ⟨_, rfl, ?_⟩
    walk_at "go"
    refine no_implicit_lambda% (of_t (ds := menu01) (by simp [menu01]) (by simp [menu01]) hx1 (by omega) fun d x2 hd hx2 => ?_)
    walk_at "go"
    refine no_implicit_lambda% (made_ok _ _ _ ?_)
    walk_at "go"
    refine no_implicit_lambda% (for_map (xs := [(), ()]) (e := fun _ => D.lst (EL.map fun p => exD p d)) (fun pre ρ' G' => ∃ (z5 z6 z7 : Option D), ρ' = [some (.ref p), some (.lst (EL.map fun p => D.str p.2)), some (.int t), some (.lst menu01), some d, z5, z6, z7, z8] ∧ G' = gput G0 p x2) ⟨_, _, _, rfl, rfl⟩ ?_ ?_)
    · rintro pre u post ρ G nx2 hu ⟨z5, z6, z7, rfl, rfl⟩ hn2
      refine ⟨_, rfl, ?_⟩
      walk_at "go"
      refine no_implicit_lambda% (for_rng0 (n := 16) (fun t2 ρ' G' => ∃ (z6 z7 : Option D), ρ' = [some (.ref p), some (.lst (EL.map fun p => D.str p.2)), some (.int t), some (.lst menu01), some d, some (.lst (EL.map fun p => exD p d)), z6, z7, z8] ∧ G' = gput G0 p x2) ⟨_, _, rfl, rfl⟩ ?_ ?_)
      · rintro t2 ρ G nx3 ht2 ⟨z6, z7, rfl, rfl⟩ hn3
        refine ⟨_, rfl, ?_⟩
        have ht3 : t2 < EL.length := ht2
        have hE : EL[t2]? = some EL[t2] := List.getElem?_eq_getElem ht3
        have hm : EL[t2] ∈ EL := List.getElem_mem ht3
        generalize EL[t2] = pr at hE hm
        have h1 : ixD (.lst (EL.map fun p => D.str p.2)) (.int t2) = some (.str pr.2) := ixm_lst (e := fun p : Nat × Nm => D.str p.2) hE
        have h2 : ixD (.lst (EL.map fun p => exD p d)) (.int t2) = some (exD pr d) := ixm_lst (e := fun p => exD p d) hE
        have hrr := told_rl hm hd
        walk_at "go"
        refine if_b (fun c => ?_) fun c => ?_
        · have e : dueD pr d = .non := if_pos (of_decide_eq_true c)
          rw [e] at hrr
          walk_at "go"
          first | (refine no_implicit_lambda% (got_ok h2 ?_); walk_at "go") | skip
          refine no_implicit_lambda% (kept_ok pr hm _ _ _ ?_)
          rw [e]
          walk_at "go"
          refine no_implicit_lambda% (got_ok (reprx_ok hrr (by decide)) ?_)
          walk_at "go"
          refine no_implicit_lambda% (got_ok (reprx_ok hrr (by decide)) ?_)
          walk_at "go"
          refine no_implicit_lambda% (if_nf rfl ?_)
          walk_at "go"
          exact hn3 _ _ ⟨_, _, rfl, rfl⟩
        · have e : dueD pr d = d := if_neg (of_decide_eq_false c)
          rw [e] at hrr
          walk_at "go"
          first | (refine no_implicit_lambda% (got_ok h2 ?_); walk_at "go") | skip
          refine no_implicit_lambda% (kept_ok pr hm _ _ _ ?_)
          rw [e]
          walk_at "go"
          refine no_implicit_lambda% (got_ok (reprx_ok hrr (by decide)) ?_)
          walk_at "go"
          refine no_implicit_lambda% (got_ok (reprx_ok hrr (by decide)) ?_)
          walk_at "go"
          refine no_implicit_lambda% (if_nf rfl ?_)
          walk_at "go"
          exact hn3 _ _ ⟨_, _, rfl, rfl⟩
      · rintro ρ G ⟨z6, z7, rfl, rfl⟩
        walk_at "go"
        exact hn2 _ _ ⟨_, _, _, rfl, rfl⟩
    · rintro ρ G ⟨z5, z6, z7, rfl, rfl⟩
      walk_at "go"
      exact hn _ _ ⟨_, _, _, _, _, _, _, _, rfl, rfl, hx2.mono (by omega)⟩
  · rintro ρ G ⟨z2, z3, z4, z5, z6, z7, z8, x1, rfl, rfl, hx1⟩
    walk_at "go"
    refine no_implicit_lambda% (got_ok (show reprX [.lst (lims.map D.int)] = _ from reprx_ok lims_rl (by decide)) ?_)
    walk_at "go"
    refine no_implicit_lambda% (got_ok (show reprX [.lst (lims.map D.int)] = _ from reprx_ok lims_rl (by decide)) ?_)
    walk_at "go"
    rw [decide_eq_true rfl]
    exact q _ _
theorem law_turns (l : Nat) (K : Int) (h2 : 2 ≤ K) : ∃ m : Nat, (m : Int) ≤ K ∧ (if (if K < l then K else (l : Int)) > 2 then (if K < l then K else (l : Int)) else 2) = m := by
  by_cases h : K < l
  · rw [if_pos h]
    by_cases h3 : K > 2
    · rw [if_pos h3]; exact ⟨K.toNat, by omega, by omega⟩
    · rw [if_neg h3]; exact ⟨2, by omega, rfl⟩
  · rw [if_neg h]
    by_cases h3 : (l : Int) > 2
    · rw [if_pos h3]; exact ⟨l, by omega, rfl⟩
    · rw [if_neg h3]; exact ⟨2, by omega, rfl⟩
theorem law_k01_ok {n : Nat} {ns : List Int} (hl : ns.length ≤ 63) : Mof bs (n + 4) i_law_k01 [.scr ns] (fun _ => none) (fun d _ => d = .bl true) fun _ _ => False := by
  refine no_implicit_lambda% (run_2 hb_law_k01 rfl ?_)
  walk_at "go"
  obtain ⟨m, hm, e⟩ := law_turns ns.length 4 (by decide)
  rw [e]
  refine no_implicit_lambda% (for_rng0 (fun t ρ' G' => ∃ z, ρ' = [some (.scr ns), z]) ⟨_, rfl⟩ ?_ ?_)
  · rintro t ρ G nx ht ⟨z, rfl⟩ hn
    refine ⟨_, rfl, ?_⟩
    walk_at "go"
    refine no_implicit_lambda% (tide_t (by omega) hl fun p x hp hx => ?_)
    walk_at "go"
    refine no_implicit_lambda% (right_k01 hx fun G1 x' => ?_)
    walk_at "go"
    exact hn _ _ ⟨_, rfl⟩
  · rintro ρ G ⟨z, rfl⟩
    walk_at "go"
end DL
set_option Elab.async false
set_option linter.all false
set_option maxRecDepth 100000
set_option maxHeartbeats 0
namespace DL.Lk01
open PySem PySem.Spec PyProof.Rows L2 DL
local macro_rules | `(tactic| walk_at "dk") => `(tactic| first | decide +kernel | (dsimp only [blkS, lamS]; decide +kernel))
local macro_rules | `(tactic| walk_at "sw") => `(tactic| (intro env h; cases env; cases h; rfl))
def top (i : Nat) : Stmt := PySem.Challenge.pw_dearsooner_k01_limits_and_errors.main.body.getD i (.Pass ⟨0, 0, 0, 0⟩)
def mem (i j : Nat) : Stmt := (C8.clsBody (top i)).getD j (.Pass ⟨0, 0, 0, 0⟩)
def d__law_tide : DefH := ⟨fun K => He.ga K "_law_tide", "_law_tide", "_law_tide", defArgs (top 31), defBody (top 31), defScope (top 31), []⟩
def d__law_cast : DefH := ⟨fun K => He.ga K "_law_cast", "_law_cast", "_law_cast", defArgs (top 32), defBody (top 32), defScope (top 32), []⟩
def d__law_of : DefH := ⟨fun K => He.ga K "_law_of", "_law_of", "_law_of", defArgs (top 33), defBody (top 33), defScope (top 33), []⟩
def d__law_sort : DefH := ⟨fun K => He.ga K "_law_sort", "_law_sort", "_law_sort", defArgs (top 34), defBody (top 34), defScope (top 34), []⟩
def d__law_made : DefH := ⟨fun K => He.ga K "_law_made", "_law_made", "_law_made", defArgs (top 35), defBody (top 35), defScope (top 35), []⟩
def d__law_kept : DefH := ⟨fun K => He.ga K "_law_kept", "_law_kept", "_law_kept", defArgs (top 36), defBody (top 36), defScope (top 36), []⟩
def d__law_right : DefH := ⟨fun K => He.ga K "_law_right", "_law_right", "_law_right", defArgs (top 37), defBody (top 37), defScope (top 37), []⟩
def d_law : DefH := ⟨fun K => He.ga K "law", "law", "law", defArgs (top 38), defBody (top 38), defScope (top 38), []⟩
def d_Broken___init__ : DefH := ⟨fun K => He.ma K (He.ga K "Broken") "__init__", "__init__", "Broken.__init__", defArgs (mem 19 0), defBody (mem 19 0), defScope (mem 19 0), []⟩
def d_InvalidHighs___init__ : DefH := ⟨fun K => He.ma K (He.ga K "InvalidHighs") "__init__", "__init__", "InvalidHighs.__init__", defArgs (mem 13 0), defBody (mem 13 0), defScope (mem 13 0), []⟩
def d_InvalidIndex___init__ : DefH := ⟨fun K => He.ma K (He.ga K "InvalidIndex") "__init__", "__init__", "InvalidIndex.__init__", defArgs (mem 6 0), defBody (mem 6 0), defScope (mem 6 0), []⟩
def d_InvalidName___init__ : DefH := ⟨fun K => He.ma K (He.ga K "InvalidName") "__init__", "__init__", "InvalidName.__init__", defArgs (mem 4 0), defBody (mem 4 0), defScope (mem 4 0), []⟩
def d_InvalidNeeds___init__ : DefH := ⟨fun K => He.ma K (He.ga K "InvalidNeeds") "__init__", "__init__", "InvalidNeeds.__init__", defArgs (mem 11 0), defBody (mem 11 0), defScope (mem 11 0), []⟩
def d_InvalidNumber___init__ : DefH := ⟨fun K => He.ma K (He.ga K "InvalidNumber") "__init__", "__init__", "InvalidNumber.__init__", defArgs (mem 3 0), defBody (mem 3 0), defScope (mem 3 0), []⟩
def d_InvalidOrder___init__ : DefH := ⟨fun K => He.ma K (He.ga K "InvalidOrder") "__init__", "__init__", "InvalidOrder.__init__", defArgs (mem 12 0), defBody (mem 12 0), defScope (mem 12 0), []⟩
def d_InvalidPlan___init__ : DefH := ⟨fun K => He.ma K (He.ga K "InvalidPlan") "__init__", "__init__", "InvalidPlan.__init__", defArgs (mem 9 0), defBody (mem 9 0), defScope (mem 9 0), []⟩
def d_InvalidSteps___init__ : DefH := ⟨fun K => He.ma K (He.ga K "InvalidSteps") "__init__", "__init__", "InvalidSteps.__init__", defArgs (mem 10 0), defBody (mem 10 0), defScope (mem 10 0), []⟩
def d_InvalidText___init__ : DefH := ⟨fun K => He.ma K (He.ga K "InvalidText") "__init__", "__init__", "InvalidText.__init__", defArgs (mem 2 0), defBody (mem 2 0), defScope (mem 2 0), []⟩
def d_InvalidWish___init__ : DefH := ⟨fun K => He.ma K (He.ga K "InvalidWish") "__init__", "__init__", "InvalidWish.__init__", defArgs (mem 5 0), defBody (mem 5 0), defScope (mem 5 0), []⟩
def d_NotAPlan___init__ : DefH := ⟨fun K => He.ma K (He.ga K "NotAPlan") "__init__", "__init__", "NotAPlan.__init__", defArgs (mem 7 0), defBody (mem 7 0), defScope (mem 7 0), []⟩
def d_NotAWeb___init__ : DefH := ⟨fun K => He.ma K (He.ga K "NotAWeb") "__init__", "__init__", "NotAWeb.__init__", defArgs (mem 8 0), defBody (mem 8 0), defScope (mem 8 0), []⟩
def d_TooMany___init__ : DefH := ⟨fun K => He.ma K (He.ga K "TooMany") "__init__", "__init__", "TooMany.__init__", defArgs (mem 17 0), defBody (mem 17 0), defScope (mem 17 0), []⟩
def d_UnknownName___init__ : DefH := ⟨fun K => He.ma K (He.ga K "UnknownName") "__init__", "__init__", "UnknownName.__init__", defArgs (mem 15 0), defBody (mem 15 0), defScope (mem 15 0), []⟩
def fn : List DefH := [d__law_tide, d__law_cast, d__law_of, d__law_sort, d__law_made, d__law_kept, d__law_right, d_law, d_Broken___init__, d_InvalidHighs___init__, d_InvalidIndex___init__, d_InvalidName___init__, d_InvalidNeeds___init__, d_InvalidNumber___init__, d_InvalidOrder___init__, d_InvalidPlan___init__, d_InvalidSteps___init__, d_InvalidText___init__, d_InvalidWish___init__, d_NotAPlan___init__, d_NotAWeb___init__, d_TooMany___init__, d_UnknownName___init__]
def clsL (K : PySem.W.Frag) : List (Nat × Addr) := []
def fldL : Nat → List Str := fun c => (lkN ([(1, []), (2, ["given"]), (3, ["given"]), (4, ["given"]), (5, ["given"]), (6, ["given"]), (7, ["given"]), (8, ["given"]), (9, ["index"]), (10, ["index"]), (11, ["index"]), (12, ["index"]), (13, ["index"]), (14, []), (15, ["given"]), (16, []), (17, ["given"]), (18, []), (19, ["index"])] : List (Nat × List Str)) c).getD []
def excL_ (K : PySem.W.Frag) : List (Nat × Addr) := [(1, He.ga K "WrongValue"), (2, He.ga K "InvalidText"), (3, He.ga K "InvalidNumber"), (4, He.ga K "InvalidName"), (5, He.ga K "InvalidWish"), (6, He.ga K "InvalidIndex"), (7, He.ga K "NotAPlan"), (8, He.ga K "NotAWeb"), (9, He.ga K "InvalidPlan"), (10, He.ga K "InvalidSteps"), (11, He.ga K "InvalidNeeds"), (12, He.ga K "InvalidOrder"), (13, He.ga K "InvalidHighs"), (14, He.ga K "WrongName"), (15, He.ga K "UnknownName"), (16, He.ga K "NoAnswer"), (17, He.ga K "TooMany"), (18, He.ga K "NothingToUndo"), (19, He.ga K "Broken")]
def fx : List (PySem.W.Frag → Bool) := [fun K => He.Fa.ok K (.free "ArithmeticError"),
  fun K => He.Fa.ok K (.free "LookupError"),
  fun K => He.Fa.ok K (.free "ValueError"),
  fun K => He.Fa.ok K (.free "abs"),
  fun K => He.Fa.ok K (.free "divmod"),
  fun K => He.Fa.ok K (.free "int"),
  fun K => He.Fa.ok K (.free "isinstance"),
  fun K => He.Fa.ok K (.free "len"),
  fun K => He.Fa.ok K (.free "max"),
  fun K => He.Fa.ok K (.free "min"),
  fun K => He.Fa.ok K (.free "range"),
  fun K => He.Fa.ok K (.free "repr"),
  fun K => He.Fa.ok K (.int "MOST_COPIES" 1000000000000000000000000000000),
  fun K => He.Fa.ok K (.int "MOST_LENGTH" 1000000000000),
  fun K => He.Fa.ok K (.int "MOST_LISTED" 500),
  fun K => He.Fa.ok K (.int "MOST_NEEDS" 45),
  fun K => He.Fa.ok K (.int "MOST_NODES" 30),
  fun K => He.Fa.ok K (.int "MOST_PARTS" 10),
  fun K => He.Fa.ok K (.int "MOST_PLANNED" 16),
  fun K => He.Fa.ok K (.int "MOST_STEPS" 10),
  fun K => He.Fa.ok K (.int "MOST_STRUCK" 6),
  fun K => He.Fa.ok K (.int "MOST_WEIGHT" 1000000000000),
  fun K => He.Fa.ok K (.glo "_law_tide"),
  fun K => He.Fa.ok K (.glo "_law_cast"),
  fun K => He.Fa.ok K (.glo "_law_of"),
  fun K => He.Fa.ok K (.glo "_law_sort"),
  fun K => He.Fa.ok K (.glo "_law_made"),
  fun K => He.Fa.ok K (.glo "_law_kept"),
  fun K => He.Fa.ok K (.glo "_law_right"),
  fun K => He.Fa.ok K (.glo "law"),
  fun K => (clsL K).all fun p => clsFB K p.2,
  fun K => He.Fa.ok K (.glo "WrongValue"),
  fun K => He.Fa.ok K (.glo "InvalidText"),
  fun K => He.Fa.ok K (.glo "InvalidNumber"),
  fun K => He.Fa.ok K (.glo "InvalidName"),
  fun K => He.Fa.ok K (.glo "InvalidWish"),
  fun K => He.Fa.ok K (.glo "InvalidIndex"),
  fun K => He.Fa.ok K (.glo "NotAPlan"),
  fun K => He.Fa.ok K (.glo "NotAWeb"),
  fun K => He.Fa.ok K (.glo "InvalidPlan"),
  fun K => He.Fa.ok K (.glo "InvalidSteps"),
  fun K => He.Fa.ok K (.glo "InvalidNeeds"),
  fun K => He.Fa.ok K (.glo "InvalidOrder"),
  fun K => He.Fa.ok K (.glo "InvalidHighs"),
  fun K => He.Fa.ok K (.glo "WrongName"),
  fun K => He.Fa.ok K (.glo "UnknownName"),
  fun K => He.Fa.ok K (.glo "NoAnswer"),
  fun K => He.Fa.ok K (.glo "TooMany"),
  fun K => He.Fa.ok K (.glo "NothingToUndo"),
  fun K => He.Fa.ok K (.glo "Broken"),
  fun K => excB K "ArithmeticError" "ArithmeticError.__new__" (He.ga K "Broken"),
  fun K => exiB K "index" (He.ga K "Broken") (He.ma K (He.ga K "Broken") "__init__"),
  fun K => excB K "ValueError" "ValueError.__new__" (He.ga K "InvalidHighs"),
  fun K => exiB K "index" (He.ga K "InvalidHighs") (He.ma K (He.ga K "InvalidHighs") "__init__"),
  fun K => excB K "ValueError" "ValueError.__new__" (He.ga K "InvalidIndex"),
  fun K => exiB K "given" (He.ga K "InvalidIndex") (He.ma K (He.ga K "InvalidIndex") "__init__"),
  fun K => excB K "ValueError" "ValueError.__new__" (He.ga K "InvalidName"),
  fun K => exiB K "given" (He.ga K "InvalidName") (He.ma K (He.ga K "InvalidName") "__init__"),
  fun K => excB K "ValueError" "ValueError.__new__" (He.ga K "InvalidNeeds"),
  fun K => exiB K "index" (He.ga K "InvalidNeeds") (He.ma K (He.ga K "InvalidNeeds") "__init__"),
  fun K => excB K "ValueError" "ValueError.__new__" (He.ga K "InvalidNumber"),
  fun K => exiB K "given" (He.ga K "InvalidNumber") (He.ma K (He.ga K "InvalidNumber") "__init__"),
  fun K => excB K "ValueError" "ValueError.__new__" (He.ga K "InvalidOrder"),
  fun K => exiB K "index" (He.ga K "InvalidOrder") (He.ma K (He.ga K "InvalidOrder") "__init__"),
  fun K => excB K "ValueError" "ValueError.__new__" (He.ga K "InvalidPlan"),
  fun K => exiB K "index" (He.ga K "InvalidPlan") (He.ma K (He.ga K "InvalidPlan") "__init__"),
  fun K => excB K "ValueError" "ValueError.__new__" (He.ga K "InvalidSteps"),
  fun K => exiB K "index" (He.ga K "InvalidSteps") (He.ma K (He.ga K "InvalidSteps") "__init__"),
  fun K => excB K "ValueError" "ValueError.__new__" (He.ga K "InvalidText"),
  fun K => exiB K "given" (He.ga K "InvalidText") (He.ma K (He.ga K "InvalidText") "__init__"),
  fun K => excB K "ValueError" "ValueError.__new__" (He.ga K "InvalidWish"),
  fun K => exiB K "given" (He.ga K "InvalidWish") (He.ma K (He.ga K "InvalidWish") "__init__"),
  fun K => excB K "ValueError" "ValueError.__new__" (He.ga K "NotAPlan"),
  fun K => exiB K "given" (He.ga K "NotAPlan") (He.ma K (He.ga K "NotAPlan") "__init__"),
  fun K => excB K "ValueError" "ValueError.__new__" (He.ga K "NotAWeb"),
  fun K => exiB K "given" (He.ga K "NotAWeb") (He.ma K (He.ga K "NotAWeb") "__init__"),
  fun K => excB K "ArithmeticError" "ArithmeticError.__new__" (He.ga K "TooMany"),
  fun K => exiB K "given" (He.ga K "TooMany") (He.ma K (He.ga K "TooMany") "__init__"),
  fun K => excB K "LookupError" "LookupError.__new__" (He.ga K "UnknownName"),
  fun K => exiB K "given" (He.ga K "UnknownName") (He.ma K (He.ga K "UnknownName") "__init__"),
  fun K => exnB K "ArithmeticError" "ArithmeticError.__new__" (He.ga K "NothingToUndo"),
  fun K => isxB K (excL_ K) (.type "ArithmeticError") [16, 17, 18, 19],
  fun K => isxB K (excL_ K) (.ref (He.ga K "Broken")) [19],
  fun K => isxB K (excL_ K) (.ref (He.ga K "InvalidHighs")) [13],
  fun K => isxB K (excL_ K) (.ref (He.ga K "InvalidIndex")) [6],
  fun K => isxB K (excL_ K) (.ref (He.ga K "InvalidName")) [4],
  fun K => isxB K (excL_ K) (.ref (He.ga K "InvalidNeeds")) [11],
  fun K => isxB K (excL_ K) (.ref (He.ga K "InvalidNumber")) [3],
  fun K => isxB K (excL_ K) (.ref (He.ga K "InvalidOrder")) [12],
  fun K => isxB K (excL_ K) (.ref (He.ga K "InvalidPlan")) [9],
  fun K => isxB K (excL_ K) (.ref (He.ga K "InvalidSteps")) [10],
  fun K => isxB K (excL_ K) (.ref (He.ga K "InvalidText")) [2],
  fun K => isxB K (excL_ K) (.ref (He.ga K "InvalidWish")) [5],
  fun K => isxB K (excL_ K) (.type "LookupError") [14, 15],
  fun K => isxB K (excL_ K) (.ref (He.ga K "NoAnswer")) [16, 17, 18, 19],
  fun K => isxB K (excL_ K) (.ref (He.ga K "NotAPlan")) [7],
  fun K => isxB K (excL_ K) (.ref (He.ga K "NotAWeb")) [8],
  fun K => isxB K (excL_ K) (.ref (He.ga K "NothingToUndo")) [18],
  fun K => isxB K (excL_ K) (.ref (He.ga K "TooMany")) [17],
  fun K => isxB K (excL_ K) (.ref (He.ga K "UnknownName")) [15],
  fun K => isxB K (excL_ K) (.type "ValueError") [1, 2, 3, 4, 5, 6, 7, 8, 9, 10, 11, 12, 13],
  fun K => isxB K (excL_ K) (.ref (He.ga K "WrongName")) [14, 15],
  fun K => isxB K (excL_ K) (.ref (He.ga K "WrongValue")) [1, 2, 3, 4, 5, 6, 7, 8, 9, 10, 11, 12, 13],
  fun K => xfldB K "index" (He.ga K "Broken"),
  fun K => xfldB K "index" (He.ga K "InvalidHighs"),
  fun K => xfldB K "given" (He.ga K "InvalidIndex"),
  fun K => xfldB K "given" (He.ga K "InvalidName"),
  fun K => xfldB K "index" (He.ga K "InvalidNeeds"),
  fun K => xfldB K "given" (He.ga K "InvalidNumber"),
  fun K => xfldB K "index" (He.ga K "InvalidOrder"),
  fun K => xfldB K "index" (He.ga K "InvalidPlan"),
  fun K => xfldB K "index" (He.ga K "InvalidSteps"),
  fun K => xfldB K "given" (He.ga K "InvalidText"),
  fun K => xfldB K "given" (He.ga K "InvalidWish"),
  fun K => xfldB K "given" (He.ga K "NotAPlan"),
  fun K => xfldB K "given" (He.ga K "NotAWeb"),
  fun K => xfldB K "given" (He.ga K "TooMany"),
  fun K => xfldB K "given" (He.ga K "UnknownName")]
def tf : List He.Defn := []
abbrev R0 : PySem.W.OpenRow := PySem.W.OpenLaw.row PySem.Challenge.rw_dearsooner_k01_limits_and_errors
abbrev hk : PySem.W.Hook := hookH 6 fn fx tf
def ob (s : PySem.W.SharedT) : (Bool × List He.FnW) × Bool := obsH 6 fn fx tf (HandSHeadRun.getT s)
theorem ob_eq (s : PySem.W.SharedT) : ob s = hk.obs s.abs := obsH_eq (HandSHeadRun.getT_eq s)
def nm : List PySem.Str := (["WrongValue", "InvalidText", "InvalidNumber", "InvalidName", "InvalidWish", "InvalidIndex", "NotAPlan", "NotAWeb", "InvalidPlan", "InvalidSteps", "InvalidNeeds", "InvalidOrder"] : List PySem.Str) ++ (["InvalidHighs", "WrongName", "UnknownName", "NoAnswer", "TooMany", "NothingToUndo", "Broken", "MOST_WEIGHT", "MOST_LENGTH", "MOST_COPIES", "MOST_NODES", "MOST_PLANNED"] : List PySem.Str) ++ (["MOST_PARTS", "MOST_STEPS", "MOST_NEEDS", "MOST_LISTED", "MOST_STRUCK", "_law_tide", "_law_cast", "_law_of", "_law_sort", "_law_made", "_law_kept", "_law_right"] : List PySem.Str)
theorem run (w : World) : HandSHeadRun.RunEq R0 (PySem.W.view R0.prog [38]) hk ob 12000 nm w := by
  intro os
  kernel_rfl
def RR (K : PySem.W.Frag) : Rc := ⟨K, lkN (clsL K), fldL, exvL (excL_ K), fun _ => none, []⟩
def e__law_tide (K : PySem.W.Frag) : FnE := ⟨He.ga K "_law_tide", fdOf K (He.ga K "_law_tide"), ["_law_script", "_law_turn"], true⟩
def e__law_cast (K : PySem.W.Frag) : FnE := ⟨He.ga K "_law_cast", fdOf K (He.ga K "_law_cast"), ["_law_tide_here", "_law_many"], true⟩
def e__law_of (K : PySem.W.Frag) : FnE := ⟨He.ga K "_law_of", fdOf K (He.ga K "_law_of"), ["_law_tide_here", "_law_things"], true⟩
def e__law_sort (K : PySem.W.Frag) : FnE := ⟨He.ga K "_law_sort", fdOf K (He.ga K "_law_sort"), ["_law_e"], true⟩
def e__law_made (K : PySem.W.Frag) : FnE := ⟨He.ga K "_law_made", fdOf K (He.ga K "_law_made"), ["_law_thing"], true⟩
def e__law_kept (K : PySem.W.Frag) : FnE := ⟨He.ga K "_law_kept", fdOf K (He.ga K "_law_kept"), ["_law_e"], true⟩
def e__law_right (K : PySem.W.Frag) : FnE := ⟨He.ga K "_law_right", fdOf K (He.ga K "_law_right"), ["_law_tide_here"], true⟩
def e_law (K : PySem.W.Frag) : FnE := ⟨He.ga K "law", fdOf K (He.ga K "law"), ["_law_script"], true⟩
def tbL (K : PySem.W.Frag) : List (Nat × FnE) := [(16, e__law_tide K), (17, e__law_cast K), (18, e__law_of K), (19, e__law_sort K), (20, e__law_made K), (21, e__law_kept K), (22, e__law_right K), (23, e_law K)]
def Gm (K : PySem.W.Frag) (w : World) (mg : Str → Option Value) (base : Heap) : Gl := ⟨PySem.Challenge.pw_dearsooner_k01_limits_and_errors, w, mg, base, RR K, Mof bs, lkN (tbL K)⟩
structure Hy (K : PySem.W.Frag) (mg : Str → Option Value) (h hb base : Heap) : Prop where
  c : SaysH fn fx tf hb K
  i : K.In h
  n : h.Ns mainGlobals mg
  t : ∀ p ∈ tf, LamX.TabB base mg (He.cT K p).1 (He.cT K p).2
section
variable {K : PySem.W.Frag} {mg : Str → Option Value} {h hb base : Heap}
theorem Hy.n_ArithmeticError (F : Hy K mg h hb base) : mg "ArithmeticError" = none := He.free_ok F.i F.n (F.c.fact 0)
theorem Hy.n_LookupError (F : Hy K mg h hb base) : mg "LookupError" = none := He.free_ok F.i F.n (F.c.fact 1)
theorem Hy.n_ValueError (F : Hy K mg h hb base) : mg "ValueError" = none := He.free_ok F.i F.n (F.c.fact 2)
theorem Hy.n_abs (F : Hy K mg h hb base) : mg "abs" = none := He.free_ok F.i F.n (F.c.fact 3)
theorem Hy.n_divmod (F : Hy K mg h hb base) : mg "divmod" = none := He.free_ok F.i F.n (F.c.fact 4)
theorem Hy.n_int (F : Hy K mg h hb base) : mg "int" = none := He.free_ok F.i F.n (F.c.fact 5)
theorem Hy.n_isinstance (F : Hy K mg h hb base) : mg "isinstance" = none := He.free_ok F.i F.n (F.c.fact 6)
theorem Hy.n_len (F : Hy K mg h hb base) : mg "len" = none := He.free_ok F.i F.n (F.c.fact 7)
theorem Hy.n_max (F : Hy K mg h hb base) : mg "max" = none := He.free_ok F.i F.n (F.c.fact 8)
theorem Hy.n_min (F : Hy K mg h hb base) : mg "min" = none := He.free_ok F.i F.n (F.c.fact 9)
theorem Hy.n_range (F : Hy K mg h hb base) : mg "range" = none := He.free_ok F.i F.n (F.c.fact 10)
theorem Hy.n_repr (F : Hy K mg h hb base) : mg "repr" = none := He.free_ok F.i F.n (F.c.fact 11)
theorem Hy.c_MOST_COPIES (F : Hy K mg h hb base) : ∃ t, mg "MOST_COPIES" = some (.int 1000000000000000000000000000000 t) := He.int_ok F.i F.n (F.c.fact 12)
theorem Hy.c_MOST_LENGTH (F : Hy K mg h hb base) : ∃ t, mg "MOST_LENGTH" = some (.int 1000000000000 t) := He.int_ok F.i F.n (F.c.fact 13)
theorem Hy.c_MOST_LISTED (F : Hy K mg h hb base) : ∃ t, mg "MOST_LISTED" = some (.int 500 t) := He.int_ok F.i F.n (F.c.fact 14)
theorem Hy.c_MOST_NEEDS (F : Hy K mg h hb base) : ∃ t, mg "MOST_NEEDS" = some (.int 45 t) := He.int_ok F.i F.n (F.c.fact 15)
theorem Hy.c_MOST_NODES (F : Hy K mg h hb base) : ∃ t, mg "MOST_NODES" = some (.int 30 t) := He.int_ok F.i F.n (F.c.fact 16)
theorem Hy.c_MOST_PARTS (F : Hy K mg h hb base) : ∃ t, mg "MOST_PARTS" = some (.int 10 t) := He.int_ok F.i F.n (F.c.fact 17)
theorem Hy.c_MOST_PLANNED (F : Hy K mg h hb base) : ∃ t, mg "MOST_PLANNED" = some (.int 16 t) := He.int_ok F.i F.n (F.c.fact 18)
theorem Hy.c_MOST_STEPS (F : Hy K mg h hb base) : ∃ t, mg "MOST_STEPS" = some (.int 10 t) := He.int_ok F.i F.n (F.c.fact 19)
theorem Hy.c_MOST_STRUCK (F : Hy K mg h hb base) : ∃ t, mg "MOST_STRUCK" = some (.int 6 t) := He.int_ok F.i F.n (F.c.fact 20)
theorem Hy.c_MOST_WEIGHT (F : Hy K mg h hb base) : ∃ t, mg "MOST_WEIGHT" = some (.int 1000000000000 t) := He.int_ok F.i F.n (F.c.fact 21)
theorem Hy.g__law_tide (F : Hy K mg h hb base) : mg "_law_tide" = some (.ref (He.ga K "_law_tide")) := He.glo_ok F.i F.n (F.c.fact 22)
theorem Hy.g__law_cast (F : Hy K mg h hb base) : mg "_law_cast" = some (.ref (He.ga K "_law_cast")) := He.glo_ok F.i F.n (F.c.fact 23)
theorem Hy.g__law_of (F : Hy K mg h hb base) : mg "_law_of" = some (.ref (He.ga K "_law_of")) := He.glo_ok F.i F.n (F.c.fact 24)
theorem Hy.g__law_sort (F : Hy K mg h hb base) : mg "_law_sort" = some (.ref (He.ga K "_law_sort")) := He.glo_ok F.i F.n (F.c.fact 25)
theorem Hy.g__law_made (F : Hy K mg h hb base) : mg "_law_made" = some (.ref (He.ga K "_law_made")) := He.glo_ok F.i F.n (F.c.fact 26)
theorem Hy.g__law_kept (F : Hy K mg h hb base) : mg "_law_kept" = some (.ref (He.ga K "_law_kept")) := He.glo_ok F.i F.n (F.c.fact 27)
theorem Hy.g__law_right (F : Hy K mg h hb base) : mg "_law_right" = some (.ref (He.ga K "_law_right")) := He.glo_ok F.i F.n (F.c.fact 28)
theorem Hy.m_WrongValue (F : Hy K mg h hb base) : mg "WrongValue" = some (.ref (He.ga K "WrongValue")) := He.glo_ok F.i F.n (F.c.fact 31)
theorem Hy.m_InvalidText (F : Hy K mg h hb base) : mg "InvalidText" = some (.ref (He.ga K "InvalidText")) := He.glo_ok F.i F.n (F.c.fact 32)
theorem Hy.m_InvalidNumber (F : Hy K mg h hb base) : mg "InvalidNumber" = some (.ref (He.ga K "InvalidNumber")) := He.glo_ok F.i F.n (F.c.fact 33)
theorem Hy.m_InvalidName (F : Hy K mg h hb base) : mg "InvalidName" = some (.ref (He.ga K "InvalidName")) := He.glo_ok F.i F.n (F.c.fact 34)
theorem Hy.m_InvalidWish (F : Hy K mg h hb base) : mg "InvalidWish" = some (.ref (He.ga K "InvalidWish")) := He.glo_ok F.i F.n (F.c.fact 35)
theorem Hy.m_InvalidIndex (F : Hy K mg h hb base) : mg "InvalidIndex" = some (.ref (He.ga K "InvalidIndex")) := He.glo_ok F.i F.n (F.c.fact 36)
theorem Hy.m_NotAPlan (F : Hy K mg h hb base) : mg "NotAPlan" = some (.ref (He.ga K "NotAPlan")) := He.glo_ok F.i F.n (F.c.fact 37)
theorem Hy.m_NotAWeb (F : Hy K mg h hb base) : mg "NotAWeb" = some (.ref (He.ga K "NotAWeb")) := He.glo_ok F.i F.n (F.c.fact 38)
theorem Hy.m_InvalidPlan (F : Hy K mg h hb base) : mg "InvalidPlan" = some (.ref (He.ga K "InvalidPlan")) := He.glo_ok F.i F.n (F.c.fact 39)
theorem Hy.m_InvalidSteps (F : Hy K mg h hb base) : mg "InvalidSteps" = some (.ref (He.ga K "InvalidSteps")) := He.glo_ok F.i F.n (F.c.fact 40)
theorem Hy.m_InvalidNeeds (F : Hy K mg h hb base) : mg "InvalidNeeds" = some (.ref (He.ga K "InvalidNeeds")) := He.glo_ok F.i F.n (F.c.fact 41)
theorem Hy.m_InvalidOrder (F : Hy K mg h hb base) : mg "InvalidOrder" = some (.ref (He.ga K "InvalidOrder")) := He.glo_ok F.i F.n (F.c.fact 42)
theorem Hy.m_InvalidHighs (F : Hy K mg h hb base) : mg "InvalidHighs" = some (.ref (He.ga K "InvalidHighs")) := He.glo_ok F.i F.n (F.c.fact 43)
theorem Hy.m_WrongName (F : Hy K mg h hb base) : mg "WrongName" = some (.ref (He.ga K "WrongName")) := He.glo_ok F.i F.n (F.c.fact 44)
theorem Hy.m_UnknownName (F : Hy K mg h hb base) : mg "UnknownName" = some (.ref (He.ga K "UnknownName")) := He.glo_ok F.i F.n (F.c.fact 45)
theorem Hy.m_NoAnswer (F : Hy K mg h hb base) : mg "NoAnswer" = some (.ref (He.ga K "NoAnswer")) := He.glo_ok F.i F.n (F.c.fact 46)
theorem Hy.m_TooMany (F : Hy K mg h hb base) : mg "TooMany" = some (.ref (He.ga K "TooMany")) := He.glo_ok F.i F.n (F.c.fact 47)
theorem Hy.m_NothingToUndo (F : Hy K mg h hb base) : mg "NothingToUndo" = some (.ref (He.ga K "NothingToUndo")) := He.glo_ok F.i F.n (F.c.fact 48)
theorem Hy.m_Broken (F : Hy K mg h hb base) : mg "Broken" = some (.ref (He.ga K "Broken")) := He.glo_ok F.i F.n (F.c.fact 49)
theorem Hy.xc_Broken (F : Hy K mg h hb base) : DLX.ExC K (He.ga K "Broken") := excA (F.c.fact 50)
theorem Hy.xi_Broken (F : Hy K mg h hb base) : exiB K "index" (He.ga K "Broken") (He.ma K (He.ga K "Broken") "__init__") = true := (F.c.fact 51)
theorem Hy.xc_InvalidHighs (F : Hy K mg h hb base) : DLX.ExC K (He.ga K "InvalidHighs") := excV (F.c.fact 52)
theorem Hy.xi_InvalidHighs (F : Hy K mg h hb base) : exiB K "index" (He.ga K "InvalidHighs") (He.ma K (He.ga K "InvalidHighs") "__init__") = true := (F.c.fact 53)
theorem Hy.xc_InvalidIndex (F : Hy K mg h hb base) : DLX.ExC K (He.ga K "InvalidIndex") := excV (F.c.fact 54)
theorem Hy.xi_InvalidIndex (F : Hy K mg h hb base) : exiB K "given" (He.ga K "InvalidIndex") (He.ma K (He.ga K "InvalidIndex") "__init__") = true := (F.c.fact 55)
theorem Hy.xc_InvalidName (F : Hy K mg h hb base) : DLX.ExC K (He.ga K "InvalidName") := excV (F.c.fact 56)
theorem Hy.xi_InvalidName (F : Hy K mg h hb base) : exiB K "given" (He.ga K "InvalidName") (He.ma K (He.ga K "InvalidName") "__init__") = true := (F.c.fact 57)
theorem Hy.xc_InvalidNeeds (F : Hy K mg h hb base) : DLX.ExC K (He.ga K "InvalidNeeds") := excV (F.c.fact 58)
theorem Hy.xi_InvalidNeeds (F : Hy K mg h hb base) : exiB K "index" (He.ga K "InvalidNeeds") (He.ma K (He.ga K "InvalidNeeds") "__init__") = true := (F.c.fact 59)
theorem Hy.xc_InvalidNumber (F : Hy K mg h hb base) : DLX.ExC K (He.ga K "InvalidNumber") := excV (F.c.fact 60)
theorem Hy.xi_InvalidNumber (F : Hy K mg h hb base) : exiB K "given" (He.ga K "InvalidNumber") (He.ma K (He.ga K "InvalidNumber") "__init__") = true := (F.c.fact 61)
theorem Hy.xc_InvalidOrder (F : Hy K mg h hb base) : DLX.ExC K (He.ga K "InvalidOrder") := excV (F.c.fact 62)
theorem Hy.xi_InvalidOrder (F : Hy K mg h hb base) : exiB K "index" (He.ga K "InvalidOrder") (He.ma K (He.ga K "InvalidOrder") "__init__") = true := (F.c.fact 63)
theorem Hy.xc_InvalidPlan (F : Hy K mg h hb base) : DLX.ExC K (He.ga K "InvalidPlan") := excV (F.c.fact 64)
theorem Hy.xi_InvalidPlan (F : Hy K mg h hb base) : exiB K "index" (He.ga K "InvalidPlan") (He.ma K (He.ga K "InvalidPlan") "__init__") = true := (F.c.fact 65)
theorem Hy.xc_InvalidSteps (F : Hy K mg h hb base) : DLX.ExC K (He.ga K "InvalidSteps") := excV (F.c.fact 66)
theorem Hy.xi_InvalidSteps (F : Hy K mg h hb base) : exiB K "index" (He.ga K "InvalidSteps") (He.ma K (He.ga K "InvalidSteps") "__init__") = true := (F.c.fact 67)
theorem Hy.xc_InvalidText (F : Hy K mg h hb base) : DLX.ExC K (He.ga K "InvalidText") := excV (F.c.fact 68)
theorem Hy.xi_InvalidText (F : Hy K mg h hb base) : exiB K "given" (He.ga K "InvalidText") (He.ma K (He.ga K "InvalidText") "__init__") = true := (F.c.fact 69)
theorem Hy.xc_InvalidWish (F : Hy K mg h hb base) : DLX.ExC K (He.ga K "InvalidWish") := excV (F.c.fact 70)
theorem Hy.xi_InvalidWish (F : Hy K mg h hb base) : exiB K "given" (He.ga K "InvalidWish") (He.ma K (He.ga K "InvalidWish") "__init__") = true := (F.c.fact 71)
theorem Hy.xc_NotAPlan (F : Hy K mg h hb base) : DLX.ExC K (He.ga K "NotAPlan") := excV (F.c.fact 72)
theorem Hy.xi_NotAPlan (F : Hy K mg h hb base) : exiB K "given" (He.ga K "NotAPlan") (He.ma K (He.ga K "NotAPlan") "__init__") = true := (F.c.fact 73)
theorem Hy.xc_NotAWeb (F : Hy K mg h hb base) : DLX.ExC K (He.ga K "NotAWeb") := excV (F.c.fact 74)
theorem Hy.xi_NotAWeb (F : Hy K mg h hb base) : exiB K "given" (He.ga K "NotAWeb") (He.ma K (He.ga K "NotAWeb") "__init__") = true := (F.c.fact 75)
theorem Hy.xc_TooMany (F : Hy K mg h hb base) : DLX.ExC K (He.ga K "TooMany") := excA (F.c.fact 76)
theorem Hy.xi_TooMany (F : Hy K mg h hb base) : exiB K "given" (He.ga K "TooMany") (He.ma K (He.ga K "TooMany") "__init__") = true := (F.c.fact 77)
theorem Hy.xc_UnknownName (F : Hy K mg h hb base) : DLX.ExC K (He.ga K "UnknownName") := excL (F.c.fact 78)
theorem Hy.xi_UnknownName (F : Hy K mg h hb base) : exiB K "given" (He.ga K "UnknownName") (He.ma K (He.ga K "UnknownName") "__init__") = true := (F.c.fact 79)
theorem Hy.xn_NothingToUndo (F : Hy K mg h hb base) : exnB K "ArithmeticError" "ArithmeticError.__new__" (He.ga K "NothingToUndo") = true := (F.c.fact 80)
theorem Hy.ix_ArithmeticError (F : Hy K mg h hb base) : IsX (RR K) (.ty "ArithmeticError") (.type "ArithmeticError") [16, 17, 18, 19] := isx_of (l := excL_ K) rfl clsV_ty (F.c.fact 81)
theorem Hy.ix_Broken (F : Hy K mg h hb base) : IsX (RR K) (.ref (He.ga K "Broken")) (.ref (He.ga K "Broken")) [19] := isx_of (l := excL_ K) rfl clsV_ref (F.c.fact 82)
theorem Hy.ix_InvalidHighs (F : Hy K mg h hb base) : IsX (RR K) (.ref (He.ga K "InvalidHighs")) (.ref (He.ga K "InvalidHighs")) [13] := isx_of (l := excL_ K) rfl clsV_ref (F.c.fact 83)
theorem Hy.ix_InvalidIndex (F : Hy K mg h hb base) : IsX (RR K) (.ref (He.ga K "InvalidIndex")) (.ref (He.ga K "InvalidIndex")) [6] := isx_of (l := excL_ K) rfl clsV_ref (F.c.fact 84)
theorem Hy.ix_InvalidName (F : Hy K mg h hb base) : IsX (RR K) (.ref (He.ga K "InvalidName")) (.ref (He.ga K "InvalidName")) [4] := isx_of (l := excL_ K) rfl clsV_ref (F.c.fact 85)
theorem Hy.ix_InvalidNeeds (F : Hy K mg h hb base) : IsX (RR K) (.ref (He.ga K "InvalidNeeds")) (.ref (He.ga K "InvalidNeeds")) [11] := isx_of (l := excL_ K) rfl clsV_ref (F.c.fact 86)
theorem Hy.ix_InvalidNumber (F : Hy K mg h hb base) : IsX (RR K) (.ref (He.ga K "InvalidNumber")) (.ref (He.ga K "InvalidNumber")) [3] := isx_of (l := excL_ K) rfl clsV_ref (F.c.fact 87)
theorem Hy.ix_InvalidOrder (F : Hy K mg h hb base) : IsX (RR K) (.ref (He.ga K "InvalidOrder")) (.ref (He.ga K "InvalidOrder")) [12] := isx_of (l := excL_ K) rfl clsV_ref (F.c.fact 88)
theorem Hy.ix_InvalidPlan (F : Hy K mg h hb base) : IsX (RR K) (.ref (He.ga K "InvalidPlan")) (.ref (He.ga K "InvalidPlan")) [9] := isx_of (l := excL_ K) rfl clsV_ref (F.c.fact 89)
theorem Hy.ix_InvalidSteps (F : Hy K mg h hb base) : IsX (RR K) (.ref (He.ga K "InvalidSteps")) (.ref (He.ga K "InvalidSteps")) [10] := isx_of (l := excL_ K) rfl clsV_ref (F.c.fact 90)
theorem Hy.ix_InvalidText (F : Hy K mg h hb base) : IsX (RR K) (.ref (He.ga K "InvalidText")) (.ref (He.ga K "InvalidText")) [2] := isx_of (l := excL_ K) rfl clsV_ref (F.c.fact 91)
theorem Hy.ix_InvalidWish (F : Hy K mg h hb base) : IsX (RR K) (.ref (He.ga K "InvalidWish")) (.ref (He.ga K "InvalidWish")) [5] := isx_of (l := excL_ K) rfl clsV_ref (F.c.fact 92)
theorem Hy.ix_LookupError (F : Hy K mg h hb base) : IsX (RR K) (.ty "LookupError") (.type "LookupError") [14, 15] := isx_of (l := excL_ K) rfl clsV_ty (F.c.fact 93)
theorem Hy.ix_NoAnswer (F : Hy K mg h hb base) : IsX (RR K) (.ref (He.ga K "NoAnswer")) (.ref (He.ga K "NoAnswer")) [16, 17, 18, 19] := isx_of (l := excL_ K) rfl clsV_ref (F.c.fact 94)
theorem Hy.ix_NotAPlan (F : Hy K mg h hb base) : IsX (RR K) (.ref (He.ga K "NotAPlan")) (.ref (He.ga K "NotAPlan")) [7] := isx_of (l := excL_ K) rfl clsV_ref (F.c.fact 95)
theorem Hy.ix_NotAWeb (F : Hy K mg h hb base) : IsX (RR K) (.ref (He.ga K "NotAWeb")) (.ref (He.ga K "NotAWeb")) [8] := isx_of (l := excL_ K) rfl clsV_ref (F.c.fact 96)
theorem Hy.ix_NothingToUndo (F : Hy K mg h hb base) : IsX (RR K) (.ref (He.ga K "NothingToUndo")) (.ref (He.ga K "NothingToUndo")) [18] := isx_of (l := excL_ K) rfl clsV_ref (F.c.fact 97)
theorem Hy.ix_TooMany (F : Hy K mg h hb base) : IsX (RR K) (.ref (He.ga K "TooMany")) (.ref (He.ga K "TooMany")) [17] := isx_of (l := excL_ K) rfl clsV_ref (F.c.fact 98)
theorem Hy.ix_UnknownName (F : Hy K mg h hb base) : IsX (RR K) (.ref (He.ga K "UnknownName")) (.ref (He.ga K "UnknownName")) [15] := isx_of (l := excL_ K) rfl clsV_ref (F.c.fact 99)
theorem Hy.ix_ValueError (F : Hy K mg h hb base) : IsX (RR K) (.ty "ValueError") (.type "ValueError") [1, 2, 3, 4, 5, 6, 7, 8, 9, 10, 11, 12, 13] := isx_of (l := excL_ K) rfl clsV_ty (F.c.fact 100)
theorem Hy.ix_WrongName (F : Hy K mg h hb base) : IsX (RR K) (.ref (He.ga K "WrongName")) (.ref (He.ga K "WrongName")) [14, 15] := isx_of (l := excL_ K) rfl clsV_ref (F.c.fact 101)
theorem Hy.ix_WrongValue (F : Hy K mg h hb base) : IsX (RR K) (.ref (He.ga K "WrongValue")) (.ref (He.ga K "WrongValue")) [1, 2, 3, 4, 5, 6, 7, 8, 9, 10, 11, 12, 13] := isx_of (l := excL_ K) rfl clsV_ref (F.c.fact 102)
theorem Hy.xf_Broken_index (F : Hy K mg h hb base) : XFld (RR K) "index" 19 0 := xfld_of (C := He.ga K "Broken") rfl (F.c.fact 103) rfl rfl
theorem Hy.xf_InvalidHighs_index (F : Hy K mg h hb base) : XFld (RR K) "index" 13 0 := xfld_of (C := He.ga K "InvalidHighs") rfl (F.c.fact 104) rfl rfl
theorem Hy.xf_InvalidIndex_given (F : Hy K mg h hb base) : XFld (RR K) "given" 6 0 := xfld_of (C := He.ga K "InvalidIndex") rfl (F.c.fact 105) rfl rfl
theorem Hy.xf_InvalidName_given (F : Hy K mg h hb base) : XFld (RR K) "given" 4 0 := xfld_of (C := He.ga K "InvalidName") rfl (F.c.fact 106) rfl rfl
theorem Hy.xf_InvalidNeeds_index (F : Hy K mg h hb base) : XFld (RR K) "index" 11 0 := xfld_of (C := He.ga K "InvalidNeeds") rfl (F.c.fact 107) rfl rfl
theorem Hy.xf_InvalidNumber_given (F : Hy K mg h hb base) : XFld (RR K) "given" 3 0 := xfld_of (C := He.ga K "InvalidNumber") rfl (F.c.fact 108) rfl rfl
theorem Hy.xf_InvalidOrder_index (F : Hy K mg h hb base) : XFld (RR K) "index" 12 0 := xfld_of (C := He.ga K "InvalidOrder") rfl (F.c.fact 109) rfl rfl
theorem Hy.xf_InvalidPlan_index (F : Hy K mg h hb base) : XFld (RR K) "index" 9 0 := xfld_of (C := He.ga K "InvalidPlan") rfl (F.c.fact 110) rfl rfl
theorem Hy.xf_InvalidSteps_index (F : Hy K mg h hb base) : XFld (RR K) "index" 10 0 := xfld_of (C := He.ga K "InvalidSteps") rfl (F.c.fact 111) rfl rfl
theorem Hy.xf_InvalidText_given (F : Hy K mg h hb base) : XFld (RR K) "given" 2 0 := xfld_of (C := He.ga K "InvalidText") rfl (F.c.fact 112) rfl rfl
theorem Hy.xf_InvalidWish_given (F : Hy K mg h hb base) : XFld (RR K) "given" 5 0 := xfld_of (C := He.ga K "InvalidWish") rfl (F.c.fact 113) rfl rfl
theorem Hy.xf_NotAPlan_given (F : Hy K mg h hb base) : XFld (RR K) "given" 7 0 := xfld_of (C := He.ga K "NotAPlan") rfl (F.c.fact 114) rfl rfl
theorem Hy.xf_NotAWeb_given (F : Hy K mg h hb base) : XFld (RR K) "given" 8 0 := xfld_of (C := He.ga K "NotAWeb") rfl (F.c.fact 115) rfl rfl
theorem Hy.xf_TooMany_given (F : Hy K mg h hb base) : XFld (RR K) "given" 17 0 := xfld_of (C := He.ga K "TooMany") rfl (F.c.fact 116) rfl rfl
theorem Hy.xf_UnknownName_given (F : Hy K mg h hb base) : XFld (RR K) "given" 15 0 := xfld_of (C := He.ga K "UnknownName") rfl (F.c.fact 117) rfl rfl
theorem Hy.fn__law_tide (F : Hy K mg h hb base) : FunD K "_law_tide" "_law_tide" (defArgs (top 31)) (defBody (top 31)) (defScope (top 31)) (d__law_tide.dfl.map fun f => f K) [] (He.ga K "_law_tide") (fdOf K (He.ga K "_law_tide")) := F.c.fn_ 0
theorem Hy.b__law_tide (F : Hy K mg h hb base) : Binds K (fdOf K (He.ga K "_law_tide")) ["_law_script", "_law_turn"] [] := FunD.bindsN (ps := ["_law_script", "_law_turn"]) F.fn__law_tide fun _ _ _ _ _ _ us hl => match us, hl with | [_, _], _ => rfl
theorem Hy.k__law_tide (F : Hy K mg h hb base) : PySem.W.keepIn K (.ref (He.ga K "_law_tide")) = true := F.fn__law_tide.kp
theorem Hy.fn__law_cast (F : Hy K mg h hb base) : FunD K "_law_cast" "_law_cast" (defArgs (top 32)) (defBody (top 32)) (defScope (top 32)) (d__law_cast.dfl.map fun f => f K) [] (He.ga K "_law_cast") (fdOf K (He.ga K "_law_cast")) := F.c.fn_ 1
theorem Hy.b__law_cast (F : Hy K mg h hb base) : Binds K (fdOf K (He.ga K "_law_cast")) ["_law_tide_here", "_law_many"] [] := FunD.bindsN (ps := ["_law_tide_here", "_law_many"]) F.fn__law_cast fun _ _ _ _ _ _ us hl => match us, hl with | [_, _], _ => rfl
theorem Hy.k__law_cast (F : Hy K mg h hb base) : PySem.W.keepIn K (.ref (He.ga K "_law_cast")) = true := F.fn__law_cast.kp
theorem Hy.fn__law_of (F : Hy K mg h hb base) : FunD K "_law_of" "_law_of" (defArgs (top 33)) (defBody (top 33)) (defScope (top 33)) (d__law_of.dfl.map fun f => f K) [] (He.ga K "_law_of") (fdOf K (He.ga K "_law_of")) := F.c.fn_ 2
theorem Hy.b__law_of (F : Hy K mg h hb base) : Binds K (fdOf K (He.ga K "_law_of")) ["_law_tide_here", "_law_things"] [] := FunD.bindsN (ps := ["_law_tide_here", "_law_things"]) F.fn__law_of fun _ _ _ _ _ _ us hl => match us, hl with | [_, _], _ => rfl
theorem Hy.k__law_of (F : Hy K mg h hb base) : PySem.W.keepIn K (.ref (He.ga K "_law_of")) = true := F.fn__law_of.kp
theorem Hy.fn__law_sort (F : Hy K mg h hb base) : FunD K "_law_sort" "_law_sort" (defArgs (top 34)) (defBody (top 34)) (defScope (top 34)) (d__law_sort.dfl.map fun f => f K) [] (He.ga K "_law_sort") (fdOf K (He.ga K "_law_sort")) := F.c.fn_ 3
theorem Hy.b__law_sort (F : Hy K mg h hb base) : Binds K (fdOf K (He.ga K "_law_sort")) ["_law_e"] [] := FunD.bindsN (ps := ["_law_e"]) F.fn__law_sort fun _ _ _ _ _ _ us hl => match us, hl with | [_], _ => rfl
theorem Hy.k__law_sort (F : Hy K mg h hb base) : PySem.W.keepIn K (.ref (He.ga K "_law_sort")) = true := F.fn__law_sort.kp
theorem Hy.fn__law_made (F : Hy K mg h hb base) : FunD K "_law_made" "_law_made" (defArgs (top 35)) (defBody (top 35)) (defScope (top 35)) (d__law_made.dfl.map fun f => f K) [] (He.ga K "_law_made") (fdOf K (He.ga K "_law_made")) := F.c.fn_ 4
theorem Hy.b__law_made (F : Hy K mg h hb base) : Binds K (fdOf K (He.ga K "_law_made")) ["_law_thing"] [] := FunD.bindsN (ps := ["_law_thing"]) F.fn__law_made fun _ _ _ _ _ _ us hl => match us, hl with | [_], _ => rfl
theorem Hy.k__law_made (F : Hy K mg h hb base) : PySem.W.keepIn K (.ref (He.ga K "_law_made")) = true := F.fn__law_made.kp
theorem Hy.fn__law_kept (F : Hy K mg h hb base) : FunD K "_law_kept" "_law_kept" (defArgs (top 36)) (defBody (top 36)) (defScope (top 36)) (d__law_kept.dfl.map fun f => f K) [] (He.ga K "_law_kept") (fdOf K (He.ga K "_law_kept")) := F.c.fn_ 5
theorem Hy.b__law_kept (F : Hy K mg h hb base) : Binds K (fdOf K (He.ga K "_law_kept")) ["_law_e"] [] := FunD.bindsN (ps := ["_law_e"]) F.fn__law_kept fun _ _ _ _ _ _ us hl => match us, hl with | [_], _ => rfl
theorem Hy.k__law_kept (F : Hy K mg h hb base) : PySem.W.keepIn K (.ref (He.ga K "_law_kept")) = true := F.fn__law_kept.kp
theorem Hy.fn__law_right (F : Hy K mg h hb base) : FunD K "_law_right" "_law_right" (defArgs (top 37)) (defBody (top 37)) (defScope (top 37)) (d__law_right.dfl.map fun f => f K) [] (He.ga K "_law_right") (fdOf K (He.ga K "_law_right")) := F.c.fn_ 6
theorem Hy.b__law_right (F : Hy K mg h hb base) : Binds K (fdOf K (He.ga K "_law_right")) ["_law_tide_here"] [] := FunD.bindsN (ps := ["_law_tide_here"]) F.fn__law_right fun _ _ _ _ _ _ us hl => match us, hl with | [_], _ => rfl
theorem Hy.k__law_right (F : Hy K mg h hb base) : PySem.W.keepIn K (.ref (He.ga K "_law_right")) = true := F.fn__law_right.kp
theorem Hy.fn_law (F : Hy K mg h hb base) : FunD K "law" "law" (defArgs (top 38)) (defBody (top 38)) (defScope (top 38)) (d_law.dfl.map fun f => f K) [] (He.ga K "law") (fdOf K (He.ga K "law")) := F.c.fn_ 7
theorem Hy.fn_Broken___init__ (F : Hy K mg h hb base) : FunD K "__init__" "Broken.__init__" (defArgs (mem 19 0)) (defBody (mem 19 0)) (defScope (mem 19 0)) (d_Broken___init__.dfl.map fun f => f K) [] (He.ma K (He.ga K "Broken") "__init__") (fdOf K (He.ma K (He.ga K "Broken") "__init__")) := F.c.fn_ 8
theorem Hy.b_Broken___init__ (F : Hy K mg h hb base) : Binds K (fdOf K (He.ma K (He.ga K "Broken") "__init__")) ["self", "index"] [] := FunD.bindsN (ps := ["self", "index"]) F.fn_Broken___init__ fun _ _ _ _ _ _ us hl => match us, hl with | [_, _], _ => rfl
theorem Hy.fn_InvalidHighs___init__ (F : Hy K mg h hb base) : FunD K "__init__" "InvalidHighs.__init__" (defArgs (mem 13 0)) (defBody (mem 13 0)) (defScope (mem 13 0)) (d_InvalidHighs___init__.dfl.map fun f => f K) [] (He.ma K (He.ga K "InvalidHighs") "__init__") (fdOf K (He.ma K (He.ga K "InvalidHighs") "__init__")) := F.c.fn_ 9
theorem Hy.b_InvalidHighs___init__ (F : Hy K mg h hb base) : Binds K (fdOf K (He.ma K (He.ga K "InvalidHighs") "__init__")) ["self", "index"] [] := FunD.bindsN (ps := ["self", "index"]) F.fn_InvalidHighs___init__ fun _ _ _ _ _ _ us hl => match us, hl with | [_, _], _ => rfl
theorem Hy.fn_InvalidIndex___init__ (F : Hy K mg h hb base) : FunD K "__init__" "InvalidIndex.__init__" (defArgs (mem 6 0)) (defBody (mem 6 0)) (defScope (mem 6 0)) (d_InvalidIndex___init__.dfl.map fun f => f K) [] (He.ma K (He.ga K "InvalidIndex") "__init__") (fdOf K (He.ma K (He.ga K "InvalidIndex") "__init__")) := F.c.fn_ 10
theorem Hy.b_InvalidIndex___init__ (F : Hy K mg h hb base) : Binds K (fdOf K (He.ma K (He.ga K "InvalidIndex") "__init__")) ["self", "given"] [] := FunD.bindsN (ps := ["self", "given"]) F.fn_InvalidIndex___init__ fun _ _ _ _ _ _ us hl => match us, hl with | [_, _], _ => rfl
theorem Hy.fn_InvalidName___init__ (F : Hy K mg h hb base) : FunD K "__init__" "InvalidName.__init__" (defArgs (mem 4 0)) (defBody (mem 4 0)) (defScope (mem 4 0)) (d_InvalidName___init__.dfl.map fun f => f K) [] (He.ma K (He.ga K "InvalidName") "__init__") (fdOf K (He.ma K (He.ga K "InvalidName") "__init__")) := F.c.fn_ 11
theorem Hy.b_InvalidName___init__ (F : Hy K mg h hb base) : Binds K (fdOf K (He.ma K (He.ga K "InvalidName") "__init__")) ["self", "given"] [] := FunD.bindsN (ps := ["self", "given"]) F.fn_InvalidName___init__ fun _ _ _ _ _ _ us hl => match us, hl with | [_, _], _ => rfl
theorem Hy.fn_InvalidNeeds___init__ (F : Hy K mg h hb base) : FunD K "__init__" "InvalidNeeds.__init__" (defArgs (mem 11 0)) (defBody (mem 11 0)) (defScope (mem 11 0)) (d_InvalidNeeds___init__.dfl.map fun f => f K) [] (He.ma K (He.ga K "InvalidNeeds") "__init__") (fdOf K (He.ma K (He.ga K "InvalidNeeds") "__init__")) := F.c.fn_ 12
theorem Hy.b_InvalidNeeds___init__ (F : Hy K mg h hb base) : Binds K (fdOf K (He.ma K (He.ga K "InvalidNeeds") "__init__")) ["self", "index"] [] := FunD.bindsN (ps := ["self", "index"]) F.fn_InvalidNeeds___init__ fun _ _ _ _ _ _ us hl => match us, hl with | [_, _], _ => rfl
theorem Hy.fn_InvalidNumber___init__ (F : Hy K mg h hb base) : FunD K "__init__" "InvalidNumber.__init__" (defArgs (mem 3 0)) (defBody (mem 3 0)) (defScope (mem 3 0)) (d_InvalidNumber___init__.dfl.map fun f => f K) [] (He.ma K (He.ga K "InvalidNumber") "__init__") (fdOf K (He.ma K (He.ga K "InvalidNumber") "__init__")) := F.c.fn_ 13
theorem Hy.b_InvalidNumber___init__ (F : Hy K mg h hb base) : Binds K (fdOf K (He.ma K (He.ga K "InvalidNumber") "__init__")) ["self", "given"] [] := FunD.bindsN (ps := ["self", "given"]) F.fn_InvalidNumber___init__ fun _ _ _ _ _ _ us hl => match us, hl with | [_, _], _ => rfl
theorem Hy.fn_InvalidOrder___init__ (F : Hy K mg h hb base) : FunD K "__init__" "InvalidOrder.__init__" (defArgs (mem 12 0)) (defBody (mem 12 0)) (defScope (mem 12 0)) (d_InvalidOrder___init__.dfl.map fun f => f K) [] (He.ma K (He.ga K "InvalidOrder") "__init__") (fdOf K (He.ma K (He.ga K "InvalidOrder") "__init__")) := F.c.fn_ 14
theorem Hy.b_InvalidOrder___init__ (F : Hy K mg h hb base) : Binds K (fdOf K (He.ma K (He.ga K "InvalidOrder") "__init__")) ["self", "index"] [] := FunD.bindsN (ps := ["self", "index"]) F.fn_InvalidOrder___init__ fun _ _ _ _ _ _ us hl => match us, hl with | [_, _], _ => rfl
theorem Hy.fn_InvalidPlan___init__ (F : Hy K mg h hb base) : FunD K "__init__" "InvalidPlan.__init__" (defArgs (mem 9 0)) (defBody (mem 9 0)) (defScope (mem 9 0)) (d_InvalidPlan___init__.dfl.map fun f => f K) [] (He.ma K (He.ga K "InvalidPlan") "__init__") (fdOf K (He.ma K (He.ga K "InvalidPlan") "__init__")) := F.c.fn_ 15
theorem Hy.b_InvalidPlan___init__ (F : Hy K mg h hb base) : Binds K (fdOf K (He.ma K (He.ga K "InvalidPlan") "__init__")) ["self", "index"] [] := FunD.bindsN (ps := ["self", "index"]) F.fn_InvalidPlan___init__ fun _ _ _ _ _ _ us hl => match us, hl with | [_, _], _ => rfl
theorem Hy.fn_InvalidSteps___init__ (F : Hy K mg h hb base) : FunD K "__init__" "InvalidSteps.__init__" (defArgs (mem 10 0)) (defBody (mem 10 0)) (defScope (mem 10 0)) (d_InvalidSteps___init__.dfl.map fun f => f K) [] (He.ma K (He.ga K "InvalidSteps") "__init__") (fdOf K (He.ma K (He.ga K "InvalidSteps") "__init__")) := F.c.fn_ 16
theorem Hy.b_InvalidSteps___init__ (F : Hy K mg h hb base) : Binds K (fdOf K (He.ma K (He.ga K "InvalidSteps") "__init__")) ["self", "index"] [] := FunD.bindsN (ps := ["self", "index"]) F.fn_InvalidSteps___init__ fun _ _ _ _ _ _ us hl => match us, hl with | [_, _], _ => rfl
theorem Hy.fn_InvalidText___init__ (F : Hy K mg h hb base) : FunD K "__init__" "InvalidText.__init__" (defArgs (mem 2 0)) (defBody (mem 2 0)) (defScope (mem 2 0)) (d_InvalidText___init__.dfl.map fun f => f K) [] (He.ma K (He.ga K "InvalidText") "__init__") (fdOf K (He.ma K (He.ga K "InvalidText") "__init__")) := F.c.fn_ 17
theorem Hy.b_InvalidText___init__ (F : Hy K mg h hb base) : Binds K (fdOf K (He.ma K (He.ga K "InvalidText") "__init__")) ["self", "given"] [] := FunD.bindsN (ps := ["self", "given"]) F.fn_InvalidText___init__ fun _ _ _ _ _ _ us hl => match us, hl with | [_, _], _ => rfl
theorem Hy.fn_InvalidWish___init__ (F : Hy K mg h hb base) : FunD K "__init__" "InvalidWish.__init__" (defArgs (mem 5 0)) (defBody (mem 5 0)) (defScope (mem 5 0)) (d_InvalidWish___init__.dfl.map fun f => f K) [] (He.ma K (He.ga K "InvalidWish") "__init__") (fdOf K (He.ma K (He.ga K "InvalidWish") "__init__")) := F.c.fn_ 18
theorem Hy.b_InvalidWish___init__ (F : Hy K mg h hb base) : Binds K (fdOf K (He.ma K (He.ga K "InvalidWish") "__init__")) ["self", "given"] [] := FunD.bindsN (ps := ["self", "given"]) F.fn_InvalidWish___init__ fun _ _ _ _ _ _ us hl => match us, hl with | [_, _], _ => rfl
theorem Hy.fn_NotAPlan___init__ (F : Hy K mg h hb base) : FunD K "__init__" "NotAPlan.__init__" (defArgs (mem 7 0)) (defBody (mem 7 0)) (defScope (mem 7 0)) (d_NotAPlan___init__.dfl.map fun f => f K) [] (He.ma K (He.ga K "NotAPlan") "__init__") (fdOf K (He.ma K (He.ga K "NotAPlan") "__init__")) := F.c.fn_ 19
theorem Hy.b_NotAPlan___init__ (F : Hy K mg h hb base) : Binds K (fdOf K (He.ma K (He.ga K "NotAPlan") "__init__")) ["self", "given"] [] := FunD.bindsN (ps := ["self", "given"]) F.fn_NotAPlan___init__ fun _ _ _ _ _ _ us hl => match us, hl with | [_, _], _ => rfl
theorem Hy.fn_NotAWeb___init__ (F : Hy K mg h hb base) : FunD K "__init__" "NotAWeb.__init__" (defArgs (mem 8 0)) (defBody (mem 8 0)) (defScope (mem 8 0)) (d_NotAWeb___init__.dfl.map fun f => f K) [] (He.ma K (He.ga K "NotAWeb") "__init__") (fdOf K (He.ma K (He.ga K "NotAWeb") "__init__")) := F.c.fn_ 20
theorem Hy.b_NotAWeb___init__ (F : Hy K mg h hb base) : Binds K (fdOf K (He.ma K (He.ga K "NotAWeb") "__init__")) ["self", "given"] [] := FunD.bindsN (ps := ["self", "given"]) F.fn_NotAWeb___init__ fun _ _ _ _ _ _ us hl => match us, hl with | [_, _], _ => rfl
theorem Hy.fn_TooMany___init__ (F : Hy K mg h hb base) : FunD K "__init__" "TooMany.__init__" (defArgs (mem 17 0)) (defBody (mem 17 0)) (defScope (mem 17 0)) (d_TooMany___init__.dfl.map fun f => f K) [] (He.ma K (He.ga K "TooMany") "__init__") (fdOf K (He.ma K (He.ga K "TooMany") "__init__")) := F.c.fn_ 21
theorem Hy.b_TooMany___init__ (F : Hy K mg h hb base) : Binds K (fdOf K (He.ma K (He.ga K "TooMany") "__init__")) ["self", "given"] [] := FunD.bindsN (ps := ["self", "given"]) F.fn_TooMany___init__ fun _ _ _ _ _ _ us hl => match us, hl with | [_, _], _ => rfl
theorem Hy.fn_UnknownName___init__ (F : Hy K mg h hb base) : FunD K "__init__" "UnknownName.__init__" (defArgs (mem 15 0)) (defBody (mem 15 0)) (defScope (mem 15 0)) (d_UnknownName___init__.dfl.map fun f => f K) [] (He.ma K (He.ga K "UnknownName") "__init__") (fdOf K (He.ma K (He.ga K "UnknownName") "__init__")) := F.c.fn_ 22
theorem Hy.b_UnknownName___init__ (F : Hy K mg h hb base) : Binds K (fdOf K (He.ma K (He.ga K "UnknownName") "__init__")) ["self", "given"] [] := FunD.bindsN (ps := ["self", "given"]) F.fn_UnknownName___init__ fun _ _ _ _ _ _ us hl => match us, hl with | [_, _], _ => rfl
variable (w : World)
theorem Hy.rx_Broken (F : Hy K mg h hb base) : RaiseF (Gm K w mg base) "Broken" "index" 19 (He.ga K "Broken") := ⟨exi_of F.xc_Broken F.xi_Broken F.fn_Broken___init__ rfl F.b_Broken___init__, F.m_Broken, rfl, rfl⟩
theorem Hy.rx_InvalidHighs (F : Hy K mg h hb base) : RaiseF (Gm K w mg base) "InvalidHighs" "index" 13 (He.ga K "InvalidHighs") := ⟨exi_of F.xc_InvalidHighs F.xi_InvalidHighs F.fn_InvalidHighs___init__ rfl F.b_InvalidHighs___init__, F.m_InvalidHighs, rfl, rfl⟩
theorem Hy.rx_InvalidIndex (F : Hy K mg h hb base) : RaiseF (Gm K w mg base) "InvalidIndex" "given" 6 (He.ga K "InvalidIndex") := ⟨exi_of F.xc_InvalidIndex F.xi_InvalidIndex F.fn_InvalidIndex___init__ rfl F.b_InvalidIndex___init__, F.m_InvalidIndex, rfl, rfl⟩
theorem Hy.rx_InvalidName (F : Hy K mg h hb base) : RaiseF (Gm K w mg base) "InvalidName" "given" 4 (He.ga K "InvalidName") := ⟨exi_of F.xc_InvalidName F.xi_InvalidName F.fn_InvalidName___init__ rfl F.b_InvalidName___init__, F.m_InvalidName, rfl, rfl⟩
theorem Hy.rx_InvalidNeeds (F : Hy K mg h hb base) : RaiseF (Gm K w mg base) "InvalidNeeds" "index" 11 (He.ga K "InvalidNeeds") := ⟨exi_of F.xc_InvalidNeeds F.xi_InvalidNeeds F.fn_InvalidNeeds___init__ rfl F.b_InvalidNeeds___init__, F.m_InvalidNeeds, rfl, rfl⟩
theorem Hy.rx_InvalidNumber (F : Hy K mg h hb base) : RaiseF (Gm K w mg base) "InvalidNumber" "given" 3 (He.ga K "InvalidNumber") := ⟨exi_of F.xc_InvalidNumber F.xi_InvalidNumber F.fn_InvalidNumber___init__ rfl F.b_InvalidNumber___init__, F.m_InvalidNumber, rfl, rfl⟩
theorem Hy.rx_InvalidOrder (F : Hy K mg h hb base) : RaiseF (Gm K w mg base) "InvalidOrder" "index" 12 (He.ga K "InvalidOrder") := ⟨exi_of F.xc_InvalidOrder F.xi_InvalidOrder F.fn_InvalidOrder___init__ rfl F.b_InvalidOrder___init__, F.m_InvalidOrder, rfl, rfl⟩
theorem Hy.rx_InvalidPlan (F : Hy K mg h hb base) : RaiseF (Gm K w mg base) "InvalidPlan" "index" 9 (He.ga K "InvalidPlan") := ⟨exi_of F.xc_InvalidPlan F.xi_InvalidPlan F.fn_InvalidPlan___init__ rfl F.b_InvalidPlan___init__, F.m_InvalidPlan, rfl, rfl⟩
theorem Hy.rx_InvalidSteps (F : Hy K mg h hb base) : RaiseF (Gm K w mg base) "InvalidSteps" "index" 10 (He.ga K "InvalidSteps") := ⟨exi_of F.xc_InvalidSteps F.xi_InvalidSteps F.fn_InvalidSteps___init__ rfl F.b_InvalidSteps___init__, F.m_InvalidSteps, rfl, rfl⟩
theorem Hy.rx_InvalidText (F : Hy K mg h hb base) : RaiseF (Gm K w mg base) "InvalidText" "given" 2 (He.ga K "InvalidText") := ⟨exi_of F.xc_InvalidText F.xi_InvalidText F.fn_InvalidText___init__ rfl F.b_InvalidText___init__, F.m_InvalidText, rfl, rfl⟩
theorem Hy.rx_InvalidWish (F : Hy K mg h hb base) : RaiseF (Gm K w mg base) "InvalidWish" "given" 5 (He.ga K "InvalidWish") := ⟨exi_of F.xc_InvalidWish F.xi_InvalidWish F.fn_InvalidWish___init__ rfl F.b_InvalidWish___init__, F.m_InvalidWish, rfl, rfl⟩
theorem Hy.rx_NotAPlan (F : Hy K mg h hb base) : RaiseF (Gm K w mg base) "NotAPlan" "given" 7 (He.ga K "NotAPlan") := ⟨exi_of F.xc_NotAPlan F.xi_NotAPlan F.fn_NotAPlan___init__ rfl F.b_NotAPlan___init__, F.m_NotAPlan, rfl, rfl⟩
theorem Hy.rx_NotAWeb (F : Hy K mg h hb base) : RaiseF (Gm K w mg base) "NotAWeb" "given" 8 (He.ga K "NotAWeb") := ⟨exi_of F.xc_NotAWeb F.xi_NotAWeb F.fn_NotAWeb___init__ rfl F.b_NotAWeb___init__, F.m_NotAWeb, rfl, rfl⟩
theorem Hy.rx_TooMany (F : Hy K mg h hb base) : RaiseF (Gm K w mg base) "TooMany" "given" 17 (He.ga K "TooMany") := ⟨exi_of F.xc_TooMany F.xi_TooMany F.fn_TooMany___init__ rfl F.b_TooMany___init__, F.m_TooMany, rfl, rfl⟩
theorem Hy.rx_UnknownName (F : Hy K mg h hb base) : RaiseF (Gm K w mg base) "UnknownName" "given" 15 (He.ga K "UnknownName") := ⟨exi_of F.xc_UnknownName F.xi_UnknownName F.fn_UnknownName___init__ rfl F.b_UnknownName___init__, F.m_UnknownName, rfl, rfl⟩
theorem Hy.rk_InvalidWish (F : Hy K mg h hb base) : RaiseK (Gm K w mg base) "InvalidWish" "given" "given" 5 (He.ga K "InvalidWish") := ⟨DLX.exj_of F.xc_InvalidWish F.xi_InvalidWish F.fn_InvalidWish___init__ rfl (fun kV doc pm an cdv ct us ws hu hw => match us, ws, hu, hw with | [_], [_], _, _ => rfl), F.m_InvalidWish, rfl, rfl⟩
theorem Hy.rk_InvalidName (F : Hy K mg h hb base) : RaiseK (Gm K w mg base) "InvalidName" "given" "given" 4 (He.ga K "InvalidName") := ⟨DLX.exj_of F.xc_InvalidName F.xi_InvalidName F.fn_InvalidName___init__ rfl (fun kV doc pm an cdv ct us ws hu hw => match us, ws, hu, hw with | [_], [_], _, _ => rfl), F.m_InvalidName, rfl, rfl⟩
theorem Hy.rk_InvalidNumber (F : Hy K mg h hb base) : RaiseK (Gm K w mg base) "InvalidNumber" "given" "given" 3 (He.ga K "InvalidNumber") := ⟨DLX.exj_of F.xc_InvalidNumber F.xi_InvalidNumber F.fn_InvalidNumber___init__ rfl (fun kV doc pm an cdv ct us ws hu hw => match us, ws, hu, hw with | [_], [_], _, _ => rfl), F.m_InvalidNumber, rfl, rfl⟩
theorem Hy.rk_InvalidText (F : Hy K mg h hb base) : RaiseK (Gm K w mg base) "InvalidText" "given" "given" 2 (He.ga K "InvalidText") := ⟨DLX.exj_of F.xc_InvalidText F.xi_InvalidText F.fn_InvalidText___init__ rfl (fun kV doc pm an cdv ct us ws hu hw => match us, ws, hu, hw with | [_], [_], _, _ => rfl), F.m_InvalidText, rfl, rfl⟩
theorem Hy.rk_InvalidPlan (F : Hy K mg h hb base) : RaiseK (Gm K w mg base) "InvalidPlan" "index" "index" 9 (He.ga K "InvalidPlan") := ⟨DLX.exj_of F.xc_InvalidPlan F.xi_InvalidPlan F.fn_InvalidPlan___init__ rfl (fun kV doc pm an cdv ct us ws hu hw => match us, ws, hu, hw with | [_], [_], _, _ => rfl), F.m_InvalidPlan, rfl, rfl⟩
theorem Hy.rk_NotAWeb (F : Hy K mg h hb base) : RaiseK (Gm K w mg base) "NotAWeb" "given" "given" 8 (He.ga K "NotAWeb") := ⟨DLX.exj_of F.xc_NotAWeb F.xi_NotAWeb F.fn_NotAWeb___init__ rfl (fun kV doc pm an cdv ct us ws hu hw => match us, ws, hu, hw with | [_], [_], _, _ => rfl), F.m_NotAWeb, rfl, rfl⟩
theorem Hy.rk_NotAPlan (F : Hy K mg h hb base) : RaiseK (Gm K w mg base) "NotAPlan" "given" "given" 7 (He.ga K "NotAPlan") := ⟨DLX.exj_of F.xc_NotAPlan F.xi_NotAPlan F.fn_NotAPlan___init__ rfl (fun kV doc pm an cdv ct us ws hu hw => match us, ws, hu, hw with | [_], [_], _, _ => rfl), F.m_NotAPlan, rfl, rfl⟩
theorem Hy.rk_InvalidIndex (F : Hy K mg h hb base) : RaiseK (Gm K w mg base) "InvalidIndex" "given" "given" 6 (He.ga K "InvalidIndex") := ⟨DLX.exj_of F.xc_InvalidIndex F.xi_InvalidIndex F.fn_InvalidIndex___init__ rfl (fun kV doc pm an cdv ct us ws hu hw => match us, ws, hu, hw with | [_], [_], _, _ => rfl), F.m_InvalidIndex, rfl, rfl⟩
theorem Hy.rk_InvalidOrder (F : Hy K mg h hb base) : RaiseK (Gm K w mg base) "InvalidOrder" "index" "index" 12 (He.ga K "InvalidOrder") := ⟨DLX.exj_of F.xc_InvalidOrder F.xi_InvalidOrder F.fn_InvalidOrder___init__ rfl (fun kV doc pm an cdv ct us ws hu hw => match us, ws, hu, hw with | [_], [_], _, _ => rfl), F.m_InvalidOrder, rfl, rfl⟩
theorem Hy.rk_InvalidNeeds (F : Hy K mg h hb base) : RaiseK (Gm K w mg base) "InvalidNeeds" "index" "index" 11 (He.ga K "InvalidNeeds") := ⟨DLX.exj_of F.xc_InvalidNeeds F.xi_InvalidNeeds F.fn_InvalidNeeds___init__ rfl (fun kV doc pm an cdv ct us ws hu hw => match us, ws, hu, hw with | [_], [_], _, _ => rfl), F.m_InvalidNeeds, rfl, rfl⟩
theorem Hy.rk_InvalidSteps (F : Hy K mg h hb base) : RaiseK (Gm K w mg base) "InvalidSteps" "index" "index" 10 (He.ga K "InvalidSteps") := ⟨DLX.exj_of F.xc_InvalidSteps F.xi_InvalidSteps F.fn_InvalidSteps___init__ rfl (fun kV doc pm an cdv ct us ws hu hw => match us, ws, hu, hw with | [_], [_], _, _ => rfl), F.m_InvalidSteps, rfl, rfl⟩
theorem Hy.rk_TooMany (F : Hy K mg h hb base) : RaiseK (Gm K w mg base) "TooMany" "given" "given" 17 (He.ga K "TooMany") := ⟨DLX.exj_of F.xc_TooMany F.xi_TooMany F.fn_TooMany___init__ rfl (fun kV doc pm an cdv ct us ws hu hw => match us, ws, hu, hw with | [_], [_], _, _ => rfl), F.m_TooMany, rfl, rfl⟩
theorem Hy.rk_UnknownName (F : Hy K mg h hb base) : RaiseK (Gm K w mg base) "UnknownName" "given" "given" 15 (He.ga K "UnknownName") := ⟨DLX.exj_of F.xc_UnknownName F.xi_UnknownName F.fn_UnknownName___init__ rfl (fun kV doc pm an cdv ct us ws hu hw => match us, ws, hu, hw with | [_], [_], _, _ => rfl), F.m_UnknownName, rfl, rfl⟩
theorem Hy.rk_InvalidHighs (F : Hy K mg h hb base) : RaiseK (Gm K w mg base) "InvalidHighs" "index" "index" 13 (He.ga K "InvalidHighs") := ⟨DLX.exj_of F.xc_InvalidHighs F.xi_InvalidHighs F.fn_InvalidHighs___init__ rfl (fun kV doc pm an cdv ct us ws hu hw => match us, ws, hu, hw with | [_], [_], _, _ => rfl), F.m_InvalidHighs, rfl, rfl⟩
theorem Hy.rk_Broken (F : Hy K mg h hb base) : RaiseK (Gm K w mg base) "Broken" "index" "index" 19 (He.ga K "Broken") := ⟨DLX.exj_of F.xc_Broken F.xi_Broken F.fn_Broken___init__ rfl (fun kV doc pm an cdv ct us ws hu hw => match us, ws, hu, hw with | [_], [_], _, _ => rfl), F.m_Broken, rfl, rfl⟩
theorem Hy.r0_NothingToUndo (F : Hy K mg h hb base) : Raise0 (Gm K w mg base) "NothingToUndo" 18 (He.ga K "NothingToUndo") := raise0_A F.xn_NothingToUndo F.m_NothingToUndo rfl
theorem j__law_tide (F : Hy K mg h hb base) : JB (Gm K w mg base) ⟨N_law_tide, defScope (top 31), true, none, 5, none⟩ [] [] (defBody (top 31)) [] b_law_tide := (jb_cons (js_set rfl (je_op sou_add (je_int).jo ((je_op sou_mul (je_int).jo ((je_var rfl rfl)).jo)).jo)) (jb_cons (js_for (ji_seq (je_sl ((je_var rfl rfl)).jo jp_none (jp_some je_int))) (jg_name rfl) (jb_one (js_set rfl (je_op sou_mod ((je_callT soc_int F.n_int rfl (jao_cons ((je_op sou_add ((je_op sou_add ((je_op sou_mul ((je_var rfl rfl)).jo (je_int).jo)).jo ((je_op sou_mod ((je_callT soc_int F.n_int rfl (jao_cons ((je_var rfl rfl)).jo jao_nil))).jo (je_int).jo)).jo)).jo (je_int).jo)).jo jao_nil))).jo (je_int).jo)))) (jb_cons (js_set rfl (je_if ((jw_and (jt_cmp sou_lt ((je_var rfl rfl)).jo ((je_callB soc_len F.n_len rfl (jao_cons ((je_var rfl rfl)).jo jao_nil))).jo) (jw_and1 (jt_cmp sou_ge ((je_callB soc_abs F.n_abs rfl (jao_cons ((je_ixx ((je_var rfl rfl)).jo (je_var rfl rfl))).jo jao_nil))).jo ((je_op sou_pow (je_int).jo (je_int).jo)).jo)))).jt (je_callB soc_abs F.n_abs rfl (jao_cons ((je_ixx ((je_var rfl rfl)).jo (je_var rfl rfl))).jo jao_nil)) je_int)) (jb_one (js_ret (je_new (jf_lst (ja_cons (je_var rfl rfl) (ja_cons (je_var rfl rfl) (ja_cons je_int ja_nil))))))))))
theorem j__law_cast (F : Hy K mg h hb base) : JB (Gm K w mg base) ⟨N_law_cast, defScope (top 32), true, none, 5, none⟩ [] [] (defBody (top 32)) [] b_law_cast := (jb_cons (js_setIx (je_var rfl rfl) je_int (je_op sou_add ((je_ixx ((je_var rfl rfl)).jo je_int)).jo (je_int).jo)) (jb_cons (js_set rfl (je_callT soc_int F.n_int rfl (jao_cons ((je_ixx ((je_var rfl rfl)).jo je_int)).jo jao_nil))) (jb_cons (js_set rfl (je_op sou_add ((je_op sou_mod ((je_callT soc_int F.n_int rfl (jao_cons ((je_var rfl rfl)).jo jao_nil))).jo (je_int).jo)).jo (je_int).jo)) (jb_cons (js_setIx (je_var rfl rfl) je_int (je_op sou_mod ((je_callT soc_int F.n_int rfl (jao_cons ((je_op sou_add ((je_op sou_add ((je_op sou_mul ((je_var rfl rfl)).jo ((je_var rfl rfl)).jo)).jo ((je_op sou_mul (je_int).jo ((je_ixx ((je_var rfl rfl)).jo je_int)).jo)).jo)).jo (je_int).jo)).jo jao_nil))).jo (je_int).jo)) (jb_cons (js_if (jt_cmp sou_gt ((je_ixx ((je_var rfl rfl)).jo je_int)).jo (je_int).jo) (jb_cons (js_divm rfl rfl (je_callB soc_divmod F.n_divmod rfl (jao_cons ((je_ixx ((je_var rfl rfl)).jo je_int)).jo (jao_cons ((je_var rfl rfl)).jo jao_nil))) (hw := by walk_at "sw")) (jb_one (js_ret (je_var rfl rfl)))) jb_nil) (jb_one (js_ret (je_op sou_mod ((je_callT soc_int F.n_int rfl (jao_cons ((je_op sou_fdiv ((je_ixx ((je_var rfl rfl)).jo je_int)).jo (je_int).jo)).jo jao_nil))).jo ((je_var rfl rfl)).jo))))))))
theorem j__law_of (F : Hy K mg h hb base) : JB (Gm K w mg base) ⟨N_law_of, defScope (top 33), true, none, 5, none⟩ [] [] (defBody (top 33)) [] b_law_of := (jb_one (js_ret (je_ixx ((je_var rfl rfl)).jo (je_call (f := 17) rfl F.g__law_cast F.k__law_cast F.b__law_cast (ja_cons (je_var rfl rfl) (ja_cons (je_callB soc_len F.n_len rfl (jao_cons ((je_var rfl rfl)).jo jao_nil)) ja_nil))))))
theorem j__law_sort (F : Hy K mg h hb base) : JB (Gm K w mg base) ⟨N_law_sort, defScope (top 34), true, none, 5, none⟩ [] [] (defBody (top 34)) [] b_law_sort := (jb_cons (js_setF rfl (jf_lst (ja_cons (je_isXC F.ix_InvalidText F.n_isinstance ((je_var rfl rfl)).jo F.m_InvalidText) (ja_cons (je_isXC F.ix_InvalidNumber F.n_isinstance ((je_var rfl rfl)).jo F.m_InvalidNumber) (ja_cons (je_isXC F.ix_InvalidName F.n_isinstance ((je_var rfl rfl)).jo F.m_InvalidName) ja_nil))))) (jb_cons (js_setF rfl (jf_op sof_cat (jo_own rfl rfl) ((je_lst (ja_cons (je_isXC F.ix_InvalidWish F.n_isinstance ((je_var rfl rfl)).jo F.m_InvalidWish) (ja_cons (je_isXC F.ix_InvalidIndex F.n_isinstance ((je_var rfl rfl)).jo F.m_InvalidIndex) (ja_cons (je_isXC F.ix_NotAPlan F.n_isinstance ((je_var rfl rfl)).jo F.m_NotAPlan) ja_nil))))).jo)) (jb_cons (js_setF rfl (jf_op sof_cat (jo_own rfl rfl) ((je_lst (ja_cons (je_isXC F.ix_NotAWeb F.n_isinstance ((je_var rfl rfl)).jo F.m_NotAWeb) (ja_cons (je_isXC F.ix_InvalidPlan F.n_isinstance ((je_var rfl rfl)).jo F.m_InvalidPlan) (ja_cons (je_isXC F.ix_InvalidSteps F.n_isinstance ((je_var rfl rfl)).jo F.m_InvalidSteps) ja_nil))))).jo)) (jb_cons (js_setF rfl (jf_op sof_cat (jo_own rfl rfl) ((je_lst (ja_cons (je_isXC F.ix_InvalidNeeds F.n_isinstance ((je_var rfl rfl)).jo F.m_InvalidNeeds) (ja_cons (je_isXC F.ix_InvalidOrder F.n_isinstance ((je_var rfl rfl)).jo F.m_InvalidOrder) (ja_cons (je_isXC F.ix_InvalidHighs F.n_isinstance ((je_var rfl rfl)).jo F.m_InvalidHighs) ja_nil))))).jo)) (jb_cons (js_setF rfl (jf_op sof_cat (jo_own rfl rfl) ((je_lst (ja_cons (je_isXC F.ix_UnknownName F.n_isinstance ((je_var rfl rfl)).jo F.m_UnknownName) (ja_cons (je_isXC F.ix_TooMany F.n_isinstance ((je_var rfl rfl)).jo F.m_TooMany) (ja_cons (je_isXC F.ix_NothingToUndo F.n_isinstance ((je_var rfl rfl)).jo F.m_NothingToUndo) ja_nil))))).jo)) (jb_cons (js_app rfl (je_isXC F.ix_Broken F.n_isinstance ((je_var rfl rfl)).jo F.m_Broken)) (jb_cons (js_set rfl (je_lst (ja_cons (je_str rfl) (ja_cons (je_str rfl) (ja_cons (je_str rfl) (ja_cons (je_str rfl) (ja_cons (je_str rfl) (ja_cons (je_str rfl) (ja_cons (je_str rfl) (ja_cons (je_str rfl) (ja_cons (je_str rfl) (ja_cons (je_str rfl) ja_nil)))))))))))) (jb_cons (js_set rfl ((jf_op sof_cat ((je_var rfl rfl)).jo ((je_lst (ja_cons (je_str rfl) (ja_cons (je_str rfl) ja_nil)))).jo)).je) (jb_cons (js_set rfl ((jf_op sof_cat ((je_var rfl rfl)).jo ((je_lst (ja_cons (je_str rfl) (ja_cons (je_str rfl) (ja_cons (je_str rfl) (ja_cons (je_str rfl) ja_nil)))))).jo)).je) (jb_cons (js_set rfl (je_lst (ja_cons (je_isXC F.ix_WrongValue F.n_isinstance ((je_var rfl rfl)).jo F.m_WrongValue) (ja_cons (je_isXC F.ix_WrongName F.n_isinstance ((je_var rfl rfl)).jo F.m_WrongName) (ja_cons (je_isXC F.ix_NoAnswer F.n_isinstance ((je_var rfl rfl)).jo F.m_NoAnswer) ja_nil))))) (jb_cons (js_set rfl (je_lst (ja_cons (je_isXT F.ix_ValueError F.n_isinstance ((je_var rfl rfl)).jo F.n_ValueError rfl) (ja_cons (je_isXT F.ix_LookupError F.n_isinstance ((je_var rfl rfl)).jo F.n_LookupError rfl) (ja_cons (je_isXT F.ix_ArithmeticError F.n_isinstance ((je_var rfl rfl)).jo F.n_ArithmeticError rfl) ja_nil))))) (jb_cons (js_set rfl (je_if (jt_cmp sou_eq ((je_m1 PySem.F.slot_list_count PySem.F.type_list_count sou_count (jo_own rfl rfl) (je_bl).jo)).jo (je_int).jo) (je_m1 PySem.F.slot_list_index PySem.F.type_list_index sou_index (jo_own rfl rfl) (je_bl).jo) je_int)) (jb_one (js_ret (je_if ((jw_and (jt_cmp sou_lt ((je_var rfl rfl)).jo (je_int).jo) (jw_and1 (jt_chain sou_eq sou_eq ((je_var rfl rfl)).jo ((je_var rfl rfl)).jo ((je_lst (ja_cons (je_cmp sou_lt ((je_var rfl rfl)).jo (je_int).jo) (ja_cons (je_cmp sou_eq ((je_var rfl rfl)).jo (je_int).jo) (ja_cons (je_cmp sou_gt ((je_var rfl rfl)).jo (je_int).jo) ja_nil))))).jo)))).jt (je_ixx ((je_var rfl rfl)).jo (je_var rfl rfl)) (je_str rfl))))))))))))))))
theorem j__law_made (F : Hy K mg h hb base) : JB (Gm K w mg base) ⟨N_law_made, defScope (top 35), true, none, 5, none⟩ [] [] (defBody (top 35)) [] b_law_made := (jb_cons (js_set rfl (je_lst (ja_cons (je_exn (F.rx_InvalidText w) (je_var rfl rfl)) (ja_cons (je_exn (F.rx_InvalidNumber w) (je_var rfl rfl)) (ja_cons (je_exn (F.rx_InvalidName w) (je_var rfl rfl)) (ja_cons (je_exn (F.rx_InvalidWish w) (je_var rfl rfl)) (ja_cons (je_exn (F.rx_InvalidIndex w) (je_var rfl rfl)) ja_nil))))))) (jb_cons (js_set rfl ((jf_op sof_cat ((je_var rfl rfl)).jo ((je_lst (ja_cons (je_exn (F.rx_NotAPlan w) (je_var rfl rfl)) (ja_cons (je_exn (F.rx_NotAWeb w) (je_var rfl rfl)) (ja_cons (je_exn (F.rx_InvalidPlan w) (je_var rfl rfl)) (ja_cons (je_exn (F.rx_InvalidSteps w) (je_var rfl rfl)) (ja_cons (je_exn (F.rx_InvalidNeeds w) (je_var rfl rfl)) ja_nil))))))).jo)).je) (jb_cons (js_set rfl ((jf_op sof_cat ((je_var rfl rfl)).jo ((je_lst (ja_cons (je_exn (F.rx_InvalidOrder w) (je_var rfl rfl)) (ja_cons (je_exn (F.rx_InvalidHighs w) (je_var rfl rfl)) (ja_cons (je_exn (F.rx_UnknownName w) (je_var rfl rfl)) (ja_cons (je_exn (F.rx_TooMany w) (je_var rfl rfl)) (ja_cons (je_exn0 (F.r0_NothingToUndo w)) ja_nil))))))).jo)).je) (jb_cons (js_set rfl (je_lst (ja_cons (je_exnK (F.rk_InvalidText w) (jk_cons (je_var rfl rfl) jk_nil)) (ja_cons (je_exnK (F.rk_InvalidNumber w) (jk_cons (je_var rfl rfl) jk_nil)) (ja_cons (je_exnK (F.rk_InvalidName w) (jk_cons (je_var rfl rfl) jk_nil)) (ja_cons (je_exnK (F.rk_InvalidWish w) (jk_cons (je_var rfl rfl) jk_nil)) ja_nil)))))) (jb_cons (js_set rfl ((jf_op sof_cat ((je_var rfl rfl)).jo ((je_lst (ja_cons (je_exnK (F.rk_InvalidIndex w) (jk_cons (je_var rfl rfl) jk_nil)) (ja_cons (je_exnK (F.rk_NotAPlan w) (jk_cons (je_var rfl rfl) jk_nil)) (ja_cons (je_exnK (F.rk_NotAWeb w) (jk_cons (je_var rfl rfl) jk_nil)) (ja_cons (je_exnK (F.rk_InvalidPlan w) (jk_cons (je_var rfl rfl) jk_nil)) ja_nil)))))).jo)).je) (jb_cons (js_set rfl ((jf_op sof_cat ((je_var rfl rfl)).jo ((je_lst (ja_cons (je_exnK (F.rk_InvalidSteps w) (jk_cons (je_var rfl rfl) jk_nil)) (ja_cons (je_exnK (F.rk_InvalidNeeds w) (jk_cons (je_var rfl rfl) jk_nil)) (ja_cons (je_exnK (F.rk_InvalidOrder w) (jk_cons (je_var rfl rfl) jk_nil)) ja_nil))))).jo)).je) (jb_cons (js_set rfl ((jf_op sof_cat ((je_var rfl rfl)).jo ((je_lst (ja_cons (je_exnK (F.rk_InvalidHighs w) (jk_cons (je_var rfl rfl) jk_nil)) (ja_cons (je_exnK (F.rk_UnknownName w) (jk_cons (je_var rfl rfl) jk_nil)) (ja_cons (je_exnK (F.rk_TooMany w) (jk_cons (je_var rfl rfl) jk_nil)) (ja_cons (je_exn0 (F.r0_NothingToUndo w)) ja_nil)))))).jo)).je) (jb_one (js_ret (je_lst (ja_cons ((jf_op sof_cat ((je_var rfl rfl)).jo ((je_lst (ja_cons (je_exn (F.rx_Broken w) (je_var rfl rfl)) ja_nil))).jo)).je (ja_cons ((jf_op sof_cat ((je_var rfl rfl)).jo ((je_lst (ja_cons (je_exnK (F.rk_Broken w) (jk_cons (je_var rfl rfl) jk_nil)) ja_nil))).jo)).je ja_nil))))))))))))
theorem j__law_kept (F : Hy K mg h hb base) : JB (Gm K w mg base) ⟨N_law_kept, defScope (top 36), true, none, 5, none⟩ [] [] (defBody (top 36)) [] b_law_kept := (jb_cons (js_set rfl (je_call (f := 19) rfl F.g__law_sort F.k__law_sort F.b__law_sort (ja_cons (je_var rfl rfl) ja_nil))) (jb_cons (js_if (jt_cmp sou_in ((je_var rfl rfl)).jo ((je_lst (ja_cons (je_str rfl) (ja_cons (je_str rfl) (ja_cons (je_str rfl) (ja_cons (je_str rfl) (ja_cons (je_str rfl) (ja_cons (je_str rfl) ja_nil)))))))).jo) (jb_one (js_ret (je_lst (ja_cons (je_var rfl rfl) (ja_cons (je_xat (tab := [(9, 0), (10, 0), (11, 0), (12, 0), (13, 0), (19, 0)]) (.cons F.xf_InvalidPlan_index (.cons F.xf_InvalidSteps_index (.cons F.xf_InvalidNeeds_index (.cons F.xf_InvalidOrder_index (.cons F.xf_InvalidHighs_index (.cons F.xf_Broken_index .nil)))))) (je_var rfl rfl)) ja_nil))))) jb_nil) (jb_one (js_ret (je_lst (ja_cons (je_var rfl rfl) (ja_cons (je_if (jt_cmp sou_nin ((je_var rfl rfl)).jo ((je_lst (ja_cons (je_str rfl) (ja_cons (je_str rfl) ja_nil)))).jo) (je_xat (tab := [(2, 0), (3, 0), (4, 0), (5, 0), (6, 0), (7, 0), (8, 0), (15, 0), (17, 0)]) (.cons F.xf_InvalidText_given (.cons F.xf_InvalidNumber_given (.cons F.xf_InvalidName_given (.cons F.xf_InvalidWish_given (.cons F.xf_InvalidIndex_given (.cons F.xf_NotAPlan_given (.cons F.xf_NotAWeb_given (.cons F.xf_UnknownName_given (.cons F.xf_TooMany_given .nil))))))))) (je_var rfl rfl)) je_non) ja_nil)))))))
theorem j__law_right (F : Hy K mg h hb base) : JB (Gm K w mg base) ⟨N_law_right_k01, defScope (top 37), true, none, 5, none⟩ [] [] (defBody (top 37)) [] b_law_right_k01 := (jb_cons (js_set rfl (je_lst (ja_cons (je_str rfl) (ja_cons (je_str rfl) (ja_cons (je_str rfl) (ja_cons (je_str rfl) (ja_cons (je_str rfl) (ja_cons (je_str rfl) (ja_cons (je_str rfl) (ja_cons (je_str rfl) (ja_cons (je_str rfl) (ja_cons (je_str rfl) ja_nil)))))))))))) (jb_cons (js_set rfl ((jf_op sof_cat ((je_var rfl rfl)).jo ((je_lst (ja_cons (je_str rfl) (ja_cons (je_str rfl) ja_nil)))).jo)).je) (jb_cons (js_set rfl ((jf_op sof_cat ((je_var rfl rfl)).jo ((je_lst (ja_cons (je_str rfl) (ja_cons (je_str rfl) (ja_cons (je_str rfl) (ja_cons (je_str rfl) ja_nil)))))).jo)).je) (jb_cons (js_for (ji_rg1 F.n_range je_int) (jg_name rfl) (jb_cons (js_set rfl (je_lst (ja_cons je_non (ja_cons je_bl (ja_cons je_int (ja_cons (je_neg (je_int).jo) (ja_cons (je_op sou_pow (je_int).jo (je_int).jo) (ja_cons (je_str rfl) (ja_cons (je_str rfl) (ja_cons (je_tup ja_nil) (ja_cons (je_tup (ja_cons je_int (ja_cons (je_str rfl) ja_nil))) (ja_cons (je_lst ja_nil) (ja_cons (je_lst (ja_cons je_non ja_nil)) (ja_cons (jf_dnK).je (ja_cons (je_tup (ja_cons (je_str rfl) ja_nil)) (ja_cons je_bl ja_nil)))))))))))))))) (jb_cons (js_set rfl (je_call (f := 18) rfl F.g__law_of F.k__law_of F.b__law_of (ja_cons (je_var rfl rfl) (ja_cons (je_var rfl rfl) ja_nil)))) (jb_one (js_for (ji_seq (je_call (f := 20) rfl F.g__law_made F.k__law_made F.b__law_made (ja_cons (je_var rfl rfl) ja_nil))) (jg_name rfl) (jb_one (js_for (ji_rg1 F.n_range je_int) (jg_name rfl) (jb_cons (js_set rfl (je_lst (ja_cons (je_ixx ((je_var rfl rfl)).jo (je_var rfl rfl)) (ja_cons (je_if (jt_cmp sou_eq ((je_ixx ((je_var rfl rfl)).jo (je_var rfl rfl))).jo ((je_str rfl)).jo) je_non (je_var rfl rfl)) ja_nil)))) (jb_one (js_if (jt_cmp sou_ne ((je_callB soc_reprX F.n_repr rfl (jao_cons ((je_call (f := 21) rfl F.g__law_kept F.k__law_kept F.b__law_kept (ja_cons (je_ixx ((je_var rfl rfl)).jo (je_var rfl rfl)) ja_nil))).jo jao_nil))).jo ((je_callB soc_reprX F.n_repr rfl (jao_cons ((je_var rfl rfl)).jo jao_nil))).jo) (jb_one (js_ret je_bl)) jb_nil)))))))))) (jb_cons (js_set rfl (je_lst (ja_cons (je_gint F.c_MOST_WEIGHT) (ja_cons (je_gint F.c_MOST_LENGTH) (ja_cons (je_gint F.c_MOST_COPIES) (ja_cons (je_gint F.c_MOST_NODES) (ja_cons (je_gint F.c_MOST_PLANNED) (ja_cons (je_gint F.c_MOST_PARTS) (ja_cons (je_gint F.c_MOST_STEPS) (ja_cons (je_gint F.c_MOST_NEEDS) ja_nil)))))))))) (jb_cons (js_set rfl (je_lst (ja_cons (je_op sou_pow (je_int).jo (je_int).jo) (ja_cons (je_op sou_pow (je_int).jo (je_int).jo) (ja_cons (je_op sou_pow (je_int).jo (je_int).jo) (ja_cons je_int (ja_cons je_int (ja_cons je_int (ja_cons je_int (ja_cons je_int ja_nil)))))))))) (jb_one (js_ret (je_cmp sou_eq ((je_callB soc_reprX F.n_repr rfl (jao_cons (((jf_op sof_cat ((je_var rfl rfl)).jo ((je_lst (ja_cons (je_gint F.c_MOST_LISTED) (ja_cons (je_gint F.c_MOST_STRUCK) ja_nil)))).jo)).je).jo jao_nil))).jo ((je_callB soc_reprX F.n_repr rfl (jao_cons (((jf_op sof_cat ((je_var rfl rfl)).jo ((je_lst (ja_cons je_int (ja_cons je_int ja_nil)))).jo)).je).jo jao_nil))).jo)))))))))
theorem j_law (F : Hy K mg h hb base) : JB (Gm K w mg base) ⟨N_law_k01, defScope (top 38), true, none, 5, none⟩ [] [] (defBody (top 38)) [] b_law_k01 := (jb_cons (js_for (ji_rg1 F.n_range (je_callB soc_max F.n_max rfl (jao_cons (je_int).jo (jao_cons ((je_callB soc_min F.n_min rfl (jao_cons ((je_callB soc_len F.n_len rfl (jao_cons ((je_var rfl rfl)).jo jao_nil))).jo (jao_cons (je_int).jo jao_nil)))).jo jao_nil)))) (jg_name rfl) (jb_one (js_if (jt_not (jt_tru ((je_call (f := 22) rfl F.g__law_right F.k__law_right F.b__law_right (ja_cons (je_call (f := 16) rfl F.g__law_tide F.k__law_tide F.b__law_tide (ja_cons (je_var rfl rfl) (ja_cons (je_var rfl rfl) ja_nil))) ja_nil))).jo)) (jb_one (js_ret je_bl)) jb_nil))) (jb_one (js_ret je_bl)))
theorem ok__law_tide (F : Hy K mg h hb base) (n : Nat) (hn : (Gm K w mg base).ok n) : OkF (Gm K w mg base).P (Gm K w mg base).w (Gm K w mg base).R.K (Gm K w mg base).mg (Gm K w mg base).base (e__law_tide K).calm (lv (n + 1)) (e__law_tide K).addr (e__law_tide K).fd (e__law_tide K).ps (spD (Gm K w mg base).R (e__law_tide K).ps.length ((Gm K w mg base).M (n + 1) 16)) := ok_def (Γ := Gm K w mg base) (f := 16) (e := e__law_tide K) F.fn__law_tide hn (show C8.scC N_law_tide ["_law_script", "_law_turn"] (defScope (top 31)) = true by decide +kernel) (j__law_tide w F) (show Mof bs (n + 1) 16 = runB b_law_tide (Mof bs n) N_law_tide from Mof_eq (f := 16) (b := b_law_tide) (N := N_law_tide) rfl)
theorem ok__law_cast (F : Hy K mg h hb base) (n : Nat) (hn : (Gm K w mg base).ok n) : OkF (Gm K w mg base).P (Gm K w mg base).w (Gm K w mg base).R.K (Gm K w mg base).mg (Gm K w mg base).base (e__law_cast K).calm (lv (n + 1)) (e__law_cast K).addr (e__law_cast K).fd (e__law_cast K).ps (spD (Gm K w mg base).R (e__law_cast K).ps.length ((Gm K w mg base).M (n + 1) 17)) := ok_def (Γ := Gm K w mg base) (f := 17) (e := e__law_cast K) F.fn__law_cast hn (show C8.scC N_law_cast ["_law_tide_here", "_law_many"] (defScope (top 32)) = true by decide +kernel) (j__law_cast w F) (show Mof bs (n + 1) 17 = runB b_law_cast (Mof bs n) N_law_cast from Mof_eq (f := 17) (b := b_law_cast) (N := N_law_cast) rfl)
theorem ok__law_of (F : Hy K mg h hb base) (n : Nat) (hn : (Gm K w mg base).ok n) : OkF (Gm K w mg base).P (Gm K w mg base).w (Gm K w mg base).R.K (Gm K w mg base).mg (Gm K w mg base).base (e__law_of K).calm (lv (n + 1)) (e__law_of K).addr (e__law_of K).fd (e__law_of K).ps (spD (Gm K w mg base).R (e__law_of K).ps.length ((Gm K w mg base).M (n + 1) 18)) := ok_def (Γ := Gm K w mg base) (f := 18) (e := e__law_of K) F.fn__law_of hn (show C8.scC N_law_of ["_law_tide_here", "_law_things"] (defScope (top 33)) = true by decide +kernel) (j__law_of w F) (show Mof bs (n + 1) 18 = runB b_law_of (Mof bs n) N_law_of from Mof_eq (f := 18) (b := b_law_of) (N := N_law_of) rfl)
theorem ok__law_sort (F : Hy K mg h hb base) (n : Nat) (hn : (Gm K w mg base).ok n) : OkF (Gm K w mg base).P (Gm K w mg base).w (Gm K w mg base).R.K (Gm K w mg base).mg (Gm K w mg base).base (e__law_sort K).calm (lv (n + 1)) (e__law_sort K).addr (e__law_sort K).fd (e__law_sort K).ps (spD (Gm K w mg base).R (e__law_sort K).ps.length ((Gm K w mg base).M (n + 1) 19)) := ok_def (Γ := Gm K w mg base) (f := 19) (e := e__law_sort K) F.fn__law_sort hn (show C8.scC N_law_sort ["_law_e"] (defScope (top 34)) = true by decide +kernel) (j__law_sort w F) (show Mof bs (n + 1) 19 = runB b_law_sort (Mof bs n) N_law_sort from Mof_eq (f := 19) (b := b_law_sort) (N := N_law_sort) rfl)
theorem ok__law_made (F : Hy K mg h hb base) (n : Nat) (hn : (Gm K w mg base).ok n) : OkF (Gm K w mg base).P (Gm K w mg base).w (Gm K w mg base).R.K (Gm K w mg base).mg (Gm K w mg base).base (e__law_made K).calm (lv (n + 1)) (e__law_made K).addr (e__law_made K).fd (e__law_made K).ps (spD (Gm K w mg base).R (e__law_made K).ps.length ((Gm K w mg base).M (n + 1) 20)) := ok_def (Γ := Gm K w mg base) (f := 20) (e := e__law_made K) F.fn__law_made hn (show C8.scC N_law_made ["_law_thing"] (defScope (top 35)) = true by decide +kernel) (j__law_made w F) (show Mof bs (n + 1) 20 = runB b_law_made (Mof bs n) N_law_made from Mof_eq (f := 20) (b := b_law_made) (N := N_law_made) rfl)
theorem ok__law_kept (F : Hy K mg h hb base) (n : Nat) (hn : (Gm K w mg base).ok n) : OkF (Gm K w mg base).P (Gm K w mg base).w (Gm K w mg base).R.K (Gm K w mg base).mg (Gm K w mg base).base (e__law_kept K).calm (lv (n + 1)) (e__law_kept K).addr (e__law_kept K).fd (e__law_kept K).ps (spD (Gm K w mg base).R (e__law_kept K).ps.length ((Gm K w mg base).M (n + 1) 21)) := ok_def (Γ := Gm K w mg base) (f := 21) (e := e__law_kept K) F.fn__law_kept hn (show C8.scC N_law_kept ["_law_e"] (defScope (top 36)) = true by decide +kernel) (j__law_kept w F) (show Mof bs (n + 1) 21 = runB b_law_kept (Mof bs n) N_law_kept from Mof_eq (f := 21) (b := b_law_kept) (N := N_law_kept) rfl)
theorem ok__law_right (F : Hy K mg h hb base) (n : Nat) (hn : (Gm K w mg base).ok n) : OkF (Gm K w mg base).P (Gm K w mg base).w (Gm K w mg base).R.K (Gm K w mg base).mg (Gm K w mg base).base (e__law_right K).calm (lv (n + 1)) (e__law_right K).addr (e__law_right K).fd (e__law_right K).ps (spD (Gm K w mg base).R (e__law_right K).ps.length ((Gm K w mg base).M (n + 1) 22)) := ok_def (Γ := Gm K w mg base) (f := 22) (e := e__law_right K) F.fn__law_right hn (show C8.scC N_law_right_k01 ["_law_tide_here"] (defScope (top 37)) = true by decide +kernel) (j__law_right w F) (show Mof bs (n + 1) 22 = runB b_law_right_k01 (Mof bs n) N_law_right_k01 from Mof_eq (f := 22) (b := b_law_right_k01) (N := N_law_right_k01) rfl)
theorem ok_law (F : Hy K mg h hb base) (n : Nat) (hn : (Gm K w mg base).ok n) : OkF (Gm K w mg base).P (Gm K w mg base).w (Gm K w mg base).R.K (Gm K w mg base).mg (Gm K w mg base).base (e_law K).calm (lv (n + 1)) (e_law K).addr (e_law K).fd (e_law K).ps (spD (Gm K w mg base).R (e_law K).ps.length ((Gm K w mg base).M (n + 1) 23)) := ok_def (Γ := Gm K w mg base) (f := 23) (e := e_law K) F.fn_law hn (show C8.scC N_law_k01 ["_law_script"] (defScope (top 38)) = true by decide +kernel) (j_law w F) (show Mof bs (n + 1) 23 = runB b_law_k01 (Mof bs n) N_law_k01 from Mof_eq (f := 23) (b := b_law_k01) (N := N_law_k01) rfl)
theorem ok_each (F : Hy K mg h hb base) (n : Nat) (hn : (Gm K w mg base).ok n) : ∀ p ∈ tbL K, OkF (Gm K w mg base).P (Gm K w mg base).w (Gm K w mg base).R.K (Gm K w mg base).mg (Gm K w mg base).base p.2.calm (lv (n + 1)) p.2.addr p.2.fd p.2.ps (spD (Gm K w mg base).R p.2.ps.length ((Gm K w mg base).M (n + 1) p.1)) := by
  intro p hp
  simp only [tbL, List.mem_cons, List.not_mem_nil, or_false] at hp
  rcases hp with rfl | rfl | rfl | rfl | rfl | rfl | rfl | rfl
  · exact ok__law_tide w F n hn
  · exact ok__law_cast w F n hn
  · exact ok__law_of w F n hn
  · exact ok__law_sort w F n hn
  · exact ok__law_made w F n hn
  · exact ok__law_kept w F n hn
  · exact ok__law_right w F n hn
  · exact ok_law w F n hn
theorem ok_all_ (F : Hy K mg h hb base) : ∀ n, (Gm K w mg base).ok n := ok_all (bs := bs) rfl fun n f e hn he => ok_each w F n hn (f, e) (lkN_mem he)
end
/-- what is left: the law in plain Lean -/
def Plain : Prop := ∀ ns : List Int, ns.length ≤ 63 → (∀ z ∈ ns, Builtin.Int.intBits z ≤ 1048576) → Mof bs 12 23 [.scr ns] (fun _ => none) (fun d _ => d = .bl true) fun _ _ => False
theorem at_ (P : Plain) (w : World) (mg : Str → Option Value) (fa : Addr) (h : Heap) (Y : hk.says w h) (hn : h.Ns mainGlobals mg) (hfa : mg ("law" : Str) = some (.ref fa)) : ∃ (R : Rc) (f : List D → W), R.K.In h ∧ LawAtD PySem.Challenge.rw_dearsooner_k01_limits_and_errors w R f 63 "_law_script" mg fa h := by
  obtain ⟨K, hK, c⟩ := Y
  have z := hfa.symm.trans (He.glo_ok hK hn (c.fact 29 (f := fun K => He.Fa.ok K (.glo "law"))))
  cases z
  refine ⟨RR K, Mof bs 12 23, hK, fdOf K (He.ga K "law"), true, lv 12, tf.map (He.cT K), ⟨by decide, by decide⟩, ?_, ?_, ?_, ?_, ?_, P, ?_⟩
  · intro p hp
    obtain ⟨q, hq, rfl⟩ := List.mem_map.mp hp
    exact c.emp q hq
  · intro p hp
    obtain ⟨q, hq, rfl⟩ := List.mem_map.mp hp
    exact c.out q hq
  · intro p hp
    obtain ⟨q, hq, rfl⟩ := List.mem_map.mp hp
    exact PySem.W.codeHd_of_K hK (c.hd q hq)
  · exact fun s u => FunD.bindsA (ps := ["_law_script"]) (c.fn_ 7 (d := d_law)) (fun _ _ _ _ _ _ us hl => match us, hl with | [_], _ => rfl) s [u] rfl
  · intro t ht
    cases ht
  · intro base hb hnb ht
    have F : Hy K mg base h base := ⟨c, hb, hnb, fun p hp => ht _ (List.mem_map.mpr ⟨p, hp, rfl⟩)⟩
    exact ok_all_ w F 12 23 (e_law K) rfl
end DL.Lk01
open PySem PySem.W PySem.Calls PyProof.Rows
theorem DL.Lk01.holds_of (P : DL.Lk01.Plain) : PySem.Challenge.rw_dearsooner_k01_limits_and_errors.Holds := by
  w_on; o_law
  refine HandSHeadRun.head_any (r := OpenLaw.row PySem.Challenge.rw_dearsooner_k01_limits_and_errors) (q := view (OpenLaw.row PySem.Challenge.rw_dearsooner_k01_limits_and_errors).prog [38]) (H := DL.Lk01.hk) (ob := DL.Lk01.ob) (M := 12000) (loose := DL.Lk01.nm) (d := HandSHeadRun.topDef (OpenLaw.row PySem.Challenge.rw_dearsooner_k01_limits_and_errors).prog 38) (kwd := []) DL.Lk01.ob_eq
    (by kernel_rfl) (fun s => by kernel_rfl) DL.Lk01.run (by kernel_rfl) (by kernel_rfl) (by kernel_rfl) (by rfl) (by first | assumption | decide +kernel) (by decide +kernel) ⟨rfl, rfl, rfl, rfl, rfl, by decide +kernel⟩ ?hw ?hc
  case hw => w_witness2
  case hc =>
    refine DL.walk_ofD (l := PySem.Challenge.rw_dearsooner_k01_limits_and_errors) (n := 63) (x := "_law_script") rfl (by decide) (by kernel_rfl) fun w mg fa h Y G hmg0 => ?_
    have e : (HandSHeadRun.topDef (OpenLaw.row PySem.Challenge.rw_dearsooner_k01_limits_and_errors).prog 38).name = ("law" : PySem.Str) := by kernel_rfl
    rw [e] at hmg0
    exact DL.Lk01.at_ P w mg fa h Y G hmg0
set_option maxHeartbeats 0
theorem PySem.Challenge.cw_dearsooner_k01_limits_and_errors_holds : PySem.Challenge.rw_dearsooner_k01_limits_and_errors.Holds :=
  DL.Lk01.holds_of fun ns hl hz => DL.law_k01_ok hl
