import PyProof.Rows.All
import HandS.Lambda
import HandS.EndTab
import KE.SortKeyHeap
import Wide.All
import OpenK.AllK
import Wide.FinOn
import HandS.ForMost
import HandS.ForExc
import HandS.Wide
import HandS.CallSlots
import HandS.HotCalls
import KE.DataEq
import KE.DataCmp
import HandS.IsInst
import HandS.TupAny
import HandS.ExcInit
import KE.KxIndex
import HandS.ExcIs
import HandS.SortInts
import HandS.More
import HandS.DictComp
import HandS.Style
import HandS.SortKw
import HandS.Text
import HandS.StrMore
import HandS.StrSplit
import HandS.FStr
import HandS.ReplaceLit
import HandS.Set
import HandS.Strs
import HandS.SetFor
import KE.KLam
import KE.KNestM
import HandS.TryOnly
import KE.KDictKeyed
import KE.KDictCopyH
import HandS.Conv
import PyProof.StrLawsOcc
import PyProof.StrLawsFirst
import PySem.Challenge.RW_boundstone_k70_requests_and_answers
set_option Elab.async false
set_option linter.all false
set_option maxRecDepth 100000
set_option maxHeartbeats 4000000
namespace BS
open PySem PySem.Spec PyProof.Rows L2
/-- plain data by value (lst: a list that nobody changes any more; scr: the script); obj n: the n-th object of the store -/
inductive D where
  | non | bl (b : Bool) | int (i : Int) | str (x : Str) | tup (ds : List D) | lst (ds : List D) | scr (ds : List D) | obj (n : Nat)
/-- a key that is a tuple: of None, ints, texts -/
abbrev TKey := List (Option Key)
/-- objects that may change; classes and fields by numbers; lck: a dict over which a loop runs -/
inductive O where
  | lst (ds : List D) | dct (kvs : List (Key × D)) | ins (c : Nat) (fs : List (Nat × D)) | lck (kvs : List (Key × D)) | tab (k : Nat)
  /-- a dict whose keys are tuples; .. while a loop runs over it -/
  | dkt (kvs : List (TKey × D)) | lkt (kvs : List (TKey × D))
abbrev Store := List O
inductive R (α : Type) where
  | ok (a : α) (S : Store) | exc (c : Nat) (fs : List (Nat × D)) (S : Store) | stuck
def R.bind {α β : Type} (r : R α) (k : α → Store → R β) : R β := match r with
  | .ok a S => k a S
  | .exc c fs S => .exc c fs S
  | .stuck => .stuck
@[simp] theorem R.bind_ok {α β : Type} (a : α) (S : Store) (k : α → Store → R β) : (R.ok a S).bind k = k a S := rfl
@[simp] theorem R.bind_exc {α β : Type} (c : Nat) (fs : List (Nat × D)) (S : Store) (k : α → Store → R β) : (R.exc c fs S).bind k = .exc c fs S := rfl
@[simp] theorem R.bind_stuck {α β : Type} (k : α → Store → R β) : (R.stuck : R α).bind k = .stuck := rfl
/-- the names' values; ex: the caught exceptions that names stand for -/
structure Ev where
  sl : List (Option D)
  ex : List (Nat × Nat × List (Nat × D)) := []
inductive RS where
  | nx (e : Ev) (S : Store) | rt (d : D) (S : Store) | bk (e : Ev) (S : Store) | ct (e : Ev) (S : Store) | exc (c : Nat) (fs : List (Nat × D)) (e : Ev) (S : Store) | stuck
abbrev EM := Ev → Store → R D
abbrev TM := Ev → Store → R Bool
abbrev AM := Ev → Store → R (List D)
abbrev SM := Ev → Store → RS
abbrev GM := D → Ev → Store → RS
/-- a def -/
abbrev FM := List D → Store → R D
/-- how classes and fields are named -/
structure Nms where
  cls : Nat → Str
  fld : Nat → Str
  most : Nat
  inj : ∀ i j, i < most → j < most → fld i = fld j → i = j
  /-- tables of code objects that make lambdas: where, and the lambda's name -/
  tb : Nat → Addr × Str := fun _ => (0, "")
  /-- the hashes of keys that are tuples -/
  hs : TKey → Int := fun _ => 0
def KTup (K : PySem.W.Frag) (a : Addr) (xs : List V) : Prop :=
  ∃ (o : Obj) (its : Array Value) (n : Nat), K.lookup a = some o ∧ o.cls = .type "tuple" ∧ o.data = .seq its n ∧ its.size ≤ sizeLine ∧ Vals xs its.toList
def KLst (K : PySem.W.Frag) (a : Addr) (xs : List V) : Prop :=
  ∃ (o : Obj) (its : Array Value) (n : Nat), K.lookup a = some o ∧ o.cls = .type "list" ∧ o.dict = none ∧ o.data = .seq its n ∧ its.size ≤ sizeLine ∧ Vals xs its.toList
def TupAt (K : PySem.W.Frag) (H : Hp) (μ : List Addr) (a : Addr) (xs : List V) : Prop := (a ∉ μ ∧ Rd H a (.tup xs)) ∨ KTup K a xs
def LstAt (H : Hp) (μ : List Addr) (a : Addr) (xs : List V) : Prop := a ∉ μ ∧ H a = some (.lst xs)
def ScrAt (K : PySem.W.Frag) (H : Hp) (μ : List Addr) (a : Addr) (xs : List V) : Prop := (a ∉ μ ∧ Rd H a (.lst xs)) ∨ KLst K a xs
theorem TupAt.sq {K : PySem.W.Frag} {H : Hp} {μ : List Addr} {a : Addr} {xs : List V} (h : TupAt K H μ a xs) : SqT K H a xs := h.elim (fun h => .inl h.2) .inr
theorem ScrAt.sq {K : PySem.W.Frag} {H : Hp} {μ : List Addr} {a : Addr} {xs : List V} (h : ScrAt K H μ a xs) : SqL K H a xs := h.elim (fun h => .inl h.2) .inr
mutual
inductive RV (K : PySem.W.Frag) (H : Hp) (μ : List Addr) : V → D → Prop
  | non : RV K H μ .non .non
  | bl (b : Bool) : RV K H μ (.bl b) (.bl b)
  | int (i : Int) : RV K H μ (.int i) (.int i)
  | str (x : Str) : RV K H μ (.str x) (.str x)
  | tup {a : Addr} {xs : List V} {ds : List D} : TupAt K H μ a xs → RVs K H μ xs ds → RV K H μ (.ref a) (.tup ds)
  | lst {a : Addr} {xs : List V} {ds : List D} : LstAt H μ a xs → RVs K H μ xs ds → RV K H μ (.ref a) (.lst ds)
  | scr {a : Addr} {xs : List V} {ds : List D} : ScrAt K H μ a xs → RVs K H μ xs ds → RV K H μ (.ref a) (.scr ds)
  | obj {a : Addr} {n : Nat} : μ[n]? = some a → RV K H μ (.ref a) (.obj n)
inductive RVs (K : PySem.W.Frag) (H : Hp) (μ : List Addr) : List V → List D → Prop
  | nil : RVs K H μ [] []
  | cons {v : V} {vs : List V} {d : D} {ds : List D} : RV K H μ v d → RVs K H μ vs ds → RVs K H μ (v :: vs) (d :: ds)
end
section
variable {K : PySem.W.Frag} {H H' : Hp} {μ μ' : List Addr}
theorem RVs.length : ∀ {vs : List V} {ds : List D}, RVs K H μ vs ds → vs.length = ds.length
  | [], _, h => by cases h; rfl
  | _ :: vs, _, h => by
    cases h with
    | cons _ t => simp only [List.length_cons, RVs.length t]
theorem RVs.get : ∀ {vs : List V} {ds : List D} {i : Nat} {d : D}, RVs K H μ vs ds → ds[i]? = some d → ∃ v, vs[i]? = some v ∧ RV K H μ v d
  | [], _, _, _, h, e => by cases h; simp at e
  | v :: vs, _, 0, d, h, e => by
    cases h with
    | cons r _ => simp at e; subst e; exact ⟨v, rfl, r⟩
  | v :: vs, _, i + 1, d, h, e => by
    cases h with
    | cons _ t => exact RVs.get (vs := vs) t (by simpa using e)
theorem RVs.get' : ∀ {vs : List V} {ds : List D} {i : Nat} {v : V}, RVs K H μ vs ds → vs[i]? = some v → ∃ d, ds[i]? = some d ∧ RV K H μ v d
  | [], _, _, _, h, e => by simp at e
  | v :: vs, _, 0, w, h, e => by
    cases h with
    | cons r _ => simp at e; subst e; exact ⟨_, rfl, r⟩
  | v :: vs, _, i + 1, w, h, e => by
    cases h with
    | cons _ t =>
      obtain ⟨d, e1, r⟩ := RVs.get' (i := i) t (by simpa using e)
      exact ⟨d, by simpa using e1, r⟩
theorem RVs.append : ∀ {vs ws : List V} {ds es : List D}, RVs K H μ vs ds → RVs K H μ ws es → RVs K H μ (vs ++ ws) (ds ++ es)
  | [], _, _, _, h, t => by cases h; exact t
  | _ :: _, _, _, _, h, t => by
    cases h with
    | cons r h => exact .cons r (RVs.append h t)
theorem RVs.take : ∀ {vs : List V} {ds : List D} (n : Nat), RVs K H μ vs ds → RVs K H μ (vs.take n) (ds.take n)
  | _, _, 0, _ => .nil
  | [], _, _ + 1, h => by cases h; exact .nil
  | _ :: _, _, n + 1, h => by
    cases h with
    | cons r h => exact .cons r (RVs.take n h)
theorem RVs.drop : ∀ {vs : List V} {ds : List D} (n : Nat), RVs K H μ vs ds → RVs K H μ (vs.drop n) (ds.drop n)
  | _, _, 0, h => h
  | [], _, _ + 1, h => by cases h; exact .nil
  | _ :: _, _, n + 1, h => by
    cases h with
    | cons r h => exact RVs.drop n h
theorem RVs.set : ∀ {vs : List V} {ds : List D} (n : Nat) {v : V} {d : D}, RVs K H μ vs ds → RV K H μ v d → RVs K H μ (vs.set n v) (ds.set n d)
  | [], _, _, _, _, h, _ => by cases h; exact .nil
  | _ :: _, _, 0, _, _, h, r => by
    cases h with
    | cons _ h => exact .cons r h
  | _ :: _, _, n + 1, _, _, h, r => by
    cases h with
    | cons q h => exact .cons q (RVs.set n h r)
theorem RVs.eraseIdx : ∀ {vs : List V} {ds : List D} (n : Nat), RVs K H μ vs ds → RVs K H μ (vs.eraseIdx n) (ds.eraseIdx n)
  | [], _, _, h => by cases h; exact .nil
  | _ :: _, _, 0, h => by
    cases h with
    | cons _ h => exact h
  | _ :: _, _, n + 1, h => by
    cases h with
    | cons q h => exact .cons q (RVs.eraseIdx n h)
theorem rvs_ints : ∀ ns : List Int, RVs K H μ (ns.map V.int) (ns.map D.int)
  | [] => .nil
  | n :: r => .cons (.int n) (rvs_ints r)
theorem rvs_iff : ∀ {vs : List V} {ds : List D}, RVs K H μ vs ds ↔ Paired (RV K H μ) vs ds
  | [], [] => ⟨fun _ => .nil, fun _ => .nil⟩
  | [], _ :: _ => ⟨fun h => (nomatch h), fun h => (nomatch h)⟩
  | _ :: _, [] => ⟨fun h => (nomatch h), fun h => (nomatch h)⟩
  | _ :: _, _ :: _ => ⟨fun h => by cases h with | cons r t => exact .cons r (rvs_iff.mp t), fun h => by cases h with | cons r t => exact .cons r (rvs_iff.mpr t)⟩
/-- what an evaluation leaves as it was: all that is tracked and no object of the store; new objects of the store were free -/
structure ExtW (μ : List Addr) (H : Hp) (μ' : List Addr) (H' : Hp) : Prop where
  pre : ∃ ν, μ' = μ ++ ν
  fr : ∀ a, a ∈ μ' → a ∉ μ → H a = none
  keep : ∀ a o, a ∉ μ → H a = some o → H' a = some o
theorem ExtW.refl : ExtW μ H μ H := ⟨⟨[], by simp⟩, fun a h n => absurd h n, fun _ _ _ h => h⟩
theorem ExtW.trans {μ1 μ2 : List Addr} {H1 H2 : Hp} (a : ExtW μ H μ1 H1) (b : ExtW μ1 H1 μ2 H2) : ExtW μ H μ2 H2 := by
  obtain ⟨ν, e⟩ := a.pre
  obtain ⟨ν', e'⟩ := b.pre
  refine ⟨⟨ν ++ ν', by rw [e', e, List.append_assoc]⟩, fun x h n => ?_, fun x o n h => ?_⟩
  · by_cases q : x ∈ μ1
    · exact a.fr x q n
    · have z := b.fr x h q
      cases w : H x with
      | none => rfl
      | some o => rw [a.keep x o n w] at z; cases z
  · refine b.keep x o (fun q => ?_) (a.keep x o n h)
    have z := a.fr x q n
    rw [h] at z; cases z
theorem ExtW.rd {u : HO} {a : Addr} (x : ExtW μ H μ' H') (n : a ∉ μ) (h : Rd H a u) : Rd H' a u := by
  rcases h with h | ⟨o, h⟩
  · exact .inl (x.keep a _ n h)
  · exact .inr ⟨o, x.keep a _ n h⟩
theorem ExtW.out {u : HO} {a : Addr} (x : ExtW μ H μ' H') (n : a ∉ μ) (h : Rd H a u) : a ∉ μ' := fun q => by
  have z := x.fr a q n
  rcases h with h | ⟨o, h⟩ <;> (rw [h] at z; cases z)
theorem ExtW.at (x : ExtW μ H μ' H') {n : Nat} {a : Addr} (h : μ[n]? = some a) : μ'[n]? = some a := by
  obtain ⟨ν, e⟩ := x.pre
  rw [e, List.getElem?_append_left (List.getElem?_eq_some_iff.mp h).1, h]
theorem TupAt.extW {a : Addr} {xs : List V} (x : ExtW μ H μ' H') (h : TupAt K H μ a xs) : TupAt K H' μ' a xs :=
  h.elim (fun h => .inl ⟨x.out h.1 h.2, x.rd h.1 h.2⟩) .inr
theorem LstAt.extW {a : Addr} {xs : List V} (x : ExtW μ H μ' H') (h : LstAt H μ a xs) : LstAt H' μ' a xs :=
  ⟨x.out h.1 (.inl h.2), x.keep _ _ h.1 h.2⟩
theorem ScrAt.extW {a : Addr} {xs : List V} (x : ExtW μ H μ' H') (h : ScrAt K H μ a xs) : ScrAt K H' μ' a xs :=
  h.elim (fun h => .inl ⟨x.out h.1 h.2, x.rd h.1 h.2⟩) .inr
mutual
theorem RV.extW (x : ExtW μ H μ' H') : ∀ {v : V} (d : D), RV K H μ v d → RV K H' μ' v d
  | _, .non, h => by cases h; exact .non
  | _, .bl b, h => by cases h; exact .bl b
  | _, .int i, h => by cases h; exact .int i
  | _, .str y, h => by cases h; exact .str y
  | _, .tup ds, h => by
    cases h with
    | tup t r => exact .tup (t.extW x) (RVs.extW x ds r)
  | _, .lst ds, h => by
    cases h with
    | lst t r => exact .lst (t.extW x) (RVs.extW x ds r)
  | _, .scr ds, h => by
    cases h with
    | scr t r => exact .scr (t.extW x) (RVs.extW x ds r)
  | _, .obj n, h => by
    cases h with
    | obj e => exact .obj (x.at e)
theorem RVs.extW (x : ExtW μ H μ' H') : ∀ {vs : List V} (ds : List D), RVs K H μ vs ds → RVs K H' μ' vs ds
  | _, [], h => by cases h; exact .nil
  | _, d :: ds, h => by
    cases h with
    | cons r t => exact .cons (RV.extW x d r) (RVs.extW x ds t)
end
/-- .. and no object that is locked -/
structure Ext (μ : List Addr) (H : Hp) (μ' : List Addr) (H' : Hp) : Prop extends ExtW μ H μ' H' where
  fz : ∀ a o u, H a = some (.frz o u) → H' a = some (.frz o u)
theorem Ext.refl : Ext μ H μ H := ⟨.refl, fun _ _ _ h => h⟩
theorem Ext.trans {μ1 μ2 : List Addr} {H1 H2 : Hp} (a : Ext μ H μ1 H1) (b : Ext μ1 H1 μ2 H2) : Ext μ H μ2 H2 := ⟨a.toExtW.trans b.toExtW, fun x o u h => b.fz _ _ _ (a.fz _ _ _ h)⟩
theorem Ext.rd {u : HO} {a : Addr} (x : Ext μ H μ' H') (n : a ∉ μ) (h : Rd H a u) : Rd H' a u := x.toExtW.rd n h
theorem Ext.out {u : HO} {a : Addr} (x : Ext μ H μ' H') (n : a ∉ μ) (h : Rd H a u) : a ∉ μ' := x.toExtW.out n h
theorem Ext.at (x : Ext μ H μ' H') {n : Nat} {a : Addr} (h : μ[n]? = some a) : μ'[n]? = some a := x.toExtW.at h
theorem TupAt.ext {a : Addr} {xs : List V} (x : Ext μ H μ' H') (h : TupAt K H μ a xs) : TupAt K H' μ' a xs := h.extW x.toExtW
theorem LstAt.ext {a : Addr} {xs : List V} (x : Ext μ H μ' H') (h : LstAt H μ a xs) : LstAt H' μ' a xs := h.extW x.toExtW
theorem ScrAt.ext {a : Addr} {xs : List V} (x : Ext μ H μ' H') (h : ScrAt K H μ a xs) : ScrAt K H' μ' a xs := h.extW x.toExtW
theorem RV.ext (x : Ext μ H μ' H') {v : V} (d : D) (h : RV K H μ v d) : RV K H' μ' v d := RV.extW x.toExtW d h
theorem RVs.ext (x : Ext μ H μ' H') {vs : List V} (ds : List D) (h : RVs K H μ vs ds) : RVs K H' μ' vs ds := RVs.extW x.toExtW ds h
/-- named fields -/
abbrev RF (nm : Nms) (K : PySem.W.Frag) (H : Hp) (μ : List Addr) : List (Str × V) → List (Nat × D) → Prop :=
  Paired fun (p : Str × V) (q : Nat × D) => p.1 = nm.fld q.1 ∧ q.1 < nm.most ∧ RV K H μ p.2 q.2
abbrev RK (K : PySem.W.Frag) (H : Hp) (μ : List Addr) : List (Key × V) → List (Key × D) → Prop :=
  Paired fun (p : Key × V) (q : Key × D) => p.1 = q.1 ∧ RV K H μ p.2 q.2
theorem RF.extW {nm : Nms} (x : ExtW μ H μ' H') {gs : List (Str × V)} {fs : List (Nat × D)} (h : RF nm K H μ gs fs) : RF nm K H' μ' gs fs :=
  Paired.mapP h fun _ q z => ⟨z.1, z.2.1, RV.extW x q.2 z.2.2⟩
theorem RK.extW (x : ExtW μ H μ' H') {gs : List (Key × V)} {fs : List (Key × D)} (h : RK K H μ gs fs) : RK K H' μ' gs fs :=
  Paired.mapP h fun _ q z => ⟨z.1, RV.extW x q.2 z.2⟩
theorem RF.ext {nm : Nms} (x : Ext μ H μ' H') {gs : List (Str × V)} {fs : List (Nat × D)} (h : RF nm K H μ gs fs) : RF nm K H' μ' gs fs := RF.extW x.toExtW h
theorem RK.ext (x : Ext μ H μ' H') {gs : List (Key × V)} {fs : List (Key × D)} (h : RK K H μ gs fs) : RK K H' μ' gs fs := RK.extW x.toExtW h
/-- a table of code objects: each that it tells is no object of the store and bears the name q -/
def TabO (H : Hp) (μ : List Addr) (a : Addr) (q : Str) : Prop := ∃ ps : Array Value, H a = some (.tbl ps) ∧ TriplesOk ps.toList ∧ ∀ (pos : Pos) (cv : Value), codeAmong pos ps.toList = some cv → ∃ c, cv = .ref c ∧ c ∉ μ ∧ H c = some (LamX.CodeO c q)
theorem TabO.extW {a : Addr} {q : Str} (x : ExtW μ H μ' H') (e : H' a = H a) (h : TabO H μ a q) : TabO H' μ' a q := by
  obtain ⟨ps, h1, h2, h3⟩ := h
  refine ⟨ps, e.trans h1, h2, fun pos cv hc => ?_⟩
  obtain ⟨c, e1, e2, e3⟩ := h3 pos cv hc
  exact ⟨c, e1, x.out e2 (.inl e3), x.keep _ _ e2 e3⟩
def lfD : Option Key → D
  | none => .non
  | some (.inl i) => .int i
  | some (.inr x) => .str x
def KeyAt (K : PySem.W.Frag) (H : Hp) (μ : List Addr) (k : TKey) (b : Addr) : Prop := ∃ xs, TupAt K H μ b xs ∧ RVs K H μ xs (k.map lfD)
abbrev RT (K : PySem.W.Frag) (H : Hp) (μ : List Addr) : List (TKey × Addr × V) → List (TKey × D) → Prop :=
  Paired fun (p : TKey × Addr × V) (q : TKey × D) => p.1 = q.1 ∧ KeyAt K H μ p.1 p.2.1 ∧ RV K H μ p.2.2 q.2
theorem KeyAt.extW {k : TKey} {b : Addr} (x : ExtW μ H μ' H') (h : KeyAt K H μ k b) : KeyAt K H' μ' k b := let ⟨xs, a, r⟩ := h; ⟨xs, a.extW x, RVs.extW x _ r⟩
theorem RT.extW (x : ExtW μ H μ' H') {gs : List (TKey × Addr × V)} {fs : List (TKey × D)} (h : RT K H μ gs fs) : RT K H' μ' gs fs :=
  Paired.mapP h fun _ q z => ⟨z.1, z.2.1.extW x, RV.extW x q.2 z.2.2⟩
theorem RT.ext (x : Ext μ H μ' H') {gs : List (TKey × Addr × V)} {fs : List (TKey × D)} (h : RT K H μ gs fs) : RT K H' μ' gs fs := RT.extW x.toExtW h
abbrev ValP : List (TKey × Addr × V) → List (TKey × Addr × Value) → Prop := Paired fun (p : TKey × Addr × V) (q : TKey × Addr × Value) => p.1 = q.1 ∧ p.2.1 = q.2.1 ∧ RelV p.2.2 q.2.2
def DtE (hs : TKey → Int) (a : Addr) (ys : List (TKey × Addr × V)) (h : Heap) : Prop :=
  ys.length ≤ sizeLine ∧ (a == sysModules) = false ∧ ∃ (xs : List (TKey × Addr × Value)) (o : Obj) (es : Array DictEntry) (ep : Nat), ValP ys xs ∧
    h.get? a = some o ∧ o.ExactDict ∧ o.data = .dict es ep ∧ es.toList = xs.map (fun x => (⟨hs x.1, .ref x.2.1, x.2.2⟩ : DictEntry)) ∧ (xs.map (·.1)).Nodup
def DtO (hs : TKey → Int) (a : Addr) (ys : List (TKey × Addr × V)) : HO := .ext (DtE hs a ys)
def OK (nm : Nms) (K : PySem.W.Frag) (mg : Str → Option Value) (H : Hp) (μ : List Addr) (a : Addr) : O → Prop
  | .lst ds => ∃ xs, H a = some (.lst xs) ∧ RVs K H μ xs ds
  | .dct kvs => ∃ ys, H a = some (.dK ys) ∧ RK K H μ ys kvs
  | .ins c fs => ∃ C dx gs, mg (nm.cls c) = some (.ref C) ∧ H a = some (.ins C dx gs) ∧ RF nm K H μ gs fs
  | .lck kvs => ∃ od ys, H a = some (.frz od (.dK ys)) ∧ RK K H μ ys kvs
  | .tab k => a = (nm.tb k).1 ∧ TabO H μ a (nm.tb k).2
  | .dkt kvs => ∃ ys, H a = some (DtO nm.hs a ys) ∧ RT K H μ ys kvs
  | .lkt kvs => ∃ od ys, H a = some (.frz od (DtO nm.hs a ys)) ∧ RT K H μ ys kvs
theorem OK.some {nm : Nms} {mg : Str → Option Value} {a : Addr} {o : O} (h : OK nm K mg H μ a o) : ∃ u, H a = some u := by
  cases o with
  | lst ds => obtain ⟨xs, e, _⟩ := h; exact ⟨_, e⟩
  | dct ds => obtain ⟨xs, e, _⟩ := h; exact ⟨_, e⟩
  | ins c fs => obtain ⟨C, dx, gs, _, e, _⟩ := h; exact ⟨_, e⟩
  | lck kvs => obtain ⟨od, ys, e, _⟩ := h; exact ⟨_, e⟩
  | tab k => obtain ⟨_, ps, e, _⟩ := h; exact ⟨_, e⟩
  | dkt kvs => obtain ⟨ys, e, _⟩ := h; exact ⟨_, e⟩
  | lkt kvs => obtain ⟨od, ys, e, _⟩ := h; exact ⟨_, e⟩
/-- .. where the object itself stays -/
theorem OK.extW {nm : Nms} {mg : Str → Option Value} {a : Addr} {o : O} (x : ExtW μ H μ' H') (e : H' a = H a) (h : OK nm K mg H μ a o) : OK nm K mg H' μ' a o := by
  cases o with
  | lst ds => obtain ⟨xs, e1, r⟩ := h; exact ⟨xs, e.trans e1, RVs.extW x _ r⟩
  | dct kvs => obtain ⟨ys, e1, r⟩ := h; exact ⟨ys, e.trans e1, RK.extW x r⟩
  | ins c fs => obtain ⟨C, dx, gs, g, e1, r⟩ := h; exact ⟨C, dx, gs, g, e.trans e1, RF.extW x r⟩
  | lck kvs => obtain ⟨od, ys, e1, r⟩ := h; exact ⟨od, ys, e.trans e1, RK.extW x r⟩
  | tab k => exact ⟨h.1, h.2.extW x e⟩
  | dkt kvs => obtain ⟨ys, e1, r⟩ := h; exact ⟨ys, e.trans e1, RT.extW x r⟩
  | lkt kvs => obtain ⟨od, ys, e1, r⟩ := h; exact ⟨od, ys, e.trans e1, RT.extW x r⟩
theorem OK.ext {nm : Nms} {mg : Str → Option Value} {a : Addr} {o : O} (x : Ext μ H μ' H') (e : H' a = H a) (h : OK nm K mg H μ a o) : OK nm K mg H' μ' a o := h.extW x.toExtW e
structure Sim (nm : Nms) (K : PySem.W.Frag) (mg : Str → Option Value) (μ : List Addr) (S : Store) (H : Hp) : Prop where
  len : μ.length = S.length
  nd : μ.Nodup
  ob : ∀ (n : Nat) (a : Addr) (o : O), μ[n]? = some a → S[n]? = some o → OK nm K mg H μ a o
section
variable {nm : Nms} {mg : Str → Option Value} {S : Store}
theorem Sim.there (s : Sim nm K mg μ S H) {a : Addr} (h : a ∈ μ) : ∃ u, H a = Option.some u := by
  obtain ⟨n, hn, e⟩ := List.mem_iff_getElem.mp h
  have hn' : n < S.length := by rw [← s.len]; exact hn
  exact (s.ob n a S[n] (by rw [List.getElem?_eq_getElem hn, e]) (List.getElem?_eq_getElem hn')).some
theorem Sim.fresh (s : Sim nm K mg μ S H) {a : Addr} (h : H a = none) : a ∉ μ := fun q => by
  obtain ⟨u, e⟩ := s.there q
  rw [h] at e; cases e
/-- something new that is no object of the store -/
theorem Ext.laid (s : Sim nm K mg μ S H) {p : Addr} {u : HO} (h : H p = none) : Ext μ H μ (upd H p u) :=
  ⟨⟨⟨[], by simp⟩, fun a q n => absurd q n, fun a o _ e => by rw [upd_ne (ne_of_none e h)]; exact e⟩, fun a o u e => by rw [upd_ne (ne_of_none e h)]; exact e⟩
theorem Sim.keep (s : Sim nm K mg μ S H) (x : Ext μ H μ H') (h : ∀ a, a ∈ μ → H' a = H a) : Sim nm K mg μ S H' :=
  ⟨s.len, s.nd, fun n a o h1 h2 => (s.ob n a o h1 h2).ext x (h a (List.mem_of_getElem? h1))⟩
theorem Sim.laid (s : Sim nm K mg μ S H) {p : Addr} {u : HO} (h : H p = none) : Sim nm K mg μ S (upd H p u) :=
  s.keep (Ext.laid s h) fun a q => by
    obtain ⟨v, e⟩ := s.there q
    rw [upd_ne (ne_of_none e h)]
/-- a new object of the store at p -/
theorem Ext.made (s : Sim nm K mg μ S H) {p : Addr} {u : HO} (h : H p = none) : Ext μ H (μ ++ [p]) (upd H p u) :=
  ⟨⟨⟨[p], rfl⟩, fun a q n => by
    rcases List.mem_append.mp q with q | q
    · exact absurd q n
    · rw [List.mem_singleton] at q; rw [q]; exact h, fun a o _ e => by rw [upd_ne (ne_of_none e h)]; exact e⟩, fun a o u e => by rw [upd_ne (ne_of_none e h)]; exact e⟩
theorem Sim.made (s : Sim nm K mg μ S H) {p : Addr} {u : HO} {o : O} (h : H p = none) (ho : OK nm K mg (upd H p u) (μ ++ [p]) p o) : Sim nm K mg (μ ++ [p]) (S ++ [o]) (upd H p u) := by
  have hp : p ∉ μ := s.fresh h
  refine ⟨by simp [s.len], List.nodup_append.mpr ⟨s.nd, by simp, fun a ha b hb e => ?_⟩, fun n a ob h1 h2 => ?_⟩
  · rw [List.mem_singleton] at hb
    exact hp (hb ▸ e ▸ ha)
  · by_cases hn : n < μ.length
    · have hn' : n < S.length := by rw [← s.len]; exact hn
      rw [List.getElem?_append_left hn] at h1
      rw [List.getElem?_append_left hn'] at h2
      refine (s.ob n a ob h1 h2).ext (Ext.made s h) ?_
      obtain ⟨v, e⟩ := s.there (List.mem_of_getElem? h1)
      rw [upd_ne (ne_of_none e h)]
    · rw [List.getElem?_append_right (Nat.le_of_not_lt hn)] at h1
      rw [List.getElem?_append_right (by rw [← s.len]; exact Nat.le_of_not_lt hn)] at h2
      have hz : n - μ.length = 0 := by
        rcases Nat.eq_zero_or_pos (n - μ.length) with z | z
        · exact z
        · rw [List.getElem?_eq_none (by rw [List.length_singleton]; exact z)] at h1; cases h1
      rw [hz] at h1
      rw [← s.len, hz] at h2
      simp at h1 h2
      subst h1 h2
      exact ho
/-- an object of the store is written -/
theorem ExtW.wrote {p : Addr} {u : HO} (h : p ∈ μ) : ExtW μ H μ (upd H p u) :=
  ⟨⟨[], by simp⟩, fun a q n => absurd q n, fun a o n e => by rw [upd_ne (fun z => n (by rw [z]; exact h))]; exact e⟩
def NF (H : Hp) (p : Addr) : Prop := ∀ o u, H p ≠ Option.some (.frz o u)
theorem NF.of {p : Addr} {w : HO} (h : H p = Option.some w) (n : ∀ o u, w ≠ .frz o u := by intro _ _ h; cases h) : NF H p := fun o u e => by rw [h] at e; cases e; exact n _ _ rfl
theorem Ext.wrote {p : Addr} {u : HO} (h : p ∈ μ) (nf : NF H p) : Ext μ H μ (upd H p u) :=
  ⟨.wrote h, fun a o w e => by rw [upd_ne (fun z => by subst z; exact nf _ _ e)]; exact e⟩
theorem Sim.wrote (s : Sim nm K mg μ S H) {p : Addr} {u : HO} {n : Nat} {o : O} (hp : μ[n]? = Option.some p) (ho : OK nm K mg (upd H p u) μ p o) : Sim nm K mg μ (S.set n o) (upd H p u) := by
  have hm := List.mem_of_getElem? hp
  refine ⟨by simp [s.len], s.nd, fun i a ob h1 h2 => ?_⟩
  by_cases hi : i = n
  · subst hi
    rw [hp] at h1; cases h1
    have hl : i < S.length := by rw [← s.len]; exact (List.getElem?_eq_some_iff.mp hp).1
    rw [List.getElem?_set_self hl] at h2
    cases h2
    exact ho
  · rw [List.getElem?_set_ne (Ne.symm hi)] at h2
    refine (s.ob i a ob h1 h2).extW (ExtW.wrote hm) ?_
    rw [upd_ne]
    intro e
    subst e
    exact hi (nd_ix s.nd h1 hp)
/-- a lock is put on and taken off again -/
theorem Ext.unlock {p : Addr} {u w : HO} (x : Ext μ (upd H p u) μ' H') (h : p ∈ μ) (nf : NF H p) : Ext μ H μ' (upd H' p w) := by
  have hp : p ∈ μ' := by
    obtain ⟨ν, e⟩ := x.pre
    rw [e]; exact List.mem_append_left _ h
  refine ⟨⟨x.pre, fun a q n => ?_, fun a o n e => ?_⟩, fun a o v e => ?_⟩
  · have := x.fr a q n
    rwa [upd_ne (fun z => n (by rw [z]; exact h))] at this
  · have ne : a ≠ p := fun z => n (by rw [z]; exact h)
    rw [upd_ne ne]
    exact x.keep a o n (by rw [upd_ne ne]; exact e)
  · have ne : a ≠ p := fun z => by subst z; exact nf _ _ e
    rw [upd_ne ne]
    exact x.fz a o v (by rw [upd_ne ne]; exact e)
end
end
end BS
namespace BS
open PySem
/-- names from two tables -/
def mkNms (cls fld : List String) (h : (fld.map Str.ofString).Nodup) : Nms where
  cls := fun i => (cls.map Str.ofString).getD i ""
  fld := fun i => (fld.map Str.ofString).getD i ""
  most := fld.length
  inj := fun i j hi hj e => by
    have hi' : i < (fld.map Str.ofString).length := by rw [List.length_map]; exact hi
    have hj' : j < (fld.map Str.ofString).length := by rw [List.length_map]; exact hj
    rw [List.getD_eq_getElem?_getD, List.getD_eq_getElem?_getD, List.getElem?_eq_getElem hi', List.getElem?_eq_getElem hj'] at e
    exact (List.getElem_inj h).mp e
end BS
namespace BS
open PySem PySem.Spec PyProof.Rows L2
def ExcAt (nm : Nms) (K : PySem.W.Frag) (mg : Str → Option Value) (H : Hp) (μ : List Addr) (c : Nat) (fs : List (Nat × D)) (C : Addr) (d : Option Addr) : Prop :=
  mg (nm.cls c) = some (.ref C) ∧ match d with
    | none => fs = []
    | some dd => ∃ gs, dd ∉ μ ∧ H dd = some (.xd gs) ∧ RF nm K H μ gs fs ∧ fs ≠ []
theorem ExcAt.ext {nm : Nms} {K : PySem.W.Frag} {mg : Str → Option Value} {H H' : Hp} {μ μ' : List Addr} {c : Nat} {fs : List (Nat × D)} {C : Addr} {d : Option Addr} (x : Ext μ H μ' H') (h : ExcAt nm K mg H μ c fs C d) : ExcAt nm K mg H' μ' c fs C d := by
  refine ⟨h.1, ?_⟩
  cases d with
  | none => exact h.2
  | some dd =>
    obtain ⟨gs, n, e, r, ne⟩ := h.2
    exact ⟨gs, x.out n (.inl e), x.keep dd _ n e, RF.ext x r, ne⟩
abbrev St := L2.St
abbrev PA (α : Type) := α → Store → List Addr → Hp → Prop
abbrev PX := Value → Option Addr → Hp → Prop
section
variable {nm : Nms} {K : PySem.W.Frag} {mg : Str → Option Value} {H H' : Hp} {μ μ' : List Addr} {α β : Type}
def Post (nm : Nms) (K : PySem.W.Frag) (mg : Str → Option Value) (μ : List Addr) (H : Hp) (r : R α) (P : PA α) (E : PX) : Prop := match r with
  | .ok a S => ∀ μ' H', Ext μ H μ' H' → Sim nm K mg μ' S H' → P a S μ' H'
  | .exc c fs S => ∀ μ' H' C d, Ext μ H μ' H' → Sim nm K mg μ' S H' → ExcAt nm K mg H' μ' c fs C d → E (.ref C) d H'
  | .stuck => False
theorem Post.ext {r : R α} {P : PA α} {E : PX} (x : Ext μ H μ' H') (h : Post nm K mg μ H r P E) : Post nm K mg μ' H' r P E := by
  cases r with
  | ok a S => exact fun μ2 H2 x2 s2 => h μ2 H2 (x.trans x2) s2
  | exc c fs S => exact fun μ2 H2 C d x2 s2 => h μ2 H2 C d (x.trans x2) s2
  | stuck => exact h
theorem Post.mono {r : R α} {P P' : PA α} {E : PX} (h : Post nm K mg μ H r P E) (f : ∀ a S μ' H', Ext μ H μ' H' → Sim nm K mg μ' S H' → P a S μ' H' → P' a S μ' H') : Post nm K mg μ H r P' E := by
  cases r with
  | ok a S => exact fun μ2 H2 x2 s2 => f _ _ _ _ x2 s2 (h μ2 H2 x2 s2)
  | exc c fs S => exact h
  | stuck => exact h
theorem Post.bind {r : R α} {k : α → Store → R β} {P : PA β} {E : PX} (h : Post nm K mg μ H (r.bind k) P E) : Post nm K mg μ H r (fun a S μ1 H1 => Post nm K mg μ1 H1 (k a S) P E) E := by
  cases r with
  | ok a S => exact fun μ2 H2 x2 _ => Post.ext (r := k a S) x2 h
  | exc c fs S => exact h
  | stuck => exact h
end
/-- the names' values as the interpretation has them -/
structure EvR (nm : Nms) (X : Cx) (H : Hp) (μ : List Addr) (e : Ev) (σ : St) : Prop where
  len : e.sl.length = σ.length
  at_ : ∀ (i : Nat) (d : D), e.sl[i]? = some (some d) → ∃ v, σ[i]? = some (some v) ∧ RV X.K H μ v d
  ex : ∀ p ∈ e.ex, ∃ (a : Addr) (oe : Obj) (C : Addr) (d : Option Addr), σ[p.1]? = some (some (.ref a)) ∧ (a, oe) ∈ X.pn ∧ (Zc (.ref C) d oe ∧ ∃ vs, oe.data = .fields vs) ∧ ExcAt nm X.K X.mg H μ p.2.1 p.2.2 C d
theorem EvR.ext {nm : Nms} {X : Cx} {H H' : Hp} {μ μ' : List Addr} {e : Ev} {σ : St} (x : Ext μ H μ' H') (h : EvR nm X H μ e σ) : EvR nm X H' μ' e σ :=
  ⟨h.len, fun i d e => let ⟨v, a, b⟩ := h.at_ i d e; ⟨v, a, b.ext x⟩, fun p hp => let ⟨a, oe, C, d, h1, h2, h3, h4⟩ := h.ex p hp; ⟨a, oe, C, d, h1, h2, h3, h4.ext x⟩⟩
section
variable (nm : Nms) (X : Cx) (W : WX)
abbrev PostX {α : Type} (μ : List Addr) (H : Hp) (σ : St) (r : R α) (P : PA α) : Prop := Post nm X.K X.mg μ H r P fun c d H' => W c d σ H'
def rdE (m : EM) : TE := fun σ H Q => ∃ e S μ, EvR nm X H μ e σ ∧ Sim nm X.K X.mg μ S H ∧ PostX nm X W μ H σ (m e S) fun d _ μ' H' => ∀ v, RV X.K H' μ' v d → Q v H'
def rdT (m : TM) : TT := fun σ H Q => ∃ e S μ, EvR nm X H μ e σ ∧ Sim nm X.K X.mg μ S H ∧ PostX nm X W μ H σ (m e S) fun b _ _ H' => Q b H'
def rdA (m : AM) : TA := fun σ H Q => ∃ e S μ, EvR nm X H μ e σ ∧ Sim nm X.K X.mg μ S H ∧ PostX nm X W μ H σ (m e S) fun ds _ μ' H' => ∀ vs, RVs X.K H' μ' vs ds → Q vs H'
end
/-- the expression does what m says -/
structure ME (nm : Nms) (X : Cx) (e : Expr) (m : EM) : Prop where
  run : ∀ W, Takes X W → PE X e (rdE nm X W m)
structure MT (nm : Nms) (X : Cx) (e : Expr) (m : TM) : Prop where
  run : ∀ W, Takes X W → PT X e (rdT nm X W m)
structure MW (nm : Nms) (X : Cx) (e : Expr) (m : TM) : Prop where
  run : ∀ W, Takes X W → PW X e (rdT nm X W m)
structure MA (nm : Nms) (X : Cx) (es : List Expr) (m : AM) : Prop where
  run : ∀ W, Takes X W → L2.PA X es (rdA nm X W m)
  len : ∀ e S ds S', m e S = .ok ds S' → ds.length = es.length
theorem _root_.L2.PE.imp {X : Cx} {e : Expr} {t t' : TE} (h : PE X e t) (f : ∀ σ H Q, t' σ H Q → t σ H Q) : PE X e t' := ⟨fun pins s σ H Q I q => h.run pins s σ H Q I (f _ _ _ q)⟩
theorem _root_.L2.PT.imp {X : Cx} {e : Expr} {t t' : TT} (h : PT X e t) (f : ∀ σ H Q, t' σ H Q → t σ H Q) : PT X e t' := ⟨fun pins s σ H Q I q => h.run pins s σ H Q I (f _ _ _ q)⟩
theorem _root_.L2.PW.imp {X : Cx} {e : Expr} {t t' : TT} (h : PW X e t) (f : ∀ σ H Q, t' σ H Q → t σ H Q) : PW X e t' := ⟨fun wh pins s σ H Q I q => h.run wh pins s σ H Q I (f _ _ _ q)⟩
theorem _root_.L2.PA.imp {X : Cx} {e : List Expr} {t t' : TA} (h : L2.PA X e t) (f : ∀ σ H Q, t' σ H Q → t σ H Q) : L2.PA X e t' := ⟨fun p pins s σ H Q I q => h.run p pins s σ H Q I (f _ _ _ q)⟩
/-- the names at these places are the scope's own -/
def visAll (is : List Nat) (N : List Str) (sc : Scope) : Bool := is.all fun i => match N[i]? with
  | some x => (match sc.names.lookup x with | some .local => true | some .cell => true | some .free => true | _ => false) && (x == ("__debug__" : Str)) == false && (x == ("__classdict__" : Str)) == false
  | none => false
def locAll (is : List Nat) (N : List Str) (sc : Scope) : Bool := is.all fun i => match N[i]? with
  | some x => (match sc.names.lookup x with | some .local => true | some .cell => true | _ => false) && (x == ("__debug__" : Str)) == false && (x == ("__classdict__" : Str)) == false
  | none => false
theorem vis_of {is : List Nat} {N : List Str} {sc : Scope} (h : visAll is N sc = true) {i : Nat} {x : Str} (hi : is.contains i = true) (hN : N[i]? = some x) : Vis sc x ∧ (x == ("__debug__" : Str)) = false ∧ (x == ("__classdict__" : Str)) = false := by
  have h1 := List.all_eq_true.mp h i (by simpa using hi)
  simp only [hN, Bool.and_eq_true, beq_iff_eq] at h1
  refine ⟨?_, h1.1.2, h1.2⟩
  have h2 := h1.1.1
  unfold Vis
  split at h2
  · rename_i e; exact .inl e
  · rename_i e; exact .inr (.inl e)
  · rename_i e; exact .inr (.inr e)
  · cases h2
theorem loc_of {is : List Nat} {N : List Str} {sc : Scope} (h : locAll is N sc = true) {i : Nat} {x : Str} (hi : is.contains i = true) (hN : N[i]? = some x) : L2.Loc sc x ∧ (x == ("__debug__" : Str)) = false ∧ (x == ("__classdict__" : Str)) = false := by
  have h1 := List.all_eq_true.mp h i (by simpa using hi)
  simp only [hN, Bool.and_eq_true, beq_iff_eq] at h1
  refine ⟨?_, h1.1.2, h1.2⟩
  have h2 := h1.1.1
  unfold L2.Loc
  split at h2
  · rename_i e; exact .inl e
  · rename_i e; exact .inr e
  · cases h2
theorem locVis {is : List Nat} {N : List Str} {sc : Scope} (h : locAll is N sc = true) : visAll is N sc = true := by
  refine List.all_eq_true.mpr fun i hi => ?_
  have h1 := List.all_eq_true.mp h i hi
  cases hN : N[i]? with
  | none => rw [hN] at h1; cases h1
  | some x =>
    simp only [hN, Bool.and_eq_true, beq_iff_eq] at h1 ⊢
    refine ⟨⟨?_, h1.1.2⟩, h1.2⟩
    have h2 := h1.1.1
    split at h2
    · rename_i e; rw [e]
    · rename_i e; rw [e]
    · cases h2
/-- global names -/
def glAll (xs : List Str) (sc : Scope) : Bool := xs.all fun x => (match sc.names.lookup x with | some .globalImplicit => true | _ => false) && (x == ("__debug__" : Str)) == false && !(decide (x = "__name__"))
structure GlN (X : Cx) (x : Str) : Prop where
  g : Gl X x
  d : (x == ("__debug__" : Str)) = false
  n : x ≠ "__name__"
theorem glT {X : Cx} {x : Str} {pn : List (Addr × Obj)} {xe : Value → Shared → Prop} (h : GlN X x) : GlN (X.tr pn xe) x := ⟨h.g, h.d, h.n⟩
theorem glS {X : Cx} {x : Str} {a : Addr} {pn : List (Addr × Obj)} (h : GlN X x) : GlN (X.suite a pn) x := ⟨h.g, h.d, h.n⟩
theorem rhS {X : Cx} {k : Nat} {a : Addr} {pn : List (Addr × Obj)} (h : L2H.RoomH k X.A) : L2H.RoomH k (X.suite a pn).A := ⟨h.dp, h.un⟩
theorem gl_at {X : Cx} {xs : List Str} (h : glAll xs X.env.scope = true) (j : Nat) {x : Str} (hj : xs[j]? = some x := by rfl) : GlN X x := by
  have h1 := List.all_eq_true.mp h x (List.mem_of_getElem? hj)
  simp only [Bool.and_eq_true, beq_iff_eq] at h1
  refine ⟨?_, h1.1.2, by simpa using h1.2⟩
  have h2 := h1.1.1
  split at h2
  · rename_i e; exact e
  · cases h2
def mVar (i : Nat) : EM := fun e S => match e.sl[i]? with
  | some (some d) => .ok d S
  | _ => .stuck
def mC (d : D) : EM := fun _ S => .ok d S
section
variable {nm : Nms} {X : Cx} {pos : Pos} {a b c : Expr} {ma mb mc : EM}
theorem me_var {is : List Nat} (i : Nat) {x : Str} (hv : visAll is X.N X.env.scope = true) (hN : X.N[i]? = some x := by rfl) (hi : is.contains i = true := by rfl) : ME nm X (.Name x pos) (mVar i) := by
  obtain ⟨hv, hd, hcd⟩ := vis_of hv hi hN
  refine ⟨fun W tk => (pe_var (i := i) hN hv hd hcd).imp fun σ H Q h => ?_⟩
  obtain ⟨e, S, μ, E, s, p⟩ := h
  unfold mVar at p
  split at p
  · rename_i d hd
    obtain ⟨v, e1, r⟩ := E.at_ i d hd
    exact ⟨v, e1, p μ H .refl s v r⟩
  · exact False.elim p
theorem me_cn {e : Expr} {v : V} {d : D} (h : PE X e (tC v)) (r : ∀ H μ, RV X.K H μ v d) : ME nm X e (mC d) := by
  refine ⟨fun W tk => h.imp fun σ H Q h => ?_⟩
  obtain ⟨e, S, μ, E, s, p⟩ := h
  exact p μ H .refl s v (r _ _)
theorem me_int {i : Int} {j pos} : ME nm X (.Constant (.int i) j pos) (mC (.int i)) := me_cn pe_int fun _ _ => .int i
theorem me_bl {b : Bool} {j pos} : ME nm X (.Constant (.bool b) j pos) (mC (.bl b)) := me_cn pe_bl fun _ _ => .bl b
theorem me_non {j pos} : ME nm X (.Constant .none j pos) (mC .non) := me_cn pe_non fun _ _ => .non
theorem me_str {x : Str} {j pos} : ME nm X (.Constant (.str x) j pos) (mC (.str x)) := me_cn pe_str fun _ _ => .str x
/-- a module's constant -/
def GC (K : PySem.W.Frag) (mg : Str → Option Value) (x : Str) (d : D) : Prop := ∃ u v, mg x = some u ∧ RelV v u ∧ ∀ H μ, RV K H μ v d
theorem me_gc {x : Str} {d : D} (h : GC X.K X.mg x d) (hg : GlN X x) : ME nm X (.Name x pos) (mC d) := let ⟨u, v, h1, h2, h3⟩ := h; me_cn (pe_glob hg.g h1 h2 hg.d) h3
def lift2 (f : Store → D → D → Option D) (S : Store) (x y : D) : R D := match f S x y with
  | some d => .ok d S
  | none => .stuck
def mBin (f : Store → D → D → Option D) (a b : EM) : EM := fun e S => (a e S).bind fun x S => (b e S).bind fun y S => lift2 f S x y
def mUn (f : Store → D → Option D) (a : EM) : EM := fun e S => (a e S).bind fun x S => match f S x with
  | some d => .ok d S
  | none => .stuck
/-- what an operation asks of the interpretation -/
def rOpD (nm : Nms) (X : Cx) (f : Store → D → D → Option D) : R2 := fun x y H Q => ∃ S μ dx dy d, Sim nm X.K X.mg μ S H ∧ RV X.K H μ x dx ∧ RV X.K H μ y dy ∧ f S dx dy = some d ∧
  ∀ v μ' H', Ext μ H μ' H' → Sim nm X.K X.mg μ' S H' → RV X.K H' μ' v d → Q v H'
abbrev OpD (nm : Nms) (X : Cx) (g : Value → Value → Sem Value) (f : Store → D → D → Option D) : Prop := OpR X g (rOpD nm X f)
theorem bin_rd {f : Store → D → D → Option D} {W : WX} {σ : St} {H : Hp} {Q : VK} (h : rdE nm X W (mBin f ma mb) σ H Q) : tOp (rOpD nm X f) (rdE nm X W ma) (rdE nm X W mb) σ H Q := by
  obtain ⟨e, S, μ, E, s, p⟩ := h
  refine ⟨e, S, μ, E, s, (Post.bind p).mono fun dx S1 μ1 H1 x1 s1 p1 v rv => ?_⟩
  refine ⟨e, S1, μ1, E.ext x1, s1, (Post.bind p1).mono fun dy S2 μ2 H2 x2 s2 p2 u ru => ?_⟩
  unfold lift2 at p2
  split at p2
  · rename_i d hd
    exact ⟨S2, μ2, dx, dy, d, s2, rv.ext x2, ru, hd, fun w μ3 H3 x3 s3 r => p2 μ3 H3 x3 s3 w r⟩
  · exact False.elim p2
theorem me_bin {op : Operator} {f : Store → D → D → Option D} (ho : OpD nm X (binaryOp op) f) (ha : ME nm X a ma) (hb : ME nm X b mb) : ME nm X (.BinOp a op b pos) (mBin f ma mb) :=
  ⟨fun W tk => (pe_op ho (ha.run W tk) (hb.run W tk)).imp fun _ _ _ h => bin_rd h⟩
theorem me_cmp {op : CmpOp} {f : Store → D → D → Option D} (ho : OpD nm X (compareOp op) f) (ha : ME nm X a ma) (hb : ME nm X b mb) (hm : behindInMarks op b = false) : ME nm X (.Compare a [op] [b] pos) (mBin f ma mb) :=
  ⟨fun W tk => (pe_cmpR ho (ha.run W tk) (hb.run W tk) hm).imp fun _ _ _ h => bin_rd h⟩
def asB (d : D) : Option Bool := match d with
  | .bl b => some b
  | _ => none
@[simp] theorem asB_bl (b : Bool) : asB (.bl b) = some b := rfl
def mBl (m : EM) : TM := fun e S => (m e S).bind fun d S => match asB d with
  | some b => .ok b S
  | none => .stuck
theorem bl_rd {W : WX} {m : EM} {t : TE} (f : ∀ σ H Q, rdE nm X W m σ H Q → t σ H Q) {σ : St} {H : Hp} {Q : Bool → Hp → Prop} (h : rdT nm X W (mBl m) σ H Q) : t σ H fun x H' => ∃ k, x = .bl k ∧ Q k H' := by
  obtain ⟨e, S, μ, E, s, p⟩ := h
  refine f σ H _ ⟨e, S, μ, E, s, (Post.bind p).mono fun d S1 μ1 H1 x1 s1 p1 v rv => ?_⟩
  split at p1
  · rename_i b hb
    cases d with
    | bl b' => cases hb; cases rv; exact ⟨_, rfl, p1 μ1 H1 .refl s1⟩
    | _ => cases hb
  · exact False.elim p1
/-- a comparison as a test -/
theorem mt_cmp {op : CmpOp} {f : Store → D → D → Option D} (ho : OpD nm X (compareOp op) f) (ha : ME nm X a ma) (hb : ME nm X b mb) (hm : behindInMarks op b = false) : MT nm X (.Compare a [op] [b] pos) (mBl (mBin f ma mb)) :=
  ⟨fun W tk => (pt_cmpR ho (ha.run W tk) (hb.run W tk) hm).imp fun _ _ _ h => bl_rd (fun _ _ _ h => bin_rd h) h⟩
/-- an expression whose value is a truth, as a test -/
theorem mt_val {e : Expr} {m : EM} (h : ME nm X e m) (he : ∀ whole, isTrue e X.env whole = (do let v ← whole; standAt e.pos; holding [v] (truthy v)) := by intro _; rfl) : MT nm X e (mBl m) :=
  ⟨fun W tk => (pt_val (h.run W tk) he).imp fun _ _ _ h => bl_rd (fun _ _ _ h => h) h⟩
def mChain (f g : Store → D → D → Option D) (a b c : EM) : EM := fun e S => (a e S).bind fun x S => (b e S).bind fun y S => (lift2 f S x y).bind fun z S => match asB z with
  | some true => (c e S).bind fun w S => lift2 g S y w
  | some false => .ok (.bl false) S
  | none => .stuck
theorem chain_rd {f g : Store → D → D → Option D} {W : WX} {σ : St} {H : Hp} {Q : VK} (h : rdE nm X W (mChain f g ma mb mc) σ H Q) : tChain (rOpD nm X f) (rOpD nm X g) (rdE nm X W ma) (rdE nm X W mb) (rdE nm X W mc) σ H Q := by
  obtain ⟨e, S, μ, E, s, p⟩ := h
  refine ⟨e, S, μ, E, s, (Post.bind p).mono fun dx S1 μ1 H1 x1 s1 p1 v rv => ?_⟩
  refine ⟨e, S1, μ1, E.ext x1, s1, (Post.bind p1).mono fun dy S2 μ2 H2 x2 s2 p2 u ru => ?_⟩
  unfold lift2 at p2
  split at p2
  · rename_i d hd
    refine ⟨S2, μ2, dx, dy, d, s2, rv.ext x2, ru, hd, fun w μ3 H3 x3 s3 r => ?_⟩
    have p3 : Post nm X.K X.mg μ3 H3 (match asB d with
      | some true => (mc e S2).bind fun w S => (match g S dy w with | some d => R.ok d S | none => .stuck)
      | some false => .ok (.bl false) S2
      | none => .stuck) _ _ := Post.ext x3 p2
    cases d with
    | bl b =>
      cases r
      refine ⟨b, rfl, ?_⟩
      cases b with
      | false => rw [if_neg Bool.false_ne_true]; exact p3 μ3 H3 .refl s3 _ (.bl false)
      | true =>
        rw [if_pos rfl]
        refine ⟨e, S2, μ3, (E.ext (x1.trans x2)).ext x3, s3, (Post.bind (k := fun w S => (match g S dy w with | some d => R.ok d S | none => .stuck)) p3).mono fun dz S4 μ4 H4 x4 s4 p4 z rz => ?_⟩
        split at p4
        · rename_i d hd
          exact ⟨S4, μ4, dy, dz, d, s4, ru.ext (x3.trans x4), rz, hd, fun w μ5 H5 x5 s5 r => p4 μ5 H5 x5 s5 w r⟩
        · exact False.elim p4
    | _ => exact False.elim p3
  · exact False.elim p2
theorem me_chain {op op' : CmpOp} {f g : Store → D → D → Option D} (ho : OpD nm X (compareOp op) f) (ho' : OpD nm X (compareOp op') g) (ha : ME nm X a ma) (hb : ME nm X b mb) (hc : ME nm X c mc)
    (hm : lastMarks [op, op'] [b, c] = false := by rfl) : ME nm X (.Compare a [op, op'] [b, c] pos) (mChain f g ma mb mc) :=
  ⟨fun W tk => (pe_chain ho ho' (ha.run W tk) (hb.run W tk) (hc.run W tk) hm).imp fun _ _ _ h => chain_rd h⟩
theorem mt_chain {op op' : CmpOp} {f g : Store → D → D → Option D} (ho : OpD nm X (compareOp op) f) (ho' : OpD nm X (compareOp op') g) (ha : ME nm X a ma) (hb : ME nm X b mb) (hc : ME nm X c mc)
    (hm : lastMarks [op, op'] [b, c] = false := by rfl) : MT nm X (.Compare a [op, op'] [b, c] pos) (mBl (mChain f g ma mb mc)) :=
  ⟨fun W tk => (pt_chain ho ho' (ha.run W tk) (hb.run W tk) (hc.run W tk) hm).imp fun _ _ _ h => bl_rd (fun _ _ _ h => chain_rd h) h⟩
def mAnd (a b : TM) : TM := fun e S => (a e S).bind fun k S => if k = true then b e S else .ok false S
def mOr (a b : TM) : TM := fun e S => (a e S).bind fun k S => if k = true then .ok true S else b e S
def mNot (a : TM) : TM := fun e S => (a e S).bind fun k S => .ok (!k) S
variable {ta tb : TM} {rest : List Expr}
theorem MW.mt (h : MW nm X a ta) : MT nm X a ta := ⟨fun W tk => (h.run W tk).pt⟩
theorem mw_and1 (ha : MT nm X a ta) : MW nm X (.BoolOp .And [a] pos) ta := ⟨fun W tk => pw_and1 (ha.run W tk)⟩
theorem mw_or1 (ha : MT nm X a ta) : MW nm X (.BoolOp .Or [a] pos) ta := ⟨fun W tk => pw_or1 (ha.run W tk)⟩
theorem mw_and (ha : MT nm X a ta) (hb : MW nm X (.BoolOp .And (b :: rest) pos) tb) : MW nm X (.BoolOp .And (a :: b :: rest) pos) (mAnd ta tb) := by
  refine ⟨fun W tk => (pw_and (ha.run W tk) (hb.run W tk)).imp fun σ H Q h => ?_⟩
  obtain ⟨e, S, μ, E, s, p⟩ := h
  refine ⟨e, S, μ, E, s, (Post.bind p).mono fun k S1 μ1 H1 x1 s1 p1 => ?_⟩
  cases k with
  | true => rw [if_pos rfl] at p1 ⊢; exact ⟨e, S1, μ1, E.ext x1, s1, p1⟩
  | false => rw [if_neg Bool.false_ne_true] at p1 ⊢; exact p1 μ1 H1 .refl s1
theorem mw_or (ha : MT nm X a ta) (hb : MW nm X (.BoolOp .Or (b :: rest) pos) tb) : MW nm X (.BoolOp .Or (a :: b :: rest) pos) (mOr ta tb) := by
  refine ⟨fun W tk => (pw_or (ha.run W tk) (hb.run W tk)).imp fun σ H Q h => ?_⟩
  obtain ⟨e, S, μ, E, s, p⟩ := h
  refine ⟨e, S, μ, E, s, (Post.bind p).mono fun k S1 μ1 H1 x1 s1 p1 => ?_⟩
  cases k with
  | true => rw [if_pos rfl] at p1 ⊢; exact p1 μ1 H1 .refl s1
  | false => rw [if_neg Bool.false_ne_true] at p1 ⊢; exact ⟨e, S1, μ1, E.ext x1, s1, p1⟩
theorem mt_not (ha : MT nm X a ta) : MT nm X (.UnaryOp .Not a pos) (mNot ta) := by
  refine ⟨fun W tk => (pt_not (ha.run W tk)).imp fun σ H Q h => ?_⟩
  obtain ⟨e, S, μ, E, s, p⟩ := h
  exact ⟨e, S, μ, E, s, (Post.bind p).mono fun k S1 μ1 H1 x1 s1 p1 => p1 μ1 H1 .refl s1⟩
def mAndV (a b : EM) : EM := fun e S => (a e S).bind fun d S => match asB d with
  | some true => b e S
  | some false => .ok (.bl false) S
  | none => .stuck
def mOrV (a b : EM) : EM := fun e S => (a e S).bind fun d S => match asB d with
  | some false => b e S
  | some true => .ok (.bl true) S
  | none => .stuck
def mNotV (a : EM) : EM := fun e S => (a e S).bind fun d S => match asB d with
  | some k => .ok (.bl (!k)) S
  | none => .stuck
theorem me_one {op} (ha : ME nm X a ma) : ME nm X (.BoolOp op [a] pos) ma := ⟨fun W tk => pe_one (ha.run W tk)⟩
theorem me_and (ha : ME nm X a ma) (hb : ME nm X (.BoolOp .And (b :: rest) pos) mb) : ME nm X (.BoolOp .And (a :: b :: rest) pos) (mAndV ma mb) := by
  refine ⟨fun W tk => (pe_and (ha.run W tk) (hb.run W tk)).imp fun σ H Q h => ?_⟩
  obtain ⟨e, S, μ, E, s, p⟩ := h
  refine ⟨e, S, μ, E, s, (Post.bind p).mono fun d S1 μ1 H1 x1 s1 p1 v rv => ?_⟩
  split at p1
  · rename_i hb
    cases d with
    | bl b' => cases hb; cases rv; exact ⟨_, rfl, by rw [if_pos rfl]; exact ⟨e, S1, μ1, E.ext x1, s1, p1⟩⟩
    | _ => cases hb
  · rename_i hb
    cases d with
    | bl b' => cases hb; cases rv; exact ⟨_, rfl, by rw [if_neg Bool.false_ne_true]; exact p1 μ1 H1 .refl s1 _ (.bl false)⟩
    | _ => cases hb
  · exact False.elim p1
theorem me_or (ha : ME nm X a ma) (hb : ME nm X (.BoolOp .Or (b :: rest) pos) mb) : ME nm X (.BoolOp .Or (a :: b :: rest) pos) (mOrV ma mb) := by
  refine ⟨fun W tk => (pe_or (ha.run W tk) (hb.run W tk)).imp fun σ H Q h => ?_⟩
  obtain ⟨e, S, μ, E, s, p⟩ := h
  refine ⟨e, S, μ, E, s, (Post.bind p).mono fun d S1 μ1 H1 x1 s1 p1 v rv => ?_⟩
  split at p1
  · rename_i hb
    cases d with
    | bl b' => cases hb; cases rv; exact ⟨_, rfl, by rw [if_neg Bool.false_ne_true]; exact ⟨e, S1, μ1, E.ext x1, s1, p1⟩⟩
    | _ => cases hb
  · rename_i hb
    cases d with
    | bl b' => cases hb; cases rv; exact ⟨_, rfl, by rw [if_pos rfl]; exact p1 μ1 H1 .refl s1 _ (.bl true)⟩
    | _ => cases hb
  · exact False.elim p1
theorem me_not (ha : ME nm X a ma) : ME nm X (.UnaryOp .Not a pos) (mNotV ma) := by
  refine ⟨fun W tk => (pe_not (ha.run W tk)).imp fun σ H Q h => ?_⟩
  obtain ⟨e, S, μ, E, s, p⟩ := h
  refine ⟨e, S, μ, E, s, (Post.bind p).mono fun d S1 μ1 H1 x1 s1 p1 v rv => ?_⟩
  split at p1
  · rename_i hb
    cases d with
    | bl b' => cases hb; cases rv; exact ⟨_, rfl, p1 μ1 H1 .refl s1 _ (.bl _)⟩
    | _ => cases hb
  · exact False.elim p1
def mIf (c : TM) (a b : EM) : EM := fun e S => (c e S).bind fun k S => if k = true then a e S else b e S
theorem me_if {c : Expr} (hc : MT nm X c ta) (ha : ME nm X a ma) (hb : ME nm X b mb) : ME nm X (.IfExp c a b pos) (mIf ta ma mb) := by
  refine ⟨fun W tk => (pe_ifExp (hc.run W tk) (ha.run W tk) (hb.run W tk)).imp fun σ H Q h => ?_⟩
  obtain ⟨e, S, μ, E, s, p⟩ := h
  refine ⟨e, S, μ, E, s, (Post.bind p).mono fun k S1 μ1 H1 x1 s1 p1 => ?_⟩
  cases k with
  | true => rw [if_pos rfl] at p1 ⊢; exact ⟨e, S1, μ1, E.ext x1, s1, p1⟩
  | false => rw [if_neg Bool.false_ne_true] at p1 ⊢; exact ⟨e, S1, μ1, E.ext x1, s1, p1⟩
end
end BS
namespace BS
open PySem PySem.Spec PyProof.Rows L2
mutual
def pyF (f : Nat → PyData) : D → PyData
  | .non => .none
  | .bl b => .bool b
  | .int i => .int i
  | .str x => .str x
  | .tup ds => .tuple (pyFs f ds)
  | .lst ds => .list (pyFs f ds)
  | .scr ds => .list (pyFs f ds)
  | .obj n => f n
def pyFs (f : Nat → PyData) : List D → List PyData
  | [] => []
  | d :: ds => pyF f d :: pyFs f ds
end
def pyk : Nat → Store → Nat → PyData
  | 0, _, _ => .dict []
  | k + 1, S, n => match S[n]? with
    | some (.lst ds) => .list (pyFs (pyk k S) ds)
    | _ => .dict []
abbrev py (S : Store) (d : D) : PyData := pyF (pyk 3 S) d
abbrev pys (S : Store) (ds : List D) : List PyData := pyFs (pyk 3 S) ds
section
variable {nm : Nms} {K : PySem.W.Frag} {mg : Str → Option Value} {H : Hp} {μ : List Addr} {S : Store} {f : Nat → PyData}
mutual
theorem dp_F (hf : ∀ n a, μ[n]? = some a → (f n).plain = true → Dp K H (.ref a) (f n)) : ∀ {v : V} (d : D), RV K H μ v d → (pyF f d).plain = true → Dp K H v (pyF f d)
  | _, .non, h, _ => by cases h; exact .non
  | _, .bl b, h, _ => by cases h; exact .bl b
  | _, .int i, h, _ => by cases h; exact .int i
  | _, .str x, h, _ => by cases h; exact .str x
  | _, .tup ds, h, p => by
    cases h with
    | tup t r => exact .tup t.sq (dp_Fs hf ds r (by simpa [pyF, PyData.plain] using p))
  | _, .lst ds, h, p => by
    cases h with
    | lst t r => exact .lst (.of t.2) (dp_Fs hf ds r (by simpa [pyF, PyData.plain] using p))
  | _, .scr ds, h, p => by
    cases h with
    | scr t r => exact .lst t.sq (dp_Fs hf ds r (by simpa [pyF, PyData.plain] using p))
  | _, .obj n, h, p => by
    cases h with
    | obj e => exact hf n _ e p
theorem dp_Fs (hf : ∀ n a, μ[n]? = some a → (f n).plain = true → Dp K H (.ref a) (f n)) : ∀ {vs : List V} (ds : List D), RVs K H μ vs ds → PyData.plainAll (pyFs f ds) = true → DpAll K H vs (pyFs f ds)
  | _, [], h, _ => by cases h; exact .nil
  | _, d :: ds, h, p => by
    cases h with
    | cons r t =>
      have p' : (pyF f d).plain = true ∧ PyData.plainAll (pyFs f ds) = true := by simpa [pyFs, PyData.plainAll] using p
      exact .cons (dp_F hf d r p'.1) (dp_Fs hf ds t p'.2)
end
theorem dp_k (s : Sim nm K mg μ S H) : ∀ (k n : Nat) (a : Addr), μ[n]? = some a → (pyk k S n).plain = true → Dp K H (.ref a) (pyk k S n)
  | 0, n, a, _, p => by simp [pyk, PyData.plain] at p
  | k + 1, n, a, e, p => by
    unfold pyk at p ⊢
    split at p
    · rename_i ds hds
      obtain ⟨xs, e1, r⟩ := s.ob n a _ e hds
      exact .lst (.of e1) (dp_Fs (fun n a e p => dp_k s k n a e p) ds r (by simpa [PyData.plain] using p))
    · simp [PyData.plain] at p
theorem RV.dp (s : Sim nm K mg μ S H) {v : V} {d : D} (r : RV K H μ v d) (p : (py S d).plain = true) : Dp K H v (py S d) := dp_F (dp_k s 3) d r p
theorem RVs.dp (s : Sim nm K mg μ S H) {v : List V} {d : List D} (r : RVs K H μ v d) (p : PyData.plainAll (pys S d) = true) : DpAll K H v (pys S d) := dp_Fs (dp_k s 3) d r p
end
def small (a b : PyData) : Bool := a.plain && b.plain && decide (min a.depth b.depth < 100)
/-- x == y, where it may be asked -/
def eqS (S : Store) (x y : D) : Option Bool := if small (py S x) (py S y) = true then some (PyData.eqv (py S x) (py S y)) else none
def lstOf (S : Store) (d : D) : Option (List D) := match d with
  | .lst ds => some ds
  | .scr ds => some ds
  | .obj n => match S[n]? with
    | some (.lst ds) => some ds
    | _ => none
  | _ => none
def tupOf (d : D) : Option (List D) := match d with
  | .tup ds => some ds
  | _ => none
def seqOf (S : Store) (d : D) : Option (List D) := match tupOf d with
  | some ds => some ds
  | none => lstOf S d
section
variable {nm : Nms} {K : PySem.W.Frag} {mg : Str → Option Value} {H : Hp} {μ : List Addr} {S : Store} {v : V} {d : D} {ds : List D}
theorem lstOf_sq (s : Sim nm K mg μ S H) (r : RV K H μ v d) (h : lstOf S d = some ds) : ∃ a xs, v = .ref a ∧ SqL K H a xs ∧ RVs K H μ xs ds := by
  unfold lstOf at h
  split at h
  · cases h; cases r with | lst t r => exact ⟨_, _, rfl, .of t.2, r⟩
  · cases h; cases r with | scr t r => exact ⟨_, _, rfl, t.sq, r⟩
  · split at h
    · rename_i hds
      cases h
      cases r with | obj e =>
        obtain ⟨xs, e1, r⟩ := s.ob _ _ _ e hds
        exact ⟨_, xs, rfl, .of e1, r⟩
    · cases h
  · cases h
theorem tupOf_sq (r : RV K H μ v d) (h : tupOf d = some ds) : ∃ a xs, v = .ref a ∧ SqT K H a xs ∧ RVs K H μ xs ds := by
  unfold tupOf at h
  split at h
  · cases h; cases r with | tup t r => exact ⟨_, _, rfl, t.sq, r⟩
  · cases h
theorem seqOf_sq (s : Sim nm K mg μ S H) (r : RV K H μ v d) (h : seqOf S d = some ds) : ∃ a xs, v = .ref a ∧ (SqL K H a xs ∨ SqT K H a xs) ∧ RVs K H μ xs ds := by
  unfold seqOf at h
  split at h
  · rename_i e; cases h
    obtain ⟨a, xs, h1, h2, h3⟩ := tupOf_sq r e
    exact ⟨a, xs, h1, .inr h2, h3⟩
  · obtain ⟨a, xs, h1, h2, h3⟩ := lstOf_sq s r h
    exact ⟨a, xs, h1, .inl h2, h3⟩
end
/-- a list that has just been made: an object of the store, or one that stays as it is -/
def fin (new : Bool) (ds : List D) (S : Store) : R D := if new = true then .ok (.obj S.length) (S ++ [.lst ds]) else .ok (.lst ds) S
@[simp] theorem fin_t (ds : List D) (S : Store) : fin true ds S = .ok (.obj S.length) (S ++ [.lst ds]) := rfl
@[simp] theorem fin_f (ds : List D) (S : Store) : fin false ds S = .ok (.lst ds) S := rfl
section
variable {nm : Nms} {K : PySem.W.Frag} {mg : Str → Option Value} {H : Hp} {μ : List Addr} {S : Store}
theorem fin_post {new : Bool} {ds : List D} {xs : List V} {Q : VK} {E : PX} {p : Addr} (s : Sim nm K mg μ S H) (r : RVs K H μ xs ds) (np : H p = none)
    (h : Post nm K mg μ H (fin new ds S) (fun d _ μ' H' => ∀ v, RV K H' μ' v d → Q v H') E) : Q (.ref p) (upd H p (.lst xs)) := by
  cases new with
  | true =>
    have x := Ext.made (u := .lst xs) s np
    refine h _ _ x (s.made np ⟨xs, upd_same, RVs.ext x _ r⟩) _ (.obj ?_)
    rw [← s.len, List.getElem?_append_right (Nat.le_refl _)]
    simp
  | false =>
    have x := Ext.laid (u := .lst xs) s np
    exact h _ _ x (s.laid np) _ (.lst ⟨s.fresh np, upd_same⟩ (RVs.ext x _ r))
/-- a tuple that has just been made -/
theorem tup_post {ds : List D} {xs : List V} {Q : VK} {E : PX} {p : Addr} (s : Sim nm K mg μ S H) (r : RVs K H μ xs ds) (np : H p = none)
    (h : Post nm K mg μ H (.ok (.tup ds) S) (fun d _ μ' H' => ∀ v, RV K H' μ' v d → Q v H') E) : Q (.ref p) (upd H p (.tup xs)) := by
  have x := Ext.laid (u := .tup xs) s np
  exact h _ _ x (s.laid np) _ (.tup (.inl ⟨s.fresh np, .inl upd_same⟩) (RVs.ext x _ r))
end
def fI (g : Int → Int → Option D) : Store → D → D → Option D := fun _ x y => match x, y with
  | .int i, .int j => g i j
  | _, _ => none
def fAdd : Store → D → D → Option D := fun _ x y => match x, y with
  | .int i, .int j => some (.int (i + j))
  | .str a, .str b => if a.length + b.length ≤ sizeLine then some (.str (a ++ b)) else none
  | .tup a, .tup b => if a.length + b.length ≤ sizeLine then some (.tup (a ++ b)) else none
  | _, _ => none
abbrev fSub := fI fun i j => some (.int (i - j))
abbrev fMul := fI fun i j => if (-(2 ^ 64) < i ∧ i < 2 ^ 64) ∨ (-(2 ^ 64) < j ∧ j < 2 ^ 64) then some (.int (i * j)) else none
abbrev fMod := fI fun i j => if 0 < j then some (.int (i % j)) else none
abbrev fDiv := fI fun i j => if 0 < j ∧ j < 1073741824 then some (.int (i / j)) else none
abbrev fPow := fI fun i j => if 0 ≤ j ∧ j ≤ 1000000 ∧ i.natAbs < 2 ^ 64 then some (.int (i ^ j.toNat)) else none
def ltS (a b : Str) : Bool := decide (a.cps.toList < b.cps.toList)
def fCmp (g : Int → Int → Bool) (h : Str → Str → Bool) : Store → D → D → Option D := fun _ x y => match x, y with
  | .int i, .int j => some (.bl (g i j))
  | .str a, .str b => some (.bl (h a b))
  | _, _ => none
abbrev fLt := fCmp (fun i j => decide (i < j)) fun a b => ltS a b
abbrev fLe := fCmp (fun i j => decide (i ≤ j)) fun a b => !ltS b a
abbrev fGt := fCmp (fun i j => decide (j < i)) fun a b => ltS b a
abbrev fGe := fCmp (fun i j => decide (j ≤ i)) fun a b => !ltS a b
def fEq : Store → D → D → Option D := fun S x y => (eqS S x y).map .bl
def fNe : Store → D → D → Option D := fun S x y => (eqS S x y).map fun b => .bl (!b)
def isNon (d : D) : Bool := match d with
  | .non => true
  | _ => false
@[simp] theorem isNon_non : isNon .non = true := rfl
@[simp] theorem isNon_bl (b : Bool) : isNon (.bl b) = false := rfl
@[simp] theorem isNon_int (b : Int) : isNon (.int b) = false := rfl
@[simp] theorem isNon_str (b : Str) : isNon (.str b) = false := rfl
@[simp] theorem isNon_tup (b : List D) : isNon (.tup b) = false := rfl
@[simp] theorem isNon_lst (b : List D) : isNon (.lst b) = false := rfl
@[simp] theorem isNon_obj (b : Nat) : isNon (.obj b) = false := rfl
def fIs : Store → D → D → Option D := fun _ x y => if isNon y = true then some (.bl (isNon x)) else none
def fIsNot : Store → D → D → Option D := fun _ x y => if isNon y = true then some (.bl (!isNon x)) else none
section
variable {nm : Nms} {X : Cx}
theorem opI_D {f : Value → Value → Sem Value} {C : Int → Int → Prop} {g : Int → Int → V} {h : Int → Int → Option D} (o : OpR X f (rI C g)) (hc : ∀ i j d, h i j = some d → C i j ∧ ∀ H μ, RV X.K H μ (g i j) d) : OpD nm X f (fI h) := by
  intro pins s σ H x y v u Q I rv ru hh
  obtain ⟨S, μ, dx, dy, d, sm, rx, ry, e, q⟩ := hh
  unfold fI at e
  split at e
  · cases rx; cases ry
    obtain ⟨c, r⟩ := hc _ _ _ e
    exact o pins s σ H _ _ v u Q I rv ru ⟨_, _, rfl, rfl, c, q _ μ H .refl sm (r _ _)⟩
  · cases e
theorem opI0_D {f : Value → Value → Sem Value} {g : Int → Int → Int} (o : OpR X f (rI0 fun i j => .int (g i j))) : OpD nm X f (fI fun i j => some (.int (g i j))) := by
  intro pins s σ H x y v u Q I rv ru hh
  obtain ⟨S, μ, dx, dy, d, sm, rx, ry, e, q⟩ := hh
  unfold fI at e
  split at e
  · cases rx; cases ry; cases e
    exact o pins s σ H _ _ v u Q I rv ru ⟨_, _, rfl, rfl, q _ μ H .refl sm (.int _)⟩
  · cases e
theorem o_sub : OpD nm X (binaryOp .Sub) fSub := opI0_D op_sub
theorem o_mul : OpD nm X (binaryOp .Mult) fMul := opI_D op_mul fun i j d h => by
  split at h
  · rename_i c; cases h; exact ⟨c, fun _ _ => .int _⟩
  · cases h
theorem o_mod : OpD nm X (binaryOp .Mod) fMod := opI_D op_mod fun i j d h => by
  split at h
  · rename_i c; cases h; exact ⟨c, fun _ _ => .int _⟩
  · cases h
theorem o_div : OpD nm X (binaryOp .FloorDiv) fDiv := opI_D op_fdiv fun i j d h => by
  split at h
  · rename_i c; cases h; exact ⟨c, fun _ _ => .int _⟩
  · cases h
theorem o_pow : OpD nm X (binaryOp .Pow) fPow := opI_D op_pow fun i j d h => by
  split at h
  · rename_i c; cases h; exact ⟨c, fun _ _ => .int _⟩
  · cases h
theorem o_add : OpD nm X (binaryOp .Add) fAdd := by
  intro pins s σ H x y v u Q I rv ru hh
  obtain ⟨S, μ, dx, dy, d, sm, rx, ry, e, q⟩ := hh
  unfold fAdd at e
  split at e
  · cases rx; cases ry; cases e
    exact op_add pins s σ H _ _ v u Q I rv ru ⟨_, _, rfl, rfl, q _ μ H .refl sm (.int _)⟩
  · split at e
    · rename_i c; cases rx; cases ry; cases e
      exact op_add_str pins s σ H _ _ v u Q I rv ru ⟨_, _, rfl, rfl, c, q _ μ H .refl sm (.str _)⟩
    · cases e
  · rename_i a b
    split at e
    · rename_i c
      cases e
      cases rx with | tup t1 r1 =>
      cases ry with | @tup b2 ys _ t2 r2 =>
      rename_i a1 xs
      have l1 := r1.length
      have l2 := r2.length
      refine op_catA pins s σ H _ _ v u Q I rv ru ⟨_, _, xs, ys, rfl, rfl, t1.sq, t2.sq, by rw [l1, l2]; exact c, fun z => ?_, fun _ z => ?_, fun _ _ p np => ?_⟩
      · subst z
        have ha : a = [] := by
          cases a with
          | nil => rfl
          | cons _ _ => simp at l1
        subst ha
        exact q _ μ H .refl sm (.tup t2 r2)
      · subst z
        have hb : b = [] := by
          cases b with
          | nil => rfl
          | cons _ _ => simp at l2
        subst hb
        rw [List.append_nil] at q
        exact q _ μ H .refl sm (.tup t1 r1)
      · exact tup_post (E := fun _ _ _ => False) sm (r1.append r2) np fun μ' H' x s' v' r' => q v' μ' H' x s' r'
    · cases e
  · cases e
theorem opC_D {op : CmpOp} {g : Int → Int → Bool} {h : Str → Str → Bool} (o : OpR X (compareOp op) (rI0 fun i j => .bl (g i j)))
    (p : OpR X (compareOp op) (fun x y H Q => ∃ i j, x = .str i ∧ y = .str j ∧ Q (.bl (h i j)) H)) : OpD nm X (compareOp op) (fCmp g h) := by
  intro pins s σ H x y v u Q I rv ru hh
  obtain ⟨S, μ, dx, dy, d, sm, rx, ry, e, q⟩ := hh
  unfold fCmp at e
  split at e
  · cases rx; cases ry; cases e
    exact o pins s σ H _ _ v u Q I rv ru ⟨_, _, rfl, rfl, q _ μ H .refl sm (.bl _)⟩
  · cases rx; cases ry; cases e
    exact p pins s σ H _ _ v u Q I rv ru ⟨_, _, rfl, rfl, q _ μ H .refl sm (.bl _)⟩
  · cases e
theorem o_lt : OpD nm X (compareOp .Lt) fLt := opC_D op_lt op_lt_str
theorem o_le : OpD nm X (compareOp .LtE) fLe := opC_D op_le op_le_str
theorem o_gt : OpD nm X (compareOp .Gt) fGt := opC_D op_gt op_gt_str
theorem o_ge : OpD nm X (compareOp .GtE) fGe := opC_D op_ge op_ge_str
theorem o_eq {k : Nat} (hr : L2H.RoomH k X.A) : OpD nm X (compareOp .Eq) fEq := by
  intro pins s σ H x y v u Q I rv ru hh
  obtain ⟨S, μ, dx, dy, d, sm, rx, ry, e, q⟩ := hh
  unfold fEq eqS at e
  split at e
  · rename_i c
    cases e
    simp only [small, Bool.and_eq_true, decide_eq_true_eq] at c
    obtain ⟨as, h1⟩ := Dp.reads I _ _ _ (rx.dp sm c.1.1) rv
    obtain ⟨bs, h2⟩ := Dp.reads I _ _ _ (ry.dp sm c.1.2) ru
    have := hr.un
    exact SeqAt.eq_plain h1 h2 c.1.1 c.1.2 (by omega) ⟨.bl _, H, I, rfl, q _ μ H .refl sm (.bl _)⟩
  · cases e
theorem o_ne {k : Nat} (hr : L2H.RoomH k X.A) : OpD nm X (compareOp .NotEq) fNe := by
  intro pins s σ H x y v u Q I rv ru hh
  obtain ⟨S, μ, dx, dy, d, sm, rx, ry, e, q⟩ := hh
  unfold fNe eqS at e
  split at e
  · rename_i c
    cases e
    simp only [small, Bool.and_eq_true, decide_eq_true_eq] at c
    obtain ⟨as, h1⟩ := Dp.reads I _ _ _ (rx.dp sm c.1.1) rv
    obtain ⟨bs, h2⟩ := Dp.reads I _ _ _ (ry.dp sm c.1.2) ru
    have := hr.un
    exact SeqAt.ne_plain h1 h2 c.1.1 c.1.2 (by omega) ⟨.bl _, H, I, rfl, q _ μ H .refl sm (.bl _)⟩
  · cases e
theorem isNon_iff {K : PySem.W.Frag} {H : Hp} {μ : List Addr} {v : V} {d : D} (r : RV K H μ v d) : decide (v = .non) = isNon d := by
  cases r <;> first | rfl | simp [isNon]
theorem o_is : OpD nm X (compareOp .Is) fIs := by
  intro pins s σ H x y v u Q I rv ru hh
  obtain ⟨S, μ, dx, dy, d, sm, rx, ry, e, q⟩ := hh
  unfold fIs at e
  split at e
  · rename_i c
    cases e
    refine op_isN pins s σ H _ _ v u Q I rv ru ⟨?_, q _ μ H .refl sm ?_⟩
    · have := isNon_iff ry; rw [c] at this; exact of_decide_eq_true this
    · rw [isNon_iff rx]; exact .bl _
  · cases e
theorem o_isnot : OpD nm X (compareOp .IsNot) fIsNot := by
  intro pins s σ H x y v u Q I rv ru hh
  obtain ⟨S, μ, dx, dy, d, sm, rx, ry, e, q⟩ := hh
  unfold fIsNot at e
  split at e
  · rename_i c
    cases e
    refine op_notN pins s σ H _ _ v u Q I rv ru ⟨?_, q _ μ H .refl sm ?_⟩
    · have := isNon_iff ry; rw [c] at this; exact of_decide_eq_true this
    · rw [isNon_iff rx]; exact .bl _
  · cases e
end
def inStr (a b : Str) : Bool := !(Builtin.Str.occurrences b a 0 b.length 1).isEmpty
def keyOf (d : D) : Option Key := match d with
  | .int i => some (.inl i)
  | .str x => some (.inr x)
  | _ => none
def getK (kvs : List (Key × D)) (k : Key) : Option D := (kvs.find? fun kv => decide (kv.1 = k)).map (·.2)
def dctOf (S : Store) (d : D) : Option (List (Key × D)) := match d with
  | .obj n => match S[n]? with
    | some (.dct kvs) => some kvs
    | _ => none
  | _ => none
def inS (S : Store) (x y : D) : Option Bool := match y with
  | .str b => match x with
    | .str a => some (inStr a b)
    | _ => none
  | _ => match dctOf S y with
    | some kvs => (keyOf x).map fun k => (getK kvs k).isSome
    | none => match seqOf S y with
      | some ys => if ((py S x).plain && PyData.plainAll (pys S ys) && decide (min (PyData.depthAll (pys S ys)) (py S x).depth < 100)) = true then some ((pys S ys).any fun z => PyData.eqv z (py S x)) else none
      | none => none
def fIn : Store → D → D → Option D := fun S x y => (inS S x y).map .bl
def fNotIn : Store → D → D → Option D := fun S x y => (inS S x y).map fun b => .bl (!b)
section
variable {nm : Nms} {X : Cx}
theorem getK_val {K : PySem.W.Frag} {H : Hp} {μ : List Addr} : ∀ {ys : List (Key × V)} {kvs : List (Key × D)} (k : Key), RK K H μ ys kvs → (valV ys k = none ∧ getK kvs k = none) ∨ ∃ v d, valV ys k = some v ∧ getK kvs k = some d ∧ RV K H μ v d
  | _, _, k, .nil => .inl ⟨rfl, rfl⟩
  | p :: ys, q :: kvs, k, .cons r t => by
    by_cases e : p.1 = k
    · refine .inr ⟨p.2, q.2, valV_pos e, ?_, r.2⟩
      unfold getK
      rw [List.find?_cons_of_pos (by rw [← r.1]; simpa using e)]
      rfl
    · rcases getK_val k t with ⟨h1, h2⟩ | ⟨v, d, h1, h2, h3⟩
      · refine .inl ⟨by rw [valV_neg e]; exact h1, ?_⟩
        unfold getK at h2 ⊢
        rw [List.find?_cons_of_neg (by rw [← r.1]; simpa using e)]
        exact h2
      · refine .inr ⟨v, d, by rw [valV_neg e]; exact h1, ?_, h3⟩
        unfold getK at h2 ⊢
        rw [List.find?_cons_of_neg (by rw [← r.1]; simpa using e)]
        exact h2
theorem keyOf_kV {K : PySem.W.Frag} {H : Hp} {μ : List Addr} {v : V} {d : D} {k : Key} (r : RV K H μ v d) (e : keyOf d = some k) : v = kV k := by
  unfold keyOf at e
  split at e
  · cases e; cases r; rfl
  · cases e; cases r; rfl
  · cases e
theorem dctOf_at {K : PySem.W.Frag} {mg : Str → Option Value} {H : Hp} {μ : List Addr} {S : Store} {v : V} {d : D} {kvs : List (Key × D)} (s : Sim nm K mg μ S H) (r : RV K H μ v d) (h : dctOf S d = some kvs) :
    ∃ n a ys, d = .obj n ∧ v = .ref a ∧ μ[n]? = some a ∧ S[n]? = some (.dct kvs) ∧ H a = some (.dK ys) ∧ RK K H μ ys kvs := by
  unfold dctOf at h
  split at h
  · split at h
    · rename_i hds
      cases h
      cases r with | obj e =>
        obtain ⟨ys, e1, r⟩ := s.ob _ _ _ e hds
        exact ⟨_, _, ys, rfl, rfl, e, hds, e1, r⟩
    · cases h
  · cases h
theorem in_core {k : Nat} {neg : Bool} (hr : L2H.RoomH k X.A) {op : CmpOp} (hop : op = if neg = true then .NotIn else .In) : OpD nm X (compareOp op) (fun S x y => (inS S x y).map fun b => .bl (if neg = true then !b else b)) := by
  intro pins s σ H x y v u Q I rv ru hh
  obtain ⟨S, μ, dx, dy, d, sm, rx, ry, e0, q⟩ := hh
  have hun := hr.un
  obtain ⟨b, e, e1⟩ := Option.map_eq_some_iff.mp e0
  clear e0
  subst e1
  have q : Q (.bl (if neg = true then !b else b)) H := q _ μ H .refl sm (.bl _)
  unfold inS at e
  split at e
  · split at e
    · cases e; cases rx; cases ry
      subst hop
      cases neg with
      | true => exact op_notin_str pins s σ H _ _ v u Q I rv ru ⟨_, _, rfl, rfl, q⟩
      | false => exact op_in_str pins s σ H _ _ v u Q I rv ru ⟨_, _, rfl, rfl, q⟩
    · cases e
  · split at e
    · rename_i kvs hk
      obtain ⟨key, hkey, rfl⟩ := Option.map_eq_some_iff.mp e
      obtain ⟨n, a, ys, rfl, rfl, _, _, e1, r1⟩ := dctOf_at sm ry hk
      have ek := keyOf_kV rx hkey
      subst ek
      cases ru
      have hs : (valV ys key).isSome = (getK kvs key).isSome := by
        rcases getK_val key r1 with ⟨h1, h2⟩ | ⟨_, _, h1, h2, _⟩ <;> rw [h1, h2] <;> rfl
      subst hop
      cases neg with
      | true => exact d_notIn (by omega) I (DGet.k e1) rv fun s' I' => ⟨.bl _, H, I', rfl, by rw [hs]; exact q⟩
      | false => exact d_in (by omega) I (DGet.k e1) rv fun s' I' => ⟨.bl _, H, I', rfl, by rw [hs]; exact q⟩
    · split at e
      · rename_i ys hys
        split at e
        · rename_i c
          cases e
          simp only [Bool.and_eq_true, decide_eq_true_eq] at c
          obtain ⟨as, h1⟩ := Dp.reads I _ _ _ (rx.dp sm c.1.1) rv
          obtain ⟨a, xs, rfl, hs, r⟩ := seqOf_sq sm ry hys
          cases ru
          subst hop
          rcases hs with hs | hs
          · obtain ⟨its, rvs, ⟨o, n, ho, hc, _, hd⟩, _⟩ := I.list hs
            obtain ⟨bs, h2⟩ := Dp.readsAll I _ _ _ (r.dp sm c.1.2) rvs
            cases neg with
            | true => exact SeqAt.notIn_list_data (Reads.list ho hc hd h2) h1 c.1.2 c.1.1 (by omega) ⟨.bl _, H, I, rfl, q⟩
            | false => exact SeqAt.in_list_data (Reads.list ho hc hd h2) h1 c.1.2 c.1.1 (by omega) ⟨.bl _, H, I, rfl, q⟩
          · obtain ⟨its, rvs, ⟨o, ho, hc, n, hd⟩, _⟩ := I.tuple hs
            obtain ⟨bs, h2⟩ := Dp.readsAll I _ _ _ (r.dp sm c.1.2) rvs
            cases neg with
            | true => exact SeqAt.notIn_tuple_data (Reads.tuple ho hc hd h2) h1 c.1.2 c.1.1 (by omega) ⟨.bl _, H, I, rfl, q⟩
            | false => exact SeqAt.in_tuple_data (Reads.tuple ho hc hd h2) h1 c.1.2 c.1.1 (by omega) ⟨.bl _, H, I, rfl, q⟩
        · cases e
      · cases e
theorem o_in {k : Nat} (hr : L2H.RoomH k X.A) : OpD nm X (compareOp .In) fIn := in_core (neg := false) hr rfl
theorem o_notin {k : Nat} (hr : L2H.RoomH k X.A) : OpD nm X (compareOp .NotIn) fNotIn := in_core (neg := true) hr rfl
theorem un_D {op : UnaryOp} {f : Store → D → Option D} {a : Expr} {ma : EM} {pos : Pos} {r : V → Hp → VK → Prop} (hu : UnR X (unaryOp op) r) (h : ∀ S μ H x dx d Q, Sim nm X.K X.mg μ S H → RV X.K H μ x dx → f S dx = some d → (∀ v, RV X.K H μ v d → Q v H) → r x H Q)
    (ha : ME nm X a ma) : ME nm X (.UnaryOp op a pos) (mUn f ma) := by
  refine ⟨fun W tk => (pe_un hu (ha.run W tk)).imp fun σ H Q hh => ?_⟩
  obtain ⟨e, S, μ, E, s, p⟩ := hh
  refine ⟨e, S, μ, E, s, (Post.bind p).mono fun dx S1 μ1 H1 x1 s1 p1 v rv => ?_⟩
  split at p1
  · rename_i d hd
    exact h S1 μ1 H1 v dx d Q s1 rv hd fun w r => p1 μ1 H1 .refl s1 w r
  · exact False.elim p1
def fNeg : Store → D → Option D := fun _ x => match x with
  | .int i => some (.int (-i))
  | _ => none
theorem me_neg {a : Expr} {ma : EM} {pos : Pos} (ha : ME nm X a ma) : ME nm X (.UnaryOp .USub a pos) (mUn fNeg ma) := un_D un_neg (fun S μ H x dx d Q s r e q => by
  unfold fNeg at e
  split at e
  · cases e; cases r; exact ⟨_, rfl, q _ (.int _)⟩
  · cases e) ha
end
end BS
namespace BS
open PySem PySem.Spec PyProof.Rows L2
section
variable {nm : Nms} {X : Cx} {pos : Pos} {e : Expr} {es : List Expr} {me : EM} {ma : AM}
def mNil : AM := fun _ S => .ok [] S
def mCons (m : EM) (r : AM) : AM := fun e S => (m e S).bind fun d S => (r e S).bind fun ds S => .ok (d :: ds) S
theorem ma_nil : MA nm X [] mNil := ⟨fun W tk => pa_nil.imp fun σ H Q h => by
  obtain ⟨e, S, μ, E, s, p⟩ := h
  exact p μ H .refl s _ .nil, fun e S ds S' h => by cases h; rfl⟩
theorem ma_cons (ha : ME nm X e me) (hr : MA nm X es ma) (hs : starEach (e :: es) X.env = (false, eval e X.env) :: starEach es X.env := by rfl) : MA nm X (e :: es) (mCons me ma) := by
  refine ⟨fun W tk => (pa_cons (ha.run W tk) (hr.run W tk) hs).imp fun σ H Q h => ?_, fun e S ds S' h => ?_⟩
  · obtain ⟨e, S, μ, E, s, p⟩ := h
    refine ⟨e, S, μ, E, s, (Post.bind p).mono fun d S1 μ1 H1 x1 s1 p1 v rv => ?_⟩
    refine ⟨e, S1, μ1, E.ext x1, s1, (Post.bind p1).mono fun ds S2 μ2 H2 x2 s2 p2 vs rvs => ?_⟩
    exact p2 μ2 H2 .refl s2 _ (.cons (rv.ext x2) rvs)
  · unfold mCons at h
    cases h1 : me e S with
    | ok d S1 =>
      rw [h1, R.bind_ok] at h
      cases h2 : ma e S1 with
      | ok ds1 S2 =>
        rw [h2, R.bind_ok] at h
        cases h
        rw [List.length_cons, List.length_cons, hr.len _ _ _ _ h2]
      | exc c fs S2 => rw [h2] at h; cases h
      | stuck => rw [h2] at h; cases h
    | exc c fs S1 => rw [h1] at h; cases h
    | stuck => rw [h1] at h; cases h
def mTup (m : AM) : EM := fun e S => (m e S).bind fun ds S => .ok (.tup ds) S
def mLst (new : Bool) (m : AM) : EM := fun e S => (m e S).bind fun ds S => fin new ds S
theorem lenOk {n : Nat} (h : n ≤ 1000) : n ≤ sizeLine := Nat.le_of_lt (small1000 h)
theorem post_len {W : WX} {σ : St} {H : Hp} {μ : List Addr} {ev : Ev} {S : Store} {P : PA (List D)} (hm : MA nm X es ma) (p : PostX nm X W μ H σ (ma ev S) P) : PostX nm X W μ H σ (ma ev S) fun ds S' μ' H' => ds.length = es.length ∧ P ds S' μ' H' := by
  cases h : ma ev S with
  | ok ds S' => rw [h] at p; exact fun μ' H' x s => ⟨hm.len _ _ _ _ h, p μ' H' x s⟩
  | exc c fs S' => rw [h] at p; exact p
  | stuck => rw [h] at p; exact p
theorem me_tup {x1} (h : MA nm X es ma) (hl : es.length ≤ 1000 := by decide) : ME nm X (.Tuple es x1 pos) (mTup ma) := by
  refine ⟨fun W tk => (pe_tup (h.run W tk)).imp fun σ H Q hh => ?_⟩
  obtain ⟨e, S, μ, E, s, p⟩ := hh
  refine ⟨e, S, μ, E, s, (post_len h (Post.bind p)).mono fun ds S1 μ1 H1 x1 s1 p1 vs rvs => ⟨?_, fun p np => tup_post s1 rvs np p1.2⟩⟩
  rw [rvs.length, p1.1]; exact lenOk hl
theorem me_lst (new : Bool) (h : MA nm X es ma) (hl : es.length ≤ 1000 := by decide) : ME nm X (.List es pos) (mLst new ma) := by
  refine ⟨fun W tk => (pe_lst (h.run W tk)).imp fun σ H Q hh => ?_⟩
  obtain ⟨e, S, μ, E, s, p⟩ := hh
  refine ⟨e, S, μ, E, s, (post_len h (Post.bind p)).mono fun ds S1 μ1 H1 x1 s1 p1 vs rvs => ⟨?_, fun p np => fin_post s1 rvs np p1.2⟩⟩
  rw [rvs.length, p1.1]; exact lenOk hl
/-- {} -/
def mDct : EM := fun _ S => .ok (.obj S.length) (S ++ [.dct []])
theorem made_dct {K : PySem.W.Frag} {mg : Str → Option Value} {μ : List Addr} {S : Store} {H : Hp} {p : Addr} (s : Sim nm K mg μ S H) (np : H p = none) : Sim nm K mg (μ ++ [p]) (S ++ [.dct []]) (upd H p (.dK [])) :=
  s.made np ⟨[], upd_same, .nil⟩
theorem new_at {K : PySem.W.Frag} {mg : Str → Option Value} {μ : List Addr} {S : Store} {H : Hp} {p : Addr} (s : Sim nm K mg μ S H) : (μ ++ [p])[S.length]? = some p := by
  rw [← s.len, List.getElem?_append_right (Nat.le_refl _)]; simp
theorem me_dct : ME nm X (.Dict [] [] pos) mDct := by
  refine ⟨fun W tk => pe_dnewK.imp fun σ H Q hh => ?_⟩
  obtain ⟨e, S, μ, E, s, p⟩ := hh
  intro q nq
  exact p _ _ (Ext.made s nq) (made_dct s nq) _ (.obj (new_at s))
def strAt (c : Nat) : D := .str ⟨#[c]⟩
/-- a dict that may be read: also one over which a loop runs -/
def dctR (S : Store) (d : D) : Option (List (Key × D)) := match d with
  | .obj n => match S[n]? with
    | some (.dct kvs) => some kvs
    | some (.lck kvs) => some kvs
    | _ => none
  | _ => none
theorem dctR_at {nm : Nms} {K : PySem.W.Frag} {mg : Str → Option Value} {H : Hp} {μ : List Addr} {S : Store} {v : V} {d : D} {kvs : List (Key × D)} (s : Sim nm K mg μ S H) (r : RV K H μ v d) (h : dctR S d = some kvs) :
    ∃ n a ys, d = .obj n ∧ v = .ref a ∧ μ[n]? = some a ∧ Rd H a (.dK ys) ∧ RK K H μ ys kvs := by
  unfold dctR at h
  split at h
  · split at h
    · rename_i hds
      cases h
      cases r with | obj e =>
        obtain ⟨ys, e1, r⟩ := s.ob _ _ _ e hds
        exact ⟨_, _, ys, rfl, rfl, e, .inl e1, r⟩
    · rename_i hds
      cases h
      cases r with | obj e =>
        obtain ⟨od, ys, e1, r⟩ := s.ob _ _ _ e hds
        exact ⟨_, _, ys, rfl, rfl, e, .inr ⟨od, e1⟩, r⟩
    · cases h
  · cases h
def fIx : Store → D → D → Option D := fun S x i => match i with
  | .int i => match x with
    | .str z => if z.length ≤ sizeLine then (atI z.cps.toList i).map strAt else none
    | _ => match seqOf S x with
      | some ds => atI ds i
      | none => match dctR S x with
        | some kvs => getK kvs (.inl i)
        | none => none
  | .str k => match dctR S x with
    | some kvs => getK kvs (.inr k)
    | none => none
  | _ => none
theorem atI_rvs {K : PySem.W.Frag} {H : Hp} {μ : List Addr} {xs : List V} {ds : List D} {i : Int} {d : D} (r : RVs K H μ xs ds) (h : atI ds i = some d) : ∃ v, atI xs i = some v ∧ RV K H μ v d := by
  unfold atI at h ⊢
  rw [← r.length] at h
  cases e : ixN xs.length i with
  | none => rw [e] at h; cases h
  | some j =>
    rw [e] at h
    obtain ⟨v, h1, h2⟩ := r.get (i := j) h
    exact ⟨v, h1, h2⟩
theorem dict_tail {prog : Program} {w : World} {A : Around} {E : Value → Shared → Prop} {s₂ : Shared} {value slice : Expr} {o i : Value} {Q : Value → Shared → Prop} (hT : s₂.TypeIs o "dict") (hs : subscripted slice false o i = operate [o, i] (getItem o i))
    (h₂ : wpAny (model prog w) A (getItem o i) Q E s₂) : wpAny (model prog w) A (subscriptTail value slice o i) Q E s₂ := by
  unfold subscriptTail
  refine wpAny_bind ?_
  rw [getitemInPython_of_ne hT.not_modules]
  refine wpAny_bind (wpAny_specialOf hT PySem.F.slot_dict_getitem.lookup ?_)
  have fin : wpAny (model prog w) A (subscripted slice false o i) (fun r s₃ => wpAny (model prog w) A (letTemporaryGo value o r >>= fun _ => pure r) Q E s₃) E s₂ := by
    rw [hs]
    exact wpAny_operating (wpAny_mono h₂ (fun r s₃ h₃ => wpAny_bind (wpAny_letTemporaryGo (wpAny_pure h₃))) fun _ _ x => x)
  first
    | exact wpAny_pure (wpAny_bind fin)
    | exact wpAny_bind (wpAny_pure (wpAny_bind fin))
    | exact wpAny_bind fin
/-- the read o[i] of a sequence or a dict, as the two rules of the layer give it -/
def mIx (a b : EM) : EM := mBin fIx a b
theorem ix_core (hr : X.A.units + 1 < cLine) {a b : Expr} {ta tb : TE} (ha : PE X a ta) (hb : PE X b tb) (hs : PlainIx b) : PE X (.Subscript a b pos) (tOp (rOpD nm X fIx) ta tb) := by
  refine ⟨fun pins s σ H Q I h => ?_⟩
  -- which rule is decided by the values: run both subexpressions, then the tail
  have key : ∀ (pins : List (Addr × Obj)) (s : Shared) (σ : St) (H : Hp) (x y : V) (v u : Value) (Q : VK), Inv X pins σ H s → RelV x v → RelV y u → rOpD nm X fIx x y H Q →
      (rIx X.K x y H Q) ∨ ∃ a w, x = .ref a ∧ DGet H a y (some w) ∧ Q w H := by
    intro pins s σ H x y v u Q I rv ru hh
    obtain ⟨S, μ, dx, dy, d, sm, rx, ry, e, q⟩ := hh
    have q : ∀ v, RV X.K H μ v d → Q v H := fun v r => q v μ H .refl sm r
    unfold fIx at e
    split at e
    · cases ry
      split at e
      · cases rx
        split at e
        · rename_i c
          obtain ⟨z, h1, rfl⟩ := Option.map_eq_some_iff.mp e
          exact .inl (.inr (.inr ⟨_, _, z, rfl, rfl, c, h1, q _ (.str _)⟩))
        · cases e
      · split at e
        · rename_i ds hds
          obtain ⟨a, xs, rfl, hs, r⟩ := seqOf_sq sm rx hds
          obtain ⟨w, h1, h2⟩ := atI_rvs r e
          rcases hs with hs | hs
          · exact .inl (.inl ⟨a, xs, _, w, rfl, rfl, hs, h1, q _ h2⟩)
          · exact .inl (.inr (.inl ⟨a, xs, _, w, rfl, rfl, hs, h1, q _ h2⟩))
        · split at e
          · rename_i kvs hk
            obtain ⟨n, a, ys, rfl, rfl, _, e1, r1⟩ := dctR_at sm rx hk
            rcases getK_val _ r1 with ⟨h1, h2⟩ | ⟨w, d', h1, h2, h3⟩
            · rw [h2] at e; cases e
            · rw [h2] at e; cases e
              exact .inr ⟨a, w, rfl, h1 ▸ (.inl ⟨ys, Sum.inl _, e1, rfl, rfl⟩ : DGet H a (kV (Sum.inl _)) (valV ys (Sum.inl _))), q _ h3⟩
          · cases e
    · cases ry
      split at e
      · rename_i kvs hk
        obtain ⟨n, a, ys, rfl, rfl, _, e1, r1⟩ := dctR_at sm rx hk
        rcases getK_val _ r1 with ⟨h1, h2⟩ | ⟨w, d', h1, h2, h3⟩
        · rw [h2] at e; cases e
        · rw [h2] at e; cases e
          exact .inr ⟨a, w, rfl, h1 ▸ (.inl ⟨ys, Sum.inr _, e1, rfl, rfl⟩ : DGet H a (kV (Sum.inr _)) (valV ys (Sum.inr _))), q _ h3⟩
      · cases e
    · cases e
  refine Subscript_ (thn (ha.run pins s σ H _ I h) fun v s1 ⟨x, H1, I1, r1, q1⟩ => thn (hb.run pins s1 σ H1 _ I1 q1) fun u s2 ⟨y, H2, I2, r2, q2⟩ => ?_)
  rcases key pins s2 σ H2 x y v u Q I2 r1 r2 q2 with h | ⟨a', w, rfl, g, q⟩
  · exact ix_seq a b pins s2 σ H2 x y v u Q I2 r1 r2 h (hs _ _)
  · cases r1
    exact dict_tail (dict_typeIs I2 g) (hs _ _) (d_getItem hr I2 g r2 fun w' s' I' rw' => ⟨w, H2, I', rw', q⟩)
theorem me_ix {k : Nat} (hr : L2H.RoomH k X.A) {a b : Expr} {ma mb : EM} (ha : ME nm X a ma) (hb : ME nm X b mb) (hs : PlainIx b := by exact fun _ _ => rfl) : ME nm X (.Subscript a b pos) (mIx ma mb) :=
  ⟨fun W tk => (ix_core (nm := nm) (by have := hr.un; omega) (ha.run W tk) (hb.run W tk) hs).imp fun _ _ _ h => bin_rd h⟩
abbrev OM := Ev → Store → R (Option Int)
def rdO (nm : Nms) (X : Cx) (W : WX) (m : OM) : TO := fun σ H Q => ∃ e S μ, EvR nm X H μ e σ ∧ Sim nm X.K X.mg μ S H ∧ PostX nm X W μ H σ (m e S) fun o _ μ' H' => Q o H'
structure MO (nm : Nms) (X : Cx) (e : Option Expr) (m : OM) : Prop where
  run : ∀ W, Takes X W → PO X e (rdO nm X W m)
theorem _root_.L2.PO.imp {X : Cx} {e : Option Expr} {t t' : TO} (h : PO X e t) (f : ∀ σ H Q, t' σ H Q → t σ H Q) : PO X e t' := ⟨fun pins s σ H Q I q => h.run pins s σ H Q I (f _ _ _ q)⟩
def oNo : OM := fun _ S => .ok none S
def oAt (m : EM) : OM := fun e S => (m e S).bind fun d S => match d with
  | .int i => .ok (some i) S
  | _ => .stuck
theorem mo_no : MO nm X none oNo := ⟨fun W tk => po_none.imp fun σ H Q h => by
  obtain ⟨e, S, μ, E, s, p⟩ := h
  exact p μ H .refl s⟩
theorem mo_at (h : ME nm X e me) : MO nm X (some e) (oAt me) := ⟨fun W tk => (po_some (h.run W tk)).imp fun σ H Q h => by
  obtain ⟨e, S, μ, E, s, p⟩ := h
  refine ⟨e, S, μ, E, s, (Post.bind p).mono fun d S1 μ1 H1 x1 s1 p1 v rv => ?_⟩
  split at p1
  · cases rv; exact ⟨_, rfl, p1 μ1 H1 .refl s1⟩
  · exact False.elim p1⟩
def cutD (xs : List D) (lo hi : Option Int) : List D := (xs.drop (HT.sIx xs.length 0 lo)).take (HT.sIx xs.length xs.length hi - HT.sIx xs.length 0 lo)
theorem cut_rvs {K : PySem.W.Frag} {H : Hp} {μ : List Addr} {xs : List V} {ds : List D} (r : RVs K H μ xs ds) (lo hi : Option Int) : RVs K H μ (cutV xs lo hi) (cutD ds lo hi) := by
  unfold cutV cutD
  rw [r.length]
  exact (r.drop _).take _
def slS (new : Bool) (S : Store) (x : D) (lo hi : Option Int) : R D := match x with
  | .str z => if z.length ≤ sizeLine then .ok (.str (cutS z lo hi)) S else .stuck
  | .tup ds => .ok (.tup (cutD ds lo hi)) S
  | _ => match lstOf S x with
    | some ds => fin new (cutD ds lo hi) S
    | none => .stuck
def mSl (new : Bool) (a : EM) (lo hi : OM) : EM := fun e S => (a e S).bind fun x S => (lo e S).bind fun l S => (hi e S).bind fun h S => slS new S x l h
theorem me_sl (new : Bool) {lo hi : Option Expr} {ml mh : OM} {p2 : Pos} (he : ME nm X e me) (hl : MO nm X lo ml) (hu : MO nm X hi mh) : ME nm X (.Subscript e (.Slice lo hi none p2) pos) (mSl new me ml mh) := by
  refine ⟨fun W tk => (pe_slice ((sl_str.or sl_tupA).or sl_list) (he.run W tk) (hl.run W tk) (hu.run W tk)).imp fun σ H Q h => ?_⟩
  obtain ⟨e, S, μ, E, s, p⟩ := h
  refine ⟨e, S, μ, E, s, (Post.bind p).mono fun d S1 μ1 H1 x1 s1 p1 v rv => ?_⟩
  refine ⟨e, S1, μ1, E.ext x1, s1, (Post.bind p1).mono fun l S2 μ2 H2 x2 s2 p2 => ?_⟩
  refine ⟨e, S2, μ2, E.ext (x1.trans x2), s2, (Post.bind p2).mono fun h S3 μ3 H3 x3 s3 p3 => ?_⟩
  have rv := rv.ext (x2.trans x3)
  unfold slS at p3
  split at p3
  · cases rv
    split at p3
    · rename_i c; exact .inl (.inl ⟨_, rfl, c, p3 μ3 H3 .refl s3 _ (.str _)⟩)
    · exact False.elim p3
  · cases rv with | tup t r =>
    refine .inl (.inr ⟨_, _, rfl, t.sq, fun c => ?_, fun _ p np => tup_post s3 (cut_rvs r l h) np p3⟩)
    rename_i ds a xs
    have e : cutD ds l h = ds := by
      rw [r.length] at c
      unfold cutD
      rw [c.1, c.2]
      simp
    rw [e] at p3
    exact p3 μ3 H3 .refl s3 _ (.tup t r)
  · split at p3
    · rename_i ds hds
      obtain ⟨a, xs, rfl, hs, r⟩ := lstOf_sq s3 rv hds
      exact .inr ⟨a, xs, rfl, hs, fun p np => fin_post s3 (cut_rvs r l h) np p3⟩
    · exact False.elim p3
def getN {α : Type} : List (Nat × α) → Nat → Option α
  | [], _ => none
  | p :: r, k => if p.1 = k then some p.2 else getN r k
def setN {α : Type} (k : Nat) (v : α) : List (Nat × α) → List (Nat × α)
  | [] => [(k, v)]
  | p :: r => if p.1 = k then (k, v) :: r else p :: setN k v r
theorem rf_get {K : PySem.W.Frag} {H : Hp} {μ : List Addr} : ∀ {gs : List (Str × V)} {fs : List (Nat × D)} (f : Nat), f < nm.most → RF nm K H μ gs fs → (gs.lookup (nm.fld f) = none ∧ getN fs f = none) ∨ ∃ v d, gs.lookup (nm.fld f) = some v ∧ getN fs f = some d ∧ RV K H μ v d
  | _, _, f, _, .nil => .inl ⟨rfl, rfl⟩
  | p :: gs, q :: fs, f, hf, .cons r t => by
    by_cases e : q.1 = f
    · refine .inr ⟨p.2, q.2, ?_, by unfold getN; rw [if_pos e], r.2.2⟩
      rw [List.lookup_cons, r.1, e]
      simp
    · have ne : nm.fld f ≠ p.1 := fun z => e (nm.inj _ _ r.2.1 hf (by rw [← r.1]; exact z.symm))
      have hb : (nm.fld f == p.1) = false := by simpa using ne
      rw [List.lookup_cons, hb]
      unfold getN
      rw [if_neg e]
      exact rf_get f hf t
theorem rf_set {K : PySem.W.Frag} {H : Hp} {μ : List Addr} : ∀ {gs : List (Str × V)} {fs : List (Nat × D)} (f : Nat) {v : V} {d : D}, f < nm.most → RV K H μ v d → RF nm K H μ gs fs → RF nm K H μ (putF (nm.fld f) v gs) (setN f d fs)
  | _, _, f, v, d, hf, rv, .nil => .cons ⟨rfl, hf, rv⟩ .nil
  | p :: gs, q :: fs, f, v, d, hf, rv, .cons r t => by
    unfold putF setN
    by_cases e : q.1 = f
    · rw [if_pos (by rw [r.1, e]), if_pos e]
      exact .cons ⟨by rw [r.1, e], hf, rv⟩ t
    · have ne : ¬ p.1 = nm.fld f := fun z => e (nm.inj _ _ r.2.1 hf (by rw [← r.1]; exact z))
      rw [if_neg ne, if_neg e]
      exact .cons r (rf_set f hf rv t)
theorem rf_length {K : PySem.W.Frag} {H : Hp} {μ : List Addr} {gs : List (Str × V)} {fs : List (Nat × D)} (r : RF nm K H μ gs fs) : gs.length = fs.length := Paired.length r
/-- what the text's class (for each of cs) says of the field f -/
def FldOk (K : PySem.W.Frag) (mg : Str → Option Value) (nm : Nms) (cs : List Nat) (f : Nat) : Prop := f < nm.most ∧ ∀ c ∈ cs, ∀ C, mg (nm.cls c) = some (.ref C) → Cls K C ∧ NoAttr K C (nm.fld f)
def insOf (S : Store) (d : D) : Option (Nat × List (Nat × D)) := match d with
  | .obj n => match S[n]? with
    | some (.ins c fs) => some (c, fs)
    | _ => none
  | _ => none
theorem insOf_at {K : PySem.W.Frag} {mg : Str → Option Value} {H : Hp} {μ : List Addr} {S : Store} {v : V} {d : D} {c : Nat} {fs : List (Nat × D)} (s : Sim nm K mg μ S H) (r : RV K H μ v d) (h : insOf S d = some (c, fs)) :
    ∃ n a C dx gs, d = .obj n ∧ v = .ref a ∧ μ[n]? = some a ∧ S[n]? = some (.ins c fs) ∧ mg (nm.cls c) = some (.ref C) ∧ H a = some (.ins C dx gs) ∧ RF nm K H μ gs fs := by
  unfold insOf at h
  split at h
  · split at h
    · rename_i hds
      cases h
      cases r with | obj e =>
        obtain ⟨C, dx, gs, g, e1, r⟩ := s.ob _ _ _ e hds
        exact ⟨_, _, C, dx, gs, rfl, rfl, e, hds, g, e1, r⟩
    · cases h
  · cases h
def getF (cs : List Nat) (f : Nat) (S : Store) (x : D) : Option D := match insOf S x with
  | some (c, fs) => if cs.contains c = true then getN fs f else none
  | none => none
def mFld (cs : List Nat) (f : Nat) (o : EM) : EM := mUn (getF cs f) o
theorem me_fld {cs : List Nat} {f : Nat} {fx : Str} (h : FldOk X.K X.mg nm cs f) (ho : ME nm X e me) (hf : nm.fld f = fx) (hb : attributeBase e fx X.env (eval e X.env) = eval e X.env := by rfl) : ME nm X (.Attribute e fx pos) (mFld cs f me) := by
  subst hf
  refine ⟨fun W tk => (pe_fld (ho.run W tk) hb).imp fun σ H Q hh => ?_⟩
  obtain ⟨e, S, μ, E, s, p⟩ := hh
  refine ⟨e, S, μ, E, s, (Post.bind p).mono fun d S1 μ1 H1 x1 s1 p1 v rv => ?_⟩
  split at p1
  · rename_i d' hd
    unfold getF at hd
    split at hd
    · rename_i c fs hi
      split at hd
      · rename_i hc
        obtain ⟨n, a, C, dx, gs, rfl, rfl, h1, h2, h3, h4, h5⟩ := insOf_at s1 rv hi
        obtain ⟨k1, k2⟩ := h.2 c (by simpa using hc) C h3
        rcases rf_get f h.1 h5 with ⟨_, z⟩ | ⟨w, d2, z1, z2, z3⟩
        · rw [z] at hd; cases hd
        · rw [z2] at hd; cases hd
          exact ⟨a, C, dx, gs, w, rfl, h4, k1, k2, z1, p1 μ1 H1 .refl s1 w z3⟩
      · cases hd
    · cases hd
  · exact False.elim p1
/-- a def by its value: what is promised of it -/
def spD (nm : Nms) (K : PySem.W.Frag) (mg : Str → Option Value) (n : Nat) (F : FM) : Sp := fun vs H Q E => ∃ ds S μ, RVs K H μ vs ds ∧ ds.length = n ∧ Sim nm K mg μ S H ∧ Post nm K mg μ H (F ds S) (fun d _ μ' H' => ∀ v, RV K H' μ' v d → Q v H') E
section
variable (P : Program) (w : World) (K : PySem.W.Frag) (mg : Str → Option Value) (base : Heap) (nm : Nms)
def DefOk (k : Nat) (x : Str) (n : Nat) (F : FM) : Prop :=
  ∃ f fd ps, mg x = some (.ref f) ∧ PySem.W.keepIn K (.ref f) = true ∧ ps.length = n ∧ Binds K fd ps [] ∧ FnOk P w K mg base (L2.CX P w) k f fd ps (spD nm K mg n F)
def MethOk (k : Nat) (c : Nat) (m : Str) (n : Nat) (F : FM) : Prop :=
  ∃ C f fd ps, mg (nm.cls c) = some (.ref C) ∧ Cls K C ∧ Meth K C m f ∧ ps.length = n ∧ Binds K fd ps [] ∧ FnOk P w K mg base (L2.CX P w) k f fd ps (spD nm K mg n F) ∧ ∀ i, i < nm.most → nm.fld i ≠ m
def MakeOk (k : Nat) (c : Nat) (n : Nat) (F : FM) : Prop :=
  ∃ C f fd ps, mg (nm.cls c) = some (.ref C) ∧ Mk K C f ∧ ps.length = n + 1 ∧ Binds K fd ps [] ∧ FnOk P w K mg base (L2.CX P w) k f fd ps (spD nm K mg (n + 1) F)
end
theorem DefOk.mono {P : Program} {w : World} {K : PySem.W.Frag} {mg : Str → Option Value} {base : Heap} {k k' : Nat} {x : Str} {n : Nat} {F : FM} (h : DefOk P w K mg base nm k x n F) (hk : k ≤ k') : DefOk P w K mg base nm k' x n F :=
  let ⟨f, fd, ps, h1, h2, h3, h4, h5⟩ := h; ⟨f, fd, ps, h1, h2, h3, h4, h5.mono hk⟩
theorem MethOk.mono {P : Program} {w : World} {K : PySem.W.Frag} {mg : Str → Option Value} {base : Heap} {k k' c : Nat} {x : Str} {n : Nat} {F : FM} (h : MethOk P w K mg base nm k c x n F) (hk : k ≤ k') : MethOk P w K mg base nm k' c x n F :=
  let ⟨C, f, fd, ps, h1, h2, h3, h4, h5, h6, h7⟩ := h; ⟨C, f, fd, ps, h1, h2, h3, h4, h5, h6.mono hk, h7⟩
theorem MakeOk.mono {P : Program} {w : World} {K : PySem.W.Frag} {mg : Str → Option Value} {base : Heap} {k k' c : Nat} {n : Nat} {F : FM} (h : MakeOk P w K mg base nm k c n F) (hk : k ≤ k') : MakeOk P w K mg base nm k' c n F :=
  let ⟨C, f, fd, ps, h1, h2, h3, h4, h5⟩ := h; ⟨C, f, fd, ps, h1, h2, h3, h4, h5.mono hk⟩
theorem spD.imp {K : PySem.W.Frag} {mg : Str → Option Value} {n : Nat} {F G : FM} (h : ∀ ds S, ds.length = n → G ds S ≠ .stuck → F ds S = G ds S) : ∀ vs H Q E, spD nm K mg n G vs H Q E → spD nm K mg n F vs H Q E := by
  rintro vs H Q E ⟨ds, S, μ, h1, h2, h3, h4⟩
  refine ⟨ds, S, μ, h1, h2, h3, ?_⟩
  rw [h ds S h2 (fun z => by rw [z] at h4; exact h4)]
  exact h4
/-- another value for a def: wherever it says something, it says what the def does -/
theorem DefOk.imp {P : Program} {w : World} {K : PySem.W.Frag} {mg : Str → Option Value} {base : Heap} {k : Nat} {x : Str} {n : Nat} {F G : FM} (h : DefOk P w K mg base nm k x n F) (g : ∀ ds S, ds.length = n → G ds S ≠ .stuck → F ds S = G ds S) : DefOk P w K mg base nm k x n G :=
  let ⟨f, fd, ps, h1, h2, h3, h4, h5⟩ := h; ⟨f, fd, ps, h1, h2, h3, h4, h5.imp (spD.imp g)⟩
theorem MethOk.imp {P : Program} {w : World} {K : PySem.W.Frag} {mg : Str → Option Value} {base : Heap} {k c : Nat} {x : Str} {n : Nat} {F G : FM} (h : MethOk P w K mg base nm k c x n F) (g : ∀ ds S, ds.length = n → G ds S ≠ .stuck → F ds S = G ds S) : MethOk P w K mg base nm k c x n G :=
  let ⟨C, f, fd, ps, h1, h2, h3, h4, h5, h6, h7⟩ := h; ⟨C, f, fd, ps, h1, h2, h3, h4, h5, h6.imp (spD.imp g), h7⟩
def mCall (F : FM) (as : AM) : EM := fun e S => (as e S).bind F
section
variable {pins : List (Addr × Obj)} {σ : St} {H : Hp} {s : Shared} {W : WX} {k n : Nat} {x m : Str} {F : FM} {vs : List V} {us : List Value} {ds : List D} {S : Store} {μ : List Addr} {Q : VK} {p apos : Pos}
theorem run_spD {f : Addr} {fd : FuncData} {ps : List Str} (F' : FnOk X.prog X.w X.K X.mg X.base (L2.CX X.prog X.w) k f fd ps (spD nm X.K X.mg n F)) (hb : Binds X.K fd ps []) (hr : Room k X.A) (tk : Takes X W) (I : Inv X pins σ H s) (r : Vals vs us) (rv : RVs X.K H μ vs ds) (hl : ds.length = n)
    (sm : Sim nm X.K X.mg μ S H) (q : PostX nm X W μ H σ (F ds S) fun d _ μ' H' => ∀ v, RV X.K H' μ' v d → Q v H') : wpAny (model X.prog X.w) X.A (call (.ref f) us) (EP X pins σ Q) X.xe s :=
  run_fnS F' hr hb (passAt tk σ) I r ⟨ds, S, μ, rv, hl, sm, q⟩
theorem me_call {e : Expr} {es : List Expr} {ma : AM} (h : DefOk X.prog X.w X.K X.mg X.base nm k x n F) (hr : Room k X.A) (hg : GlN X x) (ha : MA nm X (e :: es) ma) (hn : (e :: es).length = n := by rfl)
    (he : starEach (e :: es) X.env = (false, eval e X.env) :: starEach es X.env := by rfl) (hpl : (backTo pos (starEach es X.env)).any (·.1) = false := by rfl) : ME nm X (.Call (.Name x p) (e :: es) [] pos) (mCall F ma) := by
  obtain ⟨f, fd, ps, h1, h2, h3, h4, h5⟩ := h
  refine ⟨fun W tk => (pe_callS (E := WE W) h5 hr hg.g h1 h2 h4 (passAt tk) (ha.run W tk) hg.d he hpl).imp fun σ H Q hh => ?_⟩
  obtain ⟨ev, S, μ, E, s, q⟩ := hh
  exact ⟨ev, S, μ, E, s, (post_len ha (Post.bind q)).mono fun ds S1 μ1 H1 x1 s1 q1 vs rvs => ⟨ds, S1, μ1, rvs, by rw [q1.1, hn], s1, q1.2⟩⟩
theorem me_call0 (h : DefOk X.prog X.w X.K X.mg X.base nm k x 0 F) (hr : Room k X.A) (hg : GlN X x) : ME nm X (.Call (.Name x p) [] [] pos) (mCall F mNil) := by
  obtain ⟨f, fd, ps, h1, h2, h3, h4, h5⟩ := h
  refine ⟨fun W tk => ⟨fun pins s σ H Q I hh => ?_⟩⟩
  obtain ⟨ev, S, μ, E, sm, q⟩ := hh
  refine wpAny_Call_Name_kw (ld_glob I hg.g h1 ?_ hg.d)
  exact PySem.W.callWith_K0 I.kIn h2 (run_spD h5 h4 hr tk I .nil .nil rfl sm q)
def isIns (c : Nat) (S : Store) (x : D) : Bool := match insOf S x with
  | some (c', _) => c' == c
  | none => false
def mMeth (c : Nat) (F : FM) (o : EM) (as : AM) : EM := fun e S => (o e S).bind fun x S => if isIns c S x = true then (as e S).bind fun ds S => F (x :: ds) S else .stuck
theorem rf_no {K : PySem.W.Frag} {H : Hp} {μ : List Addr} {m : Str} (hm : ∀ i, i < nm.most → nm.fld i ≠ m) : ∀ {gs : List (Str × V)} {fs : List (Nat × D)}, RF nm K H μ gs fs → gs.lookup m = none
  | _, _, .nil => rfl
  | p :: gs, q :: fs, .cons r t => by
    have ne : m ≠ p.1 := fun z => hm q.1 r.2.1 (by rw [← r.1, z])
    have hb : (m == p.1) = false := by simpa using ne
    rw [List.lookup_cons, hb]
    exact rf_no hm t
theorem ins_meth {K : PySem.W.Frag} {mg : Str → Option Value} {C : Addr} {c : Nat} {v : V} {d : D} (hC : mg (nm.cls c) = some (.ref C)) (hm : ∀ i, i < nm.most → nm.fld i ≠ m) (s : Sim nm K mg μ S H) (r : RV K H μ v d) (h : isIns c S d = true) :
    ∃ a dx gs, v = .ref a ∧ H a = some (.ins C dx gs) ∧ gs.lookup m = none := by
  unfold isIns at h
  split at h
  · rename_i c' fs hi
    have : c' = c := by simpa using h
    subst this
    obtain ⟨n, a, C', dx, gs, rfl, rfl, h1, h2, h3, h4, h5⟩ := insOf_at s r hi
    rw [hC] at h3; cases h3
    exact ⟨a, dx, gs, rfl, h4, rf_no hm h5⟩
  · cases h
theorem me_meth {c : Nat} {o e : Expr} {es : List Expr} {mo : EM} {ma : AM} {pl : Sem Bool} (h : MethOk X.prog X.w X.K X.mg X.base nm k c m n F) (hr : Room k X.A) (ho : ME nm X o mo) (ha : MA nm X (e :: es) ma) (hn : (e :: es).length + 1 = n := by rfl)
    (hst : starEach (e :: es) X.env = (false, eval e X.env) :: starEach es X.env := by rfl) (hpl : (backTo pos (starEach es X.env)).any (·.1) = false := by rfl)
    (ht : eval (.Call (.Attribute o m apos) (e :: es) [] pos) X.env = (do
      let ov ← eval o X.env
      standAt apos.atName
      let (f, first) ← holding [ov] (getMethod ov m pl)
      callWith pos f first (backTo pos (starEach (e :: es) X.env)) (backToKw pos (keywordEach [] X.env))) := by rfl) : ME nm X (.Call (.Attribute o m apos) (e :: es) [] pos) (mMeth c F mo ma) := by
  obtain ⟨C, f, fd, ps, g1, g2, g3, g4, g5, g6, g7⟩ := h
  refine ⟨fun W tk => ⟨fun pins s σ H Q I hh => ?_⟩⟩
  obtain ⟨ev, S, μ, E, sm, q⟩ := hh
  refine PySem.W.methodCall_KW (pl := pl) (thn ((ho.run W tk).run pins s σ H (fun x H1 => ∃ S1 μ1 d, EvR nm X H1 μ1 ev σ ∧ Sim nm X.K X.mg μ1 S1 H1 ∧ RV X.K H1 μ1 x d ∧ isIns c S1 d = true ∧ PostX nm X W μ1 H1 σ ((ma ev S1).bind fun ds S => F (d :: ds) S) fun d _ μ' H' => ∀ v, RV X.K H' μ' v d → Q v H') I
    ⟨ev, S, μ, E, sm, (Post.bind q).mono fun d S1 μ1 H1 x1 s1 q1 v rv => ?_⟩) fun u s1 ⟨x, H1, I1, rx, S1, μ1, d, E1, sm1, rd, hi, q1⟩ => ?_) ht
  · split at q1
    · rename_i hi; exact ⟨S1, μ1, d, E.ext x1, s1, rv, hi, q1⟩
    · exact False.elim q1
  · obtain ⟨a, dx, gs, rfl, ea, l⟩ := ins_meth g1 g7 sm1 rd hi
    obtain rfl : u = Value.ref a := rx
    refine getmeth_ok I1 ea g2 g3 l ?_
    refine PySem.W.callWith_K (first := [.ref a]) (h₀ := X.base) I1.ok.mod.kin g3.kp (thn ((ha.run W tk).run pos pins s1 σ H1 (fun vs H2 => ∃ ds S2 μ2, RVs X.K H2 μ2 (.ref a :: vs) (d :: ds) ∧ (d :: ds).length = n ∧ Sim nm X.K X.mg μ2 S2 H2 ∧ PostX nm X W μ2 H2 σ (F (d :: ds) S2) fun d _ μ' H' => ∀ v, RV X.K H' μ' v d → Q v H') I1
      ⟨ev, S1, μ1, E1, sm1, (post_len ha (Post.bind q1)).mono fun ds S2 μ2 H2 x2 s2 q2 vs rvs => ⟨ds, S2, μ2, .cons (rd.ext x2) rvs, by rw [List.length_cons, q2.1, hn], s2, q2.2⟩⟩) fun us s2 ⟨vs, H2, I2, r, ds, S2, μ2, rvs, hl, sm2, q2⟩ => ⟨I2.kIn, ?_⟩) hst hpl
    exact run_spD (us := .ref a :: us) (vs := .ref a :: vs) g6 g5 hr tk I2 (.cons rfl r) rvs hl sm2 q2
theorem me_meth0 {c : Nat} {o : Expr} {mo : EM} {pl : Sem Bool} (h : MethOk X.prog X.w X.K X.mg X.base nm k c m 1 F) (hr : Room k X.A) (ho : ME nm X o mo)
    (ht : eval (.Call (.Attribute o m apos) [] [] pos) X.env = (do
      let ov ← eval o X.env
      standAt apos.atName
      let (f, first) ← holding [ov] (getMethod ov m pl)
      callWith pos f first (backTo pos (starEach [] X.env)) (backToKw pos (keywordEach [] X.env))) := by rfl) : ME nm X (.Call (.Attribute o m apos) [] [] pos) (mMeth c F mo mNil) := by
  obtain ⟨C, f, fd, ps, g1, g2, g3, g4, g5, g6, g7⟩ := h
  refine ⟨fun W tk => ⟨fun pins s σ H Q I hh => ?_⟩⟩
  obtain ⟨ev, S, μ, E, sm, q⟩ := hh
  refine PySem.W.methodCall_KW (pl := pl) (thn ((ho.run W tk).run pins s σ H (fun x H1 => ∃ S1 μ1 d, Sim nm X.K X.mg μ1 S1 H1 ∧ RV X.K H1 μ1 x d ∧ isIns c S1 d = true ∧ PostX nm X W μ1 H1 σ (F [d] S1) fun d _ μ' H' => ∀ v, RV X.K H' μ' v d → Q v H') I
    ⟨ev, S, μ, E, sm, (Post.bind q).mono fun d S1 μ1 H1 x1 s1 q1 v rv => ?_⟩) fun u s1 ⟨x, H1, I1, rx, S1, μ1, d, sm1, rd, hi, q1⟩ => ?_) ht
  · split at q1
    · rename_i hi; exact ⟨S1, μ1, d, s1, rv, hi, q1⟩
    · exact False.elim q1
  · obtain ⟨a, dx, gs, rfl, ea, l⟩ := ins_meth g1 g7 sm1 rd hi
    obtain rfl : u = Value.ref a := rx
    refine getmeth_ok I1 ea g2 g3 l ?_
    exact PySem.W.callWith_K0 (first := [.ref a]) I1.kIn g3.kp (run_spD (us := [.ref a]) (vs := [.ref a]) g6 g5 hr tk I1 (.cons rfl .nil) (.cons rd .nil) rfl sm1 q1)
def mNew (c : Nat) (F : FM) (as : AM) : EM := fun e S => (as e S).bind fun ds S => (F (.obj S.length :: ds) (S ++ [.ins c []])).bind fun d S' => if isNon d = true then .ok (.obj S.length) S' else .stuck
theorem run_mk {C f : Addr} {c : Nat} {fd : FuncData} {ps : List Str} (hC : X.mg (nm.cls c) = some (.ref C)) (M : Mk X.K C f) (F' : FnOk X.prog X.w X.K X.mg X.base (L2.CX X.prog X.w) k f fd ps (spD nm X.K X.mg (n + 1) F)) (hb : Binds X.K fd ps []) (hr : Room (k + 1) X.A) (tk : Takes X W)
    (I : Inv X pins σ H s) (r : Vals vs us) (rv : RVs X.K H μ vs ds) (hl : ds.length = n) (sm : Sim nm X.K X.mg μ S H)
    (q : PostX nm X W μ H σ ((F (.obj S.length :: ds) (S ++ [.ins c []])).bind fun d S' => if isNon d = true then R.ok (D.obj S.length) S' else .stuck) fun d _ μ' H' => ∀ v, RV X.K H' μ' v d → Q v H') : wpAny (model X.prog X.w) X.A (call (.ref C) us) (EP X pins σ Q) X.xe s := by
  have nx : H (s.heap.objs.size + 1) = none := I.hok.fresh (Nat.le_succ _)
  have nd : H s.heap.objs.size = none := I.hok.fresh (Nat.le_refl _)
  have ne : s.heap.objs.size ≠ s.heap.objs.size + 1 := Nat.ne_of_lt (Nat.lt_succ_self _)
  have s1 : Sim nm X.K X.mg μ S (upd H s.heap.objs.size (.own (s.heap.objs.size + 1))) := sm.laid nd
  have nx1 : (upd H s.heap.objs.size (.own (s.heap.objs.size + 1))) (s.heap.objs.size + 1) = none := by rw [upd_ne ne.symm]; exact nx
  have x2 : Ext μ H (μ ++ [s.heap.objs.size + 1]) (upd (upd H s.heap.objs.size (.own (s.heap.objs.size + 1))) (s.heap.objs.size + 1) (.ins C s.heap.objs.size [])) := (Ext.laid sm nd).trans (Ext.made s1 nx1)
  have s2 : Sim nm X.K X.mg (μ ++ [s.heap.objs.size + 1]) (S ++ [.ins c []]) (upd (upd H s.heap.objs.size (.own (s.heap.objs.size + 1))) (s.heap.objs.size + 1) (.ins C s.heap.objs.size [])) :=
    s1.made nx1 ⟨C, _, [], hC, upd_same, .nil⟩
  have rself : RV X.K (upd (upd H s.heap.objs.size (.own (s.heap.objs.size + 1))) (s.heap.objs.size + 1) (.ins C s.heap.objs.size [])) (μ ++ [s.heap.objs.size + 1]) (.ref (s.heap.objs.size + 1)) (.obj S.length) := .obj (new_at s1)
  have hq : spD nm X.K X.mg (n + 1) F (.ref (s.heap.objs.size + 1) :: vs) (upd (upd H s.heap.objs.size (.own (s.heap.objs.size + 1))) (s.heap.objs.size + 1) (.ins C s.heap.objs.size [])) (fun v H2 => v = .non ∧ Q (.ref (s.heap.objs.size + 1)) H2) (WE W σ) := by
    refine ⟨.obj S.length :: ds, S ++ [.ins c []], μ ++ [s.heap.objs.size + 1], .cons rself (RVs.ext x2 _ rv), by rw [List.length_cons, hl], s2, ((Post.bind (Post.ext x2 q)).mono fun d S3 μ3 H3 x3 s3 q3 v r3 => ?_)⟩
    split at q3
    · rename_i hn
      refine ⟨?_, q3 μ3 H3 .refl s3 _ (rself.ext x3)⟩
      have := isNon_iff r3; rw [hn] at this; exact of_decide_eq_true this
    · exact False.elim q3
  have I2 := Inv.made (C := C) I
  have r2 : Vals (V.ref (s.heap.objs.size + 1) :: vs) (Value.ref (s.heap.objs.size + 1) :: us) := .cons rfl r
  have hlen : (Value.ref (s.heap.objs.size + 1) :: us).length = ps.length := by
    have e := r2.length
    rw [F'.len _ _ _ _ hq] at e
    exact e.symm
  have hbb := hb _ (Value.ref (s.heap.objs.size + 1) :: us) I2.kIn (by rw [List.append_nil]; exact hlen)
  rw [List.append_nil] at hbb
  refine wpAny_call (make_map (f := f) I.kIn M.makes M.init (beq_iff_eq.mp M.fn) (codeAny_mono (F'.run _ X.stack _ _ ⟨Value.ref (s.heap.objs.size + 1) :: us, []⟩ (Value.ref (s.heap.objs.size + 1) :: us) _ _ (WE W σ) (hr.make C us [])
    (I2.env0.make C us []) hbb r2 hq) fun r s' hq' => ?_))
  cases r with
  | error e => exact passAt tk σ pins _ _ e s' I2 hq'
  | ok fl =>
    cases fl with
    | ret u =>
      obtain ⟨v, H', I3, rv, ev, q3⟩ := I2.after hq'
      subst ev
      exact ⟨rv, ⟨V.ref (s.heap.objs.size + 1), H', I3, rfl, q3⟩⟩
    | next => exact False.elim hq'
    | brk => exact False.elim hq'
    | cont => exact False.elim hq'
theorem me_new {c : Nat} {e : Expr} {es : List Expr} {ma : AM} (h : MakeOk X.prog X.w X.K X.mg X.base nm k c n F) (hr : Room (k + 1) X.A) (hg : GlN X x) (ha : MA nm X (e :: es) ma) (hx : nm.cls c = x) (hn : (e :: es).length = n := by rfl)
    (he : starEach (e :: es) X.env = (false, eval e X.env) :: starEach es X.env := by rfl) (hpl : (backTo pos (starEach es X.env)).any (·.1) = false := by rfl) : ME nm X (.Call (.Name x p) (e :: es) [] pos) (mNew c F ma) := by
  subst hx
  obtain ⟨C, f, fd, ps, h1, h2, h3, h4, h5⟩ := h
  refine ⟨fun W tk => ⟨fun pins s σ H Q I hh => ?_⟩⟩
  obtain ⟨ev, S, μ, E, sm, q⟩ := hh
  refine wpAny_Call_Name_kw (ld_glob I hg.g h1 ?_ hg.d)
  refine PySem.W.callWith_K (h₀ := X.base) I.ok.mod.kin h2.kp (thn ((ha.run W tk).run pos pins s σ H (fun vs H1 => ∃ ds S1 μ1, RVs X.K H1 μ1 vs ds ∧ ds.length = n ∧ Sim nm X.K X.mg μ1 S1 H1 ∧
    PostX nm X W μ1 H1 σ ((F (.obj S1.length :: ds) (S1 ++ [.ins c []])).bind fun d S' => if isNon d = true then R.ok (D.obj S1.length) S' else .stuck) fun d _ μ' H' => ∀ v, RV X.K H' μ' v d → Q v H') I
    ⟨ev, S, μ, E, sm, (post_len ha (Post.bind q)).mono fun ds S1 μ1 H1 x1 s1 q1 vs rvs => ⟨ds, S1, μ1, rvs, by rw [q1.1, hn], s1, q1.2⟩⟩) fun us s1 ⟨vs, H1, I1, r, ds, S1, μ1, rvs, hl, sm1, q1⟩ => ⟨I1.kIn, ?_⟩) he hpl
  exact run_mk h1 h2 h5 h4 hr tk I1 r rvs hl sm1 q1
theorem me_new0 {c : Nat} (h : MakeOk X.prog X.w X.K X.mg X.base nm k c 0 F) (hr : Room (k + 1) X.A) (hg : GlN X x) (hx : nm.cls c = x) : ME nm X (.Call (.Name x p) [] [] pos) (mNew c F mNil) := by
  subst hx
  obtain ⟨C, f, fd, ps, h1, h2, h3, h4, h5⟩ := h
  refine ⟨fun W tk => ⟨fun pins s σ H Q I hh => ?_⟩⟩
  obtain ⟨ev, S, μ, E, sm, q⟩ := hh
  refine wpAny_Call_Name_kw (ld_glob I hg.g h1 ?_ hg.d)
  exact PySem.W.callWith_K0 I.kIn h2.kp (run_mk h1 h2 h5 h4 hr tk I .nil .nil rfl sm q)
end
end
end BS
namespace BS
open PySem PySem.Spec PyProof.Rows L2
def Ev.set (e : Ev) (i : Nat) (d : D) : Ev := { sl := e.sl.set i (some d), ex := e.ex.filter fun p => p.1 != i }
def Ev.clr (e : Ev) : Ev := { sl := e.sl, ex := [] }
@[simp] theorem Ev.set_sl (l : List (Option D)) (i : Nat) (d : D) : Ev.set ⟨l, []⟩ i d = ⟨l.set i (some d), []⟩ := rfl
@[simp] theorem Ev.clr_mk (l : List (Option D)) (x) : Ev.clr ⟨l, x⟩ = ⟨l, []⟩ := rfl
def R.toS {α : Type} (r : R α) (e : Ev) (k : α → Store → RS) : RS := match r with
  | .ok a S => k a S
  | .exc c fs S => .exc c fs e S
  | .stuck => .stuck
@[simp] theorem R.toS_ok {α : Type} (a : α) (S : Store) (e : Ev) (k : α → Store → RS) : (R.ok a S).toS e k = k a S := rfl
@[simp] theorem R.toS_exc {α : Type} (c : Nat) (fs : List (Nat × D)) (S : Store) (e : Ev) (k : α → Store → RS) : (R.exc c fs S).toS e k = .exc c fs e S := rfl
@[simp] theorem R.toS_stuck {α : Type} (e : Ev) (k : α → Store → RS) : (R.stuck : R α).toS e k = .stuck := rfl
def RS.seq (r : RS) (k : Ev → Store → RS) : RS := match r with
  | .nx e S => k e S
  | r => r
@[simp] theorem RS.seq_nx (e : Ev) (S : Store) (k : Ev → Store → RS) : (RS.nx e S).seq k = k e S := rfl
@[simp] theorem RS.seq_rt (d : D) (S : Store) (k : Ev → Store → RS) : (RS.rt d S).seq k = .rt d S := rfl
@[simp] theorem RS.seq_bk (e : Ev) (S : Store) (k : Ev → Store → RS) : (RS.bk e S).seq k = .bk e S := rfl
@[simp] theorem RS.seq_ct (e : Ev) (S : Store) (k : Ev → Store → RS) : (RS.ct e S).seq k = .ct e S := rfl
@[simp] theorem RS.seq_exc (c : Nat) (fs : List (Nat × D)) (e : Ev) (S : Store) (k : Ev → Store → RS) : (RS.exc c fs e S).seq k = .exc c fs e S := rfl
@[simp] theorem RS.seq_stuck (k : Ev → Store → RS) : RS.stuck.seq k = .stuck := rfl
/-- a loop's turn is through -/
def RS.loop (r : RS) (k : Ev → Store → RS) : RS := match r with
  | .nx e S => k e S
  | .ct e S => k e S
  | .bk e S => .nx e S
  | r => r
@[simp] theorem RS.loop_nx (e : Ev) (S : Store) (k : Ev → Store → RS) : (RS.nx e S).loop k = k e S := rfl
@[simp] theorem RS.loop_rt (d : D) (S : Store) (k : Ev → Store → RS) : (RS.rt d S).loop k = .rt d S := rfl
@[simp] theorem RS.loop_bk (e : Ev) (S : Store) (k : Ev → Store → RS) : (RS.bk e S).loop k = .nx e S := rfl
@[simp] theorem RS.loop_ct (e : Ev) (S : Store) (k : Ev → Store → RS) : (RS.ct e S).loop k = k e S := rfl
@[simp] theorem RS.loop_exc (c : Nat) (fs : List (Nat × D)) (e : Ev) (S : Store) (k : Ev → Store → RS) : (RS.exc c fs e S).loop k = .exc c fs e S := rfl
@[simp] theorem RS.loop_stuck (k : Ev → Store → RS) : RS.stuck.loop k = .stuck := rfl
section
variable (nm : Nms) (X : Cx)
def PostS (W : WX) (μ : List Addr) (H : Hp) (r : RS) (D : Ends) : Prop := match r with
  | .nx e S => ∀ σ' μ' H', Ext μ H μ' H' → Sim nm X.K X.mg μ' S H' → EvR nm X H' μ' e σ' → D.nx σ' H'
  | .bk e S => ∀ σ' μ' H', Ext μ H μ' H' → Sim nm X.K X.mg μ' S H' → EvR nm X H' μ' e σ' → D.bk σ' H'
  | .ct e S => ∀ σ' μ' H', Ext μ H μ' H' → Sim nm X.K X.mg μ' S H' → EvR nm X H' μ' e σ' → D.ct σ' H'
  | .rt d S => ∀ v μ' H', Ext μ H μ' H' → Sim nm X.K X.mg μ' S H' → RV X.K H' μ' v d → D.rt v H'
  | .exc c fs e S => ∀ σ' μ' H' C d, Ext μ H μ' H' → Sim nm X.K X.mg μ' S H' → EvR nm X H' μ' e σ' → ExcAt nm X.K X.mg H' μ' c fs C d → W (.ref C) d σ' H'
  | .stuck => False
def rdS (W : WX) (m : SM) : TS := fun D σ H => ∃ e S μ, EvR nm X H μ e σ ∧ Sim nm X.K X.mg μ S H ∧ PostS nm X W μ H (m e S) D
def rdG (W : WX) (g : GM) : TG := fun v σ H Q => ∃ d e S μ, RV X.K H μ v d ∧ EvR nm X H μ e σ ∧ Sim nm X.K X.mg μ S H ∧ PostS nm X W μ H (g d e S) { nx := Q, rt := fun _ _ => False }
def rdGs (W : WX) (g : List D → Ev → Store → RS) : TGs := fun vs σ H Q => ∃ ds e S μ, RVs X.K H μ vs ds ∧ EvR nm X H μ e σ ∧ Sim nm X.K X.mg μ S H ∧ PostS nm X W μ H (g ds e S) { nx := Q, rt := fun _ _ => False }
end
structure MS (nm : Nms) (X : Cx) (st : Stmt) (m : SM) : Prop where
  run : ∀ W, Takes X W → PS X st (rdS nm X W m)
structure MB (nm : Nms) (X : Cx) (sts : List Stmt) (m : SM) : Prop where
  run : ∀ W, Takes X W → PSs X sts (rdS nm X W m)
structure MG (nm : Nms) (X : Cx) (t : Expr) (g : GM) : Prop where
  run : ∀ W, Takes X W → PG X t (rdG nm X W g)
structure MGs (nm : Nms) (X : Cx) (ts : List Expr) (g : List D → Ev → Store → RS) : Prop where
  run : ∀ W, Takes X W → PGs X ts (rdGs nm X W g)
theorem _root_.L2.PS.imp {X : Cx} {e : Stmt} {t t' : TS} (h : PS X e t) (f : ∀ D σ H, t' D σ H → t D σ H) : PS X e t' := ⟨fun pins s σ H D I q => h.run pins s σ H D I (f _ _ _ q)⟩
theorem _root_.L2.PSs.imp {X : Cx} {e : List Stmt} {t t' : TS} (h : PSs X e t) (f : ∀ D σ H, t' D σ H → t D σ H) : PSs X e t' := ⟨fun pins s σ H D I q => h.run pins s σ H D I (f _ _ _ q)⟩
theorem _root_.L2.PG.imp {X : Cx} {e : Expr} {t t' : TG} (h : PG X e t) (f : ∀ v σ H Q, t' v σ H Q → t v σ H Q) : PG X e t' := ⟨fun pins s σ H v u Q I r q => h.run pins s σ H v u Q I r (f _ _ _ _ q)⟩
theorem _root_.L2.PGs.imp {X : Cx} {e : List Expr} {t t' : TGs} (h : PGs X e t) (f : ∀ v σ H Q, t' v σ H Q → t v σ H Q) : PGs X e t' := ⟨fun pins s σ H v u Q I r q => h.run pins s σ H v u Q I r (f _ _ _ _ q)⟩
section
variable {nm : Nms} {X : Cx} {W : WX} {H H' : Hp} {μ μ' : List Addr} {D : Ends} {σ : St}
theorem PostS.ext {r : RS} (x : Ext μ H μ' H') (h : PostS nm X W μ H r D) : PostS nm X W μ' H' r D := by
  cases r with
  | nx e S => exact fun σ2 μ2 H2 x2 => h σ2 μ2 H2 (x.trans x2)
  | bk e S => exact fun σ2 μ2 H2 x2 => h σ2 μ2 H2 (x.trans x2)
  | ct e S => exact fun σ2 μ2 H2 x2 => h σ2 μ2 H2 (x.trans x2)
  | rt d S => exact fun v μ2 H2 x2 => h v μ2 H2 (x.trans x2)
  | exc c fs e S => exact fun σ2 μ2 H2 C d x2 => h σ2 μ2 H2 C d (x.trans x2)
  | stuck => exact h
theorem PostS.mono {r : RS} {D' : Ends} (h : PostS nm X W μ H r D) (h1 : ∀ σ H, D.nx σ H → D'.nx σ H) (h2 : ∀ v H, D.rt v H → D'.rt v H) (h3 : ∀ σ H, D.bk σ H → D'.bk σ H) (h4 : ∀ σ H, D.ct σ H → D'.ct σ H) : PostS nm X W μ H r D' := by
  cases r with
  | nx e S => exact fun σ2 μ2 H2 x2 s r => h1 _ _ (h σ2 μ2 H2 x2 s r)
  | bk e S => exact fun σ2 μ2 H2 x2 s r => h3 _ _ (h σ2 μ2 H2 x2 s r)
  | ct e S => exact fun σ2 μ2 H2 x2 s r => h4 _ _ (h σ2 μ2 H2 x2 s r)
  | rt d S => exact fun v μ2 H2 x2 s r => h2 _ _ (h v μ2 H2 x2 s r)
  | exc c fs e S => exact h
  | stuck => exact h
/-- behind an expression -/
theorem PostS.toS {α : Type} {r : R α} {e : Ev} {k : α → Store → RS} (E : EvR nm X H μ e σ) (h : PostS nm X W μ H (r.toS e k) D) : PostX nm X W μ H σ r fun a S' μ' H' => PostS nm X W μ' H' (k a S') D := by
  cases r with
  | ok a S => exact fun μ2 H2 x2 _ => PostS.ext (r := k a S) x2 h
  | exc c fs S => exact fun μ2 H2 C d x2 s ea => h σ μ2 H2 C d x2 s (E.ext x2) ea
  | stuck => exact h
/-- behind a statement -/
theorem PostS.seq {r : RS} {k : Ev → Store → RS} (h : PostS nm X W μ H (r.seq k) D) : PostS nm X W μ H r { D with nx := fun σ H' => ∃ e S μ', EvR nm X H' μ' e σ ∧ Sim nm X.K X.mg μ' S H' ∧ PostS nm X W μ' H' (k e S) D } := by
  cases r with
  | nx e S => exact fun σ2 μ2 H2 x2 s r => ⟨e, S, μ2, r, s, PostS.ext (r := k e S) x2 h⟩
  | bk e S => exact h
  | ct e S => exact h
  | rt d S => exact h
  | exc c fs e S => exact h
  | stuck => exact h
theorem EvR.set {e : Ev} {i : Nat} {v : V} {d : BS.D} (E : EvR nm X H μ e σ) (r : RV X.K H μ v d) : EvR nm X H μ (e.set i d) (σ.set i (some v)) := by
  refine ⟨by simp [Ev.set, E.len], fun j d' hj => ?_, fun p hp => ?_⟩
  · by_cases e1 : i = j
    · subst e1
      have hl : i < e.sl.length := by
        have := (List.getElem?_eq_some_iff.mp hj).1
        simpa [Ev.set] using this
      have : (e.sl.set i (some d))[i]? = some (some d) := List.getElem?_set_self hl
      unfold Ev.set at hj
      rw [this] at hj; cases hj
      exact ⟨v, List.getElem?_set_self (by rw [← E.len]; exact hl), r⟩
    · unfold Ev.set at hj
      rw [show ({ sl := e.sl.set i (some d), ex := e.ex.filter fun p => p.1 != i } : Ev).sl = e.sl.set i (some d) from rfl, List.getElem?_set_ne e1] at hj
      obtain ⟨w, h1, h2⟩ := E.at_ j d' hj
      exact ⟨w, by rw [List.getElem?_set_ne e1]; exact h1, h2⟩
  · obtain ⟨h1, h2⟩ := List.mem_filter.mp (show p ∈ e.ex.filter fun p => p.1 != i from hp)
    obtain ⟨a, oe, C, dd, g1, g2, g3, g4⟩ := E.ex p h1
    have ne : i ≠ p.1 := by
      intro z
      simp [z] at h2
    exact ⟨a, oe, C, dd, by rw [List.getElem?_set_ne ne]; exact g1, g2, g3, g4⟩
end
section
variable {nm : Nms} {X : Cx} {pos : Pos} {e : Expr} {me : EM} {st : Stmt} {rest : List Stmt} {ms mr : SM}
def mSkip : SM := fun e S => .nx e S
def mSeq (a b : SM) : SM := fun e S => (a e S).seq b
theorem mb_nil : MB nm X [] mSkip := ⟨fun W tk => pss_nil.imp fun D σ H h => by
  obtain ⟨e, S, μ, E, s, p⟩ := h
  exact p σ μ H .refl s E⟩
theorem mb_cons (h1 : MS nm X st ms) (h2 : MB nm X rest mr) : MB nm X (st :: rest) (mSeq ms mr) := ⟨fun W tk => (pss_cons (h1.run W tk) (h2.run W tk)).imp fun D σ H h => by
  obtain ⟨e, S, μ, E, s, p⟩ := h
  exact ⟨e, S, μ, E, s, PostS.seq p⟩⟩
theorem mb_one (h1 : MS nm X st ms) : MB nm X [st] ms := ⟨fun W tk => pss_one (h1.run W tk)⟩
theorem ms_skip {t : TS} (h : PS X st t) (f : ∀ D σ H, D.nx σ H → t D σ H) : MS nm X st mSkip := ⟨fun W tk => h.imp fun D σ H h => by
  obtain ⟨e, S, μ, E, s, p⟩ := h
  exact f _ _ _ (p σ μ H .refl s E)⟩
theorem ms_pass : MS nm X (.Pass pos) mSkip := ms_skip ps_pass fun _ _ _ h => h
theorem ms_doc {x j pos pos'} : MS nm X (.Expr (.Constant (.str x) j pos) pos') mSkip := ms_skip ps_doc fun _ _ _ h => h
def mBrk : SM := fun e S => .bk e S
def mCnt : SM := fun e S => .ct e S
theorem ms_brk : MS nm X (.Break pos) mBrk := ⟨fun W tk => ps_break.imp fun D σ H h => by
  obtain ⟨e, S, μ, E, s, p⟩ := h
  exact p σ μ H .refl s E⟩
theorem ms_cnt : MS nm X (.Continue pos) mCnt := ⟨fun W tk => ps_continue.imp fun D σ H h => by
  obtain ⟨e, S, μ, E, s, p⟩ := h
  exact p σ μ H .refl s E⟩
def mExpr (m : EM) : SM := fun e S => (m e S).toS e fun _ S => .nx e S
theorem ms_expr (he : ME nm X e me) (hs : swapsWith e none pos.line X.env = pure false := by rfl) : MS nm X (.Expr e pos) (mExpr me) := ⟨fun W tk => (ps_expr (he.run W tk) hs).imp fun D σ H h => by
  obtain ⟨e, S, μ, E, s, p⟩ := h
  exact ⟨e, S, μ, E, s, (PostS.toS E p).mono fun a S' μ' H' x s' q v r => q σ μ' H' .refl s' (E.ext x)⟩⟩
def mRet (m : EM) : SM := fun e S => (m e S).toS e fun d S => .rt d S
theorem ms_ret (he : ME nm X e me) : MS nm X (.Return (some e) pos) (mRet me) := ⟨fun W tk => (ps_ret (he.run W tk)).imp fun D σ H h => by
  obtain ⟨e, S, μ, E, s, p⟩ := h
  exact ⟨e, S, μ, E, s, (PostS.toS E p).mono fun a S' μ' H' x s' q v r => q v μ' H' .refl s' r⟩⟩
def mRetN : SM := fun _ S => .rt .non S
theorem ms_retN : MS nm X (.Return none pos) mRetN := ⟨fun W tk => ps_retN.imp fun D σ H h => by
  obtain ⟨e, S, μ, E, s, p⟩ := h
  exact p _ μ H .refl s .non⟩
def mIfS (c : TM) (a b : SM) : SM := fun e S => (c e S).toS e fun k S => if k = true then a e S else b e S
theorem ms_if {c : Expr} {tc : TM} {a b : List Stmt} {ma mb : SM} (hc : MT nm X c tc) (ha : MB nm X a ma) (hb : MB nm X b mb) : MS nm X (.If c a b pos) (mIfS tc ma mb) := ⟨fun W tk => (ps_if (hc.run W tk) (ha.run W tk) (hb.run W tk)).imp fun D σ H h => by
  obtain ⟨e, S, μ, E, s, p⟩ := h
  refine ⟨e, S, μ, E, s, (PostS.toS E p).mono fun k S' μ' H' x s' q => ?_⟩
  cases k with
  | true => rw [if_pos rfl] at q ⊢; exact ⟨e, S', μ', E.ext x, s', q⟩
  | false => rw [if_neg Bool.false_ne_true] at q ⊢; exact ⟨e, S', μ', E.ext x, s', q⟩⟩
def gNm (i : Nat) : GM := fun d e S => .nx (e.set i d) S
theorem mg_name {is : List Nat} (i : Nat) {x : Str} (hN : X.N.Nodup) (hl : locAll is X.N X.env.scope = true) (hi : X.N[i]? = some x := by rfl) (hc : is.contains i = true := by rfl) (hf : X.fn x = true ∨ X.env.scope.names.lookup x = some .local := by first | exact .inl rfl | exact .inr rfl | assumption) :
    MG nm X (.Name x pos) (gNm i) := ⟨fun W tk => (pg_name hN hi (loc_of hl hc hi).1 hf).imp fun v σ H Q h => by
  obtain ⟨d, e, S, μ, r, E, s, p⟩ := h
  exact p _ μ H .refl s (E.set r)⟩
abbrev GsM := List D → Ev → Store → RS
def gsNil : GsM := fun ds e S => match ds with
  | [] => .nx e S
  | _ => .stuck
def gsCons (g : GM) (r : GsM) : GsM := fun ds e S => match ds with
  | d :: ds => (g d e S).seq fun e S => r ds e S
  | [] => .stuck
theorem mgs_nil : MGs nm X [] gsNil := ⟨fun W tk => pgs_nil.imp fun vs σ H Q h => by
  obtain ⟨ds, e, S, μ, r, E, s, p⟩ := h
  unfold gsNil at p
  split at p
  · cases r; exact ⟨rfl, p σ μ H .refl s E⟩
  · exact False.elim p⟩
theorem mgs_cons {t : Expr} {ts : List Expr} {g : GM} {gr : GsM} (h1 : MG nm X t g) (h2 : MGs nm X ts gr) (hs : (assignEach (t :: ts) X.env).map (·.2) = assign t X.env :: (assignEach ts X.env).map (·.2) := by rfl) : MGs nm X (t :: ts) (gsCons g gr) := ⟨fun W tk => (pgs_cons (h1.run W tk) (h2.run W tk) hs).imp fun vs σ H Q h => by
  obtain ⟨ds, e, S, μ, r, E, s, p⟩ := h
  unfold gsCons at p
  split at p
  · cases r with | cons r1 rr =>
    rename_i d ds v vs
    refine ⟨v, vs, rfl, d, e, S, μ, r1, E, s, ?_⟩
    -- the rest's values have to be carried over
    have q := PostS.seq p
    cases hg : g d e S with
    | nx e' S' =>
      rw [hg] at p
      exact fun σ2 μ2 H2 x2 s2 E2 => ⟨ds, e', S', μ2, RVs.ext x2 _ rr, E2, s2, PostS.ext (r := gr ds e' S') x2 p⟩
    | bk e' S' => rw [hg] at p; exact fun σ2 μ2 H2 x2 s2 E2 => (p σ2 μ2 H2 x2 s2 E2)
    | ct e' S' => rw [hg] at p; exact fun σ2 μ2 H2 x2 s2 E2 => (p σ2 μ2 H2 x2 s2 E2)
    | rt d' S' => rw [hg] at p; exact fun v μ2 H2 x2 s2 E2 => (p v μ2 H2 x2 s2 E2)
    | exc c fs e' S' => rw [hg] at p; exact p
    | stuck => rw [hg] at p; exact p
  · exact False.elim p⟩
def gTp (n : Nat) (g : GsM) : GM := fun d e S => match tupOf d with
  | some ds => if ds.length = n then g ds e S else .stuck
  | none => .stuck
theorem mg_tup {es : List Expr} {k : Nat} {g : GsM} (hc : X.calm = true) (n : Nat) (h : MGs nm X es g) (hn : (assignEach es X.env).length = n := by rfl) (hst : (assignEach es X.env).findIdx? (·.1) = none := by rfl) : MG nm X (.Tuple es k pos) (gTp n g) := ⟨fun W tk => (pg_tup hc (h.run W tk) hn hst).imp fun v σ H Q hh => by
  obtain ⟨d, e, S, μ, r, E, s, p⟩ := hh
  unfold gTp at p
  split at p
  · rename_i ds hds
    split at p
    · rename_i hl
      obtain ⟨a, xs, rfl, hs, rs⟩ := tupOf_sq r hds
      exact ⟨a, xs, rfl, hs, by rw [rs.length, hl], ds, e, S, μ, rs, E, s, p⟩
    · exact False.elim p
  · exact False.elim p⟩
def mAsg (m : EM) (g : GM) : SM := fun e S => (m e S).toS e fun d S => g d e S
theorem asg_rd {W : WX} {D : Ends} {σ : St} {H : Hp} {g : GM} (tk : Takes X W) (h : rdS nm X W (mAsg me g) D σ H) (hg : ∀ d e S, ∀ d' S', g d e S ≠ .rt d' S' ∧ ∀ e', g d e S ≠ .bk e' S' ∧ g d e S ≠ .ct e' S') : tAsg (rdE nm X W me) (rdG nm X W g) D σ H := by
  obtain ⟨e, S, μ, E, s, p⟩ := h
  refine ⟨e, S, μ, E, s, (PostS.toS E p).mono fun d S' μ' H' x s' q v r => ⟨d, e, S', μ', r, E.ext x, s', ?_⟩⟩
  cases hh : g d e S' with
  | nx e' S2 => rw [hh] at q; exact q
  | bk e' S2 => exact absurd hh ((hg d e S' d S2).2 e').1
  | ct e' S2 => exact absurd hh ((hg d e S' d S2).2 e').2
  | rt d' S2 => exact absurd hh (hg d e S' d' S2).1
  | exc c fs e' S2 => rw [hh] at q; exact q
  | stuck => rw [hh] at q; exact q
/-- what a target never does -/
def GOk (g : GM) : Prop := ∀ d e S, ∀ d' S', g d e S ≠ .rt d' S' ∧ ∀ e', g d e S ≠ .bk e' S' ∧ g d e S ≠ .ct e' S'
theorem gok_nm (i : Nat) : GOk (gNm i) := fun d e S d' S' => ⟨fun h => (nomatch h), fun e' => ⟨fun h => (nomatch h), fun h => (nomatch h)⟩⟩
def GsOk (g : GsM) : Prop := ∀ d e S, ∀ d' S', g d e S ≠ .rt d' S' ∧ ∀ e', g d e S ≠ .bk e' S' ∧ g d e S ≠ .ct e' S'
theorem gsok_nil : GsOk gsNil := fun d e S d' S' => by
  unfold gsNil
  split <;> exact ⟨fun h => (nomatch h), fun e' => ⟨fun h => (nomatch h), fun h => (nomatch h)⟩⟩
theorem gsok_cons {g : GM} {r : GsM} (h1 : GOk g) (h2 : GsOk r) : GsOk (gsCons g r) := fun ds e S d' S' => by
  unfold gsCons
  split
  · rename_i d ds
    cases hg : g d e S with
    | nx e1 S1 => exact h2 ds e1 S1 d' S'
    | bk e1 S1 => exact absurd hg ((h1 d e S d S1).2 e1).1
    | ct e1 S1 => exact absurd hg ((h1 d e S d S1).2 e1).2
    | rt d1 S1 => exact absurd hg (h1 d e S d1 S1).1
    | exc c fs e1 S1 => exact ⟨fun h => (nomatch h), fun e' => ⟨fun h => (nomatch h), fun h => (nomatch h)⟩⟩
    | stuck => exact ⟨fun h => (nomatch h), fun e' => ⟨fun h => (nomatch h), fun h => (nomatch h)⟩⟩
  · exact ⟨fun h => (nomatch h), fun e' => ⟨fun h => (nomatch h), fun h => (nomatch h)⟩⟩
theorem gok_tp {n : Nat} {g : GsM} (h : GsOk g) : GOk (gTp n g) := fun d e S d' S' => by
  unfold gTp
  split
  · split
    · exact h _ _ _ _ _
    · exact ⟨fun h => (nomatch h), fun e' => ⟨fun h => (nomatch h), fun h => (nomatch h)⟩⟩
  · exact ⟨fun h => (nomatch h), fun e' => ⟨fun h => (nomatch h), fun h => (nomatch h)⟩⟩
def mSet (i : Nat) (m : EM) : SM := mAsg m (gNm i)
theorem ms_set {is : List Nat} (i : Nat) {x : Str} {pos' : Pos} (hN : X.N.Nodup) (hl : locAll is X.N X.env.scope = true) (he : ME nm X e me) (hi : X.N[i]? = some x := by rfl) (hc : is.contains i = true := by rfl)
    (hs : swapsWith e (some (.Name x pos')) pos.line X.env = pure false := by rfl) (hf : X.fn x = true ∨ X.env.scope.names.lookup x = some .local := by first | exact .inl rfl | exact .inr rfl | assumption) : MS nm X (.Assign [.Name x pos'] e pos) (mSet i me) :=
  ⟨fun W tk => (ps_set hN hi (loc_of hl hc hi).1 (he.run W tk) hs hf).imp fun D σ H h => by
    obtain ⟨e, S, μ, E, s, p⟩ := h
    exact ⟨e, S, μ, E, s, (PostS.toS E p).mono fun d S' μ' H' x s' q v r => q _ μ' H' .refl s' ((E.ext x).set r)⟩⟩
theorem ms_asg {t : Expr} {g : GM} (he : ME nm X e me) (hg : MG nm X t g) (ok : GOk g) (hs : swapsWithSole [t] e pos.line X.env = pure false := by rfl) (hw : swappedStores [t] e X.env = pure none := by rfl)
    (h1 : (assignEach [t] X.env).map (·.2) = [assign t X.env] := by rfl) : MS nm X (.Assign [t] e pos) (mAsg me g) :=
  ⟨fun W tk => (ps_asg (he.run W tk) (hg.run W tk) hs hw h1).imp fun D σ H h => asg_rd tk h ok⟩
/-- a, b = x, y -/
def mPar (i j : Nat) (m : AM) : SM := fun e S => (m e S).toS e fun ds S => match ds with
  | [a, b] => .nx ((e.set i a).set j b) S
  | _ => .stuck
theorem ms_par (i j : Nat) {x y : Str} {a b : Expr} {ma : AM} {px py pt : Pos} {kt k2 pt2} (hc : X.calm = true) (hN : X.N.Nodup) (ha : MA nm X [a, b] ma) (hi : X.N[i]? = some x := by rfl) (hj : X.N[j]? = some y := by rfl) (hij : i ≠ j := by decide)
    (hx : X.env.scope.names.lookup x = some .local := by rfl) (hy : X.env.scope.names.lookup y = some .local := by rfl)
    (hw : swappedStores [.Tuple [.Name x px, .Name y py] kt pt] (.Tuple [a, b] k2 pt2) X.env = pure (some [x, y]) := by rfl)
    (hs : swapsWithSole [.Tuple [.Name x px, .Name y py] kt pt] (.Tuple [a, b] k2 pt2) pos.line X.env = pure false := by rfl) : MS nm X (.Assign [.Tuple [.Name x px, .Name y py] kt pt] (.Tuple [a, b] k2 pt2) pos) (mPar i j ma) :=
  ⟨fun W tk => (ps_par hc hN hi hj hij hx hy (ha.run W tk) hw hs).imp fun D σ H h => by
    obtain ⟨e, S, μ, E, s, p⟩ := h
    refine ⟨e, S, μ, E, s, (PostS.toS E p).mono fun ds S' μ' H' x s' q vs r => ?_⟩
    split at q
    · cases r with | cons r1 r =>
      cases r with | cons r2 r =>
      cases r
      exact ⟨_, _, rfl, q _ μ' H' .refl s' (((E.ext x).set r1).set r2)⟩
    · exact False.elim q⟩
def putF_ (cs : List Nat) (f : Nat) (S : Store) (x y : D) : Option Store := match x with
  | .obj n => match S[n]? with
    | some (.ins c fs) => if cs.contains c = true ∧ fs.length < 1000 then some (S.set n (.ins c (setN f y fs))) else none
    | _ => none
  | _ => none
def mSetF (cs : List Nat) (f : Nat) (o m : EM) : SM := fun e S => (m e S).toS e fun y S => (o e S).toS e fun x S => match putF_ cs f S x y with
  | some S => .nx e S
  | none => .stuck
theorem putF_at {cs : List Nat} {f : Nat} {S S' : Store} {x y : D} {H : Hp} {μ : List Addr} {v u : V} (h : FldOk X.K X.mg nm cs f) (s : Sim nm X.K X.mg μ S H) (r : RV X.K H μ v x) (ry : RV X.K H μ u y) (hp : putF_ cs f S x y = some S') :
    ∃ a C dx gs, v = .ref a ∧ H a = some (.ins C dx gs) ∧ Cls X.K C ∧ NoAttr X.K C (nm.fld f) ∧ gs.length < 1000 ∧ Ext μ H μ (upd H a (.ins C dx (putF (nm.fld f) u gs))) ∧ Sim nm X.K X.mg μ S' (upd H a (.ins C dx (putF (nm.fld f) u gs))) ∧ ∃ c, c ∈ cs ∧ X.mg (nm.cls c) = some (.ref C) := by
  unfold putF_ at hp
  split at hp
  · split at hp
    · rename_i n c fs hds
      split at hp
      · rename_i hc
        cases hp
        cases r with | @obj a n e =>
        obtain ⟨C, dx, gs, g, e1, r1⟩ := s.ob _ _ _ e hds
        obtain ⟨k1, k2⟩ := h.2 c (by simpa using hc.1) C g
        have x := Ext.wrote (H := H) (u := .ins C dx (putF (nm.fld f) u gs)) (List.mem_of_getElem? e) (NF.of e1)
        exact ⟨a, C, dx, gs, rfl, e1, k1, k2, by rw [rf_length r1]; exact hc.2, x, s.wrote e ⟨C, dx, _, g, upd_same, RF.ext x (rf_set f h.1 ry r1)⟩, c, by simpa using hc.1, g⟩
      · cases hp
    · cases hp
  · cases hp
theorem ms_setF {cs : List Nat} {f : Nat} {fx : Str} {o : Expr} {mo : EM} {pos' : Pos} (h : FldOk X.K X.mg nm cs f) (ho : ME nm X o mo) (he : ME nm X e me) (hf : nm.fld f = fx) (hs : swapsWith e (some (.Attribute o fx pos')) pos.line X.env = pure false := by rfl) :
    MS nm X (.Assign [.Attribute o fx pos'] e pos) (mSetF cs f mo me) := by
  subst hf
  exact ⟨fun W tk => (ps_fld (ho.run W tk) (he.run W tk) hs).imp fun D σ H hh => by
    obtain ⟨e, S, μ, E, s, p⟩ := hh
    refine ⟨e, S, μ, E, s, (PostS.toS E p).mono fun d S' μ' H' x s' q v r => ?_⟩
    refine ⟨e, S', μ', E.ext x, s', (PostS.toS (E.ext x) q).mono fun d2 S2 μ2 H2 x2 s2 q2 v2 r2 => ?_⟩
    split at q2
    · rename_i S3 hp
      obtain ⟨a, C, dx, gs, h1, h2, h3, h4, h5, h6, h7, _⟩ := putF_at h s2 r2 (r.ext x2) hp
      exact ⟨a, C, dx, gs, h1, h2, h3, h4, h5, q2 _ _ _ h6 h7 (((E.ext x).ext x2).ext h6)⟩
    · exact False.elim q2⟩
end
end BS
namespace BS
open PySem PySem.Spec PyProof.Rows L2
/-- G: what the store must bear at each turn -/
structure Wk where
  ds : List D
  G : Store → Prop
abbrev IM := Ev → Store → R Wk
def WOk (nm : Nms) (X : Cx) (J : It) (w : Wk) (C : Hp → List Addr → Prop) : Prop := ∀ (i : Nat) (S : Store) (μ : List Addr) (H : Hp), Sim nm X.K X.mg μ S H → C H μ → w.G S →
  (∀ d, w.ds[i]? = some d → J.go i H ∧ ∀ x H', J.yld i H x H' → Ext μ H μ H' ∧ Sim nm X.K X.mg μ S H' ∧ RV X.K H' μ x d) ∧ (w.ds.length ≤ i → J.stop i H)
def Stable (C : Hp → List Addr → Prop) : Prop := ∀ μ H μ' H', Ext μ H μ' H' → C H μ → C H' μ'
structure MI (nm : Nms) (X : Cx) (tg iter : Expr) (it : IM) : Prop where
  run : ∀ W, Takes X W → PI X tg iter (fun σ H R => ∃ e S μ, EvR nm X H μ e σ ∧ Sim nm X.K X.mg μ S H ∧ PostX nm X W μ H σ (it e S) fun w S' μ' H' => ∀ J C, Stable C → C H' μ' → WOk nm X J w C → R J H')
theorem _root_.L2.PI.imp {X : Cx} {tg e : Expr} {t t' : TI} (h : PI X tg e t) (f : ∀ σ H Q, t' σ H Q → t σ H Q) : PI X tg e t' := ⟨fun pins s σ H Q I q => h.run pins s σ H Q I (f _ _ _ q)⟩
section
variable {nm : Nms} {X : Cx} {tg : Expr} {e : Expr} {me : EM} {pos : Pos}
theorem wok_list {a : Addr} {xs : List V} {ds : List D} {w : Wk} {C : Hp → List Addr → Prop} (hd : w.ds = ds) (hc : ∀ S μ H, Sim nm X.K X.mg μ S H → C H μ → w.G S → ∃ xs, SqL X.K H a xs ∧ RVs X.K H μ xs ds) : WOk nm X (Itl X.K a) w C := by
  intro i S μ H s c g
  obtain ⟨xs, h1, h2⟩ := hc S μ H s c g
  refine ⟨fun d e => ?_, fun h => ⟨xs, h1, by rw [h2.length, ← hd]; exact h⟩⟩
  rw [hd] at e
  obtain ⟨v, e1, r⟩ := h2.get e
  refine ⟨⟨xs, v, h1, e1⟩, fun x H' y => ?_⟩
  obtain ⟨e2, y⟩ := y
  subst e2
  have : x = v := Option.some.inj ((y xs h1).symm.trans e1)
  subst this
  exact ⟨.refl, s, r⟩
theorem wok_tup {a : Addr} {xs : List V} {ds : List D} {w : Wk} {C : Hp → List Addr → Prop} (hd : w.ds = ds) (hc : ∀ S μ H, Sim nm X.K X.mg μ S H → C H μ → w.G S → ∃ xs, SqT X.K H a xs ∧ RVs X.K H μ xs ds) : WOk nm X (Itt X.K a) w C := by
  intro i S μ H s c g
  obtain ⟨xs, h1, h2⟩ := hc S μ H s c g
  refine ⟨fun d e => ?_, fun h => ⟨xs, h1, by rw [h2.length, ← hd]; exact h⟩⟩
  rw [hd] at e
  obtain ⟨v, e1, r⟩ := h2.get e
  refine ⟨⟨xs, v, h1, e1⟩, fun x H' y => ?_⟩
  obtain ⟨e2, y⟩ := y
  subst e2
  have : x = v := Option.some.inj ((y xs h1).symm.trans e1)
  subst this
  exact ⟨.refl, s, r⟩
/-- a list, a tuple -/
def wkS (S : Store) (x : D) : R Wk := match x with
  | .lst ds => .ok ⟨ds, fun _ => True⟩ S
  | .scr ds => .ok ⟨ds, fun _ => True⟩ S
  | .obj n => match S[n]? with
    | some (.lst ds) => .ok ⟨ds, fun S => S[n]? = some (.lst ds)⟩ S
    | _ => .stuck
  | _ => .stuck
def iLs (m : EM) : IM := fun e S => (m e S).bind fun x S => wkS S x
theorem mi_lst (h : ME nm X e me) : MI nm X tg e (iLs me) := by
  refine ⟨fun W tk => (pi_list (h.run W tk)).imp fun σ H R hh => ?_⟩
  obtain ⟨ev, S, μ, E, s, p⟩ := hh
  refine ⟨ev, S, μ, E, s, (Post.bind p).mono fun d S1 μ1 H1 x1 s1 p1 v rv => ?_⟩
  unfold wkS at p1
  split at p1
  · rename_i ds
    cases rv with | @lst a xs _ t r =>
    exact ⟨a, rfl, ⟨xs, .of t.2⟩, p1 μ1 H1 .refl s1 (Itl X.K a) (fun H μ => LstAt H μ a xs ∧ RVs X.K H μ xs ds) (fun μ H μ' H' x c => ⟨c.1.ext x, RVs.ext x _ c.2⟩) ⟨t, r⟩ (wok_list (xs := xs) rfl fun S μ H s c g => ⟨xs, .of c.1.2, c.2⟩)⟩
  · rename_i ds
    cases rv with | @scr a xs _ t r =>
    exact ⟨a, rfl, ⟨xs, t.sq⟩, p1 μ1 H1 .refl s1 (Itl X.K a) (fun H μ => ScrAt X.K H μ a xs ∧ RVs X.K H μ xs ds) (fun μ H μ' H' x c => ⟨c.1.ext x, RVs.ext x _ c.2⟩) ⟨t, r⟩ (wok_list (xs := xs) rfl fun S μ H s c g => ⟨xs, c.1.sq, c.2⟩)⟩
  · rename_i n
    split at p1
    · rename_i ds hds
      cases rv with | @obj a _ en =>
      obtain ⟨xs, e1, r⟩ := s1.ob _ _ _ en hds
      exact ⟨a, rfl, ⟨xs, .of e1⟩, p1 μ1 H1 .refl s1 (Itl X.K a) (fun H μ => μ[n]? = some a) (fun μ H μ' H' x c => x.at c) en (wok_list (xs := xs) rfl fun S μ H s c g => by
        obtain ⟨xs, e1, r⟩ := s.ob _ _ _ c g
        exact ⟨xs, .of e1, r⟩)⟩
    · exact False.elim p1
  · exact False.elim p1
def iTp (m : EM) : IM := fun e S => (m e S).bind fun x S => match tupOf x with
  | some ds => .ok ⟨ds, fun _ => True⟩ S
  | none => .stuck
theorem mi_tup (h : ME nm X e me) : MI nm X tg e (iTp me) := by
  refine ⟨fun W tk => (pi_tup (h.run W tk)).imp fun σ H R hh => ?_⟩
  obtain ⟨ev, S, μ, E, s, p⟩ := hh
  refine ⟨ev, S, μ, E, s, (Post.bind p).mono fun d S1 μ1 H1 x1 s1 p1 v rv => ?_⟩
  split at p1
  · rename_i ds hds
    cases d with
    | tup ds' =>
      cases hds
      cases rv with | @tup a xs ds t r =>
      exact ⟨a, rfl, ⟨xs, t.sq⟩, p1 μ1 H1 .refl s1 (Itt X.K a) (fun H μ => TupAt X.K H μ a xs ∧ RVs X.K H μ xs ds) (fun μ H μ' H' x c => ⟨c.1.ext x, RVs.ext x _ c.2⟩) ⟨t, r⟩ (wok_tup (xs := xs) rfl fun S μ H s c g => ⟨xs, c.1.sq, c.2⟩)⟩
    | _ => cases hds
  · exact False.elim p1
def intsFrom (lo : Int) : Nat → List D
  | 0 => []
  | n + 1 => .int lo :: intsFrom (lo + 1) n
theorem intsFrom_len (lo : Int) : ∀ n, (intsFrom lo n).length = n
  | 0 => rfl
  | n + 1 => by rw [intsFrom, List.length_cons, intsFrom_len (lo + 1) n]
theorem intsFrom_get : ∀ (n i : Nat) (lo : Int), i < n → (intsFrom lo n)[i]? = some (.int (lo + i))
  | 0, _, _, h => absurd h (Nat.not_lt_zero _)
  | n + 1, 0, lo, _ => by simp [intsFrom]
  | n + 1, i + 1, lo, h => by
    rw [intsFrom, List.getElem?_cons_succ, intsFrom_get n i (lo + 1) (Nat.lt_of_succ_lt_succ h)]
    congr 2
    omega
theorem wok_range {lo : Int} {n : Nat} : WOk nm X (Itr lo n) ⟨intsFrom lo n, fun _ => True⟩ fun _ _ => True := by
  intro i S μ H s _ _
  refine ⟨fun d e => ?_, fun h => by rw [intsFrom_len] at h; exact h⟩
  have hl : i < n := by have := (List.getElem?_eq_some_iff.mp e).1; rwa [intsFrom_len] at this
  rw [intsFrom_get n i lo hl] at e
  cases e
  refine ⟨hl, fun x H' y => ?_⟩
  obtain ⟨e2, rfl⟩ := y
  subst e2
  exact ⟨.refl, s, .int _⟩
def rngOk (i : Int) : Prop := -(2 ^ 62) ≤ i ∧ i < 2 ^ 62
instance (i : Int) : Decidable (rngOk i) := inferInstanceAs (Decidable (_ ∧ _))
def iRng (as : AM) : IM := fun e S => (as e S).bind fun ds S => match ds with
  | [.int j] => if rngOk j then .ok ⟨intsFrom 0 j.toNat, fun _ => True⟩ S else .stuck
  | [.int i, .int j] => if rngOk i ∧ rngOk j then .ok ⟨intsFrom i (j - i).toNat, fun _ => True⟩ S else .stuck
  | _ => .stuck
theorem mi_range1 {a : Expr} {ma : AM} {p : Pos} (hg : GlN X "range") (hm : X.mg "range" = none) (ha : MA nm X [a] ma) (hs : starEach [a] X.env = [(false, eval a X.env)] := by rfl) : MI nm X tg (.Call (.Name "range" p) [a] [] pos) (iRng ma) := by
  refine ⟨fun W tk => (pi_range1 hg.g hm (ha.run W tk) hs).imp fun σ H R hh => ?_⟩
  obtain ⟨ev, S, μ, E, s, p⟩ := hh
  refine ⟨ev, S, μ, E, s, (post_len ha (Post.bind p)).mono fun d S1 μ1 H1 x1 s1 p1 v rv => ?_⟩
  obtain ⟨hl, p1⟩ := p1
  split at p1
  · split at p1
    · rename_i c
      cases rv with | cons r1 r => cases r1; cases r; exact ⟨_, rfl, c.1, c.2, p1 μ1 H1 .refl s1 _ _ (fun _ _ _ _ _ _ => True.intro) True.intro wok_range⟩
    · exact False.elim p1
  · cases hl
  · exact False.elim p1
theorem mi_range2 {a b : Expr} {ma : AM} {p : Pos} (hg : GlN X "range") (hm : X.mg "range" = none) (ha : MA nm X [a, b] ma) (hs : starEach [a, b] X.env = [(false, eval a X.env), (false, eval b X.env)] := by rfl) (hs2 : starEach [b] X.env = [(false, eval b X.env)] := by rfl) : MI nm X tg (.Call (.Name "range" p) [a, b] [] pos) (iRng ma) := by
  refine ⟨fun W tk => (pi_range2 hg.g hm (ha.run W tk) hs hs2).imp fun σ H R hh => ?_⟩
  obtain ⟨ev, S, μ, E, s, p⟩ := hh
  refine ⟨ev, S, μ, E, s, (post_len ha (Post.bind p)).mono fun d S1 μ1 H1 x1 s1 p1 v rv => ?_⟩
  obtain ⟨hl, p1⟩ := p1
  split at p1
  · cases hl
  · split at p1
    · rename_i c
      cases rv with | cons r1 r => cases r with | cons r2 r => cases r1; cases r2; cases r; exact ⟨_, _, rfl, ⟨c.1.1, c.1.2, c.2.1, c.2.2⟩, p1 μ1 H1 .refl s1 _ _ (fun _ _ _ _ _ _ => True.intro) True.intro wok_range⟩
    · exact False.elim p1
  · exact False.elim p1
/-- the signs of a text -/
def signs (z : Str) : List D := z.cps.toList.map strAt
end
open Classical in
/-- the loop itself -/
noncomputable def forL (G : Store → Prop) (g : GM) (b : SM) : List D → Ev → Store → RS
  | [], e, S => if G S then .nx e S else .stuck
  | d :: ds, e, S => if G S then ((g d e S).seq b).loop (forL G g b ds) else .stuck
noncomputable def mFor (it : IM) (g : GM) (b : SM) : SM := fun e S => (it e S).toS e fun w S => forL w.G g b w.ds e S
theorem forL_nil {g : GM} {b : SM} {e : Ev} {S : Store} : forL (fun _ => True) g b [] e S = .nx e S := by simp [forL]
theorem forL_cons {g : GM} {b : SM} {d : D} {ds : List D} {e : Ev} {S : Store} : forL (fun _ => True) g b (d :: ds) e S = ((g d e S).seq b).loop (forL (fun _ => True) g b ds) := by simp [forL]
section
variable {nm : Nms} {X : Cx} {tg iter : Expr} {it : IM} {g : GM} {body : List Stmt} {mb : SM} {pos : Pos}
/-- behind a turn -/
theorem PostS.loop {W : WX} {μ : List Addr} {H : Hp} {D : Ends} {r : RS} {k : Ev → Store → RS} (h : PostS nm X W μ H (r.loop k) D) :
    PostS nm X W μ H r { D with nx := fun σ H' => ∃ e S μ', EvR nm X H' μ' e σ ∧ Sim nm X.K X.mg μ' S H' ∧ Ext μ H μ' H' ∧ PostS nm X W μ' H' (k e S) D, ct := fun σ H' => ∃ e S μ', EvR nm X H' μ' e σ ∧ Sim nm X.K X.mg μ' S H' ∧ Ext μ H μ' H' ∧ PostS nm X W μ' H' (k e S) D, bk := D.nx } := by
  cases r with
  | nx e S => exact fun σ2 μ2 H2 x2 s r => ⟨e, S, μ2, r, s, x2, PostS.ext (r := k e S) x2 h⟩
  | bk e S => exact h
  | ct e S => exact fun σ2 μ2 H2 x2 s r => ⟨e, S, μ2, r, s, x2, PostS.ext (r := k e S) x2 h⟩
  | rt d S => exact h
  | exc c fs e S => exact h
  | stuck => exact h
/-- the turns of a loop -/
theorem for_tail {W : WX} {D : Ends} {σ : St} {w : Wk} {e : Ev} {S1 : Store} {μ1 : List Addr} {H1 : Hp} {J : It} {C : Hp → List Addr → Prop} (E1 : EvR nm X H1 μ1 e σ) (s1 : Sim nm X.K X.mg μ1 S1 H1) (p1 : PostS nm X W μ1 H1 (forL w.G g mb w.ds e S1) D) (ok : GOk g) (st : Stable C) (c0 : C H1 μ1) (ok' : WOk nm X J w C) :
    ∃ V : Nat → Nat → St → Hp → Prop, (∃ m, V 0 m σ H1) ∧ ∀ (i m : Nat) (σ : St) (H : Hp), V i m σ H → J.stop i H ∧ D.nx σ H ∨ J.go i H ∧ ∃ N : St → Hp → Prop, (∀ σ' H', N σ' H' → ∃ m', m' < m ∧ V (i + 1) m' σ' H') ∧ ∀ x H', J.yld i H x H' → rdG nm X W g x σ H' fun σ2 H2 => rdS nm X W mb { nx := N, rt := D.rt, bk := D.nx, ct := N } σ2 H2 := by
  refine ⟨fun i m σ H => m = w.ds.length - i ∧ i ≤ w.ds.length ∧ ∃ e S μ, EvR nm X H μ e σ ∧ Sim nm X.K X.mg μ S H ∧ C H μ ∧ PostS nm X W μ H (forL w.G g mb (w.ds.drop i) e S) D,
    ⟨w.ds.length, rfl, Nat.zero_le _, e, S1, μ1, E1, s1, c0, p1⟩, ?_⟩
  rintro i m σ H ⟨rfl, hi, e, S, μ, E, s, c, p⟩
  by_cases hlt : i < w.ds.length
  · obtain ⟨d, hd⟩ : ∃ d, w.ds[i]? = some d := ⟨_, List.getElem?_eq_getElem hlt⟩
    have hdr : w.ds.drop i = d :: w.ds.drop (i + 1) := by
      rw [List.drop_eq_getElem_cons hlt]
      rw [List.getElem?_eq_getElem hlt] at hd
      cases hd; rfl
    rw [hdr] at p
    unfold forL at p
    split at p
    · rename_i hG
      obtain ⟨go, yl⟩ := (ok' i S μ H s c hG).1 d hd
      refine .inr ⟨go, fun σ' H' => ∃ m', m' < w.ds.length - i ∧ m' = w.ds.length - (i + 1) ∧ i + 1 ≤ w.ds.length ∧ ∃ e S μ, EvR nm X H' μ e σ' ∧ Sim nm X.K X.mg μ S H' ∧ C H' μ ∧ PostS nm X W μ H' (forL w.G g mb (w.ds.drop (i + 1)) e S) D, fun σ' H' h => h, fun x H' y => ?_⟩
      obtain ⟨x2, s2, r2⟩ := yl x H' y
      refine ⟨d, e, S, μ, r2, E.ext x2, s2, ?_⟩
      have q := PostS.seq (PostS.loop (PostS.ext x2 p))
      have turn : ∀ {σ' : St} {H3 : Hp}, (∃ e S μ', EvR nm X H3 μ' e σ' ∧ Sim nm X.K X.mg μ' S H3 ∧ Ext μ H' μ' H3 ∧ PostS nm X W μ' H3 (forL w.G g mb (w.ds.drop (i + 1)) e S) D) →
          ∃ m', m' < w.ds.length - i ∧ m' = w.ds.length - (i + 1) ∧ i + 1 ≤ w.ds.length ∧ ∃ e S μ, EvR nm X H3 μ e σ' ∧ Sim nm X.K X.mg μ S H3 ∧ C H3 μ ∧ PostS nm X W μ H3 (forL w.G g mb (w.ds.drop (i + 1)) e S) D := by
        rintro σ' H3 ⟨e, S, μ3, E3, s3, x3, p3⟩
        exact ⟨_, by omega, rfl, hlt, e, S, μ3, E3, s3, st _ _ _ _ (x2.trans x3) c, p3⟩
      have conv : ∀ {σ' : St} {H3 : Hp}, (∃ e S μ', EvR nm X H3 μ' e σ' ∧ Sim nm X.K X.mg μ' S H3 ∧ PostS nm X W μ' H3 (mb e S) { D with nx := fun σ H'' => ∃ e S μ', EvR nm X H'' μ' e σ ∧ Sim nm X.K X.mg μ' S H'' ∧ Ext μ H' μ' H'' ∧ PostS nm X W μ' H'' (forL w.G g mb (w.ds.drop (i + 1)) e S) D, ct := fun σ H'' => ∃ e S μ', EvR nm X H'' μ' e σ ∧ Sim nm X.K X.mg μ' S H'' ∧ Ext μ H' μ' H'' ∧ PostS nm X W μ' H'' (forL w.G g mb (w.ds.drop (i + 1)) e S) D, bk := D.nx }) →
          rdS nm X W mb { D with nx := fun σ' H' => ∃ m', m' < w.ds.length - i ∧ m' = w.ds.length - (i + 1) ∧ i + 1 ≤ w.ds.length ∧ ∃ e S μ, EvR nm X H' μ e σ' ∧ Sim nm X.K X.mg μ S H' ∧ C H' μ ∧ PostS nm X W μ H' (forL w.G g mb (w.ds.drop (i + 1)) e S) D, ct := fun σ' H' => ∃ m', m' < w.ds.length - i ∧ m' = w.ds.length - (i + 1) ∧ i + 1 ≤ w.ds.length ∧ ∃ e S μ, EvR nm X H' μ e σ' ∧ Sim nm X.K X.mg μ S H' ∧ C H' μ ∧ PostS nm X W μ H' (forL w.G g mb (w.ds.drop (i + 1)) e S) D, bk := D.nx } σ' H3 := by
        rintro σ' H3 ⟨e, S, μ3, E3, s3, p3⟩
        exact ⟨e, S, μ3, E3, s3, p3.mono (fun _ _ h => turn h) (fun _ _ h => h) (fun _ _ h => h) (fun _ _ h => turn h)⟩
      cases hh : g d e S with
      | nx e' S' => rw [hh] at q; exact fun σ3 μ3 H3 x3 s3 E3 => conv (q σ3 μ3 H3 x3 s3 E3)
      | bk e' S' => exact absurd hh ((ok d e S d S').2 e').1
      | ct e' S' => exact absurd hh ((ok d e S d S').2 e').2
      | rt d' S' => exact absurd hh (ok d e S d' S').1
      | exc c fs e' S' => rw [hh] at q; exact q
      | stuck => rw [hh] at q; exact q
    · exact False.elim p
  · have hz : w.ds.drop i = [] := List.drop_eq_nil_of_le (Nat.le_of_not_lt hlt)
    rw [hz] at p
    unfold forL at p
    split at p
    · rename_i hG
      exact .inl ⟨(ok' i S μ H s c hG).2 (Nat.le_of_not_lt hlt), p σ μ H .refl s E⟩
    · exact False.elim p
theorem ms_for (hp : PassesOwn (model X.prog X.w) X.A X.env X.xe) (hc : X.calm = true) (hi : MI nm X tg iter it) (hg : MG nm X tg g) (ok : GOk g) (hb : MB nm X body mb) (hs : ∀ x, foldedSetIterable iter X.env x = pure x := by intro _; rfl) : MS nm X (.For tg iter body [] pos) (mFor it g mb) := by
  refine ⟨fun W tk => (ps_for hp hc (hi.run W tk) (hg.run W tk) (hb.run W tk) hs).imp fun D σ H h => ?_⟩
  obtain ⟨e, S, μ, E, s, p⟩ := h
  refine ⟨e, S, μ, E, s, (PostS.toS E p).mono fun w S1 μ1 H1 x1 s1 p1 J C st c0 ok' => ?_⟩
  exact for_tail (E.ext x1) s1 p1 ok st c0 ok'
def whileL (c : TM) (b : SM) : Nat → SM
  | 0, _, _ => .stuck
  | n + 1, e, S => (c e S).toS e fun k S => if k = true then (b e S).loop (whileL c b n) else .nx e S
def mWhile (n : Nat) (c : TM) (b : SM) : SM := whileL c b n
theorem ms_while (n : Nat) {c : Expr} {mc : TM} (hp : PassesOwn (model X.prog X.w) X.A X.env X.xe) (hc : MT nm X c mc) (hb : MB nm X body mb) : MS nm X (.While c body [] pos) (mWhile n mc mb) := by
  refine ⟨fun W tk => (ps_while hp (hc.run W tk) (hb.run W tk)).imp fun D σ H h => ?_⟩
  obtain ⟨e, S, μ, E, s, p⟩ := h
  refine ⟨fun m σ H => ∃ e S μ, EvR nm X H μ e σ ∧ Sim nm X.K X.mg μ S H ∧ PostS nm X W μ H (whileL mc mb m e S) D, ⟨n, e, S, μ, E, s, p⟩, ?_⟩
  rintro m σ H ⟨e, S, μ, E, s, p⟩
  cases m with
  | zero => exact False.elim p
  | succ m =>
    unfold whileL at p
    refine ⟨e, S, μ, E, s, (PostS.toS E p).mono fun k S1 μ1 H1 x1 s1 p1 => ?_⟩
    cases k with
    | false => rw [if_neg Bool.false_ne_true] at p1 ⊢; exact p1 σ μ1 H1 .refl s1 (E.ext x1)
    | true =>
      rw [if_pos rfl] at p1 ⊢
      have conv : ∀ {σ : St} {H' : Hp}, (∃ e S μ', EvR nm X H' μ' e σ ∧ Sim nm X.K X.mg μ' S H' ∧ Ext μ1 H1 μ' H' ∧ PostS nm X W μ' H' (whileL mc mb m e S) D) → ∃ m', m' < m + 1 ∧ ∃ e S μ, EvR nm X H' μ e σ ∧ Sim nm X.K X.mg μ S H' ∧ PostS nm X W μ H' (whileL mc mb m' e S) D := by
        rintro σ H' ⟨e, S, μ, E, s, _, p⟩
        exact ⟨m, Nat.lt_succ_self m, e, S, μ, E, s, p⟩
      refine ⟨fun σ' H' => ∃ m', m' < m + 1 ∧ ∃ e S μ, EvR nm X H' μ e σ' ∧ Sim nm X.K X.mg μ S H' ∧ PostS nm X W μ H' (whileL mc mb m' e S) D, fun σ' H' h => h, e, S1, μ1, E.ext x1, s1, (PostS.loop p1).mono (fun _ _ h => conv h) (fun _ _ h => h) (fun _ _ h => h) (fun _ _ h => conv h)⟩
end
end BS
namespace BS
open PySem PySem.Spec PyProof.Rows L2
section
variable {nm : Nms} {X : Cx} {pos : Pos} {e : Expr} {me : EM}
def putD (kvs : List (Key × D)) (k : Key) (v : D) : List (Key × D) := if (kvs.any fun kv => decide (kv.1 = k)) = true then kvs.map (fun kv => if kv.1 = k then (kv.1, v) else kv) else kvs ++ [(k, v)]
theorem any_rk {K : PySem.W.Frag} {H : Hp} {μ : List Addr} (k : Key) : ∀ {ys : List (Key × V)} {kvs : List (Key × D)}, RK K H μ ys kvs → (ys.any fun kv => decide (kv.1 = k)) = kvs.any fun kv => decide (kv.1 = k)
  | _, _, .nil => rfl
  | p :: ys, q :: kvs, .cons r t => by rw [List.any_cons, List.any_cons, any_rk k t, r.1]
theorem paired_app {α β : Type} {R : α → β → Prop} : ∀ {l : List α} {m : List β} {l' : List α} {m' : List β}, Paired R l m → Paired R l' m' → Paired R (l ++ l') (m ++ m')
  | _, _, _, _, .nil, h => h
  | _, _, _, _, .cons r t, h => .cons r (paired_app t h)
theorem put_rk {K : PySem.W.Frag} {H : Hp} {μ : List Addr} {k : Key} {v : V} {d : D} (rv : RV K H μ v d) {ys : List (Key × V)} {kvs : List (Key × D)} (r : RK K H μ ys kvs) : RK K H μ (putK ys k v) (putD kvs k d) := by
  unfold putK putD
  rw [any_rk k r]
  split
  · rename_i hany
    clear hany
    induction r with
    | nil => exact .nil
    | @cons p q ys kvs r t ih =>
      rw [List.map_cons, List.map_cons]
      refine .cons ?_ ih
      rw [r.1]
      split
      · exact ⟨rfl, rv⟩
      · exact ⟨r.1, r.2⟩
  · exact paired_app r (.cons ⟨rfl, rv⟩ .nil)
def dropD (kvs : List (Key × D)) (k : Key) : List (Key × D) := kvs.filter fun kv => decide (kv.1 ≠ k)
theorem drop_rk {K : PySem.W.Frag} {H : Hp} {μ : List Addr} {k : Key} {ys : List (Key × V)} {kvs : List (Key × D)} (r : RK K H μ ys kvs) : RK K H μ (dropK ys k) (dropD kvs k) := by
  unfold dropK dropD
  induction r with
  | nil => exact .nil
  | @cons p q ys kvs r t ih =>
    rw [List.filter_cons, List.filter_cons, r.1]
    split
    · exact .cons r ih
    · exact ih
theorem rk_len {K : PySem.W.Frag} {H : Hp} {μ : List Addr} {ys : List (Key × V)} {kvs : List (Key × D)} (r : RK K H μ ys kvs) : ys.length = kvs.length := Paired.length r
def setS (S : Store) (o i v : D) : Option Store := match o with
  | .obj n => match S[n]? with
    | some (.lst ds) => match i with
      | .int k => (ixN ds.length k).map fun j => S.set n (.lst (ds.set j v))
      | _ => none
    | some (.dct kvs) => match keyOf i with
      | some k => if kvs.length < sizeLine then some (S.set n (.dct (putD kvs k v))) else none
      | none => none
    | _ => none
  | _ => none
def rSetD (nm : Nms) (X : Cx) : TSet := fun o i v H Q => ∃ S μ ox ix vx S', Sim nm X.K X.mg μ S H ∧ RV X.K H μ o ox ∧ RV X.K H μ i ix ∧ RV X.K H μ v vx ∧ setS S ox ix vx = some S' ∧ ∀ H', Ext μ H μ H' → Sim nm X.K X.mg μ S' H' → Q H'
theorem set_D {k : Nat} (hr : L2H.RoomH k X.A) : PSet X (rSetD nm X) := by
  intro pins s σ H o i v ov iv u Q I ro ri rv h
  obtain ⟨S, μ, ox, ix, vx, S', sm, r1, r2, r3, e, q⟩ := h
  have hun := hr.un
  unfold setS at e
  split at e
  · cases r1 with | @obj a n en =>
    split at e
    · rename_i ds hds
      split at e
      · obtain ⟨j, hj, rfl⟩ := Option.map_eq_some_iff.mp e
        cases r2
        obtain ⟨xs, e1, r⟩ := sm.ob _ _ _ en hds
        have x := Ext.wrote (H := H) (u := .lst (xs.set j v)) (List.mem_of_getElem? en) (NF.of e1)
        exact set_list pins s σ H _ _ v ov iv u Q I ro ri rv ⟨a, xs, _, j, rfl, rfl, e1, by rw [r.length]; exact hj, q _ x (sm.wrote en ⟨_, upd_same, RVs.ext x _ (r.set j r3)⟩)⟩
      · cases e
    · rename_i kvs hds
      split at e
      · rename_i k hk
        split at e
        · rename_i hl
          cases e
          have ek := keyOf_kV r2 hk
          subst ek
          obtain ⟨ys, e1, r⟩ := sm.ob _ _ _ en hds
          have x := Ext.wrote (H := H) (u := .dK (putK ys k v)) (List.mem_of_getElem? en) (NF.of e1)
          cases ro
          exact d_setItem (by omega) I (DPut.k e1 (by rw [rk_len r]; exact hl)) ri rv fun s' I' => ⟨_, I', q _ x (sm.wrote en ⟨_, upd_same, RK.ext x (put_rk r3 r)⟩)⟩
        · cases e
      · cases e
    · cases e
  · cases e
def gSb (o i : EM) : GM := fun v e S => (o e S).toS e fun x S => (i e S).toS e fun y S => match setS S x y v with
  | some S => .nx e S
  | none => .stuck
theorem mg_sub {k : Nat} (hr : L2H.RoomH k X.A) {o i : Expr} {mo mi : EM} (ho : ME nm X o mo) (hi : ME nm X i mi) (ha : ∀ v, assign (.Subscript o i pos) X.env v = (do
      let ov ← holding [v] (eval o X.env)
      let iv ← holding [v, ov] (eval i X.env)
      standAt pos
      holding [v, ov, iv] (setItem ov iv v)
      release [v, ov, iv] []) := by intro _; rfl) : MG nm X (.Subscript o i pos) (gSb mo mi) := ⟨fun W tk => (pg_sub (ho.run W tk) (hi.run W tk) (set_D hr) ha).imp fun v σ H Q h => by
  obtain ⟨d, e, S, μ, r, E, s, p⟩ := h
  refine ⟨e, S, μ, E, s, (PostS.toS E p).mono fun ox S1 μ1 H1 x1 s1 p1 vo ro => ?_⟩
  refine ⟨e, S1, μ1, E.ext x1, s1, (PostS.toS (E.ext x1) p1).mono fun ix S2 μ2 H2 x2 s2 p2 vi ri => ?_⟩
  split at p2
  · rename_i S3 hS
    exact ⟨S2, μ2, ox, ix, d, S3, s2, ro.ext x2, ri, (r.ext x1).ext x2, hS, fun H3 x3 s3 => p2 σ μ2 H3 x3 s3 (((E.ext x1).ext x2).ext x3)⟩
  · exact False.elim p2⟩
theorem gok_sb {o i : EM} : GOk (gSb o i) := fun d e S d' S' => by
  unfold gSb
  cases h1 : o e S with
  | ok x S1 =>
    rw [R.toS_ok]
    cases h2 : i e S1 with
    | ok y S2 =>
      rw [R.toS_ok]
      split <;> exact ⟨fun h => (nomatch h), fun e' => ⟨fun h => (nomatch h), fun h => (nomatch h)⟩⟩
    | exc c fs S2 => exact ⟨fun h => (nomatch h), fun e' => ⟨fun h => (nomatch h), fun h => (nomatch h)⟩⟩
    | stuck => exact ⟨fun h => (nomatch h), fun e' => ⟨fun h => (nomatch h), fun h => (nomatch h)⟩⟩
  | exc c fs S2 => exact ⟨fun h => (nomatch h), fun e' => ⟨fun h => (nomatch h), fun h => (nomatch h)⟩⟩
  | stuck => exact ⟨fun h => (nomatch h), fun e' => ⟨fun h => (nomatch h), fun h => (nomatch h)⟩⟩
def mSetI (m o i : EM) : SM := mAsg m (gSb o i)
theorem ms_setI {k : Nat} (hr : L2H.RoomH k X.A) {o i : Expr} {mo mi : EM} {pos' : Pos} (ho : ME nm X o mo) (hi : ME nm X i mi) (he : ME nm X e me) (ha : ∀ v, assign (.Subscript o i pos') X.env v = (do
      let ov ← holding [v] (eval o X.env)
      let iv ← holding [v, ov] (eval i X.env)
      standAt pos'
      holding [v, ov, iv] (setItem ov iv v)
      release [v, ov, iv] []) := by intro _; rfl) (hs : swapsWithSole [.Subscript o i pos'] e pos.line X.env = pure false := by rfl) (hw : swappedStores [.Subscript o i pos'] e X.env = pure none := by rfl)
    (h1 : (assignEach [.Subscript o i pos'] X.env).map (·.2) = [assign (.Subscript o i pos') X.env] := by rfl) : MS nm X (.Assign [.Subscript o i pos'] e pos) (mSetI me mo mi) :=
  ms_asg he (mg_sub hr ho hi ha) gok_sb hs hw h1
theorem ip_D {op : Operator} {f : Int → Int → Int} (o : OpR X (inplaceOp op) (rI0 fun i j => .int (f i j))) : OpD nm X (inplaceOp op) (fI fun i j => some (.int (f i j))) := opI0_D o
theorem i_sub : OpD nm X (inplaceOp .Sub) fSub := opI0_D iop_sub
def iAdd : Store → D → D → Option D := fun _ x y => match x, y with
  | .int i, .int j => some (.int (i + j))
  | .str a, .str b => if a.length + b.length ≤ sizeLine then some (.str (a ++ b)) else none
  | _, _ => none
theorem i_add : OpD nm X (inplaceOp .Add) iAdd := by
  intro pins s σ H x y v u Q I rv ru hh
  obtain ⟨S, μ, dx, dy, d, sm, rx, ry, e, q⟩ := hh
  unfold iAdd at e
  split at e
  · cases rx; cases ry; cases e
    exact iop_add pins s σ H _ _ v u Q I rv ru ⟨_, _, rfl, rfl, q _ μ H .refl sm (.int _)⟩
  · split at e
    · rename_i c; cases rx; cases ry; cases e
      exact iop_add_str pins s σ H _ _ v u Q I rv ru ⟨_, _, rfl, rfl, c, q _ μ H .refl sm (.str _)⟩
    · cases e
  · cases e
def mAug (i : Nat) (f : Store → D → D → Option D) (m : EM) : SM := fun e S => match e.sl[i]? with
  | some (some x) => (m e S).toS e fun y S => (lift2 f S x y).toS e fun z S => .nx (e.set i z) S
  | _ => .stuck
theorem ms_aug {is : List Nat} (i : Nat) {x : Str} {op : Operator} {f : Store → D → D → Option D} {pos' : Pos} (hN : X.N.Nodup) (hl : locAll is X.N X.env.scope = true) (ho : OpD nm X (inplaceOp op) f) (he : ME nm X e me) (hi : X.N[i]? = some x := by rfl) (hc : is.contains i = true := by rfl)
    (hf : X.fn x = true ∨ X.env.scope.names.lookup x = some .local := by first | exact .inl rfl | exact .inr rfl | assumption) : MS nm X (.AugAssign (.Name x pos') op e pos) (mAug i f me) :=
  ⟨fun W tk => (ps_aug hN hi (loc_of hl hc hi).1 (he.run W tk) (ti := rOpD nm X f) (fun pins s σ H x y v u Q I rx ry q => ho pins s σ H x y v u Q I rx ry q) hf).imp fun D σ H h => by
    obtain ⟨e, S, μ, E, s, p⟩ := h
    unfold mAug at p
    split at p
    · rename_i d hd
      obtain ⟨v, h1, r1⟩ := E.at_ i d hd
      refine ⟨v, h1, e, S, μ, E, s, (PostS.toS E p).mono fun y S1 μ1 H1 x1 s1 p1 u ru => ?_⟩
      unfold lift2 at p1
      split at p1
      · rename_i z hz
        exact ⟨S1, μ1, d, y, z, s1, r1.ext x1, ru, hz, fun w μ2 H2 x2 s2 r2 => p1 _ μ2 H2 x2 s2 (((E.ext x1).ext x2).set r2)⟩
      · exact False.elim p1
    · exact False.elim p⟩
/-- o.f op= e -/
def mAugF (c : Nat) (f : Nat) (g : Store → D → D → Option D) (o m : EM) : SM := fun e S => (o e S).toS e fun x S => match getF [c] f S x with
  | some y => (m e S).toS e fun z S => (lift2 g S y z).toS e fun w S => match putF_ [c] f S x w with
    | some S => .nx e S
    | none => .stuck
  | none => .stuck
theorem ms_augF {c : Nat} {f : Nat} {fx : Str} {op : Operator} {g : Store → D → D → Option D} {o : Expr} {mo : EM} {pos' : Pos} (h : FldOk X.K X.mg nm [c] f) (hop : OpD nm X (inplaceOp op) g) (ho : ME nm X o mo) (he : ME nm X e me) (hf : nm.fld f = fx) :
    MS nm X (.AugAssign (.Attribute o fx pos') op e pos) (mAugF c f g mo me) := by
  subst hf
  exact ⟨fun W tk => (ps_fldaug (rd := rOpD nm X g) (ho.run W tk) (he.run W tk) (fun pins s σ H x y u v Q I rx ry q => hop pins s σ H x y u v Q I rx ry q)).imp fun D σ H hh => by
    obtain ⟨e, S, μ, E, s, p⟩ := hh
    refine ⟨e, S, μ, E, s, (PostS.toS E p).mono fun d S1 μ1 H1 x1 s1 p1 v rv => ?_⟩
    split at p1
    · rename_i y hy
      unfold getF at hy
      split at hy
      · rename_i c' fs hi
        split at hy
        · rename_i hc
          have hc' : c' = c := by simpa using hc
          subst hc'
          obtain ⟨n, a, C, dx, gs, rfl, rfl, h1, h2, h3, h4, h5⟩ := insOf_at s1 rv hi
          obtain ⟨k1, k2⟩ := h.2 c' (by simp) C h3
          rcases rf_get f h.1 h5 with ⟨_, z⟩ | ⟨w, d2, z1, z2, z3⟩
          · rw [z] at hy; cases hy
          · rw [z2] at hy; cases hy
            refine ⟨a, C, dx, gs, w, rfl, h4, k1, k2, z1, e, S1, μ1, E.ext x1, s1, (PostS.toS (E.ext x1) p1).mono fun zd S2 μ2 H2 x2 s2 p2 u ru => ?_⟩
            unfold lift2 at p2
            split at p2
            · rename_i wd hw
              refine ⟨S2, μ2, _, zd, wd, s2, z3.ext x2, ru, hw, fun w' μ3 H3 x3 s3 r3 => ?_⟩
              have p3 : PostS nm X W μ3 H3 (match putF_ [c'] f S2 (.obj n) wd with | some S => RS.nx e S | none => .stuck) D := PostS.ext x3 p2
              split at p3
              · rename_i S4 hp
                obtain ⟨a', C', dx', gs', g1, g2, g3, g4, g5, g6, g7, c2, g8, g9⟩ := putF_at h s3 (rv.ext (x2.trans x3)) r3 hp
                cases g1
                have : c2 = c' := by simpa using g8
                subst this
                rw [h3] at g9
                cases g9
                exact ⟨dx', gs', g2, g5, p3 σ μ3 _ g6 g7 ((((E.ext x1).ext x2).ext x3).ext g6)⟩
              · exact False.elim p3
            · exact False.elim p2
        · cases hy
      · cases hy
    · exact False.elim p1⟩
/-- del d[k] -/
def delS (S : Store) (o i : D) : Option Store := match o with
  | .obj n => match S[n]? with
    | some (.dct kvs) => match keyOf i with
      | some k => if (getK kvs k).isSome = true then some (S.set n (.dct (dropD kvs k))) else none
      | none => none
    | _ => none
  | _ => none
def mDel (o i : EM) : SM := fun e S => (o e S).toS e fun x S => (i e S).toS e fun y S => match delS S x y with
  | some S => .nx e S
  | none => .stuck
theorem ms_del {o i : Expr} {mo mi : EM} {tpos : Pos} (ho : ME nm X o mo) (hi : ME nm X i mi) : MS nm X (.Delete [.Subscript o i tpos] pos) (mDel mo mi) := ⟨fun W tk => (ps_ddel (ho.run W tk) (hi.run W tk)).imp fun D σ H h => by
  obtain ⟨e, S, μ, E, s, p⟩ := h
  refine ⟨e, S, μ, E, s, (PostS.toS E p).mono fun ox S1 μ1 H1 x1 s1 p1 vo ro => ?_⟩
  refine ⟨e, S1, μ1, E.ext x1, s1, (PostS.toS (E.ext x1) p1).mono fun ix S2 μ2 H2 x2 s2 p2 vi ri => ?_⟩
  split at p2
  · rename_i S3 hS
    unfold delS at hS
    split at hS
    · split at hS
      · rename_i kvs hds
        split at hS
        · rename_i k hk
          split at hS
          · rename_i hg
            cases hS
            cases ro.ext x2 with | @obj a n en =>
            have ek := keyOf_kV ri hk
            obtain ⟨ys, e1, r⟩ := s2.ob _ _ _ en hds
            have x := Ext.wrote (H := H2) (u := .dK (dropK ys k)) (List.mem_of_getElem? en) (NF.of e1)
            refine ⟨a, ys, k, rfl, e1, ek, ?_, p2 σ μ2 _ x (s2.wrote en ⟨_, upd_same, RK.ext x (drop_rk r)⟩) (((E.ext x1).ext x2).ext x)⟩
            rcases getK_val k r with ⟨_, z⟩ | ⟨w, d, z1, z2, _⟩
            · rw [z] at hg; cases hg
            · rw [z1]; rfl
          · cases hS
        · cases hS
      · cases hS
    · cases hS
  · exact False.elim p2⟩
section
variable {C : Addr} {bmB : List Value} {B newId initId : String}
/-- X() -/
theorem pmk_own0 {x : Str} {p pos : Pos} (F : ExcBaseFacts B newId initId bmB) (q : PySem.W.excIn X.K C bmB newId = true) (gC : X.mg x = some (.ref C)) (kC : PySem.W.keepIn X.K (.ref C) = true) (r : Raises X (.ref C)) (hg : Gl X x)
    (hdb : (x == ("__debug__" : Str)) = false := by decide) : PMk X (.Call (.Name x p) [] [] pos) (fun _ H Q => Q (.ref C) none H) := by
  intro pins s σ H Q I h
  refine wpAny_Call_Name_kw (ld_glob I hg gC ?_ hdb)
  refine PySem.W.callWith_K0 I.kIn kC ?_
  obtain ⟨bm, N, nm, qn, bs, hdct, sn, sub, ab, col, dd, k0, k1, k2, k3, k5, mN, hC, hN, hni, T⟩ := exc_obj I.kIn q
  refine wpAny_call_exc_subT F T hC hN hni (fun h' e hm => ?_) (by show 0 ≤ sizeLine; decide)
  exact mk_of I hm r h (I.hok.gone hm.new)
end
/-- what the written part says of an exception class without own __init__ -/
def ExcOk (K : PySem.W.Frag) (mg : Str → Option Value) (x : Str) : Prop := ∃ C, mg x = some (.ref C) ∧ PySem.W.excIn K C [.type "ValueError", .type "Exception", .type "BaseException", .type "object"] "ValueError.__new__" = true ∧ PySem.W.keepIn K (.ref C) = true ∧
  PySem.W.subIn K (.ref C) (.type "BaseException") = some true ∧ PySem.W.typeIn K (.ref C) = some (.type "type")
def mRaise0 (c : Nat) : SM := fun e S => .exc c [] e S
theorem ms_raise0 {c : Nat} {x : Str} {p pos' : Pos} (h : ExcOk X.K X.mg x) (hc : X.calm = true) (hg : GlN X x) (hx : nm.cls c = x) : MS nm X (.Raise (some (.Call (.Name x p) [] [] pos')) none pos) (mRaise0 c) := by
  subst hx
  obtain ⟨C, h1, h2, h3, h4, h5⟩ := h
  exact ⟨fun W tk => (ps_raise hc tk (pmk_own0 PySem.F.excBase_ValueError h2 h1 h3 (raises_own h4 h5) hg.g hg.d)).imp fun D σ H hh => by
    obtain ⟨e, S, μ, E, s, p⟩ := hh
    exact p σ μ H C none .refl s E ⟨h1, rfl⟩⟩
/-- a raise that the proof never comes to, or any statement -/
def mNever : SM := fun _ _ => .stuck
theorem ms_never {st : Stmt} : MS nm X st mNever := ⟨fun W tk => ps_never.imp fun D σ H hh => by
  obtain ⟨e, S, μ, E, s, p⟩ := hh
  exact p⟩
def RS.clr (r : RS) : RS := match r with
  | .nx e S => .nx e.clr S
  | .bk e S => .bk e.clr S
  | .ct e S => .ct e.clr S
  | .exc c fs e S => .exc c fs e.clr S
  | r => r
@[simp] theorem RS.clr_nx (e : Ev) (S : Store) : (RS.nx e S).clr = .nx e.clr S := rfl
@[simp] theorem RS.clr_bk (e : Ev) (S : Store) : (RS.bk e S).clr = .bk e.clr S := rfl
@[simp] theorem RS.clr_ct (e : Ev) (S : Store) : (RS.ct e S).clr = .ct e.clr S := rfl
@[simp] theorem RS.clr_rt (d : D) (S : Store) : (RS.rt d S).clr = .rt d S := rfl
@[simp] theorem RS.clr_exc (c : Nat) (fs : List (Nat × D)) (e : Ev) (S : Store) : (RS.exc c fs e S).clr = .exc c fs e.clr S := rfl
@[simp] theorem RS.clr_stuck : RS.stuck.clr = .stuck := rfl
/-- which of the known classes a clause catches -/
structure Catch (K : PySem.W.Frag) (mg : Str → Option Value) (nm : Nms) (x : Str) (yes no : List Nat) : Prop where
  ex : ∃ cv, mg x = some cv ∧ (∀ c ∈ yes, ∀ C, mg (nm.cls c) = some (.ref C) → PySem.W.exmOne K (.ref C) cv = some true) ∧ (∀ c ∈ no, ∀ C, mg (nm.cls c) = some (.ref C) → PySem.W.exmOne K (.ref C) cv = some false)
/-- a body's exception, by its class -/
def RS.caught (r : RS) (yes no : List Nat) (k : Nat → List (Nat × D) → Ev → Store → RS) : RS := match r with
  | .exc c fs e S => if yes.contains c = true then k c fs e.clr S else if no.contains c = true then .exc c fs e.clr S else .stuck
  | r => r.clr
@[simp] theorem RS.caught_nx (e : Ev) (S : Store) (y n : List Nat) (k) : (RS.nx e S).caught y n k = .nx e.clr S := rfl
@[simp] theorem RS.caught_bk (e : Ev) (S : Store) (y n : List Nat) (k) : (RS.bk e S).caught y n k = .bk e.clr S := rfl
@[simp] theorem RS.caught_ct (e : Ev) (S : Store) (y n : List Nat) (k) : (RS.ct e S).caught y n k = .ct e.clr S := rfl
@[simp] theorem RS.caught_rt (d : D) (S : Store) (y n : List Nat) (k) : (RS.rt d S).caught y n k = .rt d S := rfl
@[simp] theorem RS.caught_stuck (y n : List Nat) (k) : RS.stuck.caught y n k = .stuck := rfl
@[simp] theorem RS.caught_exc (c : Nat) (fs : List (Nat × D)) (e : Ev) (S : Store) (y n : List Nat) (k) : (RS.exc c fs e S).caught y n k = if y.contains c = true then k c fs e.clr S else if n.contains c = true then .exc c fs e.clr S else .stuck := rfl
/-- a suite that raises nothing -/
def RS.nox (r : RS) : RS := match r with
  | .exc _ _ _ _ => .stuck
  | r => r.clr
@[simp] theorem RS.nox_nx (e : Ev) (S : Store) : (RS.nx e S).nox = .nx e.clr S := rfl
@[simp] theorem RS.nox_bk (e : Ev) (S : Store) : (RS.bk e S).nox = .bk e.clr S := rfl
@[simp] theorem RS.nox_ct (e : Ev) (S : Store) : (RS.ct e S).nox = .ct e.clr S := rfl
@[simp] theorem RS.nox_rt (d : D) (S : Store) : (RS.rt d S).nox = .rt d S := rfl
@[simp] theorem RS.nox_exc (c : Nat) (fs : List (Nat × D)) (e : Ev) (S : Store) : (RS.exc c fs e S).nox = .stuck := rfl
@[simp] theorem RS.nox_stuck : RS.stuck.nox = .stuck := rfl
def mTry (yes no : List Nat) (b s : SM) : SM := fun e S => (b e.clr S).caught yes no fun _ _ e S => (s e S).nox
theorem EvR.clr {X X' : Cx} {H : Hp} {μ : List Addr} {e : Ev} {σ : St} (E : EvR nm X H μ e σ) (hK : X'.K = X.K) : EvR nm X' H μ e.clr σ :=
  ⟨E.len, fun i d h => by rw [hK]; exact E.at_ i d h, fun p hp => absurd (show p ∈ ([] : List _) from hp) (by simp)⟩
/-- what is wanted with the caught exceptions forgotten holds in every other context of the same program -/
theorem PostS.back {X X' : Cx} {W : WX} {μ : List Addr} {H : Hp} {D : Ends} {r : RS} (hK : X'.K = X.K) (hm : X'.mg = X.mg) (h : PostS nm X W μ H r.clr D) : PostS nm X' W μ H r D := by
  cases r with
  | nx e S => exact fun σ' μ' H' x s E => h σ' μ' H' x (by rw [← hK, ← hm]; exact s) (E.clr hK.symm)
  | bk e S => exact fun σ' μ' H' x s E => h σ' μ' H' x (by rw [← hK, ← hm]; exact s) (E.clr hK.symm)
  | ct e S => exact fun σ' μ' H' x s E => h σ' μ' H' x (by rw [← hK, ← hm]; exact s) (E.clr hK.symm)
  | rt d S => exact fun v μ' H' x s r => h v μ' H' x (by rw [← hK, ← hm]; exact s) (by rw [← hK]; exact r)
  | exc c fs e S => exact fun σ' μ' H' C d x s E a => h σ' μ' H' C d x (by rw [← hK, ← hm]; exact s) (E.clr hK.symm) (by rw [← hK, ← hm]; exact a)
  | stuck => exact h
theorem PostS.noW {W : WX} {μ : List Addr} {H : Hp} {D : Ends} {r : RS} (h : PostS nm X W μ H r.nox D) : PostS nm X (fun _ _ _ _ => False) μ H r.clr D := by
  cases r <;> first | exact h | exact False.elim h
/-- the reading of a body or suite in a context that is not known yet -/
def rdC (nm : Nms) (X : Cx) (W : WX) (m : SM) : TS := fun D σ H => ∃ e S μ, EvR nm X H μ e σ ∧ Sim nm X.K X.mg μ S H ∧ e.ex = [] ∧ PostS nm X W μ H (m e S).clr D
theorem rdC_to (X : Cx) {X' : Cx} {W : WX} {m : SM} {D : Ends} {σ : St} {H : Hp} (hK : X'.K = X.K) (hm : X'.mg = X.mg) (h : rdC nm X W m D σ H) : rdS nm X' W m D σ H := by
  obtain ⟨e, S, μ, E, s, ee, p⟩ := h
  have E' := E.clr (X' := X') hK
  have : e.clr = e := by
    obtain ⟨a, b⟩ := e
    cases ee; rfl
  rw [this] at E'
  exact ⟨e, S, μ, E', by rw [hK, hm]; exact s, PostS.back hK hm p⟩
theorem try_rd {W : WX} {D : Ends} {σ : St} {H : Hp} {mb : SM} {yes no : List Nat} {k : Nat → List (Nat × BS.D) → Ev → Store → RS} {W' : WX} (h : rdS nm X W (fun e S => (mb e.clr S).caught yes no k) D σ H)
    (hy : ∀ c ∈ yes, ∀ fs (e : Ev) S σ' μ' H' C d, X.mg (nm.cls c) = some (.ref C) → Sim nm X.K X.mg μ' S H' → EvR nm X H' μ' e.clr σ' → ExcAt nm X.K X.mg H' μ' c fs C d → PostS nm X W μ' H' (k c fs e.clr S) D → W' (.ref C) d σ' H')
    (hn : ∀ c ∈ no, ∀ C d σ' H', X.mg (nm.cls c) = some (.ref C) → W (.ref C) d σ' H' → W' (.ref C) d σ' H') : rdC nm X W' mb D σ H := by
  obtain ⟨e, S, μ, E, s, p⟩ := h
  refine ⟨e.clr, S, μ, E.clr rfl, s, rfl, ?_⟩
  have p : PostS nm X W μ H ((mb e.clr S).caught yes no k) D := p
  cases hr : mb e.clr S with
  | nx e' S' => rw [hr] at p; exact p
  | bk e' S' => rw [hr] at p; exact p
  | ct e' S' => rw [hr] at p; exact p
  | rt d S' => rw [hr] at p; exact p
  | stuck => rw [hr] at p; exact p
  | exc c fs e' S' =>
    rw [hr, RS.caught_exc] at p
    intro σ' μ' H' C d x s' E' a
    split at p
    · rename_i hc
      exact hy c (by simpa using hc) fs e' S' σ' μ' H' C d a.1 s' E' a (PostS.ext x p)
    · split at p
      · rename_i hc
        exact hn c (by simpa using hc) C d σ' H' a.1 (p σ' μ' H' C d x s' E' a)
      · exact False.elim p
theorem ms_try {x : Str} {body suite : List Stmt} {b₀ : Stmt} {np pos' : Pos} {mb ms : SM} {yes no : List Nat} (hs : X.stack = X.env :: X.outer) (hf : X.env.frame = some X.env.locals) (hg : GlN X x) (hc : Catch X.K X.mg nm x yes no)
    (hb : ∀ (pn : List (Addr × Obj)) (xe : Value → Shared → Prop), PassesOwn (model X.prog X.w) X.A X.env xe → MB nm (X.tr pn xe) body mb)
    (hsu : ∀ (a : Addr) (oe : Obj) (pn : List (Addr × Obj)), MB nm (X.suite a ((a, oe) :: pn)) (b₀ :: suite) ms) :
    MS nm X (.Try body [.ExceptHandler (some (.Name x np)) none (b₀ :: suite) pos'] [] [] pos) (mTry yes no mb ms) := by
  obtain ⟨cv, h1, h2, h3⟩ := hc
  refine ⟨fun W tk => (ps_try_only (c := cv) (tb := fun W => rdC nm X W mb) (ts := fun a _ _ => rdC nm X (fun _ _ _ _ => False) ms) hs hf ⟨hg.g, hg.d, .inl h1⟩ tk
    (fun W' pn xe tk' hp => ((hb pn xe hp).run W' tk').imp fun D σ H hh => rdC_to X rfl rfl hh) (fun a oe cls d pn hz hv => ((hsu a oe pn).run _ takes0).imp fun D σ H hh => rdC_to X rfl rfl hh)).imp fun D σ H hh => ?_⟩
  refine try_rd hh (fun c hc fs e S σ' μ' H' C d g s E a p => ⟨true, h2 c hc C g, fun _ a na => ⟨e.clr, S, μ', E, s, rfl, PostS.noW p⟩, fun q => (nomatch q)⟩) fun c hc C d σ' H' g w => ⟨false, h3 c hc C g, fun q => (nomatch q), fun _ => w⟩
/-- n stands for the exception -/
def Ev.exn (e : Ev) (i c : Nat) (fs : List (Nat × D)) : Ev := { sl := e.sl.set i none, ex := [(i, c, fs)] }
/-- n goes -/
def RS.gone (r : RS) (i : Nat) : RS := match r with
  | .nx e S => .nx ⟨e.sl.set i none, []⟩ S
  | .bk e S => .bk ⟨e.sl.set i none, []⟩ S
  | .ct e S => .ct ⟨e.sl.set i none, []⟩ S
  | .exc _ _ _ _ => .stuck
  | r => r
@[simp] theorem RS.gone_nx (i : Nat) (e : Ev) (S : Store) : (RS.nx e S).gone i = .nx ⟨e.sl.set i none, []⟩ S := rfl
@[simp] theorem RS.gone_bk (i : Nat) (e : Ev) (S : Store) : (RS.bk e S).gone i = .bk ⟨e.sl.set i none, []⟩ S := rfl
@[simp] theorem RS.gone_ct (i : Nat) (e : Ev) (S : Store) : (RS.ct e S).gone i = .ct ⟨e.sl.set i none, []⟩ S := rfl
@[simp] theorem RS.gone_rt (i : Nat) (d : D) (S : Store) : (RS.rt d S).gone i = .rt d S := rfl
@[simp] theorem RS.gone_exc (i : Nat) (c : Nat) (fs : List (Nat × D)) (e : Ev) (S : Store) : (RS.exc c fs e S).gone i = .stuck := rfl
@[simp] theorem RS.gone_stuck (i : Nat) : RS.stuck.gone i = .stuck := rfl
def mTryAs (i : Nat) (yes no : List Nat) (b s : SM) : SM := fun e S => (b e.clr S).caught yes no fun c fs e S => if i < e.sl.length then (s (e.exn i c fs) S).gone i else .stuck
theorem EvR.unset {H : Hp} {μ : List Addr} {e : Ev} {σ : St} (i : Nat) {X' : Cx} (hK : X'.K = X.K) (E : EvR nm X H μ e σ) : EvR nm X' H μ ⟨e.sl.set i none, []⟩ (σ.set i none) := by
  refine ⟨by simp [E.len], fun j d h => ?_, fun p hp => absurd (show p ∈ ([] : List _) from hp) (by simp)⟩
  by_cases e1 : i = j
  · subst e1
    have hl : i < e.sl.length := by simpa using (List.getElem?_eq_some_iff.mp h).1
    have h : (e.sl.set i none)[i]? = some (some d) := h
    rw [List.getElem?_set_self hl] at h; cases h
  · have h : (e.sl.set i none)[j]? = some (some d) := h
    rw [List.getElem?_set_ne e1] at h
    obtain ⟨v, a, b⟩ := E.at_ j d h
    exact ⟨v, by rw [List.getElem?_set_ne e1]; exact a, by rw [hK]; exact b⟩
theorem EvR.weak {H : Hp} {μ : List Addr} {e : Ev} {σ : St} (i : Nat) (v : V) {X' : Cx} (hK : X'.K = X.K) (E : EvR nm X H μ e.clr σ) : EvR nm X' H μ ⟨e.sl.set i none, []⟩ (σ.set i (some v)) := by
  refine ⟨by have := E.len; simpa [Ev.clr] using this, fun j d h => ?_, fun p hp => absurd (show p ∈ ([] : List _) from hp) (by simp)⟩
  by_cases e1 : i = j
  · subst e1
    have hl : i < e.sl.length := by simpa using (List.getElem?_eq_some_iff.mp h).1
    have h : (e.sl.set i none)[i]? = some (some d) := h
    rw [List.getElem?_set_self hl] at h; cases h
  · have h : (e.sl.set i none)[j]? = some (some d) := h
    rw [List.getElem?_set_ne e1] at h
    obtain ⟨v, a, b⟩ := E.at_ j d h
    exact ⟨v, by rw [List.getElem?_set_ne e1]; exact a, by rw [hK]; exact b⟩
theorem ms_tryAs (i : Nat) {x n : Str} {body suite : List Stmt} {b₀ : Stmt} {np pos' : Pos} {mb ms : SM} {yes no : List Nat} (hs : X.stack = X.env :: X.outer) (hf : X.env.frame = some X.env.locals) (hN : X.N.Nodup) (hg : GlN X x) (hc : Catch X.K X.mg nm x yes no)
    (hb : ∀ (pn : List (Addr × Obj)) (xe : Value → Shared → Prop), PassesOwn (model X.prog X.w) X.A X.env xe → MB nm (X.tr pn xe) body mb)
    (hsu : ∀ (a : Addr) (oe : Obj) (pn : List (Addr × Obj)), MB nm (X.suite a ((a, oe) :: pn)) (b₀ :: suite) ms) (hln : X.env.kindOf n = some .local) (hi : X.N[i]? = some n := by rfl) :
    MS nm X (.Try body [.ExceptHandler (some (.Name x np)) (some n) (b₀ :: suite) pos'] [] [] pos) (mTryAs i yes no mb ms) := by
  obtain ⟨cv, h1, h2, h3⟩ := hc
  -- the suite's reading, at the exception's address
  let ts : Addr → Value → Option Addr → TS := fun a cls d D σ H => ∃ c fs, ∃ e : Ev, ∃ S μ C, cls = .ref C ∧ EvR nm X H μ ⟨e.sl.set i none, []⟩ σ ∧ σ[i]? = some (some (.ref a)) ∧ Sim nm X.K X.mg μ S H ∧ ExcAt nm X.K X.mg H μ c fs C d ∧
    ∀ X', X'.K = X.K → X'.mg = X.mg → PostS nm X' (fun _ _ _ _ => False) μ H (ms (e.exn i c fs) S) D
  refine ⟨fun W tk => (ps_try_as (c := cv) (tb := fun W => rdC nm X W mb) (ts := ts) hs hf hN hi hln ⟨hg.g, hg.d, .inl h1⟩ tk
    (fun W' pn xe tk' hp => ((hb pn xe hp).run W' tk').imp fun D σ H hh => rdC_to X rfl rfl hh) (fun a oe cls d pn hz hv => ((hsu a oe pn).run _ takes0).imp fun D σ H hh => ?_)).imp fun D σ H hh => ?_⟩
  · obtain ⟨c, fs, e, S, μ, C, rfl, E, ha, s, ea, p⟩ := hh
    refine ⟨e.exn i c fs, S, μ, ⟨E.len, E.at_, fun q hq => ?_⟩, s, p _ rfl rfl⟩
    rcases List.mem_singleton.mp (show q ∈ [(i, c, fs)] from hq) with rfl
    exact ⟨a, oe, C, d, ha, List.mem_cons_self, ⟨hz, hv⟩, ea⟩
  · refine try_rd hh (fun c hc fs e S σ' μ' H' C d g s E ea p => ?_) fun c hc C d σ' H' g w => ⟨false, h3 c hc C g, fun q => (nomatch q), fun _ => w⟩
    have p : PostS nm X W μ' H' (if i < e.clr.sl.length then (ms (e.clr.exn i c fs) S).gone i else .stuck) D := p
    split at p
    · rename_i hl
      have hl2 : i < σ'.length := by rw [← E.len]; exact hl
      refine ⟨true, h2 c hc C g, fun _ a na => ⟨c, fs, e.clr, S, μ', C, rfl, E.weak i _ rfl, List.getElem?_set_self hl2, s, ea, fun X' hK hm => ?_⟩, fun q => (nomatch q)⟩
      cases hr : ms (e.clr.exn i c fs) S with
      | nx e' S' => rw [hr] at p; exact fun σ2 μ2 H2 x s E => p _ μ2 H2 x (by rw [← hK, ← hm]; exact s) (E.unset i hK.symm)
      | bk e' S' => rw [hr] at p; exact fun σ2 μ2 H2 x s E => p _ μ2 H2 x (by rw [← hK, ← hm]; exact s) (E.unset i hK.symm)
      | ct e' S' => rw [hr] at p; exact fun σ2 μ2 H2 x s E => p _ μ2 H2 x (by rw [← hK, ← hm]; exact s) (E.unset i hK.symm)
      | rt d' S' => rw [hr] at p; exact fun v μ2 H2 x s r => p v μ2 H2 x (by rw [← hK, ← hm]; exact s) (by rw [← hK]; exact r)
      | exc c' fs' e' S' => rw [hr] at p; exact False.elim p
      | stuck => rw [hr] at p; exact False.elim p
    · exact False.elim p
def den (n : Nat) (m : SM) : FM := fun ds S => match m ⟨ds.map some ++ List.replicate (n - ds.length) none, []⟩ S with
  | .nx _ S => .ok .non S
  | .rt d S => .ok d S
  | .exc c fs _ S => .exc c fs S
  | _ => .stuck
theorem evr_start {H : Hp} {μ : List Addr} {N : List Str} {vs : List V} {ds : List D} (r : RVs X.K H μ vs ds) (hl : ds.length ≤ N.length) : EvR nm X H μ ⟨ds.map some ++ List.replicate (N.length - ds.length) none, []⟩ (start N vs) := by
  refine ⟨by simp [L2.start, r.length], fun i d h => ?_, fun p hp => absurd (show p ∈ ([] : List _) from hp) (by simp)⟩
  have h : (ds.map some ++ List.replicate (N.length - ds.length) none)[i]? = some (some d) := h
  by_cases hi : i < ds.length
  · rw [List.getElem?_append_left (by simpa using hi), List.getElem?_map] at h
    cases h1 : ds[i]? with
    | none => rw [h1] at h; cases h
    | some d' =>
      rw [h1] at h; cases h
      obtain ⟨v, h2, h3⟩ := r.get h1
      refine ⟨v, ?_, h3⟩
      unfold L2.start
      rw [List.getElem?_append_left (by rw [List.length_map, r.length]; exact hi), List.getElem?_map, h2]
      rfl
  · rw [List.getElem?_append_right (by simpa using Nat.le_of_not_lt hi)] at h
    obtain ⟨hlt, e⟩ := List.getElem?_eq_some_iff.mp h
    rw [List.getElem_replicate] at e
    cases e
theorem den_ok {P : Program} {w : World} {K : PySem.W.Frag} {mg : Str → Option Value} {base : Heap} {x qual : Str} {st : Stmt} {f : Addr} {fd : FuncData} {N ps : List Str} {k : Nat} {m : SM} (F : Fun K x qual st f fd) (S : FnScope N ps (defScope st))
    (hb : ∀ (cdv : Value) (A : Around) (outer : List Env) (s : Shared) (H : Hp) (E : XK), Room k (A.deeper (envOfC qual (defScope st) s.heap.objs.size f cdv)) → MB nm (cxOf (L2.CX P w) P w K mg base N qual (defScope st) f cdv A outer s H E) (defBody st) m) {V : FM} {n : Nat} (hV : den N.length m = V) (hn : ps.length = n) :
    FnOk P w K mg base (L2.CX P w) (k + 1) f fd ps (spD nm K mg n V) := by
  subst hV hn
  refine F.okX S (fun vs H Q E h => ?_) fun cdv A outer s H vs Q E hr h => ?_
  · obtain ⟨ds, S, μ, r, hl, _⟩ := h
    rw [r.length, hl]
  · obtain ⟨ds, S', μ, r, hl, sm, p⟩ := h
    refine ⟨_, (hb cdv A outer s H E hr).run (fun cls d _ H => E cls d H) (takes_of rfl rfl rfl rfl), ⟨ds.map some ++ List.replicate (N.length - ds.length) none, []⟩, S', μ, evr_start r ?_, sm, ?_⟩
    · have := congrArg List.length S.pre
      rw [List.length_take] at this
      omega
    · unfold den at p
      cases hr : m ⟨ds.map some ++ List.replicate (N.length - ds.length) none, []⟩ S' with
      | nx e S2 => rw [hr] at p; exact fun σ' μ' H' x s _ => p μ' H' x s _ .non
      | bk e S2 => rw [hr] at p; exact False.elim p
      | ct e S2 => rw [hr] at p; exact False.elim p
      | rt d S2 => rw [hr] at p; exact fun v μ' H' x s r => p μ' H' x s v r
      | exc c fs e S2 => rw [hr] at p; exact fun σ' μ' H' C d x s _ a => p μ' H' C d x s a
      | stuck => rw [hr] at p; exact False.elim p
end
end BS
namespace BS
open PySem PySem.Spec PyProof.Rows L2
section
variable {nm : Nms} {X : Cx} {pos : Pos} {e : Expr} {es : List Expr} {me : EM} {ma : AM}
def rCallD (nm : Nms) (X : Cx) (F : FM) : List V → Hp → VK → Prop := fun xs H Q => ∃ ds S μ E, RVs X.K H μ xs ds ∧ Sim nm X.K X.mg μ S H ∧ Post nm X.K X.mg μ H (F ds S) (fun d _ μ' H' => ∀ v, RV X.K H' μ' v d → Q v H') E
abbrev CallD (nm : Nms) (X : Cx) (f : Value) (F : FM) : Prop := CallR X f (rCallD nm X F)
theorem me_callB {id : String} {x : Str} {p : Pos} {F : FM} (hc : CallD nm X (.builtin id) F) (hg : GlN X x) (hm : X.mg x = none) (hv : bootBuiltins x = some (.builtin id)) (ha : MA nm X (e :: es) ma)
    (he : starEach (e :: es) X.env = (false, eval e X.env) :: starEach es X.env := by rfl) (hpl : (backTo pos (starEach es X.env)).any (·.1) = false := by rfl) : ME nm X (.Call (.Name x p) (e :: es) [] pos) (mCall F ma) :=
  ⟨fun W tk => (pe_callB hc hg.g hm hv (ha.run W tk) hg.n hg.d he hpl).imp fun σ H Q h => by
    obtain ⟨e, S, μ, E, s, q⟩ := h
    exact ⟨e, S, μ, E, s, (Post.bind q).mono fun ds S1 μ1 H1 x1 s1 p1 vs rvs => ⟨ds, S1, μ1, _, rvs, s1, p1⟩⟩⟩
theorem me_callT {T : String} {x : Str} {p : Pos} {F : FM} (hc : CallD nm X (.type T) F) (hg : GlN X x) (hm : X.mg x = none) (hv : bootBuiltins x = some (.type T)) (ha : MA nm X (e :: es) ma)
    (he : starEach (e :: es) X.env = (false, eval e X.env) :: starEach es X.env := by rfl) (hpl : (backTo pos (starEach es X.env)).any (·.1) = false := by rfl) : ME nm X (.Call (.Name x p) (e :: es) [] pos) (mCall F ma) :=
  ⟨fun W tk => (pe_callTy hc hg.g hm hv (ha.run W tk) hg.n hg.d he hpl).imp fun σ H Q h => by
    obtain ⟨e, S, μ, E, s, q⟩ := h
    exact ⟨e, S, μ, E, s, (Post.bind q).mono fun ds S1 μ1 H1 x1 s1 p1 vs rvs => ⟨ds, S1, μ1, _, rvs, s1, p1⟩⟩⟩
theorem one_rv {K : PySem.W.Frag} {H : Hp} {μ : List Addr} {xs : List V} {d : D} (r : RVs K H μ xs [d]) : ∃ v, xs = [v] ∧ RV K H μ v d := by
  cases r with | cons r t => cases t; exact ⟨_, rfl, r⟩
theorem two_rv {K : PySem.W.Frag} {H : Hp} {μ : List Addr} {xs : List V} {d d' : D} (r : RVs K H μ xs [d, d']) : ∃ v w, xs = [v, w] ∧ RV K H μ v d ∧ RV K H μ w d' := by
  cases r with | cons r t => obtain ⟨w, rfl, r'⟩ := one_rv t; exact ⟨_, _, rfl, r, r'⟩
def fnInt : FM := fun ds S => match ds with
  | [.int i] => .ok (.int i) S
  | [.bl b] => .ok (.int (if b = true then 1 else 0)) S
  | [.str a] => match PySem.intText? a with
    | some n => if a.length ≤ 640 then .ok (.int n) S else .stuck
    | none => .stuck
  | _ => .stuck
theorem c_int : CallD nm X (.type "int") fnInt := by
  intro pins s σ H xs us Q I r h
  obtain ⟨ds, S, μ, E, rv, sm, p⟩ := h
  unfold fnInt at p
  split at p
  · obtain ⟨v, rfl, r1⟩ := one_rv rv; cases r1
    exact call_int1 pins s σ H _ us Q I r (.inl ⟨_, rfl, p μ H .refl sm _ (.int _)⟩)
  · obtain ⟨v, rfl, r1⟩ := one_rv rv; cases r1
    exact call_int1 pins s σ H _ us Q I r (.inr ⟨_, rfl, p μ H .refl sm _ (.int _)⟩)
  · obtain ⟨v, rfl, r1⟩ := one_rv rv; cases r1
    split at p
    · rename_i n hn
      split at p
      · rename_i hl
        exact call_int_str pins s σ H _ us Q I r ⟨_, n, rfl, hn, hl, p μ H .refl sm _ (.int _)⟩
      · exact False.elim p
    · exact False.elim p
  · exact False.elim p
def lenS (S : Store) (d : D) : Option Nat := match d with
  | .str z => if z.length ≤ sizeLine then some z.length else none
  | _ => match seqOf S d with
    | some ds => some ds.length
    | none => (dctOf S d).map (·.length)
def fnLen : FM := fun ds S => match ds with
  | [d] => match lenS S d with
    | some n => .ok (.int n) S
    | none => .stuck
  | _ => .stuck
theorem c_len : CallD nm X (.builtin "len") fnLen := by
  intro pins s σ H xs us Q I r h
  obtain ⟨ds, S, μ, E, rv, sm, p⟩ := h
  unfold fnLen at p
  split at p
  · rename_i d
    obtain ⟨v, rfl, r1⟩ := one_rv rv
    split at p
    · rename_i n hn
      have q := p μ H .refl sm _ (.int _)
      unfold lenS at hn
      split at hn
      · split at hn
        · rename_i hl; cases hn; cases r1
          exact call_len pins s σ H _ us Q I r ⟨_, _, rfl, ⟨hl, rfl⟩, q⟩
        · cases hn
      · split at hn
        · rename_i ds hds
          cases hn
          obtain ⟨a, xs, rfl, hs, r2⟩ := seqOf_sq sm r1 hds
          refine call_len pins s σ H _ us Q I r ⟨_, _, rfl, ?_, q⟩
          rcases hs with hs | hs
          · exact .inl ⟨xs, hs, r2.length.symm⟩
          · exact .inr ⟨xs, hs, r2.length.symm⟩
        · obtain ⟨kvs, hk, rfl⟩ := Option.map_eq_some_iff.mp hn
          obtain ⟨n, a, ys, rfl, rfl, _, _, e1, r2⟩ := dctOf_at sm r1 hk
          cases r with | cons r t =>
          cases r; cases t
          exact d_len I (.inl e1) fun t s' I' => ⟨.int _, H, I', ⟨t, rfl⟩, by rw [rk_len r2]; exact q⟩
    · exact False.elim p
  · exact False.elim p
def fnList (new : Bool) : FM := fun ds S => match ds with
  | [d] => match seqOf S d with
    | some ds => fin new ds S
    | none => .stuck
  | _ => .stuck
theorem c_list (new : Bool) : CallD nm X (.type "list") (fnList new) := by
  intro pins s σ H xs us Q I r h
  obtain ⟨ds, S, μ, E, rv, sm, p⟩ := h
  unfold fnList at p
  split at p
  · obtain ⟨v, rfl, r1⟩ := one_rv rv
    split at p
    · rename_i ds hds
      obtain ⟨a, xs, rfl, hs, r2⟩ := seqOf_sq sm r1 hds
      exact call_list_of pins s σ H _ us Q I r ⟨a, xs, rfl, hs, fun l hl => fin_post sm r2 hl p⟩
    · exact False.elim p
  · exact False.elim p
def fnTuple : FM := fun ds S => match ds with
  | [.tup ds] => .ok (.tup ds) S
  | [d] => match lstOf S d with
    | some ds => .ok (.tup ds) S
    | none => .stuck
  | _ => .stuck
theorem c_tuple : CallD nm X (.type "tuple") fnTuple := by
  intro pins s σ H xs us Q I r h
  obtain ⟨ds, S, μ, E, rv, sm, p⟩ := h
  unfold fnTuple at p
  split at p
  · obtain ⟨v, rfl, r1⟩ := one_rv rv
    cases r1 with | tup t r2 =>
    exact call_tuple_of pins s σ H _ us Q I r ⟨_, _, rfl, .inr ⟨t.sq, p μ H .refl sm _ (.tup t r2)⟩⟩
  · obtain ⟨v, rfl, r1⟩ := one_rv rv
    split at p
    · rename_i ds hds
      obtain ⟨a, xs, rfl, hs, r2⟩ := lstOf_sq sm r1 hds
      exact call_tuple_of pins s σ H _ us Q I r ⟨a, xs, rfl, .inl ⟨hs, fun l hl => tup_post sm r2 hl p⟩⟩
    · exact False.elim p
  · exact False.elim p
def fnAbs : FM := fun ds S => match ds with
  | [.int i] => .ok (.int (if i < 0 then -i else i)) S
  | _ => .stuck
theorem c_abs : CallD nm X (.builtin "abs") fnAbs := by
  intro pins s σ H xs us Q I r h
  obtain ⟨ds, S, μ, E, rv, sm, p⟩ := h
  unfold fnAbs at p
  split at p
  · obtain ⟨v, rfl, r1⟩ := one_rv rv; cases r1
    exact call_abs pins s σ H _ us Q I r ⟨_, rfl, p μ H .refl sm _ (.int _)⟩
  · exact False.elim p
def fnStr : FM := fun ds S => match ds with
  | [.int i] => if i.natAbs.log2 < 1920 then .ok (.str (Str.ofString (toString i))) S else .stuck
  | _ => .stuck
theorem c_str : CallD nm X (.type "str") fnStr := by
  intro pins s σ H xs us Q I r h
  obtain ⟨ds, S, μ, E, rv, sm, p⟩ := h
  unfold fnStr at p
  split at p
  · obtain ⟨v, rfl, r1⟩ := one_rv rv; cases r1
    split at p
    · rename_i c
      exact call_str_int pins s σ H _ us Q I r ⟨_, rfl, c, p μ H .refl sm _ (.str _)⟩
    · exact False.elim p
  · exact False.elim p
def fnOrd : FM := fun ds S => match ds with
  | [.str z] => if z.length = 1 then .ok (.int (z.cps.getD 0 0 : Nat)) S else .stuck
  | _ => .stuck
theorem c_ord : CallD nm X (.builtin "ord") fnOrd := by
  intro pins s σ H xs us Q I r h
  obtain ⟨ds, S, μ, E, rv, sm, p⟩ := h
  unfold fnOrd at p
  split at p
  · obtain ⟨v, rfl, r1⟩ := one_rv rv; cases r1
    split at p
    · rename_i c
      exact call_ord pins s σ H _ us Q I r ⟨_, rfl, c, p μ H .refl sm _ (.int _)⟩
    · exact False.elim p
  · exact False.elim p
inductive Ty where
  | none | bool | int | str | tuple | list | dict
def Ty.n : Ty → String
  | .none => "NoneType" | .bool => "bool" | .int => "int" | .str => "str" | .tuple => "tuple" | .list => "list" | .dict => "dict"
def isTy (a b : Ty) : Bool := match b with
  | .none => match a with | .none => true | _ => false
  | .bool => match a with | .bool => true | _ => false
  | .int => match a with | .int => true | .bool => true | _ => false
  | .str => match a with | .str => true | _ => false
  | .tuple => match a with | .tuple => true | _ => false
  | .list => match a with | .list => true | _ => false
  | .dict => match a with | .dict => true | _ => false
theorem kitB_ty (a b : Ty) : kitB a.n b.n = some (isTy a b) := by
  cases a <;> cases b <;> decide +kernel
def tyS (S : Store) (d : D) : Option Ty := match d with
  | .non => some .none
  | .bl _ => some .bool
  | .int _ => some .int
  | .str _ => some .str
  | .tup _ => some .tuple
  | .lst _ => some .list
  | .scr _ => some .list
  | .obj n => match S[n]? with
    | some (.lst _) => some .list
    | some (.dct _) => some .dict
    | _ => none
theorem tyS_of {K : PySem.W.Frag} {mg : Str → Option Value} {H : Hp} {μ : List Addr} {S : Store} {v : V} {d : D} {t : Ty} (s : Sim nm K mg μ S H) (r : RV K H μ v d) (h : tyS S d = some t) : TyX K H v (.type t.n) := by
  unfold tyS at h
  split at h
  · cases h; cases r; exact .base .non
  · cases h; cases r; exact .base (.bl _)
  · cases h; cases r; exact .base (.int _)
  · cases h; cases r; exact .base (.str _)
  · cases h; cases r with | tup t r =>
    rcases t with ⟨_, t | ⟨o, t⟩⟩ | ⟨o, its, n, k1, k2, _⟩
    · exact .base (.tup t)
    · exact .fTuple t
    · exact .kTuple k1 k2
  · cases h; cases r with | lst t r => exact .base (.lst t.2)
  · cases h; cases r with | scr t r =>
    rcases t with ⟨_, t | ⟨o, t⟩⟩ | ⟨o, its, n, k1, k2, _⟩
    · exact .base (.lst t)
    · exact .base (.frz t)
    · exact .kList k1 k2
  · cases r with | obj e =>
    split at h
    · rename_i hds; cases h
      obtain ⟨xs, e1, _⟩ := s.ob _ _ _ e hds
      exact .base (.lst e1)
    · rename_i hds; cases h
      obtain ⟨xs, e1, _⟩ := s.ob _ _ _ e hds
      exact .base (.dK e1)
    · cases h
def mIsi (T : Ty) (a : EM) : EM := mUn (fun S d => (tyS S d).map fun t => .bl (isTy t T)) a
theorem me_isi (T : Ty) {a : Expr} {m : EM} {p p2 : Pos} {x : Str} (ha : ME nm X a m) (hg : GlN X "isinstance") (hm : X.mg "isinstance" = none) (hgT : GlN X x) (hmT : X.mg x = none) (hb : bootBuiltins "isinstance" = some (.builtin "isinstance")) (hT : bootBuiltins x = some (.type T.n))
    (he : starEach (a :: [.Name x p2]) X.env = (false, eval a X.env) :: starEach [.Name x p2] X.env := by rfl) (he2 : starEach (.Name x p2 :: []) X.env = (false, eval (.Name x p2) X.env) :: starEach [] X.env := by rfl) (hpl : (backTo pos (starEach [.Name x p2] X.env)).any (·.1) = false := by rfl) :
    ME nm X (.Call (.Name "isinstance" p) [a, .Name x p2] [] pos) (mIsi T m) := by
  refine ⟨fun W tk => (pe_callB call_isi hg.g hm hb (pa_cons (ha.run W tk) (pa_cons (pe_bltn (v := .ty T.n) hgT.g hmT hT rfl hgT.n hgT.d) pa_nil he2) he) hg.n hg.d he hpl).imp fun σ H Q hh => ?_⟩
  obtain ⟨e, S, μ, E, s, p⟩ := hh
  refine ⟨e, S, μ, E, s, (Post.bind p).mono fun d S1 μ1 H1 x1 s1 p1 v rv => ?_⟩
  split at p1
  · rename_i d' hd
    obtain ⟨t, ht, rfl⟩ := Option.map_eq_some_iff.mp hd
    exact ⟨v, .ty T.n, .type t.n, .type T.n, isTy t T, rfl, .ty _, tyS_of s1 rv ht, kit_ty (kitB_ty t T), p1 μ1 H1 .refl s1 _ (.bl _)⟩
  · exact False.elim p1
def rMtD (nm : Nms) (X : Cx) (F : FM) : V → List V → Hp → VK → Prop := fun x xs H Q => rCallD nm X F (x :: xs) H Q
abbrev MtD (nm : Nms) (X : Cx) (id : String) (F : FM) : Prop := MtR X id (rMtD nm X F)
def mBm (T : Ty) (F : FM) (o : EM) (as : AM) : EM := fun e S => (o e S).bind fun x S => match tyS S x with
  | some t => if isTy t T = true then (as e S).bind fun ds S => F (x :: ds) S else .stuck
  | none => .stuck
theorem tyV_of {K : PySem.W.Frag} {mg : Str → Option Value} {H : Hp} {μ : List Addr} {S : Store} {v : V} {d : D} {t T : Ty} (hT : T = .str ∨ T = .list ∨ T = .dict) (s : Sim nm K mg μ S H) (r : RV K H μ v d) (h : tyS S d = some t) (ht : isTy t T = true) : tyV K T.n v H := by
  have e : t = T := by
    rcases hT with rfl | rfl | rfl <;> cases t <;> first | rfl | cases ht
  subst e
  clear ht
  unfold tyS at h
  split at h
  · cases h; rcases hT with z | z | z <;> cases z
  · cases h; rcases hT with z | z | z <;> cases z
  · cases h; rcases hT with z | z | z <;> cases z
  · cases h; cases r; rfl
  · cases h; rcases hT with z | z | z <;> cases z
  · cases h; cases r with | lst t r => exact .inl ⟨rfl, _, .of t.2⟩
  · cases h; cases r with | scr t r => exact .inl ⟨rfl, _, t.sq⟩
  · cases r with | obj e =>
    split at h
    · rename_i hds; cases h
      obtain ⟨xs, e1, _⟩ := s.ob _ _ _ e hds
      exact .inl ⟨rfl, _, .of e1⟩
    · rename_i hds; cases h
      obtain ⟨xs, e1, _⟩ := s.ob _ _ _ e hds
      exact .inr (.inr (.inl ⟨rfl, .inl ⟨_, e1⟩⟩))
    · cases h
theorem me_bm {T : Ty} {id : String} {name : Str} {F : FM} {o : Expr} {mo : EM} {apos : Pos} (pa : PlainAttrs T.n) (slot : Slot T.n name id) (hty : typeOf (.builtin id) = pure (.type "method_descriptor")) (hm : MtD nm X id F) (ho : ME nm X o mo) (ha : MA nm X (e :: es) ma) (hT : T = .str ∨ T = .list ∨ T = .dict := by simp)
    (hbase : attributeBase o name X.env (eval o X.env) = eval o X.env := by rfl)
    (hfew : ((backTo pos (starEach (e :: es) X.env)).all (fun x => !x.1) && (backToKw pos (keywordEach [] X.env)).all (fun x => x.1.isSome)
      && decide ((e :: es).length + ([] : List Keyword).length + (if ([] : List Keyword).isEmpty then 0 else 1) < 30)) = true := by rfl)
    (hline : (apos.endLine == pos.line) = true := by rfl) (hs : starEach (e :: es) X.env = (false, eval e X.env) :: starEach es X.env := by rfl) (hplain : (backTo pos (starEach es X.env)).any (·.1) = false := by rfl) :
    ME nm X (.Call (.Attribute o name apos) (e :: es) [] pos) (mBm T F mo ma) := by
  refine ⟨fun W tk => ⟨fun pins s σ H Q I h => ?_⟩⟩
  obtain ⟨ev, S, μ, E, sm, q⟩ := h
  refine wpAny_Call_method_late hbase hfew hline rfl (thn ((ho.run W tk).run pins s σ H (fun x H1 => ∃ S1 μ1 d, EvR nm X H1 μ1 ev σ ∧ Sim nm X.K X.mg μ1 S1 H1 ∧ RV X.K H1 μ1 x d ∧ tyV X.K T.n x H1 ∧ PostX nm X W μ1 H1 σ ((ma ev S1).bind fun ds S => F (d :: ds) S) fun d _ μ' H' => ∀ v, RV X.K H' μ' v d → Q v H') I
    ⟨ev, S, μ, E, sm, (Post.bind q).mono fun d S1 μ1 H1 x1 s1 q1 v rv => ?_⟩) fun v s1 ⟨x, H1, I1, r1, S1, μ1, d, E1, sm1, rd, ty, q1⟩ => ?_)
  · split at q1
    · rename_i t ht
      split at q1
      · rename_i hi; exact ⟨S1, μ1, d, E.ext x1, s1, rv, tyV_of hT s1 rv ht hi, q1⟩
      · exact False.elim q1
    · exact False.elim q1
  · obtain ⟨h1, h2⟩ := tyV_is I1 r1 ty
    refine ⟨T.n, id, pa, slot, hty, h1, h2, ?_⟩
    have hA := (ha.run W tk).run pos pins s1 σ H1 (fun vs H2 => ∃ ds S2 μ2, RVs X.K H2 μ2 (x :: vs) (d :: ds) ∧ Sim nm X.K X.mg μ2 S2 H2 ∧ PostX nm X W μ2 H2 σ (F (d :: ds) S2) fun d _ μ' H' => ∀ v, RV X.K H' μ' v d → Q v H') I1
      ⟨ev, S1, μ1, E1, sm1, (Post.bind q1).mono fun ds S2 μ2 H2 x2 s2 q2 vs rvs => ⟨ds, S2, μ2, .cons (rd.ext x2) rvs, s2, q2⟩⟩
    rw [hs] at hA ⊢
    refine Calls.callWith_builtin (by show (false || (backTo pos (starEach es X.env)).any (·.1)) = false; rw [hplain] <;> rfl) (Calls.evalArgs_plain ?_)
    exact thn hA fun us s2 ⟨vs, H2, I2, r2, ds, S2, μ2, rvs, sm2, q2⟩ => hm pins s2 σ H2 x vs v us Q I2 r1 r2 ⟨d :: ds, S2, μ2, _, rvs, sm2, q2⟩
theorem me_bm0 {T : Ty} {id : String} {name : Str} {F : FM} {o : Expr} {mo : EM} {apos : Pos} (pa : PlainAttrs T.n) (slot : Slot T.n name id) (hty : typeOf (.builtin id) = pure (.type "method_descriptor")) (hm : MtD nm X id F) (ho : ME nm X o mo) (hT : T = .str ∨ T = .list ∨ T = .dict := by simp)
    (hbase : attributeBase o name X.env (eval o X.env) = eval o X.env := by rfl) (hline : (apos.endLine == pos.line) = true := by rfl) :
    ME nm X (.Call (.Attribute o name apos) [] [] pos) (mBm T F mo mNil) := by
  refine ⟨fun W tk => (pe_bm0 pa slot hty hm (ho.run W tk) hbase hline).imp fun σ H Q h => ?_⟩
  obtain ⟨e, S, μ, E, s, p⟩ := h
  refine ⟨e, S, μ, E, s, (Post.bind p).mono fun d S1 μ1 H1 x1 s1 p1 v rv => ?_⟩
  split at p1
  · rename_i t ht
    split at p1
    · rename_i hi; exact ⟨tyV_of hT s1 rv ht hi, [d], S1, μ1, _, .cons rv .nil, s1, p1⟩
    · exact False.elim p1
  · exact False.elim p1
theorem rvs_cons {K : PySem.W.Frag} {H : Hp} {μ : List Addr} {x : V} {xs : List V} {d : D} {ds : List D} (r : RVs K H μ (x :: xs) (d :: ds)) : RV K H μ x d ∧ RVs K H μ xs ds := by
  cases r with | cons r t => exact ⟨r, t⟩
/-- a list of the store is written -/
theorem lst_wr {W : WX} {σ : St} {S S' : Store} {μ : List Addr} {H : Hp} {n : Nat} {a : Addr} {xs : List V} {ds : List D} {v : V} {d : D} {E : PX} {Q : VK} (sm : Sim nm X.K X.mg μ S H) (en : μ[n]? = some a) (nf : NF H a) (r : RVs X.K H μ xs ds) (rv : RV X.K H μ v d)
    (p : Post nm X.K X.mg μ H (.ok d (S.set n (.lst ds))) (fun d _ μ' H' => ∀ v, RV X.K H' μ' v d → Q v H') E) : Q v (upd H a (.lst xs)) := by
  have x := Ext.wrote (H := H) (u := .lst xs) (List.mem_of_getElem? en) nf
  exact p μ _ x (sm.wrote en ⟨xs, upd_same, RVs.ext x _ r⟩) v (rv.ext x)
def fnAppend : FM := fun ds S => match ds with
  | [.obj n, d] => match S[n]? with
    | some (.lst ds) => if ds.length < sizeLine then .ok .non (S.set n (.lst (ds ++ [d]))) else .stuck
    | _ => .stuck
  | _ => .stuck
theorem t_append : MtD nm X "list.append" fnAppend := by
  intro pins s σ H x xs v us Q I rx r h
  obtain ⟨ds, S, μ, E, rv, sm, p⟩ := h
  unfold fnAppend at p
  split at p
  · rename_i n d
    obtain ⟨r1, rt⟩ := rvs_cons rv
    obtain ⟨w, rfl, r2⟩ := one_rv rt
    clear rt
    split at p
    · rename_i ds hds
      split at p
      · rename_i hl
        cases r1 with | @obj a _ en =>
        obtain ⟨xs, e1, rs⟩ := sm.ob _ _ _ en hds
        exact mt_append pins s σ H _ _ v us Q I rx r ⟨a, xs, w, rfl, rfl, e1, by rw [rs.length]; exact hl, lst_wr (W := fun _ _ _ _ => False) (σ := σ) (S' := S) sm en (NF.of e1) (rs.append (.cons r2 .nil)) .non p⟩
      · exact False.elim p
    · exact False.elim p
  · exact False.elim p
def fnExtend : FM := fun ds S => match ds with
  | [.obj n, d] => match S[n]? with
    | some (.lst ds) => match d with
      | .scr _ => .stuck
      | _ => match lstOf S d with
        | some es => if ds.length + es.length ≤ sizeLine then .ok .non (S.set n (.lst (ds ++ es))) else .stuck
        | none => .stuck
    | _ => .stuck
  | _ => .stuck
theorem lstOf_at {K : PySem.W.Frag} {mg : Str → Option Value} {H : Hp} {μ : List Addr} {S : Store} {v : V} {d : D} {ds : List D} (s : Sim nm K mg μ S H) (r : RV K H μ v d) (hn : ∀ l, d ≠ .scr l) (h : lstOf S d = some ds) : ∃ a xs, v = .ref a ∧ H a = some (.lst xs) ∧ RVs K H μ xs ds := by
  unfold lstOf at h
  split at h
  · cases h; cases r with | lst t r => exact ⟨_, _, rfl, t.2, r⟩
  · exact absurd rfl (hn _)
  · split at h
    · rename_i hds
      cases h
      cases r with | obj e =>
        obtain ⟨xs, e1, r⟩ := s.ob _ _ _ e hds
        exact ⟨_, xs, rfl, e1, r⟩
    · cases h
  · cases h
theorem t_extend : MtD nm X "list.extend" fnExtend := by
  intro pins s σ H x xs v us Q I rx r h
  obtain ⟨ds, S, μ, E, rv, sm, p⟩ := h
  unfold fnExtend at p
  split at p
  · rename_i n d
    obtain ⟨r1, rt⟩ := rvs_cons rv
    obtain ⟨w, rfl, r2⟩ := one_rv rt
    clear rt
    split at p
    · rename_i ds hds
      split at p
      · exact False.elim p
      · rename_i hns
        split at p
        · rename_i es hes
          split at p
          · rename_i hl
            cases r1 with | @obj a _ en =>
            obtain ⟨xs, e1, rs⟩ := sm.ob _ _ _ en hds
            obtain ⟨b, zs, rfl, e2, rs2⟩ := lstOf_at sm r2 (fun l z => hns l z) hes
            exact mt_extend pins s σ H _ _ v us Q I rx r ⟨a, b, xs, zs, rfl, rfl, e1, e2, by rw [rs.length, rs2.length]; exact hl, lst_wr (W := fun _ _ _ _ => False) (σ := σ) (S' := S) sm en (NF.of e1) (rs.append rs2) .non p⟩
          · exact False.elim p
        · exact False.elim p
    · exact False.elim p
  · exact False.elim p
/-- xs.pop(i), d.pop(k), there -/
def fnPopL : FM := fun ds S => match ds with
  | [.obj n, .int i] => match S[n]? with
    | some (.lst ds) => match ixN ds.length i with
      | some k => match ds[k]? with
        | some d => if i < 2 ^ 62 then .ok d (S.set n (.lst (ds.eraseIdx k))) else .stuck
        | none => .stuck
      | none => .stuck
    | _ => .stuck
  | _ => .stuck
theorem t_popL : MtD nm X "list.pop" fnPopL := by
  intro pins s σ H x xs v us Q I rx r h
  obtain ⟨ds, S, μ, E, rv, sm, p⟩ := h
  unfold fnPopL at p
  split at p
  · rename_i n i
    obtain ⟨r1, rt⟩ := rvs_cons rv
    obtain ⟨w, rfl, r2⟩ := one_rv rt
    clear rt rv
    cases r2
    split at p
    · rename_i ds hds
      split at p
      · rename_i k hk
        split at p
        · rename_i d hd
          split at p
          · rename_i hl
            cases r1 with | @obj a _ en =>
            obtain ⟨xs, e1, rs⟩ := sm.ob _ _ _ en hds
            obtain ⟨y, e2, ry⟩ := rs.get hd
            obtain ⟨h1, h2, h3, h4⟩ := ixN_seq hk
            have hz : xs.length ≤ sizeLine := (I.lstM e1).1
            have := rs.length
            have h63 : (sizeLine : Int) < 2 ^ 62 := by decide
            exact mt_popAt pins s σ H _ _ v us Q I rx r ⟨a, xs, i, k, y, rfl, rfl, e1, by omega, by omega, by rw [rs.length]; exact h1, e2, lst_wr (W := fun _ _ _ _ => False) (σ := σ) (S' := S) sm en (NF.of e1) (rs.eraseIdx k) ry p⟩
          · exact False.elim p
        · exact False.elim p
      · exact False.elim p
    · exact False.elim p
  · exact False.elim p
def getX (ex : List (Nat × Nat × List (Nat × D))) (i c f : Nat) : Option D := match ex with
  | [(j, c', fs)] => if j = i ∧ c' = c then getN fs f else none
  | _ => none
def mXf (i c f : Nat) : EM := fun e S => match getX e.ex i c f with
  | some d => .ok d S
  | none => .stuck
/-- what the written part says of an exception class with fields -/
def XcOk (K : PySem.W.Frag) (mg : Str → Option Value) (nm : Nms) (c f : Nat) : Prop := f < nm.most ∧ ∃ C, mg (nm.cls c) = some (.ref C) ∧ PySem.W.findIn K (.ref C) "__getattribute__" = some (some (.builtin "BaseException.__getattribute__")) ∧ PySem.W.findIn K (.ref C) "__getattr__" = some none ∧
  PySem.W.subIn K (.ref C) (.type "BaseException") = some true ∧ PySem.W.findIn K (.ref C) (nm.fld f) = some none ∧ PySem.W.hasDictIn K C = true
theorem me_xf (i c f : Nat) {n fx : Str} {p : Pos} {is : List Nat} (h : XcOk X.K X.mg nm c f) (hv : visAll is X.N X.env.scope = true) (hf : nm.fld f = fx) (hN : X.N[i]? = some n := by rfl) (hi : is.contains i = true := by rfl) (hb : attributeBase (.Name n p) fx X.env (eval (.Name n p) X.env) = eval (.Name n p) X.env := by rfl) : ME nm X (.Attribute (.Name n p) fx pos) (mXf i c f) := by
  subst hf
  obtain ⟨hv, hd, hcd⟩ := vis_of hv hi hN
  obtain ⟨hl, C, h1, h2, h3, h4, h5, h6⟩ := h
  refine ⟨fun W tk => ⟨fun pins s σ H Q I hh => ?_⟩⟩
  obtain ⟨e, S, μ, E, sm, q⟩ := hh
  unfold mXf at q
  split at q
  · rename_i d hd'
    unfold getX at hd'
    split at hd'
    · rename_i j c' fs hex
      split at hd'
      · rename_i hc
        obtain ⟨a, oe, C', dd, g1, g2, ⟨g3, vs, g4⟩, g5⟩ := E.ex (j, c', fs) (by rw [hex]; exact List.mem_cons_self)
        obtain ⟨rfl, rfl⟩ := hc
        obtain ⟨k1, k2⟩ := g5
        rw [h1] at k1
        cases k1
        cases dd with
        | none =>
          have k2 : fs = [] := k2
          subst k2
          cases hd'
        | some dx =>
          obtain ⟨gs, n1, n2, n3, _⟩ := k2
          rcases rf_get f hl n3 with ⟨_, z⟩ | ⟨w, d2, z1, z2, z3⟩
          · rw [z] at hd'; cases hd'
          · rw [z2] at hd'; cases hd'
            refine attr_of hb (thn ((pe_var hN hv hd hcd).run pins s σ H (fun x H1 => x = .ref a ∧ H1 = H) I ⟨_, g1, rfl, rfl⟩) fun u s1 hh => ?_)
            obtain ⟨x, H1, I1, rx, rfl, rfl⟩ := hh
            obtain rfl : u = Value.ref a := rx
            obtain ⟨ha, _⟩ := I1.pin (a, oe) (List.mem_append_left _ g2)
            have hx : ObjOk X.prog X.w H1 s1.heap dx (.xd gs) := I1.hok dx _ n2
            obtain ⟨mA, hns, hr⟩ := hx
            obtain ⟨od, ho, hlk⟩ := lookIn_ns hns
            obtain ⟨u, hu, ru⟩ := RelO.some_of (v := w) (o := mA (nm.fld f)) (by rw [← z1]; exact hr (nm.fld f))
            have J : PySem.W.InstAt s1.heap a oe C (some od) := ⟨ha, g3.1, by unfold PySem.W.notCls; rw [g4] <;> rfl, by rw [g3.2]; exact ho⟩
            exact HandSPX.exc_get I1.kIn J h2 h3 h4 (PySem.W.findObj_own h6 h5 rfl (by rw [hlk, hu])) (handed_of ru) ⟨w, H1, I1.tok _, ru, q μ H1 .refl sm w z3⟩
      · cases hd'
    · cases hd'
  · exact False.elim q
def spX2 (K : PySem.W.Frag) (f1 f2 : Str) : Sp := fun vs H Q _ => ∃ (a C : Addr) (y1 y2 : V), vs = [.ref a, y1, y2] ∧ OexC K C ∧ PySem.W.findIn K (.ref C) f1 = some none ∧ PySem.W.findIn K (.ref C) f2 = some none ∧ H a = some (exo a C none) ∧
  ∀ dx, H dx = none → dx ≠ a → Q .non (upd (upd (upd H dx (exd dx [(f1, y1)])) a (exo a C (some dx))) dx (exd dx [(f2, y2), (f1, y1)]))
theorem exc2_den {P : Program} {w : World} {K : PySem.W.Frag} {mg : Str → Option Value} {base : Heap} {x qual : Str} {st : Stmt} {f : Addr} {fd : FuncData} {n0 n1 n2 f1 f2 : Str} {k : Nat} (F : Fun K x qual st f fd) (S : FnScope [n0, n1, n2] [n0, n1, n2] (defScope st))
    (hb : ∀ (cdv : Value) (A : Around) (outer : List Env) (s : Shared) (H : Hp) (E : XK), PSs (cxOf (L2.CX P w) P w K mg base [n0, n1, n2] qual (defScope st) f cdv A outer s H E) (defBody st) (tSeq (tOst K f1 (tVar 0) (tVar 1)) (tOst K f2 (tVar 0) (tVar 2)))) :
    FnOk P w K mg base (L2.CX P w) (k + 1) f fd [n0, n1, n2] (spX2 K f1 f2) := by
  refine F.okX S (fun vs H Q E h => ?_) fun cdv A outer s H vs Q E hr h => ?_
  · obtain ⟨a, C, y1, y2, rfl, _⟩ := h; rfl
  · obtain ⟨a, C, y1, y2, rfl, T, g1, g2, ea, q⟩ := h
    refine ⟨_, hb cdv A outer s H E, ?_⟩
    refine ⟨y1, rfl, .ref a, rfl, a, C, rfl, T, g1, .inl ⟨ea, fun dx nd ne => ?_⟩⟩
    refine ⟨y2, rfl, .ref a, rfl, a, C, rfl, T, g2, .inr ⟨dx, [(f1, y1)], upd_same, ?_, by simp, q dx nd ne⟩⟩
    rw [upd_ne ne, upd_same]
def Exc2Ok (P : Program) (w : World) (K : PySem.W.Frag) (mg : Str → Option Value) (base : Heap) (nm : Nms) (k c f1 f2 : Nat) : Prop := ∃ C fI fd ps, mg (nm.cls c) = some (.ref C) ∧ OexC K C ∧ PySem.W.findIn K (.ref C) "__init__" = some (some (.ref fI)) ∧
  PySem.W.typeIn K (.ref fI) = some (.type "function") ∧ ps.length = 3 ∧ Binds K fd ps [] ∧ FnOk P w K mg base (L2.CX P w) k fI fd ps (spX2 K (nm.fld f1) (nm.fld f2)) ∧ PySem.W.findIn K (.ref C) (nm.fld f1) = some none ∧ PySem.W.findIn K (.ref C) (nm.fld f2) = some none ∧ f1 < nm.most ∧ f2 < nm.most
def mRaise2 (c f1 f2 : Nat) (as : AM) : SM := fun e S => (as e S).toS e fun ds S => match ds with
  | [x, y] => .exc c [(f2, y), (f1, x)] e S
  | _ => .stuck
theorem ms_raise2 {k c f1 f2 : Nat} {x : Str} {p pos' : Pos} {a b : Expr} (h : Exc2Ok X.prog X.w X.K X.mg X.base nm k c f1 f2) (hr : Room (k + 1) X.A) (hc : X.calm = true) (hg : GlN X x) (ha : MA nm X [a, b] ma) (hx : nm.cls c = x)
    (he : starEach (a :: [b]) X.env = (false, eval a X.env) :: starEach [b] X.env := by rfl) (hpl : (backTo pos' (starEach [b] X.env)).any (·.1) = false := by rfl) : MS nm X (.Raise (some (.Call (.Name x p) [a, b] [] pos')) none pos) (mRaise2 c f1 f2 ma) := by
  subst hx
  obtain ⟨C, fI, fd, ps, h1, h2, h3, h4, hps, h5, h6, h7, h8, h9, h10⟩ := h
  exact ⟨fun W tk => (ps_raise hc tk (pmk_oex h2 h3 h4 h6 hr h5 .nil passL hg.g h1 (ha.run W tk) hg.d he hpl)).imp fun D σ H hh => by
    obtain ⟨e, S, μ, E, s, p⟩ := hh
    refine ⟨e, S, μ, E, s, (post_len ha (PostS.toS E p)).mono fun ds S1 μ1 H1 x1 s1 p1 vs rvs => ?_⟩
    obtain ⟨hl, p1⟩ := p1
    split at p1
    · rename_i d1 d2
      obtain ⟨v1, v2, rfl, r1, r2⟩ := two_rv rvs
      refine ⟨by simp, fun a na => ⟨a, C, v1, v2, rfl, h2, h7, h8, upd_same, fun dx nd ne => ⟨rfl, dx, _, ?_, upd_same, ?_, ?_⟩⟩⟩
      · rw [upd_ne ne.symm, upd_same]
      · rw [upd_ne ne] at nd; exact nd
      · have nd1 : H1 dx = none := by rw [upd_ne ne] at nd; exact nd
        have hE : ∀ b, b ≠ a → b ≠ dx → upd (del (upd (upd (upd (upd H1 a (exo a C none)) dx (exd dx [(nm.fld f1, v1)])) a (exo a C (some dx))) dx (exd dx [(nm.fld f2, v2), (nm.fld f1, v1)])) a) dx (.xd [(nm.fld f2, v2), (nm.fld f1, v1)]) b = H1 b := fun b hb1 hb2 => by
          rw [upd_ne hb2, del_ne hb1, upd_ne hb2, upd_ne hb1, upd_ne hb2, upd_ne hb1]
        have x : Ext μ1 H1 μ1 (upd (del (upd (upd (upd (upd H1 a (exo a C none)) dx (exd dx [(nm.fld f1, v1)])) a (exo a C (some dx))) dx (exd dx [(nm.fld f2, v2), (nm.fld f1, v1)])) a) dx (.xd [(nm.fld f2, v2), (nm.fld f1, v1)])) :=
          ⟨⟨⟨[], by simp⟩, fun b q n => absurd q n, fun b o n hb => by rw [hE b (ne_of_none hb na) (ne_of_none hb nd1)]; exact hb⟩, fun b o u hb => by rw [hE b (ne_of_none hb na) (ne_of_none hb nd1)]; exact hb⟩
        have s2 := s1.keep x fun b hb => by
          obtain ⟨u, e1⟩ := s1.there hb
          exact hE b (ne_of_none e1 na) (ne_of_none e1 nd1)
        exact p1 σ μ1 _ C (some dx) x s2 ((E.ext x1).ext x) ⟨h1, _, s1.fresh nd1, upd_same, .cons ⟨rfl, h10, r2.ext x⟩ (.cons ⟨rfl, h9, r1.ext x⟩ .nil), by simp⟩
    · exact False.elim p1⟩
end
end BS
namespace BS
open PySem PySem.Spec PyProof.Rows L2
/-- the law's own promise -/
def spLaw (K : PySem.W.Frag) : Sp := fun vs H Q _ => ∃ (a : Addr) (ns : List Int), vs = [.ref a] ∧ SqL K H a (ns.map V.int) ∧ ns.length ≤ 63 ∧ ∀ H', Q (.bl true) H'
theorem law_end {P : Program} {w : World} {K : PySem.W.Frag} {mg : Str → Option Value} {base : Heap} {nm : Nms} {k : Nat} {fa : Addr} {fd : FuncData} {x : Str} {F : FM} (h : FnOk P w K mg base (L2.CX P w) k fa fd [x] (spD nm K mg 1 F))
    (hF : ∀ ns : List Int, ns.length ≤ 63 → ∃ S, F [.scr (ns.map .int)] [] = .ok (.bl true) S) : FnOk P w K mg base (L2.CX P w) k fa fd [x] (spLaw K) := by
  refine h.imp fun vs H Q E hh => ?_
  obtain ⟨a, ns, rfl, hs, hl, q⟩ := hh
  obtain ⟨S, e⟩ := hF ns hl
  refine ⟨[.scr (ns.map .int)], [], [], .cons (.scr ?_ (rvs_ints ns)) .nil, rfl, ⟨rfl, List.nodup_nil, fun n a o h => by simp at h⟩, ?_⟩
  · rcases hs with hs | hs
    · exact .inl ⟨by simp, hs⟩
    · exact .inr hs
  · rw [e]
    intro μ' H' x s v r
    cases r
    exact q H'
theorem walk {l : PySem.W.OpenLaw} {q : Program} {loose : List Str} {XP : (Str → Option Value) → Heap → Prop} {YP : World → Heap → Prop} {d : DefRec} {K : Params → PySem.W.Frag} {k : Nat} {x : Str} (hn : l.most = some 63) (hdf : d.params.defaults = []) (hr : Room k callerA)
    (hY : ∀ (w : World) (h : Heap), YP w h → (K w.params).In h)
    (F : ∀ (w : World) (mg : Str → Option Value) (fa : Addr) (h : Heap), (K w.params).In h → h.Ns mainGlobals mg → mg d.name = some (.ref fa) →
      ∃ fd : FuncData, (∀ (s : Shared) (u : Value), BindsTo s fd ⟨[u], []⟩ [(x, u)]) ∧ ∀ base : Heap, (K w.params).In base → base.Ns mainGlobals mg → FnOk l.prog w (K w.params) mg base (L2.CX l.prog w) k fa fd [x] (spLaw (K w.params))) :
    PySem.W.WalkO q loose XP YP l.row.toRowW d [] (fun f vs => PySem.call f vs) :=
  L2.walk_of (n := 63) (k := k) (x := x) (CX := fun w => L2.CX l.prog w) (sp := fun w => spLaw (K w.params)) hn (by decide) hdf hr hY F (fun _ _ a ns hl _ hS => ⟨a, ns, rfl, hS, hl, fun _ => rfl⟩) fun _ _ _ _ _ z => by
    obtain ⟨_, _, _, _, _, _, _, _, _, _, _, _, z⟩ := z
    exact z.elim
section
variable {P : Program} {w : World} {K : PySem.W.Frag} {mg : Str → Option Value} {base : Heap} {nm : Nms} {h : Heap}
theorem gc_int {x : Str} {i : Int} {t : Tok} (X : K.In h) (G : h.Ns mainGlobals mg) (a : PySem.W.nsIn K mainGlobals x = some (some (.int i t))) : GC K mg x (.int i) := ⟨_, .int i, PySem.W.mg_of X G a, ⟨t, rfl⟩, fun _ _ => .int i⟩
theorem gc_str {x z : Str} {t : Tok} (X : K.In h) (G : h.Ns mainGlobals mg) (a : PySem.W.nsIn K mainGlobals x = some (some (.str z t))) : GC K mg x (.str z) := ⟨_, .str z, PySem.W.mg_of X G a, ⟨t, rfl⟩, fun _ _ => .str z⟩
theorem uniq {c : Nat} {x : Str} {C C' : Addr} (hx : nm.cls c = x) (g : mg x = some (.ref C)) (g' : mg (nm.cls c) = some (.ref C')) : C' = C := by
  rw [hx, g] at g'; cases g'; rfl
theorem fld_one {c f : Nat} {x fx : Str} {C : Addr} (hl : f < nm.most) (hx : nm.cls c = x) (hf : nm.fld f = fx) (g : mg x = some (.ref C)) (k : Cls K C) (n : PySem.W.findIn K (.ref C) fx = some none) : FldOk K mg nm [c] f := by
  subst hf
  refine ⟨hl, fun c' hc C' g' => ?_⟩
  rcases List.mem_singleton.mp hc with rfl
  rw [uniq hx g g']
  exact ⟨k, n⟩
theorem fld_cons {c f : Nat} {cs : List Nat} (h1 : FldOk K mg nm [c] f) (h2 : FldOk K mg nm cs f) : FldOk K mg nm (c :: cs) f := by
  refine ⟨h1.1, fun c' hc C' g' => ?_⟩
  rcases List.mem_cons.mp hc with rfl | hc
  · exact h1.2 _ (List.mem_singleton.mpr rfl) C' g'
  · exact h2.2 _ hc C' g'
theorem catch_of {x : Str} {cv : Value} {yes no : List Nat} (g : mg x = some cv) (hy : ∀ c ∈ yes, ∀ C, mg (nm.cls c) = some (.ref C) → PySem.W.exmOne K (.ref C) cv = some true) (hn : ∀ c ∈ no, ∀ C, mg (nm.cls c) = some (.ref C) → PySem.W.exmOne K (.ref C) cv = some false) : Catch K mg nm x yes no := ⟨⟨cv, g, hy, hn⟩⟩
theorem catch_cons {cv : Value} {b : Bool} {c : Nat} {cs : List Nat} {x : Str} {C : Addr} (hx : nm.cls c = x) (g : mg x = some (.ref C)) (e : PySem.W.exmOne K (.ref C) cv = some b) (h : ∀ c ∈ cs, ∀ C, mg (nm.cls c) = some (.ref C) → PySem.W.exmOne K (.ref C) cv = some b) :
    ∀ c' ∈ c :: cs, ∀ C, mg (nm.cls c') = some (.ref C) → PySem.W.exmOne K (.ref C) cv = some b := by
  intro c' hc C' g'
  rcases List.mem_cons.mp hc with rfl | hc
  · rw [uniq hx g g']; exact e
  · exact h c' hc C' g'
theorem catch_nil {cv : Value} {b : Bool} : ∀ c' ∈ ([] : List Nat), ∀ C, mg (nm.cls c') = some (.ref C) → PySem.W.exmOne K (.ref C) cv = some b := fun _ h => by cases h
/-- no field is called m -/
def noFld (nm : Nms) (m : Str) : Bool := (List.range nm.most).all fun i => !decide (nm.fld i = m)
theorem noFld_of {m : Str} (h : noFld nm m = true) : ∀ i, i < nm.most → nm.fld i ≠ m := fun i hi => by
  have := List.all_eq_true.mp h i (List.mem_range.mpr hi)
  simpa using this
end
end BS
namespace BS
open PySem PySem.Spec PyProof.Rows L2
theorem exm_of {K : PySem.W.Frag} {S C : Addr} {b : Bool} (h1 : PySem.W.subIn K (.ref C) (.type "BaseException") = some true) (h2 : PySem.W.isClsIn K C = true) (h3 : PySem.W.typeIn K (.ref C) = some (.type "type")) (h4 : PySem.W.subIn K (.ref S) (.ref C) = some b) :
    PySem.W.exmOne K (.ref S) (.ref C) = some b := by
  have e1 : (PySem.W.subIn K (.ref C) (.type "BaseException") == some true) = true := by rw [h1] <;> rfl
  have e2 : ((PySem.W.clsIn K C).isSome && PySem.W.typeIn K (.ref C) == some (.type "type")) = true := by
    have h2' : (PySem.W.clsIn K C).isSome = true := h2
    rw [h2', h3] <;> rfl
  show (if (PySem.W.subIn K (.ref C) (.type "BaseException") == some true) = true then (if ((PySem.W.clsIn K C).isSome && PySem.W.typeIn K (.ref C) == some (.type "type")) = true then PySem.W.subIn K (.ref S) (.ref C) else none) else none) = some b
  rw [if_pos e1, if_pos e2]
  exact h4
theorem refs_own {c : Addr} {r : List Value} (h : PySem.HandSPX.refsVE r = true) : PySem.HandSPX.refsVE (.ref c :: r) = true := h
theorem refs_end : PySem.HandSPX.refsVE [.type "ValueError", .type "Exception", .type "BaseException", .type "object"] = true := by decide +kernel
section
variable {P : Program} {w : World} {K : PySem.W.Frag} {mg : Str → Option Value} {base : Heap} {nm : Nms}
theorem meth_mk {k c n : Nat} {m cx : Str} {F : FM} {C f : Addr} {fd : FuncData} {ps : List Str} (hx : nm.cls c = cx) (g : mg cx = some (.ref C)) (kc : Cls K C) (a : PySem.W.findIn K (.ref C) m = some (some (.ref f))) (i : PySem.W.isFn K (.ref f) = true) (kp : PySem.W.keepIn K (.ref f) = true)
    (hps : ps.length = n) (b : Binds K fd ps []) (o : FnOk P w K mg base (L2.CX P w) k f fd ps (spD nm K mg n F)) (nf : noFld nm m = true) : MethOk P w K mg base nm k c m n F :=
  ⟨C, f, fd, ps, by rw [hx]; exact g, kc, ⟨a, i, kp⟩, hps, b, o, noFld_of nf⟩
theorem make_mk {k c n : Nat} {cx : Str} {F : FM} {C f : Addr} {fd : FuncData} {ps : List Str} (hx : nm.cls c = cx) (g : mg cx = some (.ref C)) (mk : PySem.W.makesIn K C = true) (a : PySem.W.findIn K (.ref C) "__init__" = some (some (.ref f))) (i : PySem.W.isFn K (.ref f) = true) (kp : PySem.W.keepIn K (.ref C) = true)
    (hps : ps.length = n + 1) (b : Binds K fd ps []) (o : FnOk P w K mg base (L2.CX P w) k f fd ps (spD nm K mg (n + 1) F)) : MakeOk P w K mg base nm k c n F :=
  ⟨C, f, fd, ps, by rw [hx]; exact g, ⟨mk, a, i, kp⟩, hps, b, o⟩
theorem def_mk {k n : Nat} {x : Str} {F : FM} {f : Addr} {fd : FuncData} {ps : List Str} (g : mg x = some (.ref f)) (kp : PySem.W.keepIn K (.ref f) = true) (hps : ps.length = n) (b : Binds K fd ps []) (o : FnOk P w K mg base (L2.CX P w) k f fd ps (spD nm K mg n F)) : DefOk P w K mg base nm k x n F :=
  ⟨f, fd, ps, g, kp, hps, b, o⟩
/-- nothing is said of a def whose value is stuck -/
theorem fnok_stuck {k n : Nat} {f : Addr} {fd : FuncData} {ps : List Str} (hps : ps.length = n) : FnOk P w K mg base (L2.CX P w) k f fd ps (spD nm K mg n fun _ _ => .stuck) :=
  ⟨fun vs H Q E h => by obtain ⟨ds, S, μ, r, hl, _⟩ := h; rw [r.length, hl, hps], fun A outer s H args us vs Q E _ _ _ _ h => by obtain ⟨_, _, _, _, _, _, p⟩ := h; exact False.elim p⟩
theorem exc2_mk {k c f1 f2 : Nat} {cx x1 x2 : Str} {C fI : Addr} {fd : FuncData} {ps : List Str} (hx : nm.cls c = cx) (g : mg cx = some (.ref C)) (T : OexC K C) (a : PySem.W.findIn K (.ref C) "__init__" = some (some (.ref fI))) (t : PySem.W.typeIn K (.ref fI) = some (.type "function"))
    (hps : ps.length = 3) (b : Binds K fd ps []) (o : FnOk P w K mg base (L2.CX P w) k fI fd ps (spX2 K (nm.fld f1) (nm.fld f2))) (h1 : nm.fld f1 = x1) (h2 : nm.fld f2 = x2) (n1 : PySem.W.findIn K (.ref C) x1 = some none) (n2 : PySem.W.findIn K (.ref C) x2 = some none) (l1 : f1 < nm.most) (l2 : f2 < nm.most) : Exc2Ok P w K mg base nm k c f1 f2 :=
  ⟨C, fI, fd, ps, by rw [hx]; exact g, T, a, t, hps, b, o, by rw [h1]; exact n1, by rw [h2]; exact n2, l1, l2⟩
theorem xc_mk {c f : Nat} {cx x1 : Str} {C : Addr} (hx : nm.cls c = cx) (g : mg cx = some (.ref C)) (ga : PySem.W.findIn K (.ref C) "__getattribute__" = some (some (.builtin "BaseException.__getattribute__"))) (gg : PySem.W.findIn K (.ref C) "__getattr__" = some none) (eC : PySem.W.subIn K (.ref C) (.type "BaseException") = some true) (h1 : nm.fld f = x1)
    (n1 : PySem.W.findIn K (.ref C) x1 = some none) (hd : PySem.W.hasDictIn K C = true) (l : f < nm.most) : XcOk K mg nm c f :=
  ⟨l, C, by rw [hx]; exact g, ga, gg, eC, by rw [h1]; exact n1, hd⟩
end
end BS
namespace BS
open PySem PySem.Spec PyProof.Rows L2
section
variable {nm : Nms} {X : Cx} {tg : Expr} {e : Expr} {me : EM} {pos : Pos}
def iAll (K : PySem.W.Frag) (tl : TE) : TI := fun σ H R => tl σ H fun x H1 => (∃ y, x = .str y ∧ R (Its y) H1) ∨ (∃ a, x = .ref a ∧ (∃ xs, SqL K H1 a xs) ∧ R (Itl K a) H1) ∨ ∃ a, x = .ref a ∧ (∃ xs, SqT K H1 a xs) ∧ R (Itt K a) H1
theorem pi_all {l : Expr} {tl : TE} (hl : PE X l tl) : PI X tg l (iAll X.K tl) := by
  refine ⟨fun pins s σ H R I h => ?_⟩
  refine thn (hl.run pins s σ H _ I h) fun v s1 ⟨x, H1, I1, r1, q1⟩ => ?_
  rcases q1 with ⟨y, ex, q⟩ | ⟨a, ex, ⟨xs, hq⟩, q⟩ | ⟨a, ex, ⟨xs, hq⟩, q⟩
  · subst ex
    obtain ⟨t, rfl⟩ := r1
    cases ha : y.cps.all (· < 128)
    · exact wpAny_pyIter_wide ha (pi_one (tk := s1.toks) I1 _ (turn_str _ y t "str_iterator" (.inr rfl)) ⟨_, Heap.get?_push_size _ rfl, rfl, rfl⟩ q)
    · exact wpAny_pyIter_ascii ha (pi_one (tk := s1.toks) I1 _ (turn_str _ y t "str_ascii_iterator" (.inl rfl)) ⟨_, Heap.get?_push_size _ rfl, rfl, rfl⟩ q)
  · subst ex
    cases r1
    obtain ⟨its, rv, p, hz⟩ := I1.list hq
    refine wpAny_pyIter_list p.isList ?_
    refine ⟨s1.heap.objs.size, [s1.heap.objs.size], _, _, H1, rfl, I1.kept (t' := s1.toks) fun b o e => Heap.get?_push_of_some _ e, turn_list a _, ⟨_, Heap.get?_push_size _ rfl, rfl, rfl⟩, fun b hb => ?_, q⟩
    have e : b = s1.heap.objs.size := by simpa using hb
    subst e
    exact I1.fpOk (Nat.le_refl _) (I1.hok.fresh (Nat.le_refl _))
  · subst ex
    cases r1
    obtain ⟨its, rv, p, hz⟩ := I1.tuple hq
    refine wpAny_pyIter_tuple (show s1.heap.IsTuple a its.toArray from p) ?_
    refine ⟨s1.heap.objs.size, [s1.heap.objs.size], _, _, H1, rfl, I1.kept (t' := s1.toks) fun b o e => Heap.get?_push_of_some _ e, turn_tuple a _, ⟨_, Heap.get?_push_size _ rfl, rfl, rfl⟩, fun b hb => ?_, q⟩
    have e : b = s1.heap.objs.size := by simpa using hb
    subst e
    exact I1.fpOk (Nat.le_refl _) (I1.hok.fresh (Nat.le_refl _))
theorem signs_get (x : Str) (i : Nat) : (signs x)[i]? = x.cps[i]?.map strAt := by
  simp [signs]
theorem wok_str {x : Str} {w : Wk} {C : Hp → List Addr → Prop} (hd : w.ds = signs x) : WOk nm X (Its x) w C := by
  intro i S μ H s c g
  rw [hd]
  refine ⟨fun d e => ?_, fun h => by simpa [signs, Its] using h⟩
  rw [signs_get] at e
  obtain ⟨k, hk, rfl⟩ := Option.map_eq_some_iff.mp e
  refine ⟨(Array.getElem?_eq_some_iff.mp hk).1, fun y H' q => ?_⟩
  obtain ⟨rfl, k', hk', rfl⟩ := q
  rw [hk] at hk'; cases hk'
  exact ⟨.refl, s, .str _⟩
def wkA (S : Store) (x : D) : R Wk := match x with
  | .str y => .ok ⟨signs y, fun _ => True⟩ S
  | .tup ds => .ok ⟨ds, fun _ => True⟩ S
  | .lst ds => .ok ⟨ds, fun _ => True⟩ S
  | .scr ds => .ok ⟨ds, fun _ => True⟩ S
  | .obj n => match S[n]? with
    | some (.lst ds) => .ok ⟨ds, fun S => S[n]? = some (.lst ds)⟩ S
    | _ => .stuck
  | _ => .stuck
def iAny (m : EM) : IM := fun e S => (m e S).bind fun x S => wkA S x
theorem mi_any (h : ME nm X e me) : MI nm X tg e (iAny me) := by
  refine ⟨fun W tk => (pi_all (h.run W tk)).imp fun σ H R hh => ?_⟩
  obtain ⟨ev, S, μ, E, s, p⟩ := hh
  refine ⟨ev, S, μ, E, s, (Post.bind p).mono fun d S1 μ1 H1 x1 s1 p1 v rv => ?_⟩
  unfold wkA at p1
  split at p1
  · rename_i y
    cases rv
    exact .inl ⟨y, rfl, p1 μ1 H1 .refl s1 (Its y) (fun _ _ => True) (fun _ _ _ _ _ _ => trivial) trivial (wok_str rfl)⟩
  · rename_i ds
    cases rv with | @tup a xs _ t r =>
    exact .inr (.inr ⟨a, rfl, ⟨xs, t.sq⟩, p1 μ1 H1 .refl s1 (Itt X.K a) (fun H μ => TupAt X.K H μ a xs ∧ RVs X.K H μ xs ds) (fun μ H μ' H' x c => ⟨c.1.ext x, RVs.ext x _ c.2⟩) ⟨t, r⟩ (wok_tup (xs := xs) rfl fun S μ H s c g => ⟨xs, c.1.sq, c.2⟩)⟩)
  · rename_i ds
    cases rv with | @lst a xs _ t r =>
    exact .inr (.inl ⟨a, rfl, ⟨xs, .of t.2⟩, p1 μ1 H1 .refl s1 (Itl X.K a) (fun H μ => LstAt H μ a xs ∧ RVs X.K H μ xs ds) (fun μ H μ' H' x c => ⟨c.1.ext x, RVs.ext x _ c.2⟩) ⟨t, r⟩ (wok_list (xs := xs) rfl fun S μ H s c g => ⟨xs, .of c.1.2, c.2⟩)⟩)
  · rename_i ds
    cases rv with | @scr a xs _ t r =>
    exact .inr (.inl ⟨a, rfl, ⟨xs, t.sq⟩, p1 μ1 H1 .refl s1 (Itl X.K a) (fun H μ => ScrAt X.K H μ a xs ∧ RVs X.K H μ xs ds) (fun μ H μ' H' x c => ⟨c.1.ext x, RVs.ext x _ c.2⟩) ⟨t, r⟩ (wok_list (xs := xs) rfl fun S μ H s c g => ⟨xs, c.1.sq, c.2⟩)⟩)
  · rename_i n
    split at p1
    · rename_i ds hds
      cases rv with | @obj a _ en =>
      obtain ⟨xs, e1, r⟩ := s1.ob _ _ _ en hds
      exact .inr (.inl ⟨a, rfl, ⟨xs, .of e1⟩, p1 μ1 H1 .refl s1 (Itl X.K a) (fun H μ => μ[n]? = some a) (fun μ H μ' H' x c => x.at c) en (wok_list (xs := xs) rfl fun S μ H s c g => by
        obtain ⟨xs, e1, r⟩ := s.ob _ _ _ c g
        exact ⟨xs, .of e1, r⟩)⟩)
    · exact False.elim p1
  · exact False.elim p1
end
def txt (v : Value) : Str := match v with
  | .str x _ => x
  | _ => Str.empty
section
variable {prog : Program} {w : World} {A : Around} {E : Value → Shared → Prop} {s : Shared}
theorem two_at {a b : Str} {t u : Tok} {i : Nat} {v : Value} (h : (#[Value.str a t, Value.str b u] : Array Value)[i]? = some v) : ∃ r, v = .str (txt ((#[Value.str a t, Value.str b u] : Array Value).getD i .none)) r := by
  match i, h with
  | 0, h => simp at h; subst h; exact ⟨_, rfl⟩
  | 1, h => simp at h; subst h; exact ⟨_, rfl⟩
  | n + 2, h => simp at h
theorem lt_strR {x y : Str} {t u : Tok} {Q : Value → Shared → Prop} (h : Q (.bool (ltS x y)) s) : wpAny (model prog w) A (richCompare .Lt (.str x t) (.str y u)) Q E s :=
  richCompare_gives (op := .Lt) (typeIs_str s x t) (typeIs_str s y u) F.slot_str_lt F.entry_str_lt (F.args_str_lt_2 _ _) (gives_str_lt x y t u) (fun e => nomatch e) h
theorem gt_strR {x y : Str} {t u : Tok} {Q : Value → Shared → Prop} (h : Q (.bool (ltS y x)) s) : wpAny (model prog w) A (richCompare .Gt (.str x t) (.str y u)) Q E s :=
  richCompare_gives (op := .Gt) (typeIs_str s x t) (typeIs_str s y u) F.slot_str_gt F.entry_str_gt (F.args_str_gt_2 _ _) (gives_str_gt x y t u) (fun e => nomatch e) h
theorem cmp_ltS (a b : Str) (t u : Tok) : CmpOf prog w A .Lt (fun i v => (#[Value.str a t, Value.str b u] : Array Value)[i]? = some v) (fun i j => ltS (txt ((#[Value.str a t, Value.str b u] : Array Value).getD i .none)) (txt ((#[Value.str a t, Value.str b u] : Array Value).getD j .none))) := fun i j vi vj s Q E hi hj h => by
  obtain ⟨t1, e1⟩ := two_at hi
  obtain ⟨t2, e2⟩ := two_at hj
  rw [e1, e2]
  exact lt_strR h
theorem cmp_gtS (a b : Str) (t u : Tok) : CmpOf prog w A .Gt (fun i v => (#[Value.str a t, Value.str b u] : Array Value)[i]? = some v) (fun i j => ltS (txt ((#[Value.str a t, Value.str b u] : Array Value).getD j .none)) (txt ((#[Value.str a t, Value.str b u] : Array Value).getD i .none))) := fun i j vi vj s Q E hi hj h => by
  obtain ⟨t1, e1⟩ := two_at hi
  obtain ⟨t2, e2⟩ := two_at hj
  rw [e1, e2]
  exact gt_strR h
theorem max_two_str {a b : Str} {t u : Tok} {Q : Value → Shared → Prop} (hh : A.handled = none)
    (h : ∀ h' tk, (∀ c o, s.heap.get? c = some o → h'.get? c = some o) → Q (if ltS a b = true then .str b u else .str a t) { s with heap := h', toks := tk }) :
    wpAny (model prog w) A (call (.builtin "max") [.str a t, .str b u]) Q E s := by
  have hT : (s.heap.push { cls := .type "tuple", data := .seq #[.str a t, .str b u] }).IsTuple s.heap.objs.size #[.str a t, .str b u] := ⟨_, Heap.get?_push_size _ rfl, rfl, 0, rfl⟩
  refine call_max_two (wpAny_pyIter_tuple hT ?_)
  have hsz : (s.heap.push { cls := .type "tuple", data := .seq #[.str a t, .str b u] }).objs.size = s.heap.objs.size + 1 := Heap.size_push ..
  refine ⟨_, [_, s.heap.objs.size], [_], _, _, _, _, rfl, Walks.tuple (A := A.in1) hh _ s.heap.objs.size (by rw [hsz]; exact Nat.ne_of_lt (Nat.lt_succ_self _)) #[.str a t, .str b u],
    ⟨⟨_, Heap.get?_push_size _ rfl, rfl, rfl⟩, hT.push _⟩, fun c hc => ?_, by simp, cmp_gtS a b t u, fun v h' tk hP hk => ?_⟩
  · show c < ((s.heap.push _).push _).objs.size
    rw [Heap.size_push, hsz]
    rcases List.mem_cons.mp hc with rfl | hc
    · rw [hsz]; exact Nat.lt_succ_self _
    · rcases List.mem_cons.mp hc with rfl | hc
      · exact Nat.lt_succ_of_lt (Nat.lt_succ_self _)
      · cases hc
  · have hold : ∀ c o, s.heap.get? c = some o → h'.get? c = some o := fun c o e => by
      refine hk c o (fun hm => ?_) (Heap.get?_push_of_some _ (Heap.get?_push_of_some _ e))
      rcases List.mem_cons.mp hm with e1 | hm
      · have := Heap.lt_size e; rw [e1, hsz] at this; exact Nat.lt_irrefl _ (Nat.lt_of_succ_lt this)
      · cases hm
    have := h h' tk hold
    have hv : v = if ltS a b = true then .str b u else .str a t := by
      cases hc : ltS a b <;> simp [argBest, txt, hc] at hP <;> simp [hP]
    rw [hv]; exact this
theorem min_two_str {a b : Str} {t u : Tok} {Q : Value → Shared → Prop} (hh : A.handled = none)
    (h : ∀ h' tk, (∀ c o, s.heap.get? c = some o → h'.get? c = some o) → Q (if ltS b a = true then .str b u else .str a t) { s with heap := h', toks := tk }) :
    wpAny (model prog w) A (call (.builtin "min") [.str a t, .str b u]) Q E s := by
  have hT : (s.heap.push { cls := .type "tuple", data := .seq #[.str a t, .str b u] }).IsTuple s.heap.objs.size #[.str a t, .str b u] := ⟨_, Heap.get?_push_size _ rfl, rfl, 0, rfl⟩
  refine call_min_two (wpAny_pyIter_tuple hT ?_)
  have hsz : (s.heap.push { cls := .type "tuple", data := .seq #[.str a t, .str b u] }).objs.size = s.heap.objs.size + 1 := Heap.size_push ..
  refine ⟨_, [_, s.heap.objs.size], [_], _, _, _, _, rfl, Walks.tuple (A := A.in1) hh _ s.heap.objs.size (by rw [hsz]; exact Nat.ne_of_lt (Nat.lt_succ_self _)) #[.str a t, .str b u],
    ⟨⟨_, Heap.get?_push_size _ rfl, rfl, rfl⟩, hT.push _⟩, fun c hc => ?_, by simp, cmp_ltS a b t u, fun v h' tk hP hk => ?_⟩
  · show c < ((s.heap.push _).push _).objs.size
    rw [Heap.size_push, hsz]
    rcases List.mem_cons.mp hc with rfl | hc
    · rw [hsz]; exact Nat.lt_succ_self _
    · rcases List.mem_cons.mp hc with rfl | hc
      · exact Nat.lt_succ_of_lt (Nat.lt_succ_self _)
      · cases hc
  · have hold : ∀ c o, s.heap.get? c = some o → h'.get? c = some o := fun c o e => by
      refine hk c o (fun hm => ?_) (Heap.get?_push_of_some _ (Heap.get?_push_of_some _ e))
      rcases List.mem_cons.mp hm with e1 | hm
      · have := Heap.lt_size e; rw [e1, hsz] at this; exact Nat.lt_irrefl _ (Nat.lt_of_succ_lt this)
      · cases hm
    have := h h' tk hold
    have hv : v = if ltS b a = true then .str b u else .str a t := by
      cases hc : ltS b a <;> simp [argBest, txt, hc] at hP <;> simp [hP]
    rw [hv]; exact this
end
section
variable {nm : Nms} {X : Cx}
def fnMax2 : FM := fun ds S => match ds with
  | [.int i, .int j] => .ok (.int (if i < j then j else i)) S
  | [.str a, .str b] => .ok (.str (if ltS a b = true then b else a)) S
  | _ => .stuck
def fnMin2 : FM := fun ds S => match ds with
  | [.int i, .int j] => .ok (.int (if j < i then j else i)) S
  | [.str a, .str b] => .ok (.str (if ltS b a = true then b else a)) S
  | _ => .stuck
theorem c_max2 (hc : X.calm = true) : CallD nm X (.builtin "max") fnMax2 := by
  intro pins s σ H xs us Q I r h
  obtain ⟨ds, S, μ, E, rv, sm, p⟩ := h
  unfold fnMax2 at p
  split at p
  · obtain ⟨v, u, rfl, r1, r2⟩ := two_rv rv
    cases r1; cases r2
    exact call_max2 hc pins s σ H _ us Q I r ⟨_, _, rfl, p μ H .refl sm _ (.int _)⟩
  · obtain ⟨v, u, rfl, r1, r2⟩ := two_rv rv
    cases r1; cases r2
    obtain ⟨u, w', rfl, ⟨t, rfl⟩, ⟨t', rfl⟩⟩ := vals2 r
    rename_i a b
    refine max_two_str (I.ok.hd hc) fun h' tk k => ⟨.str (if ltS a b = true then b else a), H, I.kept k, ?_, p μ H .refl sm _ (.str _)⟩
    cases ltS a b
    · exact ⟨_, rfl⟩
    · exact ⟨_, rfl⟩
  · exact False.elim p
theorem c_min2 (hc : X.calm = true) : CallD nm X (.builtin "min") fnMin2 := by
  intro pins s σ H xs us Q I r h
  obtain ⟨ds, S, μ, E, rv, sm, p⟩ := h
  unfold fnMin2 at p
  split at p
  · obtain ⟨v, u, rfl, r1, r2⟩ := two_rv rv
    cases r1; cases r2
    exact call_min2 hc pins s σ H _ us Q I r ⟨_, _, rfl, p μ H .refl sm _ (.int _)⟩
  · obtain ⟨v, u, rfl, r1, r2⟩ := two_rv rv
    cases r1; cases r2
    obtain ⟨u, w', rfl, ⟨t, rfl⟩, ⟨t', rfl⟩⟩ := vals2 r
    rename_i a b
    refine min_two_str (I.ok.hd hc) fun h' tk k => ⟨.str (if ltS b a = true then b else a), H, I.kept k, ?_, p μ H .refl sm _ (.str _)⟩
    cases ltS b a
    · exact ⟨_, rfl⟩
    · exact ⟨_, rfl⟩
  · exact False.elim p
end
end BS
namespace BS
open PySem PySem.Spec PyProof.Rows L2
section
variable {nm : Nms} {X : Cx} {e : Expr} {me : EM} {pos : Pos}
def evalPs : List (EM × EM) → Ev → Store → R (List (D × D))
  | [], _, S => .ok [] S
  | p :: r, e, S => (p.1 e S).bind fun x S => (p.2 e S).bind fun y S => (evalPs r e S).bind fun ps S => .ok ((x, y) :: ps) S
def psNil : List (EM × EM) := []
def psCons (a b : EM) (r : List (EM × EM)) : List (EM × EM) := (a, b) :: r
def RVP (K : PySem.W.Frag) (H : Hp) (μ : List Addr) (vs : List (V × V)) (ds : List (D × D)) : Prop := Paired (fun p q => RV K H μ p.1 q.1 ∧ RV K H μ p.2 q.2) vs ds
structure MPs (nm : Nms) (X : Cx) (pos : Pos) (keys : List (Option Expr)) (values : List Expr) (ms : List (EM × EM)) : Prop where
  run : ∀ W, Takes X W → PPs X pos keys values (ms.map fun p => (rdE nm X W p.1, rdE nm X W p.2))
theorem mps_nil : MPs nm X pos [] [] psNil := ⟨fun W tk => pps_nil⟩
theorem mps_cons {k v : Expr} {ks : List (Option Expr)} {vs : List Expr} {mk mv : EM} {ms : List (EM × EM)} (hk : ME nm X k mk) (hv : ME nm X v mv) (hr : MPs nm X pos ks vs ms) : MPs nm X pos (some k :: ks) (v :: vs) (psCons mk mv ms) :=
  ⟨fun W tk => pps_cons (hk.run W tk) (hv.run W tk) (hr.run W tk)⟩
theorem tPairs_rd {W : WX} : ∀ (ms : List (EM × EM)) (σ : St) (H : Hp) (Q : List (V × V) → Hp → Prop), (∃ e S μ, EvR nm X H μ e σ ∧ Sim nm X.K X.mg μ S H ∧ PostX nm X W μ H σ (evalPs ms e S) fun ps S' μ' H' => ∀ vps, RVP X.K H' μ' vps ps → Q vps H') →
    tPairs (ms.map fun p => (rdE nm X W p.1, rdE nm X W p.2)) σ H Q
  | [], σ, H, Q, ⟨e, S, μ, E, s, p⟩ => p μ H .refl s [] .nil
  | m :: r, σ, H, Q, ⟨e, S, μ, E, s, p⟩ =>
    ⟨e, S, μ, E, s, (Post.bind p).mono fun d S1 μ1 H1 x1 s1 p1 v rv => ⟨e, S1, μ1, E.ext x1, s1, (Post.bind p1).mono fun d2 S2 μ2 H2 x2 s2 p2 u ru =>
      tPairs_rd r σ H2 _ ⟨e, S2, μ2, (E.ext x1).ext x2, s2, (Post.bind p2).mono fun ps S3 μ3 H3 x3 s3 p3 vps rps => p3 μ3 H3 .refl s3 _ (.cons ⟨(rv.ext x2).ext x3, ru.ext x3⟩ rps)⟩⟩⟩
def keysOf : List (D × D) → Option (List (Key × D))
  | [] => some []
  | p :: r => match keyOf p.1, keysOf r with
    | some k, some kvs => some ((k, p.2) :: kvs)
    | _, _ => none
theorem keysOf_rk {K : PySem.W.Frag} {H : Hp} {μ : List Addr} : ∀ {vps : List (V × V)} {ps : List (D × D)} {kvs : List (Key × D)}, RVP K H μ vps ps → keysOf ps = some kvs → ∃ ws : List (Key × V), vps = ws.map (fun kv => (kV kv.1, kv.2)) ∧ RK K H μ ws kvs
  | _, _, _, .nil, h => by cases h; exact ⟨[], rfl, .nil⟩
  | v :: vps, p :: ps, kvs, .cons r t, h => by
    unfold keysOf at h
    split at h
    · rename_i k kvs' hk hks
      cases h
      obtain ⟨ws, e1, r1⟩ := keysOf_rk t hks
      refine ⟨(k, v.2) :: ws, ?_, .cons ⟨rfl, r.2⟩ r1⟩
      rw [List.map_cons, ← e1, ← keyOf_kV r.1 hk]
    · cases h
def mergeD (kvs : List (Key × D)) : List (Key × D) := kvs.foldl (fun acc kv => putD acc kv.1 kv.2) []
theorem merge_rk {K : PySem.W.Frag} {H : Hp} {μ : List Addr} : ∀ {ws : List (Key × V)} {kvs : List (Key × D)} {acc : List (Key × V)} {acd : List (Key × D)}, RK K H μ ws kvs → RK K H μ acc acd → RK K H μ (ws.foldl (fun acc kv => putK acc kv.1 kv.2) acc) (kvs.foldl (fun acc kv => putD acc kv.1 kv.2) acd)
  | _, _, _, _, .nil, h => h
  | p :: ws, q :: kvs, acc, acd, .cons r t, h => by
    rw [List.foldl_cons, List.foldl_cons]
    refine merge_rk t ?_
    rw [← r.1]
    exact put_rk r.2 h
def mDisp (ms : List (EM × EM)) : EM := fun e S => (evalPs ms e (S ++ [.dct []])).bind fun ps S2 => match keysOf ps with
  | some kvs => match S2[S.length]? with
    | some (.dct []) => if kvs.length ≤ 15 then .ok (.obj S.length) (S2.set S.length (.dct (mergeD kvs))) else .stuck
    | _ => .stuck
  | none => .stuck
theorem me_disp {keys : List (Option Expr)} {values : List Expr} {ms : List (EM × EM)} (h : MPs nm X pos keys values ms) (hall : keys.all (·.isSome) = true := by rfl) (hl : keys.length = values.length := by rfl) (h0 : keys ≠ [] := by simp) (h15 : keys.length ≤ 15 := by decide) :
    ME nm X (.Dict keys values pos) (mDisp ms) := by
  refine ⟨fun W tk => (pe_disp (h.run W tk) hall hl h0 h15).imp fun σ H Q hh => ?_⟩
  obtain ⟨e, S, μ, E, s, p⟩ := hh
  intro q nq
  refine tPairs_rd ms σ _ _ ⟨e, S ++ [.dct []], μ ++ [q], E.ext (Ext.made s nq), made_dct s nq, ?_⟩
  refine (Post.ext (Ext.made s nq) (Post.bind p)).mono fun ps S2 μ2 H2 x2 s2 p1 vps rps => ?_
  split at p1
  · rename_i kvs hk
    split at p1
    · rename_i hS
      split at p1
      · rename_i h15
        have eq := x2.at (new_at s)
        obtain ⟨ys, e1, r1⟩ := s2.ob _ _ _ eq hS
        cases r1
        obtain ⟨ws, e2, r2⟩ := keysOf_rk rps hk
        refine ⟨e1, ws, e2, by rw [rk_len r2]; exact h15, ?_⟩
        have x := Ext.wrote (H := H2) (u := .dK (mergeK [] ws)) (List.mem_of_getElem? eq) (NF.of e1)
        exact p1 μ2 _ x (s2.wrote eq ⟨_, upd_same, RK.ext x (merge_rk r2 .nil)⟩) _ (.obj eq)
      · exact False.elim p1
    · exact False.elim p1
  · exact False.elim p1
def fnGet2 : FM := fun ds S => match ds with
  | [x, k, d] => match dctOf S x with
    | some kvs => match keyOf k with
      | some key => .ok ((getK kvs key).getD d) S
      | none => .stuck
    | none => .stuck
  | _ => .stuck
theorem t_get2 {k : Nat} (hr : L2H.RoomH k X.A) : MtD nm X "dict.get" fnGet2 := by
  intro pins s σ H x xs v us Q I rx r h
  obtain ⟨ds, S, μ, E, rv, sm, p⟩ := h
  unfold fnGet2 at p
  split at p
  · rename_i dx dk dd
    split at p
    · rename_i kvs hk
      split at p
      · rename_i key hkey
        obtain ⟨r1, rt⟩ := rvs_cons rv
        obtain ⟨y, z, rfl, r2, r3⟩ := two_rv rt
        obtain ⟨n, a, ys, rfl, rfl, _, _, e1, rk⟩ := dctOf_at sm r1 hk
        have ek := keyOf_kV r2 hkey
        subst ek
        cases rx
        obtain ⟨u, w', rfl, ru, rw'⟩ := vals2 r
        refine d_get2 (by have := hr.un; omega) I (DGet.k e1) ru rw' fun w2 s' I' rl => ⟨_, H, I', rl, ?_⟩
        rcases getK_val key rk with ⟨h1, h2⟩ | ⟨w3, d', h1, h2, h3⟩
        · rw [h1]; rw [h2] at p; exact p μ H .refl sm _ r3
        · rw [h1]; rw [h2] at p; exact p μ H .refl sm _ h3
      · exact False.elim p
    · exact False.elim p
  · exact False.elim p
def truS (S : Store) (d : D) : Option Bool := match d with
  | .non => some false
  | .bl b => some b
  | .int i => some (i != 0)
  | .str z => if z.length ≤ sizeLine then some ((z.length : Int) != 0) else none
  | _ => match seqOf S d with
    | some ds => some (!ds.isEmpty)
    | none => (dctOf S d).map fun kvs => !kvs.isEmpty
theorem emp_rvs {K : PySem.W.Frag} {H : Hp} {μ : List Addr} {xs : List V} {ds : List D} (r : RVs K H μ xs ds) : (!ds.isEmpty) = !xs.isEmpty := by
  cases r <;> rfl
theorem tru_of {S : Store} {μ : List Addr} {H : Hp} {v : V} {d : D} {b : Bool} (s : Sim nm X.K X.mg μ S H) (r : RV X.K H μ v d) (h : truS S d = some b) : TruV X.K v H b := by
  unfold truS at h
  split at h
  · cases h; cases r; exact (rfl : (false : Bool) = false)
  · cases h; cases r; exact (rfl : _ = _)
  · cases h; cases r; exact (rfl : _ = _)
  · split at h
    · cases h; cases r; exact ⟨by assumption, rfl⟩
    · cases h
  · split at h
    · rename_i ds hds
      cases h
      obtain ⟨a, xs, rfl, hs, rr⟩ := seqOf_sq s r hds
      rcases hs with hs | hs
      · exact .inl ⟨xs, hs, emp_rvs rr⟩
      · exact .inr (.inl ⟨xs, hs, emp_rvs rr⟩)
    · obtain ⟨kvs, hk, rfl⟩ := Option.map_eq_some_iff.mp h
      obtain ⟨n, a, ys, rfl, rfl, _, _, e1, rk⟩ := dctOf_at s r hk
      exact .inr (.inr ⟨ys, e1, by cases rk <;> rfl⟩)
def mTru (m : EM) : TM := fun e S => (m e S).bind fun d S => match truS S d with
  | some b => .ok b S
  | none => .stuck
theorem mt_tru {e : Expr} {m : EM} (h : ME nm X e m) (he : ∀ whole, isTrue e X.env whole = (do let v ← whole; standAt e.pos; holding [v] (truthy v)) := by intro _; rfl) : MT nm X e (mTru m) := by
  refine ⟨fun W tk => (pt_truth (h.run W tk) he).imp fun σ H Q hh => ?_⟩
  obtain ⟨e, S, μ, E, s, p⟩ := hh
  refine ⟨e, S, μ, E, s, (Post.bind p).mono fun d S1 μ1 H1 x1 s1 p1 v rv => ?_⟩
  split at p1
  · rename_i b hb
    exact ⟨b, tru_of s1 rv hb, p1 μ1 H1 .refl s1⟩
  · exact False.elim p1
/-- what a table holds: constants -/
def TV (K : PySem.W.Frag) (p : Key × D) (q : Key × Value) : Prop := p.1 = q.1 ∧ ∃ v, RelV v q.2 ∧ ∀ H μ, RV K H μ v p.2
def TC (P : Program) (w : World) (K : PySem.W.Frag) (mg : Str → Option Value) (x : Str) (kvs : List (Key × D)) : Prop :=
  ∃ (a : Addr) (o : Obj) (es : Array DictEntry) (ep : Nat) (vs : List (Key × Value)), mg x = some (.ref a) ∧ K.lookup a = some o ∧ (a == sysModules) = false ∧ o.ExactDict ∧ o.data = .dict es ep ∧ KeysOf (mixKind P w) es ∧ Pairs (mixKind P w) es.toList vs ∧ (vs.map (·.1)).Nodup ∧ Paired (TV K) kvs vs
theorem tv_get {K : PySem.W.Frag} : ∀ {kvs : List (Key × D)} {vs : List (Key × Value)} (k : Key), Paired (TV K) kvs vs → (getK kvs k = none ∧ valueAt vs k = none) ∨ ∃ d v u, getK kvs k = some d ∧ valueAt vs k = some u ∧ RelV v u ∧ ∀ H μ, RV K H μ v d
  | _, _, k, .nil => .inl ⟨rfl, rfl⟩
  | p :: kvs, q :: vs, k, .cons r t => by
    obtain ⟨e, v, r1, r2⟩ := r
    by_cases h : p.1 = k
    · refine .inr ⟨p.2, v, q.2, ?_, ?_, r1, r2⟩
      · simp [getK, h]
      · simp [valueAt, ← e, h]
    · rcases tv_get k t with ⟨h1, h2⟩ | ⟨d, v', u, h1, h2, h3⟩
      · refine .inl ⟨?_, ?_⟩
        · simp only [getK, List.find?_cons, decide_eq_false h] at h1 ⊢; exact h1
        · have h' : ¬ q.1 = k := fun z => h (e.trans z)
          simp only [valueAt, List.find?_cons, decide_eq_false h'] at h2 ⊢; exact h2
      · refine .inr ⟨d, v', u, ?_, ?_, h3⟩
        · simp only [getK, List.find?_cons, decide_eq_false h] at h1 ⊢; exact h1
        · have h' : ¬ q.1 = k := fun z => h (e.trans z)
          simp only [valueAt, List.find?_cons, decide_eq_false h'] at h2 ⊢; exact h2
theorem tab_dict {K : PySem.W.Frag} {a : Addr} {o : Obj} {es : Array DictEntry} {ep : Nat} {vs : List (Key × Value)} {pins : List (Addr × Obj)} {σ : St} {H : Hp} {s : Shared} (I : Inv X pins σ H s) (hk : X.K.lookup a = some o) (h1 : o.ExactDict) (h2 : o.data = .dict es ep) (h3 : KeysOf (mixKind X.prog X.w) es) (h4 : Pairs (mixKind X.prog X.w) es.toList vs) (h5 : (vs.map (·.1)).Nodup) :
    s.heap.DictOf (mixKind X.prog X.w) a vs := ⟨o, es, ep, I.kIn a o hk, h1, h2, h3, h4, h5⟩
def mTabIn (neg : Bool) (kvs : List (Key × D)) (m : EM) : TM := fun e S => (m e S).bind fun d S => match keyOf d with
  | some k => .ok (if neg = true then !(getK kvs k).isSome else (getK kvs k).isSome) S
  | none => .stuck
theorem tabin_core {neg : Bool} {op : CmpOp} (hop : op = if neg = true then .NotIn else .In) {kvs : List (Key × D)} {a : Addr} {o : Obj} {es : Array DictEntry} {ep : Nat} {vs : List (Key × Value)} (hk : X.K.lookup a = some o) (hs : (a == sysModules) = false) (h1 : o.ExactDict) (h2 : o.data = .dict es ep) (h3 : KeysOf (mixKind X.prog X.w) es) (h4 : Pairs (mixKind X.prog X.w) es.toList vs) (h5 : (vs.map (·.1)).Nodup) (tv : Paired (TV X.K) kvs vs) :
    OpR X (compareOp op) (fun x y H Q => y = .ref a ∧ ∃ k, x = kV k ∧ Q (.bl (if neg = true then !(getK kvs k).isSome else (getK kvs k).isSome)) H) := by
  intro pins s σ H x y v u Q I rx ry h
  obtain ⟨rfl, k, rfl, q⟩ := h
  cases ry
  have dd := tab_dict (K := X.K) I hk h1 h2 h3 h4 h5
  have e : (valueAt vs k).isSome = (getK kvs k).isSome := by
    rcases tv_get k tv with ⟨e1, e2⟩ | ⟨d, v', u, e1, e2, _⟩ <;> rw [e1, e2] <;> rfl
  subst hop
  cases neg with
  | true => exact wpAny_notIn_of (kV_is rx) hs dd.mapOf ⟨.bl _, H, I.tok _, rfl, by rw [e]; exact q⟩
  | false => exact wpAny_in_of (kV_is rx) hs dd.mapOf ⟨.bl _, H, I.tok _, rfl, by rw [e]; exact q⟩
theorem tabin_rd {neg : Bool} {kvs : List (Key × D)} {a : Addr} {W : WX} {σ : St} {H : Hp} {Q : Bool → Hp → Prop} (hh : rdT nm X W (mTabIn neg kvs me) σ H Q) :
    tTest (tOp (fun x y H Q => y = .ref a ∧ ∃ k, x = kV k ∧ Q (.bl (if neg = true then !(getK kvs k).isSome else (getK kvs k).isSome)) H) (rdE nm X W me) fun _ H Q => Q (.ref a) H) σ H Q := by
  obtain ⟨e, S, μ, E, s, p⟩ := hh
  refine ⟨e, S, μ, E, s, (Post.bind p).mono fun d S1 μ1 H1 x1 s1 p1 v rv => ?_⟩
  split at p1
  · rename_i k hk
    exact ⟨rfl, k, keyOf_kV rv hk, _, rfl, p1 μ1 H1 .refl s1⟩
  · exact False.elim p1
theorem mt_tabinN {k : Nat} {x : Str} {p : Pos} {kvs : List (Key × D)} (_ : L2H.RoomH k X.A) (h : TC X.prog X.w X.K X.mg x kvs) (hg : GlN X x) (he : ME nm X e me) (hm : behindInMarks .NotIn (.Name x p) = false := by rfl) : MT nm X (.Compare e [.NotIn] [.Name x p] pos) (mTabIn true kvs me) := by
  obtain ⟨a, o, es, ep, vs, h1, h2, h3, h4, h5, h6, h7, h8, h9⟩ := h
  exact ⟨fun W tk => (pt_cmpR (tabin_core (neg := true) rfl h2 h3 h4 h5 h6 h7 h8 h9) (he.run W tk) (pe_glob (v := .ref a) hg.g h1 rfl hg.d) hm).imp fun σ H Q hh => tabin_rd hh⟩
theorem mt_tabin {k : Nat} {x : Str} {p : Pos} {kvs : List (Key × D)} (_ : L2H.RoomH k X.A) (h : TC X.prog X.w X.K X.mg x kvs) (hg : GlN X x) (he : ME nm X e me) (hm : behindInMarks .In (.Name x p) = false := by rfl) : MT nm X (.Compare e [.In] [.Name x p] pos) (mTabIn false kvs me) := by
  obtain ⟨a, o, es, ep, vs, h1, h2, h3, h4, h5, h6, h7, h8, h9⟩ := h
  exact ⟨fun W tk => (pt_cmpR (tabin_core (neg := false) rfl h2 h3 h4 h5 h6 h7 h8 h9) (he.run W tk) (pe_glob (v := .ref a) hg.g h1 rfl hg.d) hm).imp fun σ H Q hh => tabin_rd hh⟩
def mTabGet (kvs : List (Key × D)) (m : EM) : EM := fun e S => (m e S).bind fun d S => match keyOf d with
  | some k => match getK kvs k with
    | some d => .ok d S
    | none => .stuck
  | none => .stuck
theorem me_tabget {k : Nat} {x : Str} {p : Pos} {kvs : List (Key × D)} (hr : L2H.RoomH k X.A) (h : TC X.prog X.w X.K X.mg x kvs) (hg : GlN X x) (he : ME nm X e me) (hs : PlainIx e := by exact fun _ _ => rfl) : ME nm X (.Subscript (.Name x p) e pos) (mTabGet kvs me) := by
  obtain ⟨a, o, es, ep, vs, h1, h2, h3, h4, h5, h6, h7, h8, h9⟩ := h
  refine ⟨fun W tk => ⟨fun pins s σ H Q I hh => ?_⟩⟩
  obtain ⟨ev, S, μ, E, sm, p⟩ := hh
  refine Subscript_ (thn ((pe_glob (v := .ref a) hg.g h1 rfl hg.d).run pins s σ H (fun x H1 => x = .ref a ∧ H1 = H) I ⟨rfl, rfl⟩) fun v s1 ⟨x, H1, I1, r1, q1⟩ => ?_)
  obtain ⟨rfl, rfl⟩ := q1
  cases r1
  refine thn ((he.run W tk).run pins s1 σ H1 (fun y H2 => ∃ key u v, y = kV key ∧ valueAt vs key = some u ∧ RelV v u ∧ Q v H2) I1 ⟨ev, S, μ, E, sm, (Post.bind p).mono fun d S1 μ1 H2 x1 s2 p1 v rv => ?_⟩) fun u s2 ⟨y, H2, I2, r2, q2⟩ => ?_
  · split at p1
    · rename_i key hk
      split at p1
      · rename_i d' hd
        rcases tv_get key h9 with ⟨e1, e2⟩ | ⟨d2, v', u, e1, e2, e3, e4⟩
        · rw [e1] at hd; cases hd
        · rw [e1] at hd; cases hd
          exact ⟨key, u, v', keyOf_kV rv hk, e2, e3, p1 μ1 H2 .refl s2 _ (e4 _ _)⟩
      · exact False.elim p1
    · exact False.elim p1
  · obtain ⟨key, u', v', rfl, e2, e3, q⟩ := q2
    have dd := tab_dict (K := X.K) I2 h2 h4 h5 h6 h7 h8
    exact dict_tail dd.typeIs (hs _ _) (wpAny_getItem_of (kV_is r2) dd.mapOf e2 ⟨v', H2, I2.tok _, e3, q⟩)
def lvOf (S : Store) (d : D) : Option (List D) := match d with
  | .lst ds => some ds
  | .obj n => match S[n]? with
    | some (.lst ds) => some ds
    | _ => none
  | _ => none
theorem lv_at {K : PySem.W.Frag} {mg : Str → Option Value} {H : Hp} {μ : List Addr} {S : Store} {v : V} {d : D} {ds : List D} (s : Sim nm K mg μ S H) (r : RV K H μ v d) (h : lvOf S d = some ds) : ∃ a xs, v = .ref a ∧ H a = some (.lst xs) ∧ RVs K H μ xs ds := by
  unfold lvOf at h
  split at h
  · cases h; cases r with | lst t r => exact ⟨_, _, rfl, t.2, r⟩
  · split at h
    · rename_i hds
      cases h
      cases r with | obj e =>
        obtain ⟨xs, e1, r⟩ := s.ob _ _ _ e hds
        exact ⟨_, xs, rfl, e1, r⟩
    · cases h
  · cases h
def catS (new : Bool) (S : Store) (x y : D) : R D := match lvOf S x with
  | some xs => match lvOf S y with
    | some ys => if xs.length + ys.length ≤ sizeLine then fin new (xs ++ ys) S else .stuck
    | none => .stuck
  | none => .stuck
def mCat (new : Bool) (a b : EM) : EM := fun e S => (a e S).bind fun x S => (b e S).bind fun y S => catS new S x y
theorem me_cat (new : Bool) {a b : Expr} {ma mb : EM} (ha : ME nm X a ma) (hb : ME nm X b mb) : ME nm X (.BinOp a .Add b pos) (mCat new ma mb) := by
  refine ⟨fun W tk => (pe_op op_cat (ha.run W tk) (hb.run W tk)).imp fun σ H Q h => ?_⟩
  obtain ⟨e, S, μ, E, s, p⟩ := h
  refine ⟨e, S, μ, E, s, (Post.bind p).mono fun dx S1 μ1 H1 x1 s1 p1 v rv => ?_⟩
  refine ⟨e, S1, μ1, E.ext x1, s1, (Post.bind p1).mono fun dy S2 μ2 H2 x2 s2 p2 u ru => ?_⟩
  have rv := rv.ext x2
  unfold catS at p2
  split at p2
  · rename_i xs hx
    split at p2
    · rename_i ys hy
      split at p2
      · rename_i hl
        obtain ⟨a, vs, rfl, e1, r1⟩ := lv_at s2 rv hx
        obtain ⟨b, us, rfl, e2, r2⟩ := lv_at s2 ru hy
        exact ⟨a, b, vs, us, rfl, rfl, e1, e2, by rw [r1.length, r2.length]; exact hl, fun p np => fin_post s2 (r1.append r2) np p2⟩
      · exact False.elim p2
    · exact False.elim p2
  · exact False.elim p2
theorem rvs_rep {K : PySem.W.Frag} {H : Hp} {μ : List Addr} {xs : List V} {ds : List D} (r : RVs K H μ xs ds) : ∀ n : Nat, RVs K H μ (List.replicate n xs).flatten (List.replicate n ds).flatten
  | 0 => .nil
  | n + 1 => by
    rw [List.replicate_succ, List.replicate_succ, List.flatten_cons, List.flatten_cons]
    exact r.append (rvs_rep r n)
def repS (new : Bool) (S : Store) (x y : D) : R D := match y with
  | .int k => match lvOf S x with
    | some xs => if -(2 ^ 63) ≤ k ∧ k < 2 ^ 63 ∧ xs.length * k.toNat ≤ sizeLine then fin new (List.replicate k.toNat xs).flatten S else .stuck
    | none => .stuck
  | _ => .stuck
def mRep (new : Bool) (a b : EM) : EM := fun e S => (a e S).bind fun x S => (b e S).bind fun y S => repS new S x y
theorem me_rep (new : Bool) {a b : Expr} {ma mb : EM} (ha : ME nm X a ma) (hb : ME nm X b mb) : ME nm X (.BinOp a .Mult b pos) (mRep new ma mb) := by
  refine ⟨fun W tk => (pe_op op_rep (ha.run W tk) (hb.run W tk)).imp fun σ H Q h => ?_⟩
  obtain ⟨e, S, μ, E, s, p⟩ := h
  refine ⟨e, S, μ, E, s, (Post.bind p).mono fun dx S1 μ1 H1 x1 s1 p1 v rv => ?_⟩
  refine ⟨e, S1, μ1, E.ext x1, s1, (Post.bind p1).mono fun dy S2 μ2 H2 x2 s2 p2 u ru => ?_⟩
  have rv := rv.ext x2
  unfold repS at p2
  split at p2
  · rename_i k
    split at p2
    · rename_i xs hx
      split at p2
      · rename_i hl
        obtain ⟨a, vs, rfl, e1, r1⟩ := lv_at s2 rv hx
        cases ru
        exact ⟨a, k, vs, rfl, rfl, e1, hl.1, hl.2.1, by rw [r1.length]; exact hl.2.2, fun p np => fin_post s2 (rvs_rep r1 _) np p2⟩
      · exact False.elim p2
    · exact False.elim p2
  · exact False.elim p2
/-- a table, from its entries -/
theorem tc_mk {P : Program} {w : World} {K : PySem.W.Frag} {mg : Str → Option Value} {x : Str} {a : Addr} {ep : Nat} {es : Array DictEntry} {L : List (Key × Value × Value)} {kvs : List (Key × D)} (g : mg x = some (.ref a)) (l : K.lookup a = some ⟨.type "dict", none, .dict es ep, #[]⟩)
    (he : es = (L.map fun x => (⟨keyH w x.1, x.2.1, x.2.2⟩ : DictEntry)).toArray) (z : (a == sysModules) = false) (hk : ∀ x ∈ L, keyIs x.1 x.2.1 = true) (nd : (L.map (·.1)).Nodup) (tv : Paired (TV K) kvs (L.map fun x => (x.1, x.2.2))) : TC P w K mg x kvs := by
  subst he
  refine ⟨a, _, _, ep, L.map fun x => (x.1, x.2.2), g, l, z, ⟨rfl, rfl, rfl⟩, rfl, fun e h => ?_, ?_, by rw [List.map_map]; exact nd, tv⟩
  · have h' : e ∈ L.map fun x => (⟨keyH w x.1, x.2.1, x.2.2⟩ : DictEntry) := by simpa using h
    obtain ⟨q, hq, rfl⟩ := List.mem_map.mp h'
    exact ⟨q.1, hk q hq, rfl⟩
  · have : ∀ M : List (Key × Value × Value), (∀ x ∈ M, keyIs x.1 x.2.1 = true) → Pairs (mixKind P w) (M.map fun x => (⟨keyH w x.1, x.2.1, x.2.2⟩ : DictEntry)) (M.map fun x => (x.1, x.2.2)) := by
      intro M
      induction M with
      | nil => intro _; exact .nil
      | cons q M ih => intro hM; exact .cons (hM q (by simp)) rfl (ih fun x hx => hM x (by simp [hx]))
    exact this L hk
theorem tv_int {K : PySem.W.Frag} {k : Key} {i : Int} {t : Tok} : TV K (k, .int i) (k, .int i t) := ⟨rfl, .int i, ⟨t, rfl⟩, fun _ _ => .int i⟩
theorem tv_str {K : PySem.W.Frag} {k : Key} {i : Str} {t : Tok} : TV K (k, .str i) (k, .str i t) := ⟨rfl, .str i, ⟨t, rfl⟩, fun _ _ => .str i⟩
/-- what a written tuple holds: constants -/
def CV (d : D) (q : Value) : Prop := ∃ v, RelV v q ∧ ∀ K H μ, RV K H μ v d
theorem cv_int {i : Int} {t : Tok} : CV (.int i) (.int i t) := ⟨.int i, ⟨t, rfl⟩, fun _ _ _ => .int i⟩
theorem cv_str {i : Str} {t : Tok} : CV (.str i) (.str i t) := ⟨.str i, ⟨t, rfl⟩, fun _ _ _ => .str i⟩
theorem cv_vals : ∀ {ds : List D} {qs : List Value}, Paired CV ds qs → ∃ vs, Vals vs qs ∧ ∀ K H μ, RVs K H μ vs ds
  | _, _, .nil => ⟨[], .nil, fun _ _ _ => .nil⟩
  | _, _, .cons r t => by
    obtain ⟨v, r1, r2⟩ := r
    obtain ⟨vs, h1, h2⟩ := cv_vals t
    exact ⟨v :: vs, .cons r1 h1, fun K H μ => .cons (r2 K H μ) (h2 K H μ)⟩
theorem tv_tup {K : PySem.W.Frag} {k : Key} {a : Addr} {n : Nat} {ds : List D} {qs : List Value} (l : K.lookup a = some ⟨.type "tuple", none, .seq qs.toArray n, #[]⟩) (c : Paired CV ds qs) (h : qs.length ≤ 100 := by simp) : TV K (k, .tup ds) (k, .ref a) := by
  obtain ⟨vs, h1, h2⟩ := cv_vals c
  exact ⟨rfl, .ref a, rfl, fun H μ => .tup (.inr ⟨_, _, n, l, rfl, rfl, by simp; exact Nat.le_trans h (by decide), by simpa using h1⟩) (h2 K H μ)⟩
end
end BS
namespace BS
open PySem PySem.Spec PyProof.Rows L2
def wipeD (l : List (Option D)) : List Nat → List (Option D)
  | [] => l
  | v :: vs => (wipeD l vs).set v none
def Ev.wip (e : Ev) (vs : List Nat) : Ev := ⟨wipeD e.sl vs, []⟩
@[simp] theorem Ev.wip_mk (l : List (Option D)) (vs : List Nat) : Ev.wip ⟨l, []⟩ vs = ⟨wipeD l vs, []⟩ := rfl
@[simp] theorem wipeD_nil (l : List (Option D)) : wipeD l [] = l := rfl
@[simp] theorem wipeD_cons (l : List (Option D)) (v : Nat) (vs : List Nat) : wipeD l (v :: vs) = (wipeD l vs).set v none := rfl
theorem wipeD_len (l : List (Option D)) : ∀ vs, (wipeD l vs).length = l.length
  | [] => rfl
  | v :: vs => by rw [wipeD_cons, List.length_set, wipeD_len l vs]
theorem wipeD_some {l : List (Option D)} {i : Nat} {d : D} : ∀ {vs : List Nat}, (wipeD l vs)[i]? = some (some d) → l[i]? = some (some d) ∧ i ∉ vs
  | [], h => ⟨h, by simp⟩
  | v :: vs, h => by
    rw [wipeD_cons] at h
    by_cases hi : v = i
    · subst hi
      by_cases hv : v < (wipeD l vs).length
      · rw [List.getElem?_set_self hv] at h; cases h
      · rw [List.getElem?_eq_none (by simpa using hv)] at h; cases h
    · rw [List.getElem?_set_ne hi] at h
      obtain ⟨h1, h2⟩ := wipeD_some h
      exact ⟨h1, by simp only [List.mem_cons, not_or]; exact ⟨fun e => hi e.symm, h2⟩⟩
def setAll {α : Type} (l : List (Option α)) : List Nat → List α → List (Option α)
  | i :: is, x :: xs => setAll (l.set i (some x)) is xs
  | _, _ => l
@[simp] theorem setAll_nil {α : Type} (l : List (Option α)) (xs : List α) : setAll l [] xs = l := by cases xs <;> rfl
@[simp] theorem setAll_cons {α : Type} (l : List (Option α)) (i : Nat) (is : List Nat) (x : α) (xs : List α) : setAll l (i :: is) (x :: xs) = setAll (l.set i (some x)) is xs := rfl
theorem wipe_in {σ : St} {i : Nat} : ∀ {vs : List Nat}, i ∈ vs → (wipe σ vs)[i]? = if i < σ.length then some none else none
  | v :: vs, h => by
    unfold wipe
    by_cases hi : v = i
    · subst hi
      rw [List.getElem?_set]
      simp [wipe_length]
    · rw [List.getElem?_set_ne hi]
      have h' : i ∈ vs := by
        rcases List.mem_cons.mp h with z | z
        · exact absurd z.symm hi
        · exact z
      exact wipe_in h'
theorem wipe_ext {σ σ' : St} {vs : List Nat} (hl : σ.length = σ'.length) (h : ∀ i, i ∉ vs → σ[i]? = σ'[i]?) : wipe σ vs = wipe σ' vs := by
  refine List.ext_getElem? fun i => ?_
  by_cases hi : i ∈ vs
  · rw [wipe_in hi, wipe_in hi, hl]
  · rw [wipe_out hi, wipe_out hi, h i hi]
theorem setAll_len {α : Type} : ∀ (is : List Nat) (l : List (Option α)) (xs : List α), (setAll l is xs).length = l.length
  | [], l, xs => by rw [setAll_nil]
  | i :: is, l, [] => rfl
  | i :: is, l, x :: xs => by rw [setAll_cons, setAll_len is, List.length_set]
theorem setAll_out {α : Type} {j : Nat} : ∀ (is : List Nat) (l : List (Option α)) (xs : List α), j ∉ is → (setAll l is xs)[j]? = l[j]?
  | [], l, xs, _ => by rw [setAll_nil]
  | i :: is, l, [], _ => rfl
  | i :: is, l, x :: xs, h => by
    rw [setAll_cons, setAll_out is _ xs (fun z => h (by simp [z])), List.getElem?_set_ne (fun z => h (by simp [z]))]
theorem wipe_setAll {σ : St} {vs is : List Nat} (xs : List V) (hs : ∀ i ∈ is, i ∈ vs) : wipe (setAll (wipe σ vs) is xs) vs = wipe σ vs := by
  refine wipe_ext (by rw [setAll_len, wipe_length]) fun i hi => ?_
  rw [setAll_out is _ xs (fun z => hi (hs i z)), wipe_out hi]
section
variable {nm : Nms} {X : Cx}
theorem evr_wip {X' : Cx} {H : Hp} {μ : List Addr} {e : Ev} {σ : St} (hK : X'.K = X.K) (vs : List Nat) (E : EvR nm X H μ e σ) : EvR nm X' H μ (e.wip vs) (wipe σ vs) := by
  refine ⟨by show (wipeD e.sl vs).length = _; rw [wipeD_len, wipe_length, E.len], fun i d h => ?_, fun p hp => absurd (show p ∈ ([] : List _) from hp) (by simp)⟩
  obtain ⟨h1, h2⟩ := wipeD_some h
  obtain ⟨v, hv, r⟩ := E.at_ i d h1
  exact ⟨v, by rw [wipe_out h2]; exact hv, by rw [hK]; exact r⟩
theorem evr_setAll {H : Hp} {μ : List Addr} : ∀ (is : List Nat) {l : List (Option D)} {σ : St} {xs : List V} {ds : List D}, RVs X.K H μ xs ds → EvR nm X H μ ⟨l, []⟩ σ → EvR nm X H μ ⟨setAll l is ds, []⟩ (setAll σ is xs)
  | [], l, σ, xs, ds, r, E => by rw [setAll_nil, setAll_nil]; exact E
  | i :: is, l, σ, _, _, .nil, E => E
  | i :: is, l, σ, _, _, .cons r t, E => by
    rw [setAll_cons, setAll_cons]
    exact evr_setAll is t (E.set r)
inductive LT where
  | one (i : Nat) | many (is : List Nat)
def LT.ix (t : LT) : List Nat := match t with
  | .one i => [i]
  | .many is => is
@[simp] theorem LT.ix_one (i : Nat) : (LT.one i).ix = [i] := rfl
@[simp] theorem LT.ix_many (is : List Nat) : (LT.many is).ix = is := rfl
def LT.items (t : LT) (d : D) : Option (List D) := match t with
  | .one _ => some [d]
  | .many is => match tupOf d with
    | some ds => if ds.length = is.length then some ds else none
    | none => none
def gNs : List Nat → TGs
  | [] => gNil
  | i :: is => gCons (gName i) (gNs is)
def LT.tg (K : PySem.W.Frag) (t : LT) : TG := match t with
  | .one i => gName i
  | .many is => gTup K is.length (gNs is)
theorem gNs_run {H : Hp} {Q : St → Hp → Prop} : ∀ (is : List Nat) (xs : List V) (σ : St), xs.length = is.length → Q (setAll σ is xs) H → gNs is xs σ H Q
  | [], [], σ, _, h => ⟨rfl, h⟩
  | i :: is, x :: xs, σ, hl, h => ⟨x, xs, rfl, gNs_run is xs _ (by simpa using hl) h⟩
theorem lt_run {t : LT} {d : D} {ds : List D} {x : V} {H : Hp} {μ : List Addr} (h : t.items d = some ds) (r : RV X.K H μ x d) : ∃ xs, RVs X.K H μ xs ds ∧ ∀ σ Q, Q (setAll σ t.ix xs) H → t.tg X.K x σ H Q := by
  cases t with
  | one i => cases h; exact ⟨[x], .cons r .nil, fun σ Q q => q⟩
  | many is =>
    unfold LT.items at h
    dsimp only at h
    split at h
    · rename_i ds' hds
      split at h
      · rename_i hl
        cases h
        obtain ⟨a, xs, rfl, hs, rs⟩ := tupOf_sq r hds
        exact ⟨xs, rs, fun σ Q q => ⟨a, xs, rfl, hs, by rw [rs.length, hl], gNs_run is xs σ (by rw [rs.length, hl]) q⟩⟩
      · cases h
    · cases h
structure MTs (nm : Nms) (X : Cx) (ifs : List Expr) (m : TM) : Prop where
  run : ∀ W, Takes X W → PTs X ifs (rdT nm X W m)
def mYes : TM := fun _ S => .ok true S
theorem mts_nil : MTs nm X [] mYes := ⟨fun W tk => ⟨fun pins s σ H Q I hh => by
  obtain ⟨e, S, μ, E, sm, p⟩ := hh
  exact pts_nil.run pins s σ H Q I (p μ H .refl sm)⟩⟩
theorem mts_one {c : Expr} {m : TM} (h : MT nm X c m) : MTs nm X [c] m := ⟨fun W tk => pts_one (h.run W tk)⟩
def R.nox {α : Type} (r : R α) : R α := match r with
  | .ok a S => .ok a S
  | _ => .stuck
@[simp] theorem R.nox_ok {α : Type} (a : α) (S : Store) : (R.ok a S).nox = .ok a S := rfl
theorem post_nox {α : Type} {K : PySem.W.Frag} {mg : Str → Option Value} {μ : List Addr} {H : Hp} {r : R α} {P : PA α} {E E' : PX} (h : Post nm K mg μ H r.nox P E) : Post nm K mg μ H r P E' := by
  cases r with
  | ok a S => exact h
  | exc c fs S => exact False.elim h
  | stuck => exact h
theorem bind_assoc {α β γ : Type} (r : R α) (f : α → Store → R β) (g : β → Store → R γ) : (r.bind f).bind g = r.bind fun a S => (f a S).bind g := by cases r <;> rfl
open Classical in
noncomputable def lcL (n : Nat) (G : Store → Prop) (t : LT) (e0 : Ev) (tt : TM) (el : EM) : List D → Store → R Unit
  | [], S => if G S then .ok () S else .stuck
  | d :: ds, S => if G S then match t.items d with
    | some xs => ((tt ⟨setAll e0.sl t.ix xs, []⟩ S).nox).bind fun b S2 => if b = true then ((el ⟨setAll e0.sl t.ix xs, []⟩ S2).nox).bind fun y S3 => match S3[n]? with
        | some (.lst acc) => if acc.length < sizeLine then lcL n G t e0 tt el ds (S3.set n (.lst (acc ++ [y]))) else .stuck
        | _ => .stuck
      else lcL n G t e0 tt el ds S2
    | none => .stuck
    else .stuck
noncomputable def mLc (vs : List Nat) (t : LT) (it : IM) (tt : TM) (el : EM) : EM := fun e S => (it e S).bind fun w S1 => (lcL S1.length w.G t (e.wip vs) tt el w.ds (S1 ++ [.lst []])).bind fun _ S2 => .ok (.obj S1.length) S2
/-- the block's context, for the names alone -/
abbrev blk0 (X : Cx) (scope : Scope) : Cx := X.blk X.s_0 X.H_0 scope X.env []
theorem lc_rd {W : WX} {tg iter : Expr} {scope : Scope} {it : IM} {tt : TM} {el : EM} {vs : List Nat} (t : LT) (hsub : ∀ i ∈ t.ix, i ∈ vs) {σ : St} {H : Hp} {Q : VK} (hh : rdE nm X W (mLc vs t it tt el) σ H Q) :
    tLc (fun σ H R => ∃ e S μ, EvR nm X H μ e σ ∧ Sim nm X.K X.mg μ S H ∧ PostX nm X W μ H σ (it e S) fun w S' μ' H' => ∀ J C, Stable C → C H' μ' → WOk nm X J w C → R J H') (t.tg X.K)
      (rdT nm (blk0 X scope) (fun _ _ _ _ => False) tt) (rdE nm (blk0 X scope) (fun _ _ _ _ => False) el) vs σ H Q := by
  obtain ⟨e, S, μ, E, s, p⟩ := hh
  refine ⟨e, S, μ, E, s, (Post.bind p).mono fun w S1 μ1 H1 x1 s1 p1 J C st c0 ok' => ?_⟩
  intro D nD
  refine ⟨fun i m H' => m = w.ds.length - i ∧ i ≤ w.ds.length ∧ ∃ S μ', EvR nm X H' μ' e σ ∧ Sim nm X.K X.mg μ' S H' ∧ C H' μ' ∧ μ'[S1.length]? = some D ∧ PostX nm X W μ' H' σ ((lcL S1.length w.G t (e.wip vs) tt el (w.ds.drop i) S).bind fun _ S2 => .ok (.obj S1.length) S2) (fun d _ μ' H' => ∀ v, RV X.K H' μ' v d → Q v H'),
    ⟨w.ds.length, rfl, Nat.zero_le _, S1 ++ [.lst []], μ1 ++ [D], (E.ext x1).ext (Ext.made s1 nD), s1.made (o := .lst []) nD ⟨[], upd_same, .nil⟩, st _ _ _ _ (Ext.made s1 nD) c0, new_at s1, by rw [List.drop_zero]; exact Post.ext (Ext.made s1 nD) p1⟩, ?_⟩
  rintro i m H' ⟨rfl, hi, S, μ', E', s', c', eD, p'⟩
  by_cases hlt : i < w.ds.length
  · obtain ⟨d, hd⟩ : ∃ d, w.ds[i]? = some d := ⟨_, List.getElem?_eq_getElem hlt⟩
    have hdr : w.ds.drop i = d :: w.ds.drop (i + 1) := by
      rw [List.drop_eq_getElem_cons hlt]
      rw [List.getElem?_eq_getElem hlt] at hd
      cases hd; rfl
    rw [hdr] at p'
    unfold lcL at p'
    split at p'
    · rename_i hG
      obtain ⟨go, yl⟩ := (ok' i S μ' H' s' c' hG).1 d hd
      refine .inr ⟨go, fun H2 => ∃ m', m' < w.ds.length - i ∧ m' = w.ds.length - (i + 1) ∧ i + 1 ≤ w.ds.length ∧ ∃ S μ', EvR nm X H2 μ' e σ ∧ Sim nm X.K X.mg μ' S H2 ∧ C H2 μ' ∧ μ'[S1.length]? = some D ∧ PostX nm X W μ' H2 σ ((lcL S1.length w.G t (e.wip vs) tt el (w.ds.drop (i + 1)) S).bind fun _ S2 => .ok (.obj S1.length) S2) (fun d _ μ' H' => ∀ v, RV X.K H' μ' v d → Q v H'), fun H2 h => h, fun x H2 y => ?_⟩
      obtain ⟨x2, s2, r2⟩ := yl x H2 y
      split at p'
      · rename_i xs hxs
        obtain ⟨ws, rws, run⟩ := lt_run hxs r2
        refine run _ _ ⟨wipe_setAll ws hsub, ⟨setAll (e.wip vs).sl t.ix xs, []⟩, S, μ', ?_, s2, ?_⟩
        · exact evr_setAll (X := X.blk X.s_0 X.H_0 scope X.env []) t.ix rws (evr_wip (X := X) (X' := X.blk X.s_0 X.H_0 scope X.env []) rfl _ (E'.ext x2))
        · rw [bind_assoc] at p'
          refine post_nox ((Post.bind (Post.ext x2 p')).mono fun b S3 μ3 H3 x3 s3 p3 => ?_)
          have E3 := (E'.ext x2).ext x3
          have c3 := st _ _ _ _ (x2.trans x3) c'
          have eD3 := (x2.trans x3).at eD
          cases b with
          | true =>
            rw [if_pos rfl] at p3
            dsimp only
            rw [if_pos rfl]
            refine ⟨⟨setAll (e.wip vs).sl t.ix xs, []⟩, S3, μ3, ?_, s3, ?_⟩
            · exact evr_setAll (X := X.blk X.s_0 X.H_0 scope X.env []) t.ix (RVs.ext x3 _ rws) (evr_wip (X := X) (X' := X.blk X.s_0 X.H_0 scope X.env []) rfl _ E3)
            · rw [bind_assoc] at p3
              refine post_nox ((Post.bind p3).mono fun y S4 μ4 H4 x4 s4 p4 v rv => ?_)
              have eD4 := x4.at eD3
              split at p4
              · rename_i acc hacc
                split at p4
                · rename_i hl
                  obtain ⟨zs, e1, rz⟩ := s4.ob _ _ _ eD4 hacc
                  have x5 := Ext.wrote (H := H4) (u := .lst (zs ++ [v])) (List.mem_of_getElem? eD4) (NF.of e1)
                  exact ⟨zs, e1, by rw [rz.length]; exact hl, w.ds.length - (i + 1), by omega, rfl, hlt, S4.set S1.length (.lst (acc ++ [y])), μ4, (E3.ext x4).ext x5, s4.wrote eD4 ⟨zs ++ [v], upd_same, RVs.ext x5 _ (rz.append (.cons rv .nil))⟩, st _ _ _ _ (x4.trans x5) c3, eD4, Post.ext x5 p4⟩
                · exact False.elim p4
              · exact False.elim p4
          | false =>
            rw [if_neg Bool.false_ne_true] at p3
            dsimp only
            rw [if_neg Bool.false_ne_true]
            exact ⟨w.ds.length - (i + 1), by omega, rfl, hlt, S3, μ3, E3, s3, c3, eD3, p3⟩
      · exact False.elim p'
    · exact False.elim p'
  · have hz : w.ds.drop i = [] := List.drop_eq_nil_of_le (Nat.le_of_not_lt hlt)
    rw [hz] at p'
    unfold lcL at p'
    split at p'
    · rename_i hG
      exact .inl ⟨(ok' i S μ' H' s' c' hG).2 (Nat.le_of_not_lt hlt), p' μ' H' .refl s' _ (.obj eD)⟩
    · exact False.elim p'
theorem tk_blk {s : Shared} {H : Hp} {scope : Scope} {cenv : Env} {fp : List Addr} : Takes (X.blk s H scope cenv fp) (fun _ _ _ _ => False) := fun u s' x => by
  obtain ⟨_, _, _, _, _, _, _, _, _, _, _, _, _, _, _, _, w⟩ := x
  exact w.elim
theorem pts_blk {s : Shared} {H : Hp} {scope : Scope} {cenv : Env} {fp : List Addr} {ifs : List Expr} {tt : TM} (h : MTs nm (X.blk s H scope cenv fp) ifs tt) : PTs (X.blk s H scope cenv fp) ifs (rdT nm (blk0 X scope) (fun _ _ _ _ => False) tt) :=
  ⟨fun pins s1 σ H1 Q I hh => (h.run _ tk_blk).run pins s1 σ H1 Q I (by obtain ⟨e, S, μ, E, sm, p⟩ := hh; exact ⟨e, S, μ, ⟨E.len, E.at_, E.ex⟩, sm, p⟩)⟩
theorem pe_blk {s : Shared} {H : Hp} {scope : Scope} {cenv : Env} {fp : List Addr} {e : Expr} {el : EM} (h : ME nm (X.blk s H scope cenv fp) e el) : PE (X.blk s H scope cenv fp) e (rdE nm (blk0 X scope) (fun _ _ _ _ => False) el) :=
  (h.run _ tk_blk).imp fun σ H1 Q hh => by obtain ⟨e, S, μ, E, sm, p⟩ := hh; exact ⟨e, S, μ, ⟨E.len, E.at_, E.ex⟩, sm, p⟩
theorem me_lc {elt tg iter : Expr} {ifs : List Expr} {scope : Scope} {own : List (Str × Nat)} {pos : Pos} {it : IM} {tt : TM} {el : EM} {vs : List Nat} (t : LT) (hc : X.calm = true) (hN : X.N.Nodup) (hi : MI nm X tg iter it) (ok : BlkOk X.N X.env.scope scope own) (hv : own.map (·.2) = vs) (hsub : ∀ i ∈ t.ix, i ∈ vs)
    (hg : ∀ (s : Shared) (H : Hp) (C : Addr) (cl : List (Str × Addr)) (fp : List Addr), PG (X.blk s H scope (compEnvC scope cl C X.env) fp) tg (t.tg X.K))
    (ht : ∀ (s : Shared) (H : Hp) (C : Addr) (cl : List (Str × Addr)) (fp : List Addr), MTs nm (X.blk s H scope (compEnvC scope cl C X.env) fp) ifs tt)
    (he : ∀ (s : Shared) (H : Hp) (C : Addr) (cl : List (Str × Addr)) (fp : List Addr), ME nm (X.blk s H scope (compEnvC scope cl C X.env) fp) elt el)
    (hs : ∀ x, foldedSetIterable iter X.env x = pure x := by intro _; rfl) : ME nm X (.ListComp elt [⟨tg, iter, ifs, 0⟩] scope pos) (mLc vs t it tt el) := by
  subst hv
  exact ⟨fun W tk => (pe_lc hc hN (hi.run W tk) ok hg (fun s H C cl fp => pts_blk (ht s H C cl fp)) (fun s H C cl fp => pe_blk (he s H C cl fp)) hs).imp fun σ H Q hh => lc_rd (tg := tg) (iter := iter) t hsub hh⟩
/-- name = [..] -/
theorem ms_setLc (i : Nat) {y : Str} {py spos : Pos} {elt tg iter : Expr} {ifs : List Expr} {scope : Scope} {own : List (Str × Nat)} {pos : Pos} {it : IM} {tt : TM} {el : EM} {vs : List Nat} (t : LT) (hc : X.calm = true) (hN : X.N.Nodup) (hy : X.N[i]? = some y) (hyl : X.env.scope.names.lookup y = some .local)
    (hk : X.env.scope.kind = .function) (hl : (py.line == pos.line) = true) (ha : (scope.names.any fun (n, k) => n == y && (k == .local || k == .cell)) = false)
    (hi : MI nm X tg iter it) (ok : BlkOk X.N X.env.scope scope own) (hv : own.map (·.2) = vs) (hsub : ∀ i ∈ t.ix, i ∈ vs)
    (hg : ∀ (s : Shared) (H : Hp) (C : Addr) (cl : List (Str × Addr)) (fp : List Addr), PG (X.blk s H scope (compEnvC scope cl C X.env) fp) tg (t.tg X.K))
    (ht : ∀ (s : Shared) (H : Hp) (C : Addr) (cl : List (Str × Addr)) (fp : List Addr), MTs nm (X.blk s H scope (compEnvC scope cl C X.env) fp) ifs tt)
    (he : ∀ (s : Shared) (H : Hp) (C : Addr) (cl : List (Str × Addr)) (fp : List Addr), ME nm (X.blk s H scope (compEnvC scope cl C X.env) fp) elt el)
    (hs : ∀ x, foldedSetIterable iter X.env x = pure x := by intro _; rfl) : MS nm X (.Assign [.Name y py] (.ListComp elt [⟨tg, iter, ifs, 0⟩] scope pos) spos) (mSet i (mLc vs t it tt el)) := by
  subst hv
  refine ⟨fun W tk => (ps_setLc hc hN hy hyl (sw_true hk hyl hl ha) (hi.run W tk) ok hg (fun s H C cl fp => pts_blk (ht s H C cl fp)) (fun s H C cl fp => pe_blk (he s H C cl fp)) hs).imp fun D σ H h => ?_⟩
  obtain ⟨e, S, μ, E, s, p⟩ := h
  exact lc_rd (tg := tg) (iter := iter) t hsub ⟨e, S, μ, E, s, (PostS.toS E p).mono fun d S' μ' H' x s' q v r => q _ μ' H' .refl s' ((E.ext x).set r)⟩
theorem pg_one {s : Shared} {H : Hp} {scope : Scope} {cenv : Env} {fp : List Addr} {pos : Pos} (i : Nat) {x : Str} (hN : X.N.Nodup) (hi : X.N[i]? = some x) (hl : Loc cenv.scope x) (hf : (scope.names.lookup x == some .cell) = true ∨ cenv.scope.names.lookup x = some .local) :
    PG (X.blk s H scope cenv fp) (.Name x pos) ((LT.one i).tg X.K) := pg_name (X := X.blk s H scope cenv fp) hN hi hl hf
end
end BS
namespace BS
open PySem PySem.Spec PyProof.Rows L2
def kids : Expr → List Expr
  | .Call f as ks _ => f :: as ++ ks.map (·.value)
  | .Attribute o _ _ => [o]
  | .Tuple es _ _ => es
  | .List es _ => es
  | .BinOp a _ b _ => [a, b]
  | .Compare a _ bs _ => a :: bs
  | .BoolOp _ es _ => es
  | .UnaryOp _ a _ => [a]
  | .Subscript a b _ => [a, b]
  | .IfExp c a b _ => [c, a, b]
  | .ListComp elt gs _ _ => elt :: gs.map (·.iter) ++ gs.flatMap (·.ifs)
  | .Dict ks vs _ => ks.filterMap id ++ vs
  | _ => []
def kid (e : Expr) (i : Nat) : Expr := (kids e).getD i e
def skids : Stmt → List Expr
  | .Assign ts e _ => e :: ts
  | .Expr e _ => [e]
  | .Return (some e) _ => [e]
  | .If c _ _ _ => [c]
  | .For _ it _ _ _ => [it]
  | .While c _ _ _ => [c]
  | .AugAssign t _ v _ => [v, t]
  | .Raise (some e) _ _ => [e]
  | _ => []
def skid (s : Stmt) (i : Nat) : Expr := (skids s).getD i (.Constant .none 0 ⟨0, 0, 0, 0⟩)
def hbody : ExceptHandler → List Stmt
  | .ExceptHandler _ _ b _ => b
def subs : Stmt → List Stmt
  | .If _ a b _ => a ++ b
  | .For _ _ b _ _ => b
  | .While _ b _ _ => b
  | .Try b hs o f _ => b ++ hs.flatMap hbody ++ o ++ f
  | _ => []
def stm (l : List Stmt) (i : Nat) : Stmt := l.getD i (.Pass ⟨0, 0, 0, 0⟩)
def lcOf : Expr → Scope
  | .ListComp _ _ s _ => s
  | _ => { kind := .module, names := [], isGenerator := false, isCoroutine := false, more := [] }
end BS
namespace BS
open PySem PySem.Spec PyProof.Rows L2
section
variable {nm : Nms} {X : Cx}
def blsOf : List D → Option (List Bool)
  | [] => some []
  | .bl b :: r => (blsOf r).map (b :: ·)
  | _ :: _ => none
theorem bls_rv {K : PySem.W.Frag} {H : Hp} {μ : List Addr} : ∀ {ds : List D} {xs : List V} {bs : List Bool}, RVs K H μ xs ds → blsOf ds = some bs → xs = bs.map V.bl
  | [], _, _, .nil, h => by cases h; rfl
  | d :: ds, _, bs, .cons r t, h => by
    cases d with
    | bl b =>
      obtain ⟨bs', h', rfl⟩ := Option.map_eq_some_iff.mp h
      cases r
      rw [bls_rv t h']; rfl
    | _ => cases h
def fnAll : FM := fun ds S => match ds with
  | [d] => match lstOf S d with
    | some xs => match blsOf xs with
      | some bs => .ok (.bl (bs.all id)) S
      | none => .stuck
    | none => .stuck
  | _ => .stuck
theorem c_all (hc : X.calm = true) : CallD nm X (.builtin "all") fnAll := by
  intro pins s σ H xs us Q I r h
  obtain ⟨ds, S, μ, E, rv, sm, p⟩ := h
  unfold fnAll at p
  split at p
  · rename_i d
    split at p
    · rename_i xs' hl
      split at p
      · rename_i bs hb
        obtain ⟨v, rfl, r1⟩ := one_rv rv
        obtain ⟨a, ys, rfl, hs, r2⟩ := lstOf_sq sm r1 hl
        exact cr_all hc pins s σ H _ us Q I r ⟨a, bs, rfl, by rw [← bls_rv r2 hb]; exact hs, p μ H .refl sm _ (.bl _)⟩
      · exact False.elim p
    · exact False.elim p
  · exact False.elim p
def fnAny : FM := fun ds S => match ds with
  | [d] => match lstOf S d with
    | some xs => match blsOf xs with
      | some bs => .ok (.bl (bs.any id)) S
      | none => .stuck
    | none => .stuck
  | _ => .stuck
theorem c_any (hc : X.calm = true) : CallD nm X (.builtin "any") fnAny := by
  intro pins s σ H xs us Q I r h
  obtain ⟨ds, S, μ, E, rv, sm, p⟩ := h
  unfold fnAny at p
  split at p
  · rename_i d
    split at p
    · rename_i xs' hl
      split at p
      · rename_i bs hb
        obtain ⟨v, rfl, r1⟩ := one_rv rv
        obtain ⟨a, ys, rfl, hs, r2⟩ := lstOf_sq sm r1 hl
        exact cr_any hc pins s σ H _ us Q I r ⟨a, bs, rfl, by rw [← bls_rv r2 hb]; exact hs, p μ H .refl sm _ (.bl _)⟩
      · exact False.elim p
    · exact False.elim p
  · exact False.elim p
def fSmul : Store → D → D → Option D := fun _ x y => match x, y with
  | .str z, .int n => if z.length ≤ 16 ∧ -(2 ^ 63) ≤ n ∧ n ≤ 1048576 then some (.str (PySem.Txt.mul z n)) else none
  | _, _ => none
theorem o_smul : OpD nm X (binaryOp .Mult) fSmul := by
  intro pins s σ H x y v u Q I rx ry hh
  obtain ⟨S, μ, dx, dy, d, sm, r1, r2, e, q⟩ := hh
  unfold fSmul at e
  split at e
  · split at e
    · rename_i h
      cases e; cases r1; cases r2
      obtain ⟨t, rfl⟩ := rx
      obtain ⟨t', rfl⟩ := ry
      exact PySem.W.KXi.mul rfl h.1 h.2.1 (by have := h.2.2; omega) fun t' k _ _ => ⟨.str _, H, I.tok k, ⟨t', rfl⟩, q _ μ H .refl sm (.str _)⟩
    · cases e
  · cases e
theorem call_isEx : CallR X (.builtin "isinstance") (fun xs H Q => ∃ (a : Addr) (oe : Obj) (D : Addr) (c : V) (cv : Value) (b : Bool), xs = [.ref a, c] ∧ (a, oe) ∈ X.pn ∧ Zc (.ref D) none oe ∧ (∃ vs, oe.data = .fields vs) ∧ ExcC X.K D ∧ (∀ u, RelV c u → u = cv) ∧ PySem.W.kitOne X.K (.ref D) cv = some b ∧ Q (.bl b) H) := by
  intro pins s σ H xs us Q I r h
  obtain ⟨a, oe, D, c, cv, b, rfl, hp, hz, ⟨vs, hv⟩, C, hcv, e, q⟩ := h
  cases r with
  | cons rx rr =>
    cases rr with
    | cons rt rr =>
      cases rr
      cases rx
      have ec := hcv _ rt
      subst ec
      obtain ⟨hget, _⟩ := I.pin (a, oe) (List.mem_append_left _ hp)
      have J : PySem.W.InstAt s.heap a oe D none := by
        obtain ⟨oc, od, oda, osl⟩ := oe
        obtain ⟨h1, h2⟩ := hz
        dsimp only at h1 h2 hv
        subst h1 h2 hv
        exact ⟨hget, rfl, rfl, trivial⟩
      exact PySem.W.kia_one (PySem.W.handS_kitx_exc C.hg C.hk C.hs C.hd C.ha C.hn C.ht C.hm) I.kIn J e (fun z => nomatch z) fun tk => ⟨.bl b, H, I.kept (t' := tk) fun _ _ z => z, rfl, q⟩
/-- what the written part says: class x is (not) above the classes -/
def IsE (K : PySem.W.Frag) (mg : Str → Option Value) (nm : Nms) (x : Str) (yes no : List Nat) : Prop := ∃ C2, mg x = some (.ref C2) ∧ (∀ c ∈ yes, ∀ C, mg (nm.cls c) = some (.ref C) → ExcC K C ∧ PySem.W.kitOne K (.ref C) (.ref C2) = some true) ∧ (∀ c ∈ no, ∀ C, mg (nm.cls c) = some (.ref C) → ExcC K C ∧ PySem.W.kitOne K (.ref C) (.ref C2) = some false)
theorem all_cons {K : PySem.W.Frag} {mg : Str → Option Value} {P : Addr → Prop} {c : Nat} {cs : List Nat} {x : Str} {C : Addr} (hx : nm.cls c = x) (g : mg x = some (.ref C)) (e : P C) (h : ∀ c ∈ cs, ∀ C, mg (nm.cls c) = some (.ref C) → P C) :
    ∀ c' ∈ c :: cs, ∀ C, mg (nm.cls c') = some (.ref C) → P C := by
  intro c' hc C' g'
  rcases List.mem_cons.mp hc with rfl | hc
  · rw [uniq hx g g']; exact e
  · exact h c' hc C' g'
theorem all_nil {mg : Str → Option Value} {P : Addr → Prop} : ∀ c' ∈ ([] : List Nat), ∀ C, mg (nm.cls c') = some (.ref C) → P C := fun _ h => by cases h
theorem kit_self {K : PySem.W.Frag} {S : Addr} : PySem.W.kitOne K (.ref S) (.ref S) = some true := by
  unfold PySem.W.kitOne
  rw [if_pos (by simp)]
theorem kit_of {K : PySem.W.Frag} {S C : Addr} {b : Bool} (hz : (S == C) = false) (h1 : PySem.W.subIn K (.ref C) (.type "BaseException") = some true) (h2 : PySem.W.isClsIn K C = true) (h3 : PySem.W.typeIn K (.ref C) = some (.type "type")) (h4 : PySem.W.subIn K (.ref S) (.ref C) = some b) : PySem.W.kitOne K (.ref S) (.ref C) = some b := by
  have e := exm_of h1 h2 h3 h4
  unfold PySem.W.exmOne at e
  rw [if_pos (by rw [h1]; rfl)] at e
  unfold PySem.W.kitOne
  rw [if_neg (by intro z; have : S = C := by simpa using z
                 rw [this] at hz; simp at hz)]
  exact e
def isX (ex : List (Nat × Nat × List (Nat × D))) (i : Nat) (yes no : List Nat) : Option Bool := match ex with
  | [(j, c, [])] => if j = i then if yes.contains c = true then some true else if no.contains c = true then some false else none else none
  | _ => none
def mIsE (i : Nat) (yes no : List Nat) : EM := fun e S => match isX e.ex i yes no with
  | some b => .ok (.bl b) S
  | none => .stuck
theorem me_ise (i : Nat) {yes no : List Nat} {n x : Str} {p p1 p2 pos : Pos} {is : List Nat} (h : IsE X.K X.mg nm x yes no) (hv : visAll is X.N X.env.scope = true) (hg : GlN X "isinstance") (hm : X.mg "isinstance" = none) (hgx : GlN X x) (hb : bootBuiltins "isinstance" = some (.builtin "isinstance"))
    (hN : X.N[i]? = some n := by rfl) (hi : is.contains i = true := by rfl)
    (he : starEach (.Name n p1 :: [.Name x p2]) X.env = (false, eval (.Name n p1) X.env) :: starEach [.Name x p2] X.env := by rfl) (he2 : starEach (.Name x p2 :: []) X.env = (false, eval (.Name x p2) X.env) :: starEach [] X.env := by rfl)
    (hpl : (backTo pos (starEach [.Name x p2] X.env)).any (·.1) = false := by rfl) :
    ME nm X (.Call (.Name "isinstance" p) [.Name n p1, .Name x p2] [] pos) (mIsE i yes no) := by
  obtain ⟨hvi, hd, hcd⟩ := vis_of hv hi hN
  obtain ⟨C2, g, hy, hno⟩ := h
  refine ⟨fun W tk => (pe_callB call_isEx hg.g hm hb (pa_cons (pe_var hN hvi hd hcd) (pa_cons (pe_glob (v := .ref C2) hgx.g g rfl hgx.d) pa_nil he2) he) hg.n hg.d he hpl).imp fun σ H Q hh => ?_⟩
  obtain ⟨e, S, μ, E, sm, q⟩ := hh
  unfold mIsE at q
  split at q
  · rename_i b hx
    unfold isX at hx
    split at hx
    · rename_i j c hex
      split at hx
      · rename_i hji
        subst hji
        obtain ⟨a, oe, C, dd, g1, g2, g3, g5⟩ := E.ex (j, c, []) (by rw [hex]; exact List.mem_cons_self)
        obtain ⟨k1, k2⟩ := g5
        have hdd : dd = none := by
          cases dd with
          | none => rfl
          | some dx => obtain ⟨_, _, _, _, z⟩ := k2; exact absurd rfl z
        subst hdd
        have fin : ∀ b', ExcC X.K C ∧ PySem.W.kitOne X.K (.ref C) (.ref C2) = some b' → b' = b → tCB (fun xs H Q => ∃ (a : Addr) (oe : Obj) (D : Addr) (c : V) (cv : Value) (b : Bool), xs = [.ref a, c] ∧ (a, oe) ∈ X.pn ∧ Zc (.ref D) none oe ∧ (∃ vs, oe.data = .fields vs) ∧ ExcC X.K D ∧ (∀ u, RelV c u → u = cv) ∧ PySem.W.kitOne X.K (.ref D) cv = some b ∧ Q (.bl b) H) (tCons (tVar j) (tCons (fun _ H Q => Q (.ref C2) H) tNil)) σ H Q := by
          rintro b' ⟨hc, hk⟩ rfl
          exact ⟨_, g1, a, oe, C, .ref C2, .ref C2, b', rfl, g2, g3.1, g3.2, hc, fun u r => r, hk, q μ H .refl sm _ (.bl _)⟩
        split at hx
        · rename_i hc
          cases hx
          exact fin true (hy c (by simpa using hc) C k1) rfl
        · split at hx
          · rename_i hc
            cases hx
            exact fin false (hno c (by simpa using hc) C k1) rfl
          · cases hx
      · cases hx
    · cases hx
  · exact False.elim q
end
end BS
namespace BS
open PySem PySem.Spec PyProof.Rows L2
section
variable {nm : Nms} {X : Cx}
def popS (S : Store) (n : Nat) (k : D) (x : Option D) : R D := match S[n]? with
  | some (.dct kvs) => match keyOf k with
    | some key => match getK kvs key with
      | some d => .ok d (S.set n (.dct (dropD kvs key)))
      | none => match x with
        | some x => .ok x S
        | none => .stuck
    | none => .stuck
  | _ => .stuck
def fnPopD : FM := fun ds S => match ds with
  | [.obj n, k] => popS S n k none
  | [.obj n, k, x] => popS S n k (some x)
  | _ => .stuck
theorem t_popD : MtD nm X "dict.pop" fnPopD := by
  intro pins s σ H x xs v us Q I rx r h
  obtain ⟨ds, S, μ, E, rv, sm, p⟩ := h
  unfold fnPopD at p
  split at p
  · rename_i n dk
    obtain ⟨r1, rt⟩ := rvs_cons rv
    obtain ⟨y, rfl, r2⟩ := one_rv rt
    obtain ⟨u, rfl, ru⟩ := vals1 r
    unfold popS at p
    split at p
    · rename_i kvs hS
      split at p
      · rename_i key hk
        cases r1 with | @obj a _ en =>
        obtain ⟨ys, e1, rk⟩ := sm.ob _ _ _ en hS
        have ek := keyOf_kV r2 hk
        subst ek
        cases rx
        rcases getK_val key rk with ⟨h1, h2⟩ | ⟨w, d, h1, h2, h3⟩
        · rw [h2] at p; exact False.elim p
        · rw [h2] at p
          have x := Ext.wrote (H := H) (u := .dK (dropK ys key)) (List.mem_of_getElem? en) (NF.of e1)
          exact d_pop I e1 ru h1 (.inl rfl) fun w' s3 I3 rw' => ⟨w, _, I3, rw', p μ _ x (sm.wrote en ⟨_, upd_same, RK.ext x (drop_rk rk)⟩) w (h3.ext x)⟩
      · exact False.elim p
    · exact False.elim p
  · rename_i n dk dx
    obtain ⟨r1, rt⟩ := rvs_cons rv
    obtain ⟨y, z, rfl, r2, r4⟩ := two_rv rt
    obtain ⟨u, f, rfl, ru, rf⟩ := vals2 r
    unfold popS at p
    split at p
    · rename_i kvs hS
      split at p
      · rename_i key hk
        cases r1 with | @obj a _ en =>
        obtain ⟨ys, e1, rk⟩ := sm.ob _ _ _ en hS
        have ek := keyOf_kV r2 hk
        subst ek
        cases rx
        rcases getK_val key rk with ⟨h1, h2⟩ | ⟨w, d, h1, h2, h3⟩
        · rw [h2] at p
          exact d_popD I e1 ru h1 fun s4 I4 => ⟨z, H, I4, rf, p μ H .refl sm z r4⟩
        · rw [h2] at p
          have x := Ext.wrote (H := H) (u := .dK (dropK ys key)) (List.mem_of_getElem? en) (NF.of e1)
          exact d_pop I e1 ru h1 (.inr ⟨f, rfl⟩) fun w' s3 I3 rw' => ⟨w, _, I3, rw', p μ _ x (sm.wrote en ⟨_, upd_same, RK.ext x (drop_rk rk)⟩) w (h3.ext x)⟩
      · exact False.elim p
    · exact False.elim p
  · exact False.elim p
def fnDict : FM := fun ds S => match ds with
  | [d] => match dctOf S d with
    | some kvs => .ok (.obj S.length) (S ++ [.dct kvs])
    | none => .stuck
  | _ => .stuck
theorem c_dict : CallD nm X (.type "dict") fnDict := by
  intro pins s σ H xs us Q I r h
  obtain ⟨ds, S, μ, E, rv, sm, p⟩ := h
  unfold fnDict at p
  split at p
  · rename_i d
    split at p
    · rename_i kvs hk
      obtain ⟨v, rfl, r1⟩ := one_rv rv
      obtain ⟨n, a, ys, rfl, rfl, _, _, e1, rk⟩ := dctOf_at sm r1 hk
      rw [Vals.ref1 r]
      exact d_copyOf I (.inl e1) fun q s' nq I' => ⟨.ref q, _, I', rfl, p _ _ (Ext.made sm nq) (sm.made (o := .dct kvs) nq ⟨ys, upd_same, RK.ext (Ext.made sm nq) rk⟩) _ (.obj (new_at sm))⟩
    · exact False.elim p
  · exact False.elim p
end
end BS
namespace BS
open PySem PySem.Spec PyProof.Rows L2
theorem sorted_one {α : Type} {r : α → α → Prop} (anti : ∀ a b, r a b → r b a → a = b) : ∀ {l1 l2 : List α}, l1.Perm l2 → l1.Pairwise r → l2.Pairwise r → l1 = l2
  | [], l2, p, _, _ => (List.nil_perm.mp p).symm
  | a :: l1, [], p, _, _ => absurd p.symm (by simp)
  | a :: l1, b :: l2, p, h1, h2 => by
    have e : a = b := by
      have ha : a ∈ b :: l2 := p.subset (by simp)
      have hb : b ∈ a :: l1 := p.symm.subset (by simp)
      rcases List.mem_cons.mp ha with e | ha
      · exact e
      · rcases List.mem_cons.mp hb with e | hb
        · exact e.symm
        · exact anti a b ((List.pairwise_cons.mp h1).1 b hb) ((List.pairwise_cons.mp h2).1 a ha)
    subst e
    rw [sorted_one anti (List.Perm.cons_inv p) (List.pairwise_cons.mp h1).2 (List.pairwise_cons.mp h2).2]
def sortI (ns : List Int) : List Int := ns.mergeSort (fun a b => decide (a ≤ b))
theorem sortI_perm (ns : List Int) : (sortI ns).Perm ns := List.mergeSort_perm _ _
theorem sortI_sorted (ns : List Int) : (sortI ns).Pairwise (· ≤ ·) := by
  have h := List.pairwise_mergeSort (le := fun a b : Int => decide (a ≤ b)) (fun a b c h1 h2 => by simp at *; omega) (fun a b => by simp; omega) ns
  exact h.imp fun h => by simpa using h
theorem sortI_one {ns ns' : List Int} (p : ns'.Perm ns) (h : ns'.Pairwise (· ≤ ·)) : ns' = sortI ns :=
  sorted_one (fun a b h1 h2 => Int.le_antisymm h1 h2) (p.trans (sortI_perm ns).symm) h (sortI_sorted ns)
def intsOf : List D → Option (List Int)
  | [] => some []
  | .int i :: r => (intsOf r).map (i :: ·)
  | _ :: _ => none
def keysI : List (Key × D) → Option (List Int)
  | [] => some []
  | (.inl i, _) :: r => (keysI r).map (i :: ·)
  | _ :: _ => none
theorem intsOf_rv {K : PySem.W.Frag} {H : Hp} {μ : List Addr} : ∀ {ds : List D} {xs : List V} {ns : List Int}, RVs K H μ xs ds → BS.intsOf ds = some ns → xs = ns.map V.int
  | [], _, _, .nil, h => by cases h; rfl
  | d :: ds, _, ns, .cons r t, h => by
    cases d with
    | int i =>
      obtain ⟨ns', h', rfl⟩ := Option.map_eq_some_iff.mp h
      cases r
      rw [intsOf_rv t h']; rfl
    | _ => cases h
theorem keysI_rk {K : PySem.W.Frag} {H : Hp} {μ : List Addr} : ∀ {kvs : List (Key × D)} {ys : List (Key × V)} {ns : List Int}, RK K H μ ys kvs → keysI kvs = some ns → ys.map (·.1) = ns.map Sum.inl
  | [], _, _, .nil, h => by cases h; rfl
  | (k, d) :: kvs, y :: ys, ns, .cons r t, h => by
    cases k with
    | inl i =>
      obtain ⟨ns', h', rfl⟩ := Option.map_eq_some_iff.mp h
      rw [List.map_cons, List.map_cons, keysI_rk t h', r.1]
    | inr _ => cases h
theorem rvs_intsD {K : PySem.W.Frag} {H : Hp} {μ : List Addr} : ∀ ns : List Int, RVs K H μ (ns.map V.int) (ns.map D.int)
  | [] => .nil
  | n :: ns => .cons (.int n) (rvs_intsD ns)
def leS (a b : Str) : Prop := ltS b a = false
theorem leS_iff {a b : Str} : leS a b ↔ a.cps.toList ≤ b.cps.toList := by
  unfold leS ltS
  rw [decide_eq_false_iff_not]
  exact List.not_lt
theorem leS_trans {a b c : Str} (h1 : leS a b) (h2 : leS b c) : leS a c := leS_iff.mpr (List.le_trans (leS_iff.mp h1) (leS_iff.mp h2))
theorem leS_anti {a b : Str} (h1 : leS a b) (h2 : leS b a) : a = b := by
  have e := List.le_antisymm (leS_iff.mp h1) (leS_iff.mp h2)
  cases a; cases b
  simpa using e
theorem leS_total (a b : Str) : leS a b ∨ leS b a := by
  rcases List.le_total a.cps.toList b.cps.toList with h | h
  · exact .inl (leS_iff.mpr h)
  · exact .inr (leS_iff.mpr h)
theorem rising_pw : ∀ (r : List Str) (p : Str), risingS p r = true → (∀ x ∈ r, leS p x) ∧ r.Pairwise leS
  | [], p, _ => ⟨by simp, .nil⟩
  | x :: r, p, h => by
    unfold risingS at h
    rw [Bool.and_eq_true] at h
    have hx : leS p x := by
      unfold leS ltS
      have := h.1
      rw [ltCps_eq] at this
      simpa using this
    obtain ⟨h1, h2⟩ := rising_pw r x h.2
    exact ⟨fun y hy => by
      rcases List.mem_cons.mp hy with rfl | hy
      · exact hx
      · exact leS_trans hx (h1 y hy), List.pairwise_cons.mpr ⟨h1, h2⟩⟩
theorem sorted_pw {ys : List Str} (h : sortedS ys = true) : ys.Pairwise leS := by
  cases ys with
  | nil => exact .nil
  | cons x r =>
    obtain ⟨h1, h2⟩ := rising_pw r x h
    exact List.pairwise_cons.mpr ⟨h1, h2⟩
def sortT (zs : List Str) : List Str := zs.mergeSort (fun a b => !ltS b a)
theorem sortT_perm (zs : List Str) : (sortT zs).Perm zs := List.mergeSort_perm _ _
theorem sortT_sorted (zs : List Str) : (sortT zs).Pairwise leS := by
  have h := List.pairwise_mergeSort (le := fun a b : Str => !ltS b a) (fun a b c h1 h2 => by
    simp only [Bool.not_eq_true'] at *
    exact leS_trans (a := a) (b := b) (c := c) h1 h2) (fun a b => by
    rcases leS_total a b with h | h
    · simp only [Bool.or_eq_true, Bool.not_eq_true']; exact .inl h
    · simp only [Bool.or_eq_true, Bool.not_eq_true']; exact .inr h) zs
  exact h.imp fun h => by simpa [leS] using h
theorem sortT_one {zs ys : List Str} (p : ys.Perm zs) (h : sortedS ys = true) : ys = sortT zs :=
  sorted_one (fun a b h1 h2 => leS_anti h1 h2) (p.trans (sortT_perm zs).symm) (sorted_pw h) (sortT_sorted zs)
def strsOf : List D → Option (List Str)
  | [] => some []
  | .str i :: r => (strsOf r).map (i :: ·)
  | _ :: _ => none
def keysT : List (Key × D) → Option (List Str)
  | [] => some []
  | (.inr i, _) :: r => (keysT r).map (i :: ·)
  | _ :: _ => none
theorem strsOf_rv {K : PySem.W.Frag} {H : Hp} {μ : List Addr} : ∀ {ds : List D} {xs : List V} {ns : List Str}, RVs K H μ xs ds → BS.strsOf ds = some ns → xs = ns.map V.str
  | [], _, _, .nil, h => by cases h; rfl
  | d :: ds, _, ns, .cons r t, h => by
    cases d with
    | str i =>
      obtain ⟨ns', h', rfl⟩ := Option.map_eq_some_iff.mp h
      cases r
      rw [strsOf_rv t h']; rfl
    | _ => cases h
theorem keysT_rk {K : PySem.W.Frag} {H : Hp} {μ : List Addr} : ∀ {kvs : List (Key × D)} {ys : List (Key × V)} {ns : List Str}, RK K H μ ys kvs → keysT kvs = some ns → ys.map (·.1) = ns.map Sum.inr
  | [], _, _, .nil, h => by cases h; rfl
  | (k, d) :: kvs, y :: ys, ns, .cons r t, h => by
    cases k with
    | inr i =>
      obtain ⟨ns', h', rfl⟩ := Option.map_eq_some_iff.mp h
      rw [List.map_cons, List.map_cons, keysT_rk t h', r.1]
    | inl _ => cases h
theorem rvs_strsD {K : PySem.W.Frag} {H : Hp} {μ : List Addr} : ∀ ns : List Str, RVs K H μ (ns.map V.str) (ns.map D.str)
  | [] => .nil
  | n :: ns => .cons (.str n) (rvs_strsD ns)
def sv (v : Value) : Str := strOf v
def ltSv (v u : Value) : Bool := ltS (sv v) (sv u)
theorem ltS_asym {a b : Str} (h : ltS a b = true) : ltS b a = false := by
  unfold ltS at *
  rw [decide_eq_true_eq] at h
  rw [decide_eq_false_iff_not]
  exact fun g => (List.lt_asymm h) g
theorem swo_str : SrtO.Swo ltSv := ⟨fun x y h => ltS_asym h, fun x y z h1 h2 => leS_trans (a := sv x) (b := sv y) (c := sv z) h1 h2⟩
section
variable {prog : Program} {w : World} {A : Around} {E : Value → Shared → Prop} {s : Shared}
theorem strs_mem {vs : List Value} {zs : List Str} (h : StrsAre vs zs) (v : Value) (m : v ∈ vs) : ∃ x t, v = .str x t := h.all v m
theorem str_cmp {vs : List Value} {ns : List Str} (hI : StrsAre vs ns) : SrtO.Cmp prog w A s oneType' (fun p => p.1 ∈ vs) (SrtO.lt2 ltSv) := by
  intro p q hm hm'
  obtain ⟨a, t, e⟩ := strs_mem hI _ hm
  obtain ⟨b, u, e'⟩ := strs_mem hI _ hm'
  show wpAny (model prog w) A (keyLt' oneType' p.1 q.1) (fun r s' => s' = s ∧ r = ltSv p.1 q.1) (fun _ _ => False) s
  rw [e, e', keyLt'_oneType]
  exact oneLt_str ⟨rfl, rfl⟩
theorem strs_sortable {a : Addr} {vs : List Value} {ns : List Str} (hI : StrsAre vs ns) (h2 : 2 ≤ vs.length) : SrtO.SortableO prog w A s a vs ltSv := by
  intro h' _
  refine ⟨oneType', fun Q E hq => ?_, str_cmp hI⟩
  match vs, hI, h2 with
  | v1 :: v2 :: rest, hI, _ =>
    rw [keyKind_strs hI]
    exact wpAny_pure hq
  | [], _, h => exact absurd h (by decide)
  | [v], _, h => exact absurd h (by simp)
end
theorem strs_outF {vs out : List Value} {ns : List Str} (hI : StrsAre vs ns) (hs : SrtO.Srtd ltSv out) (hb : SrtO.Stb ltSv out vs) : StrsAre out (sortT ns) := by
  have h1 : StrsAre out (out.map strOf) := strsAre_map out fun v m => hI.all v (hb.perm.mem_iff.mp m)
  have h2 : (out.map strOf).Perm ns := by
    have q := hb.perm.map strOf
    rwa [hI.strs] at q
  have h3 : (out.map strOf).Pairwise leS := List.pairwise_map.mpr (hs.imp fun {x y} h => h)
  have h4 : out.map strOf = sortT ns := sorted_one (fun a b => leS_anti) (h2.trans (sortT_perm ns).symm) h3 (sortT_sorted ns)
  rwa [← h4]
section
variable {X : Cx}
/-- sorted(d), texts, any number of them -/
theorem call_sortedDT (hcalm : X.calm = true) : CallR X (.builtin "sorted") (fun xs H Q => ∃ (a : Addr) (kvs : List (Key × V)) (ks : List Str), xs = [.ref a] ∧ Rd H a (.dK kvs) ∧ kvs.map (·.1) = ks.map Sum.inr ∧
    ∀ p, H p = none → Q (.ref p) (upd H p (.lst ((sortT ks).map V.str)))) := by
  intro pins s σ H xs us Q I r q
  obtain ⟨a, kvs, ks, ex, hd, hks, q⟩ := q
  subst ex
  obtain ⟨u, eu, rx⟩ := vals1 r
  subst eu
  cases rx
  obtain ⟨z, lo, vs, rel, dd⟩ := dk_rd I.hok hd
  obtain ⟨ep, hat⟩ := dd.dictAt
  have hkeys : vs.map (·.1) = ks.map Sum.inr := rel.keys.symm.trans hks
  have hl : vs.length = ks.length := by
    have e := congrArg List.length hkeys
    rw [List.length_map, List.length_map] at e
    exact e
  have h16 : vs.length ≤ sizeLine := by rw [← rel.length]; exact z
  refine Calls.call_function_entry PyProof.Rows.kind_sorted PyProof.Rows.plain_sorted PyProof.Rows.entry_sorted (PyProof.Rows.args_sorted1 _) ?_
  unfold Builtin.«sorted»
  refine wpAny_bind (m := checkCount "sorted" 1 1 _) (wpAny_pure ?_)
  refine wpAny_bind (PySem.W.kdu_collect (A := X.A.in1) (PySem.W.kdl_dict (knd := mixKind X.prog X.w) (kvs := vs) (ep := ep) lo) (I.ok.hd hcalm) hat h16 fun h' tk acc hk hacc => ?_)
  have hal : acc.toList.length = ks.length := by rw [Array.length_toList, hacc.1, hl]
  have hS : StrsAre acc.toList ks := L2.strs_at hal fun j v e => by
    obtain ⟨k, x, e1, e2⟩ := hacc.2 j v (by rw [← Array.getElem?_toList]; exact e)
    have e3 : (vs.map (·.1))[j]? = some k := by rw [List.getElem?_map, e1]; all_goals rfl
    rw [hkeys, List.getElem?_map] at e3
    cases e4 : ks[j]? with
    | none => rw [e4] at e3; cases e3
    | some y =>
      rw [e4] at e3
      have e5 : Sum.inr y = k := Option.some.inj e3
      subst e5
      obtain ⟨t, ev⟩ := Value.isStrOf_shape (x := y) (v := v) e2
      exact ⟨y, t, rfl, ev⟩
  have I1 : Inv X pins σ H { s with heap := h', toks := tk } := I.kept hk
  refine wpAny_bind (wpAny_newList ?_ (by rw [hal, ← hl]; exact h16))
  have hoL : (h'.push (seqObj "list" acc.toList.toArray 0)).get? h'.objs.size = some (seqObj "list" acc.toList.toArray 0) := Heap.get?_push_size _ rfl
  show wpAny _ _ _ _ _ { s with heap := h'.push (seqObj "list" acc.toList.toArray 0), toks := tk }
  refine wpAny_bind (wpAny_holding (wpAny_call_entry PyProof.Rows.slot_list_sort ⟨_, hoL, rfl⟩ PyProof.Rows.entry_list_sort ?_ (PyProof.Rows.args_list_sort _)))
  refine SrtO.list_sort_ord swo_str hoL (by rw [hal, ← hl]; exact h16) (fun h2 => strs_sortable hS h2) fun out k1 k2 => ⟨_, rfl, ?_⟩
  have g1 := strs_outF hS k1 k2
  obtain ⟨e', he'⟩ := PyProof.Rows.sortedHeap_at (vs := acc.toList) (out := out.toArray) hoL
  have hlen : ((sortT ks).map V.str).length ≤ sizeLine := by
    rw [List.length_map, (sortT_perm ks).length_eq, ← hl]
    exact h16
  refine wpAny_pure ⟨_, rfl, .ref h'.objs.size, upd H h'.objs.size (.lst ((sortT ks).map V.str)), I1.laid (t' := tk) (fun b u e => ?_) (Nat.le_refl _)
    (show ObjOk X.prog X.w _ _ _ (.lst ((sortT ks).map V.str)) from ⟨hlen, out, e', vals_of_strs g1, he'⟩), rfl, q _ (I1.hok.fresh (Nat.le_refl _))⟩
  have hb : b < h'.objs.size := Heap.lt_size e
  rw [PyProof.Rows.sortedHeap_old (Nat.ne_of_lt hb) (by rw [size_push']; exact Nat.lt_succ_of_lt hb)]
  exact Heap.get?_push_of_some _ e
end
section
variable {nm : Nms} {X : Cx}
def fnSorted (new : Bool) : FM := fun ds S => match ds with
  | [d] => match lstOf S d with
    | some xs => match BS.intsOf xs with
      | some ns => fin new ((sortI ns).map .int) S
      | none => match BS.strsOf xs with
        | some zs => if zs.length < 64 then fin new ((sortT zs).map .str) S else .stuck
        | none => .stuck
    | none => match dctOf S d with
      | some kvs => match keysI kvs with
        | some ns => if ns.length < 64 then fin new ((sortI ns).map .int) S else .stuck
        | none => match keysT kvs with
          | some zs => fin new ((sortT zs).map .str) S
          | none => .stuck
      | none => .stuck
  | _ => .stuck
theorem c_sorted (new : Bool) (hc : X.calm = true) : CallD nm X (.builtin "sorted") (fnSorted new) := by
  intro pins s σ H xs us Q I r h
  obtain ⟨ds, S, μ, E, rv, sm, p⟩ := h
  unfold fnSorted at p
  split at p
  · rename_i d
    obtain ⟨v, rfl, r1⟩ := one_rv rv
    split at p
    · rename_i xs' hl
      split at p
      · rename_i ns hb
        obtain ⟨a, ys, rfl, hs, r2⟩ := lstOf_sq sm r1 hl
        refine cr_sortedI pins s σ H _ us Q I r ⟨a, ns, rfl, by rw [← intsOf_rv r2 hb]; exact hs, fun ns' q hp hs' nq => ?_⟩
        rw [sortI_one hp hs']
        exact fin_post sm (rvs_intsD _) nq p
      · split at p
        · rename_i zs hb
          split at p
          · rename_i h64
            obtain ⟨a, ys, rfl, hs, r2⟩ := lstOf_sq sm r1 hl
            refine cr_sortedS pins s σ H _ us Q I r ⟨a, zs, rfl, by rw [← strsOf_rv r2 hb]; exact hs, h64, fun ns' q hp hs' nq => ?_⟩
            rw [sortT_one hp hs']
            exact fin_post sm (rvs_strsD _) nq p
          · exact False.elim p
        · exact False.elim p
    · split at p
      · rename_i kvs hk
        split at p
        · rename_i ns hb
          split at p
          · rename_i h64
            obtain ⟨n, a, ys, rfl, rfl, _, _, e1, rk⟩ := dctOf_at sm r1 hk
            refine call_sortedDI hc pins s σ H _ us Q I r ⟨a, ys, ns, rfl, .inl e1, keysI_rk rk hb, h64, fun ns' q hp hs' nq => ?_⟩
            rw [sortI_one hp hs']
            exact fin_post sm (rvs_intsD _) nq p
          · exact False.elim p
        · split at p
          · rename_i zs hb
            obtain ⟨n, a, ys, rfl, rfl, _, _, e1, rk⟩ := dctOf_at sm r1 hk
            exact call_sortedDT hc pins s σ H _ us Q I r ⟨a, ys, zs, rfl, .inl e1, keysT_rk rk hb, fun q nq => fin_post sm (rvs_strsD _) nq p⟩
          · exact False.elim p
      · exact False.elim p
  · exact False.elim p
end
end BS
namespace BS
open PySem PySem.Spec PyProof.Rows L2
def sameF (x y : D) : Bool := match x, y with
  | .non, .non => true
  | .bl a, .bl b => a == b
  | .int a, .int b => decide (a = b)
  | .str a, .str b => decide (a = b)
  | _, _ => false
def eqK (ks ls : List (Key × D)) : Bool := decide (ks.length = ls.length) && ks.all fun p => match getK ls p.1 with
  | some d => sameF p.2 d
  | none => false
def fEqD : Store → D → D → Option D := fun S x y => match dctOf S x with
  | some ks => match dctOf S y with
    | some ls => if eqK ks ls = true then some (.bl true) else none
    | none => none
  | none => none
def fNeD : Store → D → D → Option D := fun S x y => match dctOf S x with
  | some ks => match dctOf S y with
    | some ls => if eqK ks ls = true then some (.bl false) else none
    | none => none
  | none => none
section
variable {nm : Nms} {X : Cx}
theorem same_rv {K : PySem.W.Frag} {H : Hp} {μ : List Addr} {v u : V} {x y : D} (rx : RV K H μ v x) (ry : RV K H μ u y) (h : sameF x y = true) : u = v ∧ flatB v = true := by
  unfold sameF at h
  split at h
  · cases rx; cases ry; exact ⟨rfl, rfl⟩
  · cases rx; cases ry; simp at h; subst h; exact ⟨rfl, rfl⟩
  · cases rx; cases ry; simp at h; subst h; exact ⟨rfl, rfl⟩
  · cases rx; cases ry; simp at h; subst h; exact ⟨rfl, rfl⟩
  · cases h
theorem eqK_rk {K : PySem.W.Frag} {H : Hp} {μ : List Addr} {ys zs : List (Key × V)} {ks ls : List (Key × D)} (ry : RK K H μ ys ks) (rz : RK K H μ zs ls) (h : eqK ks ls = true) :
    ys.length = zs.length ∧ ∀ p ∈ ys, valV zs p.1 = some p.2 ∧ flatB p.2 = true := by
  unfold eqK at h
  rw [Bool.and_eq_true, decide_eq_true_eq] at h
  refine ⟨by rw [Paired.length ry, Paired.length rz, h.1], ?_⟩
  have hall := h.2
  clear h
  induction ry with
  | nil => intro p hp; simp at hp
  | @cons p q ys ks r t ih =>
    rw [List.all_cons, Bool.and_eq_true] at hall
    intro p' hp
    rcases List.mem_cons.mp hp with rfl | hp
    · have h1 := hall.1
      split at h1
      · rename_i d hd
        rcases getK_val q.1 rz with ⟨e1, e2⟩ | ⟨v, d', e1, e2, r2⟩
        · rw [e2] at hd; cases hd
        · rw [e2] at hd; cases hd
          obtain ⟨e, f⟩ := same_rv r.2 r2 h1
          subst e
          exact ⟨by rw [r.1]; exact e1, f⟩
      · cases h1
    · exact ih hall.2 p' hp
theorem dct_two {K : PySem.W.Frag} {mg : Str → Option Value} {H : Hp} {μ : List Addr} {S : Store} {v : V} {d : D} {ks : List (Key × D)} (s : Sim nm K mg μ S H) (r : RV K H μ v d) (h : dctOf S d = some ks) : ∃ a ys, v = .ref a ∧ H a = some (.dK ys) ∧ RK K H μ ys ks := by
  unfold dctOf at h
  split at h
  · split at h
    · rename_i hds
      cases h
      cases r with | obj e =>
        obtain ⟨ys, e1, r⟩ := s.ob _ _ _ e hds
        exact ⟨_, ys, rfl, e1, r⟩
    · cases h
  · cases h
theorem o_eqD {k : Nat} (hr : L2H.RoomH k X.A) : OpD nm X (compareOp .Eq) fEqD := by
  intro pins s σ H x y v u Q I rv ru hh
  obtain ⟨S, μ, dx, dy, d, sm, rx, ry, e, q⟩ := hh
  unfold fEqD at e
  split at e
  · rename_i ks hk
    split at e
    · rename_i ls hl
      split at e
      · rename_i c
        cases e
        obtain ⟨a, ys, rfl, h1, r1⟩ := dct_two sm rx hk
        obtain ⟨b, zs, rfl, h2, r2⟩ := dct_two sm ry hl
        obtain ⟨c1, c2⟩ := eqK_rk r1 r2 c
        have := hr.un
        exact op_eq_dictA (by omega) pins s σ H _ _ v u Q I rv ru ⟨a, b, ys, zs, rfl, rfl, h1, h2, c1, c2, q _ μ H .refl sm (.bl _)⟩
      · cases e
    · cases e
  · cases e
theorem o_neD {k : Nat} (hr : L2H.RoomH k X.A) : OpD nm X (compareOp .NotEq) fNeD := by
  intro pins s σ H x y v u Q I rv ru hh
  obtain ⟨S, μ, dx, dy, d, sm, rx, ry, e, q⟩ := hh
  unfold fNeD at e
  split at e
  · rename_i ks hk
    split at e
    · rename_i ls hl
      split at e
      · rename_i c
        cases e
        obtain ⟨a, ys, rfl, h1, r1⟩ := dct_two sm rx hk
        obtain ⟨b, zs, rfl, h2, r2⟩ := dct_two sm ry hl
        obtain ⟨c1, c2⟩ := eqK_rk r1 r2 c
        have := hr.un
        exact op_ne_dictA (by omega) pins s σ H _ _ v u Q I rv ru ⟨a, b, ys, zs, rfl, rfl, h1, h2, c1, c2, q _ μ H .refl sm (.bl _)⟩
      · cases e
    · cases e
  · cases e
/-- x is True -/
def fIsB : Store → D → D → Option D := fun _ x y => match x, y with
  | .bl a, .bl b => some (.bl (decide (a = b)))
  | _, _ => none
def fIsNotB : Store → D → D → Option D := fun _ x y => match x, y with
  | .bl a, .bl b => some (.bl (!decide (a = b)))
  | _, _ => none
theorem o_isB : OpD nm X (compareOp .Is) fIsB := by
  intro pins s σ H x y v u Q I rv ru hh
  obtain ⟨S, μ, dx, dy, d, sm, rx, ry, e, q⟩ := hh
  unfold fIsB at e
  split at e
  · cases rx; cases ry; cases e
    exact op_isBl pins s σ H _ _ v u Q I rv ru ⟨_, _, rfl, rfl, q _ μ H .refl sm (.bl _)⟩
  · cases e
theorem o_isnotB : OpD nm X (compareOp .IsNot) fIsNotB := by
  intro pins s σ H x y v u Q I rv ru hh
  obtain ⟨S, μ, dx, dy, d, sm, rx, ry, e, q⟩ := hh
  unfold fIsNotB at e
  split at e
  · cases rx; cases ry; cases e
    exact op_notBl pins s σ H _ _ v u Q I rv ru ⟨_, _, rfl, rfl, q _ μ H .refl sm (.bl _)⟩
  · cases e
variable {pos : Pos}
def mPar3 (i j l : Nat) (m : AM) : SM := fun e S => (m e S).toS e fun ds S => match ds with
  | [a, b, c] => .nx (((e.set i a).set j b).set l c) S
  | _ => .stuck
theorem ms_par3 (i j l : Nat) {x y z : Str} {a b c : Expr} {ma : AM} {px py pz pt : Pos} {kt k2 pt2} (hc : X.calm = true) (hN : X.N.Nodup) (ha : MA nm X [a, b, c] ma) (hi : X.N[i]? = some x := by rfl) (hj : X.N[j]? = some y := by rfl) (hl : X.N[l]? = some z := by rfl) (hij : i ≠ j := by decide) (hil : i ≠ l := by decide) (hjl : j ≠ l := by decide)
    (hx : X.env.scope.names.lookup x = some .local := by rfl) (hy : X.env.scope.names.lookup y = some .local := by rfl) (hz : X.env.scope.names.lookup z = some .local := by rfl)
    (hw : swappedStores [.Tuple [.Name x px, .Name y py, .Name z pz] kt pt] (.Tuple [a, b, c] k2 pt2) X.env = pure (some [x, y, z]) := by rfl)
    (hs : swapsWithSole [.Tuple [.Name x px, .Name y py, .Name z pz] kt pt] (.Tuple [a, b, c] k2 pt2) pos.line X.env = pure false := by rfl) : MS nm X (.Assign [.Tuple [.Name x px, .Name y py, .Name z pz] kt pt] (.Tuple [a, b, c] k2 pt2) pos) (mPar3 i j l ma) :=
  ⟨fun W tk => (ps_par3 hc hN hi hj hl hij hil hjl hx hy hz (ha.run W tk) hw hs).imp fun D σ H h => by
    obtain ⟨e, S, μ, E, s, p⟩ := h
    refine ⟨e, S, μ, E, s, (PostS.toS E p).mono fun ds S' μ' H' x s' q vs r => ?_⟩
    split at q
    · cases r with | cons r1 r =>
      cases r with | cons r2 r =>
      cases r with | cons r3 r =>
      cases r
      exact ⟨_, _, _, rfl, q _ μ' H' .refl s' ((((E.ext x).set r1).set r2).set r3)⟩
    · exact False.elim q⟩
end
end BS
namespace BS
open PySem PySem.Spec PyProof.Rows L2
theorem ExcAt.extW {nm : Nms} {K : PySem.W.Frag} {mg : Str → Option Value} {H H' : Hp} {μ μ' : List Addr} {c : Nat} {fs : List (Nat × D)} {C : Addr} {d : Option Addr} (x : ExtW μ H μ' H') (h : ExcAt nm K mg H μ c fs C d) : ExcAt nm K mg H' μ' c fs C d := by
  refine ⟨h.1, ?_⟩
  cases d with
  | none => exact h.2
  | some dd =>
    obtain ⟨gs, n, e, r, ne⟩ := h.2
    exact ⟨gs, x.out n (.inl e), x.keep dd _ n e, RF.extW x r, ne⟩
theorem EvR.extW {nm : Nms} {X : Cx} {H H' : Hp} {μ μ' : List Addr} {e : Ev} {σ : St} (x : ExtW μ H μ' H') (h : EvR nm X H μ e σ) : EvR nm X H' μ' e σ :=
  ⟨h.len, fun i d e => let ⟨v, a, b⟩ := h.at_ i d e; ⟨v, a, b.extW x⟩, fun p hp => let ⟨a, oe, C, d, h1, h2, h3, h4⟩ := h.ex p hp; ⟨a, oe, C, d, h1, h2, h3, h4.extW x⟩⟩
/-- the loop over a dict is over: the dict may be written again -/
def RS.unl (n : Nat) (r : RS) : RS := match r with
  | .nx e S => match S[n]? with
    | some (.lck ks) => .nx e (S.set n (.dct ks))
    | _ => .stuck
  | .rt d S => match S[n]? with
    | some (.lck ks) => .rt d (S.set n (.dct ks))
    | _ => .stuck
  | .bk e S => match S[n]? with
    | some (.lck ks) => .bk e (S.set n (.dct ks))
    | _ => .stuck
  | .ct e S => match S[n]? with
    | some (.lck ks) => .ct e (S.set n (.dct ks))
    | _ => .stuck
  | .exc c fs e S => .exc c fs e S
  | .stuck => .stuck
def dkey (k : Key) : D := match k with
  | .inl i => .int i
  | .inr x => .str x
noncomputable def mForK (i : EM) (g : GM) (b : SM) : SM := fun e S => match i e S with
  | .ok (.obj n) _ => match S[n]? with
    | some (.dct kvs) => RS.unl n ((i e (S.set n (.lck kvs))).toS e fun x S1 => match x with
      | .obj m => if m = n then (match S1[n]? with
        | some (.lck ks) => forL (fun _ => True) g b (ks.map fun kv => dkey kv.1) e S1
        | _ => .stuck) else .stuck
      | _ => .stuck)
    | _ => .stuck
  | _ => .stuck
section
variable {nm : Nms} {X : Cx} {tg iter : Expr} {im : EM} {g : GM} {body : List Stmt} {mb : SM} {pos : Pos}
def lkEnds (D : Ends) (a : Addr) (od : Obj) (u : HO) : Ends := ⟨fun σ' H' => H' a = some (.frz od u) ∧ D.nx σ' (upd H' a u), fun v H' => H' a = some (.frz od u) ∧ D.rt v (upd H' a u), fun σ' H' => H' a = some (.frz od u) ∧ D.bk σ' (upd H' a u), fun σ' H' => H' a = some (.frz od u) ∧ D.ct σ' (upd H' a u)⟩
theorem unl_sim {S' : Store} {μ μ' : List Addr} {H H' : Hp} {n : Nat} {a : Addr} {od : Obj} {ys : List (Key × V)} {ks : List (Key × D)} (ea : μ[n]? = some a) (x : Ext μ (upd H a (.frz od (.dK ys))) μ' H') (s : Sim nm X.K X.mg μ' S' H') (h : S'[n]? = some (.lck ks)) :
    H' a = some (.frz od (.dK ys)) ∧ Sim nm X.K X.mg μ' (S'.set n (.dct ks)) (upd H' a (.dK ys)) ∧ ExtW μ' H' μ' (upd H' a (.dK ys)) := by
  have e1 := x.fz a od (.dK ys) upd_same
  have ea' := x.at ea
  have w : ExtW μ' H' μ' (upd H' a (.dK ys)) := ExtW.wrote (List.mem_of_getElem? ea')
  obtain ⟨od', ys', e2, r⟩ := s.ob _ _ _ ea' h
  rw [e1] at e2
  cases e2
  exact ⟨e1, s.wrote ea' ⟨ys, upd_same, RK.extW w r⟩, w⟩
theorem unl_post {W : WX} {D : Ends} {r : RS} {μ : List Addr} {H : Hp} {n : Nat} {a : Addr} {od : Obj} {ys : List (Key × V)} (ea : μ[n]? = some a) (nf : NF H a) (p : PostS nm X W μ H (r.unl n) D) : PostS nm X W μ (upd H a (.frz od (.dK ys))) r (lkEnds D a od (.dK ys)) := by
  have hm := List.mem_of_getElem? ea
  have x0 : Ext μ H μ (upd H a (.frz od (.dK ys))) := Ext.wrote hm nf
  cases r with
  | nx e S =>
    unfold RS.unl at p
    dsimp only at p
    split at p
    · rename_i ks hk
      intro σ' μ' H' x s E
      obtain ⟨h1, h2, w⟩ := unl_sim ea x s hk
      exact ⟨h1, p σ' μ' _ (x.unlock hm nf) h2 (E.extW w)⟩
    · exact False.elim p
  | bk e S =>
    unfold RS.unl at p
    dsimp only at p
    split at p
    · rename_i ks hk
      intro σ' μ' H' x s E
      obtain ⟨h1, h2, w⟩ := unl_sim ea x s hk
      exact ⟨h1, p σ' μ' _ (x.unlock hm nf) h2 (E.extW w)⟩
    · exact False.elim p
  | ct e S =>
    unfold RS.unl at p
    dsimp only at p
    split at p
    · rename_i ks hk
      intro σ' μ' H' x s E
      obtain ⟨h1, h2, w⟩ := unl_sim ea x s hk
      exact ⟨h1, p σ' μ' _ (x.unlock hm nf) h2 (E.extW w)⟩
    · exact False.elim p
  | rt d S =>
    unfold RS.unl at p
    dsimp only at p
    split at p
    · rename_i ks hk
      intro v μ' H' x s rv
      obtain ⟨h1, h2, w⟩ := unl_sim ea x s hk
      exact ⟨h1, p v μ' _ (x.unlock hm nf) h2 (rv.extW w)⟩
    · exact False.elim p
  | exc c fs e S => exact fun σ' μ' H' C d x s E ea => p σ' μ' H' C d (x0.trans x) s E ea
  | stuck => exact p
theorem rk_keys {K : PySem.W.Frag} {H : Hp} {μ : List Addr} : ∀ {ys : List (Key × V)} {ks : List (Key × D)} {i : Nat} {p : Key × V}, RK K H μ ys ks → ys[i]? = some p → ∃ q, ks[i]? = some q ∧ p.1 = q.1
  | _, _, _, _, .nil, h => by simp at h
  | _, _, 0, _, .cons r _, h => by simp at h; subst h; exact ⟨_, rfl, r.1⟩
  | _, _, i + 1, _, .cons _ t, h => by
    obtain ⟨q, h1, h2⟩ := rk_keys (i := i) t (by simpa using h)
    exact ⟨q, by simpa using h1, h2⟩
theorem dkey_rv {K : PySem.W.Frag} {H : Hp} {μ : List Addr} (k : Key) : RV K H μ (kV k) (dkey k) := by
  cases k with
  | inl i => exact .int i
  | inr x => exact .str x
theorem ms_forK (hp : PassesOwn (model X.prog X.w) X.A X.env X.xe) (hc : X.calm = true) (hi : ME nm X iter im) (hg : MG nm X tg g) (ok : GOk g) (hb : MB nm X body mb) (hs : ∀ x, foldedSetIterable iter X.env x = pure x := by intro _; rfl) : MS nm X (.For tg iter body [] pos) (mForK im g mb) := by
  refine ⟨fun W tk => (ps_lock (ps_for hp hc (pi_keys (hi.run W tk)) (hg.run W tk) (hb.run W tk) hs)).imp fun D σ H h => ?_⟩
  obtain ⟨e, S, μ, E, s, p⟩ := h
  unfold mForK at p
  split at p
  · rename_i n S0 hi0
    split at p
    · rename_i kvs hS
      have hn : n < μ.length := by rw [s.len]; exact (List.getElem?_eq_some_iff.mp hS).1
      have ea : μ[n]? = some μ[n] := List.getElem?_eq_getElem hn
      generalize μ[n] = a at ea
      obtain ⟨ys, e1, r⟩ := s.ob _ _ _ ea hS
      have nf : NF H a := NF.of e1
      refine ⟨a, .dK ys, e1, trivial, fun od => ?_⟩
      have x0 : Ext μ H μ (upd H a (.frz od (.dK ys))) := Ext.wrote (List.mem_of_getElem? ea) nf
      have s0 : Sim nm X.K X.mg μ (S.set n (.lck kvs)) (upd H a (.frz od (.dK ys))) := s.wrote ea ⟨od, ys, upd_same, RK.ext x0 r⟩
      have p0 := unl_post (od := od) (ys := ys) ea nf p
      refine ⟨e, S.set n (.lck kvs), μ, E.ext x0, s0, (PostS.toS (E.ext x0) p0).mono fun x S1 μ1 H1 x1 s1 p1 v rv => ?_⟩
      split at p1
      · rename_i m
        split at p1
        · rename_i hmn
          subst hmn
          split at p1
          · rename_i ks hk
            have ea1 := x1.at ea
            cases rv with | obj e' =>
            rw [ea1] at e'
            cases e'
            have f1 := x1.fz a od (.dK ys) upd_same
            obtain ⟨od1, ys1, f2, rk⟩ := s1.ob _ _ _ ea1 hk
            rw [f1] at f2
            cases f2
            refine ⟨a, od, rfl, .inl ⟨ys, f1, ?_⟩⟩
            refine for_tail (w := ⟨ks.map fun kv => dkey kv.1, fun _ => True⟩) (C := fun H _ => H a = some (.frz od (.dK ys))) ((E.ext x0).ext x1) s1 p1 ok (fun μ H μ' H' x h => x.fz _ _ _ h) f1 ?_
            intro i S3 μ3 H3 s3 c3 _
            refine ⟨fun d hd => ⟨⟨c3, ?_⟩, ?_⟩, fun hl => ⟨c3, ?_⟩⟩
            · have := (List.getElem?_eq_some_iff.mp hd).1
              rw [List.length_map] at this
              rw [rk_len rk]; exact this
            · rintro x H' ⟨rfl, k, v, hk1, rfl⟩
              obtain ⟨q, hq, hkq⟩ := rk_keys rk hk1
              have hd' : (ks.map fun kv => dkey kv.1)[i]? = some (dkey q.1) := by rw [List.getElem?_map, hq]; rfl
              have : some d = some (dkey q.1) := hd.symm.trans hd'
              cases this
              refine ⟨.refl, s3, ?_⟩
              rw [← hkq]
              exact dkey_rv k
            · rw [List.length_map] at hl
              rw [rk_len rk]; exact hl
          · exact False.elim p1
        · exact False.elim p1
      · exact False.elim p1
    · exact False.elim p
  · exact False.elim p
end
end BS
namespace BS
open PySem PySem.Spec PyProof.Rows L2
theorem strs_rev {vs : List Value} {ss : List Str} (h : StrsAre vs ss) : StrsAre vs.reverse ss.reverse := by
  have e := strsAre_map vs.reverse fun v m => h.all v (List.mem_reverse.mp m)
  rwa [List.map_reverse, h.strs] at e
theorem strs_outR {vs out : List Value} {ns : List Str} (hI : StrsAre vs ns) (hs : SrtO.Srtd ltSv out) (hb : SrtO.Stb ltSv out vs.reverse) :
    StrsAre (out.toArray.reverse).toList (sortT ns).reverse := by
  have h1 : StrsAre out (out.map strOf) := strsAre_map out fun v m => hI.all v (List.mem_reverse.mp (hb.perm.mem_iff.mp m))
  have h2 : (out.map strOf).Perm ns := by
    have q := (hb.perm.map strOf).trans ((List.reverse_perm vs).map strOf)
    rwa [hI.strs] at q
  have h3 : (out.map strOf).Pairwise leS := List.pairwise_map.mpr (hs.imp fun {x y} h => h)
  have h4 : out.map strOf = sortT ns := sorted_one (fun a b => leS_anti) (h2.trans (sortT_perm ns).symm) h3 (sortT_sorted ns)
  rw [Array.toList_reverse, ← h4]
  exact strs_rev h1
section
variable {X : Cx}
theorem call_sortedDR (hcalm : X.calm = true) : CallRK X (.builtin "sorted") [Str.ofString "reverse"] (fun xs zs H Q => ∃ (a : Addr) (kvs : List (Key × V)) (ks : List Str), xs = [.ref a] ∧ zs = [.bl true] ∧ Rd H a (.dK kvs) ∧ kvs.map (·.1) = ks.map Sum.inr ∧ True ∧
    ∀ p, H p = none → Q (.ref p) (upd H p (.lst ((sortT ks).reverse.map V.str)))) := by
  intro pins s σ H xs zs us ws Q I r rz q
  obtain ⟨a, kvs, ks, ex, rfl, hd, hks, h64, q⟩ := q
  subst ex
  obtain ⟨u, eu, rx⟩ := vals1 r
  subst eu
  cases rx
  obtain ⟨w1, rfl, e1⟩ := vals1 rz
  obtain rfl : w1 = Value.bool true := e1
  obtain ⟨z, lo, vs, rel, dd⟩ := dk_rd I.hok hd
  obtain ⟨ep, hat⟩ := dd.dictAt
  have hkeys : vs.map (·.1) = ks.map Sum.inr := rel.keys.symm.trans hks
  have hl : vs.length = ks.length := by
    have e := congrArg List.length hkeys
    rw [List.length_map, List.length_map] at e
    exact e
  have h16 : vs.length ≤ sizeLine := by rw [← rel.length]; exact z
  show wpAny _ _ (call (.builtin "sorted") [.ref a] [(Str.ofString "reverse", .bool true)]) _ _ _
  refine PyProof.Rows.call_function_entry_kw PyProof.Rows.kind_sorted PyProof.Rows.plain_sorted PyProof.Rows.entry_sorted (PyProof.Rows.args_sorted_rev _ _) ?_
  unfold Builtin.«sorted»
  refine wpAny_bind (m := checkCount "sorted" 1 1 _) (wpAny_pure ?_)
  refine wpAny_bind (PySem.W.kdu_collect (A := X.A.in1) (PySem.W.kdl_dict (knd := mixKind X.prog X.w) (kvs := vs) (ep := ep) lo) (I.ok.hd hcalm) hat h16 fun h' tk acc hk hacc => ?_)
  have hal : acc.toList.length = ks.length := by rw [Array.length_toList, hacc.1, hl]
  have hS : StrsAre acc.toList ks := L2.strs_at hal fun j v e => by
    obtain ⟨k, x, e1, e2⟩ := hacc.2 j v (by rw [← Array.getElem?_toList]; exact e)
    have e3 : (vs.map (·.1))[j]? = some k := by rw [List.getElem?_map, e1]; all_goals rfl
    rw [hkeys, List.getElem?_map] at e3
    cases e4 : ks[j]? with
    | none => rw [e4] at e3; cases e3
    | some y =>
      rw [e4] at e3
      have e5 : Sum.inr y = k := Option.some.inj e3
      subst e5
      obtain ⟨t, ev⟩ := Value.isStrOf_shape (x := y) (v := v) e2
      exact ⟨y, t, rfl, ev⟩
  have I1 : Inv X pins σ H { s with heap := h', toks := tk } := I.kept hk
  refine wpAny_bind (wpAny_newList ?_ (by rw [hal, ← hl]; exact h16))
  have hoL : (h'.push (seqObj "list" acc.toList.toArray 0)).get? h'.objs.size = some (seqObj "list" acc.toList.toArray 0) := Heap.get?_push_size _ rfl
  show wpAny _ _ _ _ _ { s with heap := h'.push (seqObj "list" acc.toList.toArray 0), toks := tk }
  refine wpAny_bind (wpAny_holding (PyProof.Rows.wpAny_call_entry_kw PyProof.Rows.slot_list_sort ⟨_, hoL, rfl⟩ PyProof.Rows.entry_list_sort ?_ (PyProof.Rows.args_list_sort_rev _ _)))
  refine SrtR.list_sort_ordR (b := true) swo_str hoL (by rw [hal, ← hl]; exact h16) (fun h2 => strs_sortable hS h2) fun out k1 k2 => ⟨_, rfl, ?_⟩
  have g1 := strs_outR hS k1 k2
  obtain ⟨e', he'⟩ := PyProof.Rows.sortedHeap_at (vs := acc.toList) (out := out.toArray.reverse) hoL
  have hlen : ((sortT ks).reverse.map V.str).length ≤ sizeLine := by
    rw [List.length_map, List.length_reverse, (sortT_perm ks).length_eq, ← hl]
    exact h16
  refine wpAny_pure ⟨_, rfl, .ref h'.objs.size, upd H h'.objs.size (.lst ((sortT ks).reverse.map V.str)), I1.laid (t' := tk) (fun b u e => ?_) (Nat.le_refl _)
    (show ObjOk X.prog X.w _ _ _ (.lst ((sortT ks).reverse.map V.str)) from ⟨hlen, (out.toArray.reverse).toList, e', vals_of_strs g1, by rw [Array.toArray_toList]; exact he'⟩), rfl, q _ (I1.hok.fresh (Nat.le_refl _))⟩
  have hb : b < h'.objs.size := Heap.lt_size e
  rw [PyProof.Rows.sortedHeap_old (Nat.ne_of_lt hb) (by rw [size_push']; exact Nat.lt_succ_of_lt hb)]
  exact Heap.get?_push_of_some _ e
end
section
variable {nm : Nms} {X : Cx} {e : Expr} {m : EM} {pos p kpos cpos : Pos} {j : Nat}
def fnSortedR (new : Bool) : FM := fun ds S => match ds with
  | [d] => match dctOf S d with
    | some kvs => match keysT kvs with
      | some zs => fin new ((sortT zs).reverse.map .str) S
      | none => .stuck
    | none => .stuck
  | _ => .stuck
theorem me_sortedR (new : Bool) (hc : X.calm = true) (hg : GlN X "sorted") (hm : X.mg "sorted" = none) (hv : bootBuiltins "sorted" = some (.builtin "sorted")) (ha : MA nm X [e] ma)
    (he : backTo pos (starEach [e] X.env) = (false, eval e X.env) :: backTo pos (starEach [] X.env) := by rfl) (hpl : (backTo pos (starEach [e] X.env)).any (·.1) = false := by rfl) :
    ME nm X (.Call (.Name "sorted" p) [e] [⟨some (Str.ofString "reverse"), .Constant (.bool true) j cpos, kpos⟩] pos) (mCall (fnSortedR new) ma) :=
  ⟨fun W tk => (pe_callBK (call_sortedDR hc) hg.g hm hv (ha.run W tk) (pk_cons pe_bl pk_nil) hg.n hg.d he hpl).imp fun σ H Q h => by
    obtain ⟨e, S, μ, E, s, q⟩ := h
    refine ⟨e, S, μ, E, s, (Post.bind q).mono fun ds S1 μ1 H1 x1 s1 p1 vs rvs => ?_⟩
    unfold fnSortedR at p1
    split at p1
    · rename_i d
      obtain ⟨v, rfl, r1⟩ := one_rv rvs
      split at p1
      · rename_i kvs hk
        split at p1
        · rename_i zs hb
          obtain ⟨n, a, ys, rfl, rfl, _, _, e1, rk⟩ := dctOf_at s1 r1 hk
          exact ⟨a, ys, zs, rfl, rfl, .inl e1, keysT_rk rk hb, True.intro, fun q hp => fin_post s1 (rvs_strsD _) hp p1⟩
        · exact False.elim p1
      · exact False.elim p1
    · exact False.elim p1⟩
end
end BS
namespace BSR
open PySem PySem.Spec PyProof.Rows HT L2
section
variable {prog : Program} {w : World} {A : Around} {E : Value → Shared → Prop} {s : Shared}
theorem places_rev (n : Nat) : Builtin.Slice.slicePlaces ((n : Int) - 1) (-1) (-1) = n := by
  unfold Builtin.Slice.slicePlaces
  have h1 : ¬ (-1 : Int) > 0 := by omega
  have e : (- -1 : Int) = 1 := by decide
  simp only [h1, if_false, e, Int.ediv_one]
  split <;> omega
theorem sliceApplied_rev {sl : Addr} {vs : Value} {n : Nat} {Q : Int × Int × Nat → Shared → Prop} (hs : s.heap.IsSliceOf sl .none .none vs) (ps : IsPart vs (some (-1)))
    (h : Q ((n : Int) - 1, -1, n) s) : wpAny (model prog w) A (Builtin.Slice.sliceApplied (.ref sl) (pure (n : Int))) Q E s := by
  obtain ⟨os, hos, hcs, hds⟩ := id hs
  unfold Builtin.Slice.sliceApplied Builtin.Slice.sliceFields
  refine wpAny_bind (wpAny_bind (wpAny_field hos hds (x := .none) rfl (wpAny_bind (wpAny_field hos hds (x := .none) rfl (wpAny_bind (wpAny_field hos hds (x := vs) rfl (wpAny_pure ?_)))))))
  refine wpAny_bind (slicePart_ ps ?_)
  show wpAny _ _ (if ((-1 : Int) == 0) = true then _ else _) _ _ s
  rw [if_neg (by decide)]
  refine wpAny_bind (slicePart_none (wpAny_bind (slicePart_none (wpAny_bind (wpAny_pure ?_)))))
  show wpAny _ _ (match Builtin.Slice.sliceAdjust none none (-1) (n : Int) with | (lo, hi) => pure (lo, (-1 : Int), Builtin.Slice.slicePlaces lo hi (-1))) _ _ s
  have e : Builtin.Slice.sliceAdjust none none (-1) (n : Int) = ((n : Int) - 1, -1) := rfl
  rw [e]
  show wpAny _ _ (pure (((n : Int) - 1), (-1 : Int), Builtin.Slice.slicePlaces ((n : Int) - 1) (-1) (-1))) _ _ s
  rw [places_rev]
  exact wpAny_pure h
theorem fm_congr {α β : Type} {f g : α → Option β} : ∀ {l : List α}, (∀ x ∈ l, f x = g x) → l.filterMap f = l.filterMap g
  | [], _ => rfl
  | x :: l, h => by
    rw [List.filterMap_cons, List.filterMap_cons, h x (by simp), fm_congr fun y hy => h y (by simp [hy])]
theorem pick_rev (xs : Array Value) : ((List.range xs.size).filterMap fun (m : Nat) => xs[(((xs.size : Int) - 1) + (m : Int) * (-1)).toNat]?).toArray = xs.toList.reverse.toArray := by
  have e : ((List.range xs.size).filterMap fun (m : Nat) => xs[(((xs.size : Int) - 1) + (m : Int) * (-1)).toNat]?) = ((List.range xs.size).map fun k => xs.size - 1 - k).filterMap (xs[·]?) := by
    rw [List.filterMap_map]
    apply fm_congr
    intro m hm
    have := List.mem_range.mp hm
    have e2 : (((xs.size : Int) - 1) + (m : Int) * (-1)).toNat = xs.size - 1 - m := by omega
    show xs[_]? = xs[_]?
    rw [e2]
  rw [e, PySem.W.krv_range, List.filterMap_reverse, PySem.W.krv_all]
theorem getItem_tuple_rev {t sl : Addr} {items : Array Value} {vs : Value} {Q : Value → Shared → Prop} (ht : IsTup s.heap t items) (hs : s.heap.IsSliceOf sl .none .none vs) (ps : IsPart vs (some (-1)))
    (h : Q (.ref s.heap.objs.size) { s with heap := s.heap.push { cls := .type "tuple", data := .seq items.toList.reverse.toArray } })
    (hsz : items.size ≤ sizeLine) : wpAny (model prog w) A (getItem (.ref t) (.ref sl)) Q E s := by
  have htake : sizeOk (.seq items.toList.reverse.toArray) := by
    show items.toList.reverse.toArray.size ≤ sizeLine
    rw [List.size_toArray, List.length_reverse, Array.length_toList]
    exact hsz
  obtain ⟨os, hos, hcs, hds⟩ := id hs
  have hTs : s.TypeIs (.ref sl) "slice" := ⟨os, hos, hcs⟩
  unfold getItem
  try with_reducible refine wpAny_holding ?_
  first | refine wpAny_bind (wpAny_pure ?_) | skip
  refine wpAny_bind (wpAny_sequenceKey ht.typeIs (by decide) ?_)
  refine wpAny_bind (wpAny_callSpecial?_slot (name := Str.ofString "__getitem__") ht.typeIs PyProof.Rows.slot_tuple_getitem
    (wpAny_call_entry PyProof.Rows.slot_tuple_getitem ht.typeIs entry_tuple_getitem ?_ (args_tuple_getitem _ _)))
  show wpAny _ _ (Builtin.Tuple.tupleItemsOf (.ref t) >>= _) _ _ s
  refine wpAny_bind (tupleItemsOf_ ht ?_)
  refine wpAny_bind (wpAny_typeOf hTs ?_)
  rw [if_pos (by decide)]
  refine wpAny_bind (sliceApplied_rev hs ps ?_)
  have hno : ¬ ((((items.size : Int) - 1) == 0 && (-1 : Int) == 1 && items.size == items.size) = true) := by
    intro q
    rw [Bool.and_eq_true, Bool.and_eq_true] at q
    exact absurd (eq_of_beq q.1.2) (by decide)
  show wpAny _ _ (if (((items.size : Int) - 1) == 0 && (-1 : Int) == 1 && items.size == items.size) = true then _ else _) _ _ s
  rw [if_neg hno, pick_rev]
  first
    | exact wpAny_bind (m := Builtin.Tuple.tupleExact _) (wpAny_newObj_type (wpAny_pure ⟨_, rfl, wpAny_pure h⟩) htake)
    | exact wpAny_bind (m := Builtin.Tuple.tupleExact _) (wpAny_newObj_type (wpAny_bind (wpAny_pure (wpAny_pure ⟨_, rfl, wpAny_pure h⟩))) htake)
    | exact wpAny_bind (wpAny_bind (m := Builtin.Tuple.tupleExact _) (wpAny_newObj_type (wpAny_pure (wpAny_pure ⟨_, rfl, wpAny_pure h⟩)) htake))
    | exact wpAny_bind (wpAny_bind (m := Builtin.Tuple.tupleExact _) (wpAny_newObj_type (wpAny_pure ⟨_, rfl, wpAny_pure h⟩) htake))
end
section
variable {X : Cx}
/-- x[::-1], a list or a tuple -/
def tRev (K : PySem.W.Frag) (te : TE) : TE := fun σ H Q => te σ H fun x H1 => ∃ a xs, x = .ref a ∧ ((SqL K H1 a xs ∧ ∀ p, H1 p = none → Q (.ref p) (upd H1 p (.lst xs.reverse))) ∨ (SqT K H1 a xs ∧ ∀ p, H1 p = none → Q (.ref p) (upd H1 p (.tup xs.reverse))))
theorem pe_rev {e : Expr} {te : TE} {k : Nat} {p1 p2 p3 pos : Pos} (he : PE X e te) : PE X (.Subscript e (.Slice none none (some (.UnaryOp .USub (.Constant (.int 1) k p1) p2)) p3) pos) (tRev X.K te) := by
  refine ⟨fun pins s σ H Q I h => ?_⟩
  refine Subscript_ (thn (he.run pins s σ H _ I h) fun v s1 ⟨x, H1, I1, r1, q1⟩ => ?_)
  obtain ⟨a, xs, ex, q⟩ := q1
  subst ex
  cases r1
  have hst : PO X (some (.UnaryOp .USub (.Constant (.int 1) k p1) p2)) (tPart (tUn (rU fun i => .int (-i)) (tC (.int 1)))) := po_some (pe_un un_neg pe_int)
  refine wpAny_Slice (thn (po_none.run pins s1 σ H1 (fun o H2 => o = none ∧ H2 = H1) I1 ⟨rfl, rfl⟩) fun vl s2 ⟨l, H2, I2, pl, el, e2⟩ => ?_)
  subst el e2
  refine thn (po_none.run pins s2 σ H2 (fun o H3 => o = none ∧ H3 = H2) I2 ⟨rfl, rfl⟩) fun vu s3 ⟨u, H3, I3, pu, eu, e3⟩ => ?_
  subst eu e3
  refine thn (hst.run pins s3 σ H3 (fun o H4 => o = some (-1) ∧ H4 = H3) I3 ⟨1, rfl, -1, rfl, rfl, rfl⟩) fun vs s4 ⟨o, H4, I4, ps, eo, e4⟩ => ?_
  subst eo e4
  have I5 : Inv X pins σ H4 { s4 with heap := s4.heap.push { cls := .type "slice", data := .fields #[vl, vu, vs] } } := I4.kept (t' := s4.toks) fun b ob q => Heap.get?_push_of_some _ q
  show wpAny (model X.prog X.w) X.A (subscriptTail e (.Slice none none (some (.UnaryOp .USub (.Constant (.int 1) k p1) p2)) p3) (.ref a) (.ref s4.heap.objs.size)) (EP X pins σ Q) X.xe { s4 with heap := s4.heap.push { cls := .type "slice", data := .fields #[vl, vu, vs] } }
  rcases q with ⟨hx, q⟩ | ⟨hx, q⟩
  · obtain ⟨its, r, ht, hz⟩ := I5.list hx
    have hlen := r.length
    refine tail_any (ops := [.ref a, .ref s4.heap.objs.size]) ht.isList.typeIs (PySem.slot_list_getitem.lookup) ?_ (by with_unfolding_all rfl)
    refine wpAny_getItem_list_slice ht.isList (Heap.IsSliceOf.new _ vl vu vs) pl pu ps (by decide) ?_ (by rw [List.size_toArray]; omega)
    rw [PySem.W.krv_pick]
    refine ⟨.ref _, _, I5.laid (t' := s4.toks) (o := .lst xs.reverse) (fun b ob q => Heap.get?_push_of_some _ q) (Nat.le_refl _) ?_, rfl, q _ (I5.hok.fresh (Nat.le_refl _))⟩
    exact ⟨by rw [List.length_reverse]; exact hz, _, 0, r.reverse, Heap.get?_push_size _ rfl⟩
  · obtain ⟨its, r, ht, hz⟩ := I5.tuple hx
    have hlen := r.length
    cases pl
    cases pu
    refine tail_any (ops := [.ref a, .ref s4.heap.objs.size]) ht.typeIs (PyProof.Rows.slot_tuple_getitem.lookup) ?_ (by with_unfolding_all rfl)
    refine getItem_tuple_rev ht (Heap.IsSliceOf.new _ _ _ vs) ps ?_ (by rw [List.size_toArray]; omega)
    refine ⟨.ref _, _, I5.laid (t' := s4.toks) (o := .tup xs.reverse) (fun b ob q => Heap.get?_push_of_some _ q) (Nat.le_refl _) ?_, rfl, q _ (I5.hok.fresh (Nat.le_refl _))⟩
    exact ⟨by rw [List.length_reverse]; exact hz, _, r.reverse, IsTup.new _ _⟩
end
end BSR
namespace BS
open PySem PySem.Spec PyProof.Rows L2
theorem RVs.rev {K : PySem.W.Frag} {H : Hp} {μ : List Addr} : ∀ {xs : List V} {ds : List D}, RVs K H μ xs ds → RVs K H μ xs.reverse ds.reverse
  | _, _, .nil => .nil
  | _, _, .cons r t => by
    rw [List.reverse_cons, List.reverse_cons]
    exact (RVs.rev t).append (.cons r .nil)
section
variable {nm : Nms} {X : Cx} {e : Expr} {me : EM} {pos p1 p2 p3 : Pos} {k : Nat}
def slRev (new : Bool) (S : Store) (x : D) : R D := match x with
  | .tup ds => .ok (.tup ds.reverse) S
  | _ => match lstOf S x with
    | some ds => fin new ds.reverse S
    | none => .stuck
def mRev (new : Bool) (a : EM) : EM := fun e S => (a e S).bind fun x S => slRev new S x
theorem me_rev (new : Bool) (he : ME nm X e me) : ME nm X (.Subscript e (.Slice none none (some (.UnaryOp .USub (.Constant (.int 1) k p1) p2)) p3) pos) (mRev new me) := by
  refine ⟨fun W tk => (BSR.pe_rev (he.run W tk)).imp fun σ H Q h => ?_⟩
  obtain ⟨e, S, μ, E, s, p⟩ := h
  refine ⟨e, S, μ, E, s, (Post.bind p).mono fun d S1 μ1 H1 x1 s1 p1 v rv => ?_⟩
  unfold slRev at p1
  split at p1
  · cases rv with | tup t r =>
    exact ⟨_, _, rfl, .inr ⟨t.sq, fun p np => tup_post s1 (RVs.rev r) np p1⟩⟩
  · split at p1
    · rename_i ds hds
      obtain ⟨a, xs, rfl, hs, r⟩ := lstOf_sq s1 rv hds
      exact ⟨a, xs, rfl, .inl ⟨hs, fun p np => fin_post s1 (RVs.rev r) np p1⟩⟩
    · exact False.elim p1
end
section
variable {nm : Nms} {X : Cx}
def fnGet1 : FM := fun ds S => match ds with
  | [x, k] => match dctOf S x with
    | some kvs => match keyOf k with
      | some key => .ok ((getK kvs key).getD .non) S
      | none => .stuck
    | none => .stuck
  | _ => .stuck
theorem t_get1 {k : Nat} (hr : L2H.RoomH k X.A) : MtD nm X "dict.get" fnGet1 := by
  intro pins s σ H x xs v us Q I rx r h
  obtain ⟨ds, S, μ, E, rv, sm, p⟩ := h
  unfold fnGet1 at p
  split at p
  · rename_i dx dk
    split at p
    · rename_i kvs hk
      split at p
      · rename_i key hkey
        obtain ⟨r1, rt⟩ := rvs_cons rv
        obtain ⟨y, rfl, r2⟩ := one_rv rt
        obtain ⟨n, a, ys, rfl, rfl, _, _, e1, rk⟩ := dctOf_at sm r1 hk
        have ek := keyOf_kV r2 hkey
        subst ek
        cases rx
        obtain ⟨u, rfl, ru⟩ := vals1 r
        refine d_get1 (by have := hr.un; omega) I (DGet.k e1) ru fun w2 s' I' rl => ⟨_, H, I', rl, ?_⟩
        rcases getK_val key rk with ⟨h1, h2⟩ | ⟨w3, d', h1, h2, h3⟩
        · rw [h1]; rw [h2] at p; exact p μ H .refl sm _ .non
        · rw [h1]; rw [h2] at p; exact p μ H .refl sm _ h3
      · exact False.elim p
    · exact False.elim p
  · exact False.elim p
end
end BS
namespace BS
open PySem PySem.Spec PyProof.Rows L2
section
variable {nm : Nms} {X : Cx}
theorem three_rv {K : PySem.W.Frag} {H : Hp} {μ : List Addr} {xs : List V} {d d' d'' : D} (r : RVs K H μ xs [d, d', d'']) : ∃ v w z, xs = [v, w, z] ∧ RV K H μ v d ∧ RV K H μ w d' ∧ RV K H μ z d'' := by
  cases r with | cons r t => obtain ⟨w, z, rfl, r', r''⟩ := two_rv t; exact ⟨_, _, _, rfl, r, r', r''⟩
def fnFind1 : FM := fun ds S => match ds with
  | [.str a, .str b] => .ok (.int (Txt.find a b)) S
  | _ => .stuck
theorem t_find1 : MtD nm X "str.find" fnFind1 := by
  intro pins s σ H x xs v us Q I rx r h
  obtain ⟨ds, S, μ, E, rv, sm, p⟩ := h
  unfold fnFind1 at p
  split at p
  · obtain ⟨w, z, e, r1, r2⟩ := two_rv rv
    cases r1; cases r2; cases e
    exact mt_find pins s σ H _ _ v us Q I rx r ⟨_, _, rfl, rfl, p μ H .refl sm _ (.int _)⟩
  · exact False.elim p
def fnFind2 : FM := fun ds S => match ds with
  | [.str a, .str b, .int i] => .ok (.int (Txt.find3 a b i)) S
  | _ => .stuck
theorem t_find2 : MtD nm X "str.find" fnFind2 := by
  intro pins s σ H x xs v us Q I rx r h
  obtain ⟨ds, S, μ, E, rv, sm, p⟩ := h
  unfold fnFind2 at p
  split at p
  · obtain ⟨w, z, u, e, r1, r2, r3⟩ := three_rv rv
    cases r1; cases r2; cases r3; cases e
    exact mt_find3 pins s σ H _ _ v us Q I rx r ⟨_, _, _, rfl, rfl, p μ H .refl sm _ (.int _)⟩
  · exact False.elim p
def fnStartswith : FM := fun ds S => match ds with
  | [.str a, .str b] => .ok (.bl (Txt.startswith a b)) S
  | _ => .stuck
theorem t_startswith : MtD nm X "str.startswith" fnStartswith := by
  intro pins s σ H x xs v us Q I rx r h
  obtain ⟨ds, S, μ, E, rv, sm, p⟩ := h
  unfold fnStartswith at p
  split at p
  · obtain ⟨w, z, e, r1, r2⟩ := two_rv rv
    cases r1; cases r2; cases e
    exact mt_startswith pins s σ H _ _ v us Q I rx r ⟨_, _, rfl, rfl, p μ H .refl sm _ (.bl _)⟩
  · exact False.elim p
def txtsOf : List D → Option (List Str)
  | [] => some []
  | .str a :: r => (txtsOf r).map (a :: ·)
  | _ :: _ => none
theorem txtsOf_rv {K : PySem.W.Frag} {H : Hp} {μ : List Addr} : ∀ {ds : List D} {xs : List V} {ys : List Str}, RVs K H μ xs ds → txtsOf ds = some ys → xs = ys.map V.str
  | [], _, ys, .nil, h => by cases h; rfl
  | d :: ds, _, ys, .cons r t, h => by
    cases d with
    | str a =>
      obtain ⟨zs, e, rfl⟩ := Option.map_eq_some_iff.mp (show (txtsOf ds).map (a :: ·) = some ys from h)
      cases r
      rw [txtsOf_rv t e]
      rfl
    | _ => cases h
def fnJoin : FM := fun ds S => match ds with
  | [.str a, d] => match seqOf S d with
    | some ds => match txtsOf ds with
      | some ys => if (ys.map (·.length)).sum + ys.length * a.length ≤ 16777216 then .ok (.str (Str.join a ys)) S else .stuck
      | none => .stuck
    | none => .stuck
  | _ => .stuck
theorem t_join : MtD nm X "str.join" fnJoin := by
  intro pins s σ H x xs v us Q I rx r h
  obtain ⟨ds, S, μ, E, rv, sm, p⟩ := h
  unfold fnJoin at p
  split at p
  · obtain ⟨w, z, e, r1, r2⟩ := two_rv rv
    cases r1; cases e
    split at p
    · rename_i ds hds
      obtain ⟨l, zs, rfl, hs, r3⟩ := seqOf_sq sm r2 hds
      split at p
      · rename_i ys hy
        split at p
        · rename_i hz
          rw [txtsOf_rv r3 hy] at hs
          refine mt_join pins s σ H _ _ v us Q I rx r ⟨_, _, ys, rfl, rfl, hs, hz, ?_⟩
          rw [TL.join_eq]
          exact p μ H .refl sm _ (.str _)
        · exact False.elim p
      · exact False.elim p
    · exact False.elim p
  · exact False.elim p
/-- e.replace of two written texts -/
def mRepl (y z : Str) (mo : EM) : EM := fun e S => (mo e S).bind fun d S => match d with
  | .str x => if x.length + (x.length + 1) * z.length ≤ 16777216 then .ok (.str (Txt.replace x y z)) S else .stuck
  | _ => .stuck
/-- a written text, + e.replace of two written texts -/
theorem me_catRepl {o : Expr} {mo : EM} {c y z : Str} {j j1 j2 : Nat} {p0 c0 c1 apos pos p1 : Pos} (ho : ME nm X o mo) (hyz : (y == z) = false := by decide +kernel)
    (hst : starEach [.Constant (.str y) j1 c0, .Constant (.str z) j2 c1] X.env = [(false, eval (.Constant (.str y) j1 c0) X.env), (false, eval (.Constant (.str z) j2 c1) X.env)] := by rfl)
    (hbase : attributeBase o "replace" X.env (eval o X.env) = eval o X.env := by rfl) (hline : (apos.endLine == pos.line) = true := by rfl) :
    ME nm X (.BinOp (.Constant (.str c) j p0) .Add (.Call (.Attribute o "replace" apos) [.Constant (.str y) j1 c0, .Constant (.str z) j2 c1] [] pos) p1) (mBin fAdd (mC (.str c)) (mRepl y z mo)) := by
  refine ⟨fun W tk => ⟨fun pins s σ H Q I h => ?_⟩⟩
  obtain ⟨e, S, μ, E, sm, p⟩ := bin_rd h
  have q := p μ H .refl sm (.str c) (.str c)
  refine wpAny_BinOp (Calls.Constant_str ?_)
  refine thn (CwR.pet_replC (ho.run W tk) hyz hst hbase hline pins { s with toks := s.toks + 1 } σ H (fun y2 H2 => rOpD nm X fAdd (.str c) y2 H2 Q) (by show 1 ≤ s.toks + 1; omega) (I.tok _) ?_) fun u s2 ⟨y2, H2, I2, r2, q2⟩ => o_add pins s2 σ H2 (.str c) y2 _ u Q I2 ⟨_, rfl⟩ r2 q2
  obtain ⟨e2, S2, μ2, E2, sm2, p2⟩ := q
  refine ⟨e2, S2, μ2, E2, sm2, (Post.bind p2).mono fun d S3 μ3 H3 x3 s3 p3 v rv => ?_⟩
  split at p3
  · rename_i x
    split at p3
    · rename_i hz
      cases rv
      exact ⟨x, rfl, hz, p3 μ3 H3 .refl s3 _ (.str _)⟩
    · exact False.elim p3
  · exact False.elim p3
def mFmt (m : EM) : EM := fun e S => (m e S).bind fun d S => match d with
  | .str y => if y.length ≤ sizeLine then .ok (.str y) S else .stuck
  | .int i => if i.natAbs.log2 < 1920 then .ok (.str (Str.ofString (toString i))) S else .stuck
  | _ => .stuck
theorem me_fmt {e : Expr} {m : EM} {pos : Pos} (h : ME nm X e m) : ME nm X (.FormattedValue e (-1) none pos) (mFmt m) := by
  refine ⟨fun W tk => (pe_fmt (h.run W tk)).imp fun σ H Q h => ?_⟩
  obtain ⟨e, S, μ, E, sm, p⟩ := h
  refine ⟨e, S, μ, E, sm, (Post.bind p).mono fun d S3 μ3 H3 x3 s3 p3 v rv => ?_⟩
  split at p3
  · split at p3
    · rename_i hz; cases rv; exact .inl ⟨_, rfl, hz, p3 μ3 H3 .refl s3 _ (.str _)⟩
    · exact False.elim p3
  · split at p3
    · rename_i hz; cases rv; exact .inr ⟨_, rfl, hz, p3 μ3 H3 .refl s3 _ (.str _)⟩
    · exact False.elim p3
  · exact False.elim p3
abbrev JM := Str → Ev → Store → R D
def mjNil : JM := fun acc _ S => .ok (.str acc) S
def mjCons (m : EM) (r : JM) : JM := fun acc e S => (m e S).bind fun d S => match d with
  | .str y => if (acc ++ y).length ≤ sizeLine then r (acc ++ y) e S else .stuck
  | _ => .stuck
structure MJ (nm : Nms) (X : Cx) (es : List Expr) (m : JM) : Prop where
  run : ∀ W, Takes X W → ∃ ts, PJ X es ts ∧ ∀ acc σ H Q, rdE nm X W (m acc) σ H Q → tJs ts acc σ H (fun out H1 => Q (.str out) H1)
theorem mj_nil : MJ nm X [] mjNil := ⟨fun W tk => ⟨[], .nil, fun acc σ H Q h => by
  obtain ⟨e, S, μ, E, sm, p⟩ := h
  exact p μ H .refl sm _ (.str _)⟩⟩
theorem mj_cons {e : Expr} {es : List Expr} {m : EM} {r : JM} (h : ME nm X e m) (hr : MJ nm X es r) : MJ nm X (e :: es) (mjCons m r) := ⟨fun W tk => by
  obtain ⟨ts, h1, h2⟩ := hr.run W tk
  refine ⟨_, .cons (h.run W tk) h1, fun acc σ H Q h => ?_⟩
  obtain ⟨e, S, μ, E, sm, p⟩ := h
  refine ⟨e, S, μ, E, sm, (Post.bind p).mono fun d S3 μ3 H3 x3 s3 p3 v rv => ?_⟩
  split at p3
  · rename_i y
    split at p3
    · rename_i hz
      cases rv
      exact ⟨y, rfl, hz, h2 _ σ H3 Q ⟨e, S3, μ3, E.ext x3, s3, p3⟩⟩
    · exact False.elim p3
  · exact False.elim p3⟩
def mJoined (m : JM) : EM := fun e S => m Str.empty e S
theorem me_joined {v1 v2 : Expr} {rest : List Expr} {m : JM} {pos : Pos} (h : MJ nm X (v1 :: v2 :: rest) m) : ME nm X (.JoinedStr (v1 :: v2 :: rest) pos) (mJoined m) := ⟨fun W tk => by
  obtain ⟨ts, h1, h2⟩ := h.run W tk
  exact (pe_joined h1).imp fun σ H Q h => h2 _ σ H Q h⟩
end
end BS
namespace BS
open PySem PySem.Spec PyProof.Rows L2
structure FnS (P : Program) (w : World) (K : PySem.W.Frag) (mg : Str → Option Value) (base : Heap) (CX : CXT) (k : Nat) (f : Addr) (fd : FuncData) (ps : List Str) (sp : Sp) : Prop where
  len : ∀ vs H Q E, sp vs H Q E → vs.length = ps.length
  run : ∀ (A : Around) (outer : List Env) (s : Shared) (H : Hp) (args : Args) (us : List Value) (vs : List V) (Q : VK) (E : XK), L2H.RoomH k A → Env0 P w K mg base A outer s H → BindsTo s fd args (ps.zip us) → Vals vs us → sp vs H Q E →
    codeAny (model P w) A (.call (.ref f) args) (CR CX outer P w H s Q E) s
def cxS (CX : CXT) (P : Program) (w : World) (K : PySem.W.Frag) (mg : Str → Option Value) (base : Heap) (N : List Str) (qual : Str) (scope : Scope) (f : Addr) (cd : Value) (A : Around) (outer : List Env) (s : Shared) (H : Hp) (E : XK) : Cx :=
  { cxOf CX P w K mg base N qual scope f cd A outer s H E with calm := false }
theorem inv_startS {CX : CXT} {P : Program} {w : World} {K : PySem.W.Frag} {mg : Str → Option Value} {base : Heap} {N ps : List Str} {qual : Str} {scope : Scope} {f : Addr} {cd : Value} {A : Around} {outer : List Env} {s s1 : Shared} {H : Hp} {E : XK} {us : List Value} {vs : List V}
    (S : FnScope N ps scope) (e0 : Env0 P w K mg base A outer s H) (hl : vs.length = ps.length) (r : Vals vs us)
    (x : InCallC s s.heap.objs.size (bindL (envOfC qual scope s.heap.objs.size f cd).kindOf (ps.zip us) fun _ => none) (cellsFrom (s.heap.objs.size + 1) scope.names []) (bindC (envOfC qual scope s.heap.objs.size f cd).kindOf (ps.zip us) fun _ => none) s1) :
    Inv (cxS CX P w K mg base N qual scope f cd A outer s H E) [] (L2.start N vs) H s1 := by
  have hpl : ps.length ≤ N.length := by have := congrArg List.length S.pre; rw [List.length_take] at this; omega
  obtain ⟨h1, tk, rfl, hk⟩ := x.done
  have noA : ∀ b : Addr, b ∉ (cxS CX P w K mg base N qual scope f cd A outer s H E).ex := fun b z => absurd (show b ∈ ([] : List Addr) from z) (by simp)
  refine ⟨⟨e0.mod, S.kind, rfl, rfl, Nat.le_refl _, fun y z c h1 h2 => ?_, fun y hy => ?_, fun y c _ h => ?_, (fun z => Bool.noConfusion (show false = true from z)), Around.frames_deeper e0.frames, .inr ⟨rfl, rfl⟩, fun b z => absurd z (noA b), e0.bs, e0.bsz, fun b _ _ => noA b, fun b z => absurd z (noA b), e0.funs, e0.frf⟩,
    rfl, e0.bare, Un.kept hk, ⟨_, x.toInCall.ns, fun i y v h1 h2 h3 => ?_⟩, fun y c h => ⟨_, x.cell y c h⟩, e0.hok.fresh (Nat.le_refl _), fun y c h => ?_, fun p hp => absurd (show p ∈ ([] : List (Addr × Obj)) from hp) (by simp), e0.hok.kept hk, ?_⟩
  · exact name_of_addr x.apart (PySem.mem_of_lookup h1) (PySem.mem_of_lookup h2)
  · have hy : scope.names.lookup y = some .cell ∨ scope.names.lookup y = some .free := hy
    rcases hy with hy | hy
    · exact cell_has hy
    · exact absurd rfl (S.nofree _ (PySem.mem_of_lookup hy))
  · exact Nat.le_of_lt (x.above y c (PySem.mem_of_lookup h))
  · have hi : i < vs.length := by
      unfold L2.start at h2
      by_cases hi : i < vs.length
      · exact hi
      · rw [List.getElem?_append_right (by simpa using hi)] at h2
        rw [List.getElem?_replicate] at h2
        split at h2 <;> cases h2
    have ha : vs[i]? = some v := by
      unfold L2.start at h2
      rw [List.getElem?_append_left (by simpa using hi), List.getElem?_map] at h2
      cases e : vs[i]? with
      | none => rw [e] at h2; cases h2
      | some a => rw [e] at h2; cases h2; rfl
    obtain ⟨u, hu, rv⟩ := r.get ha
    have hp : ps[i]? = some y := by
      rw [← S.pre, List.getElem?_take_of_lt (by omega)]; exact h1
    have ndP : ps.Nodup := by rw [← S.pre]; exact S.nd.sublist (List.take_sublist _ _)
    refine ⟨u, rv, ?_⟩
    rcases S.par y (List.mem_of_getElem? hp) with k | k
    · exact .inl ⟨k, bindL_get ndP hp hu k⟩
    · obtain ⟨c, e⟩ := cell_has (n := s.heap.objs.size + 1) k
      refine .inr ⟨.inl k, c, e, ?_⟩
      have q := x.cell y c e
      rw [bindC_get ndP hp hu (by show scope.names.lookup y ≠ _; rw [k]; decide)] at q
      exact q
  · exact e0.hok.fresh (Nat.le_of_lt (x.above y c (PySem.mem_of_lookup h)))
  · unfold L2.start
    show _ = N.length
    rw [List.length_append, List.length_map, List.length_replicate]
    omega
theorem fn_ofS {CX : CXT} {P : Program} {w : World} {K : PySem.W.Frag} {mg : Str → Option Value} {base : Heap} {k : Nat} {f : Addr} {name qual : Str} {params : Arguments} {body : List Stmt} {scope : Scope} {dV kV doc pm cdv ct oc : Value} {an od : Option Addr}
    {osl : Array (Option Value)} {N ps : List Str} {sp : Sp} (lk : K.lookup f = some ⟨oc, od, .func (PySem.W.fnOf name qual params body scope dV kV doc pm an cdv ct), osl⟩) (hcd : PySem.W.codeIn K cdv qual = true) (S : FnScope N ps scope)
    (len : ∀ vs H Q E, sp vs H Q E → vs.length = ps.length)
    (hbody : ∀ (A : Around) (outer : List Env) (s : Shared) (H : Hp) (vs : List V) (Q : VK) (E : XK), L2H.RoomH k (A.deeper (envOfC qual scope s.heap.objs.size f cdv)) → sp vs H Q E →
      ∃ t, PSs (cxS CX P w K mg base N qual scope f cdv A outer s H E) body t ∧ t { nx := fun _ H' => Q .non H', rt := Q } (L2.start N vs) H) :
    FnS P w K mg base CX (k + 1) f (PySem.W.fnOf name qual params body scope dV kV doc pm an cdv ct) ps sp := by
  refine ⟨len, fun A outer s H args us vs Q E hr e0 hb r hsp => ?_⟩
  have hl := len _ _ _ _ hsp
  have KX : K.In s.heap := e0.mod.kin.keeps fun b o e => (e0.bs b o e).1
  have lim : s.heap.NoLimit := e0.mod.nolimit.keeps fun b o e => (e0.bs b o e).1
  have hkind : ∀ y ∈ ps.zip us, scope.names.lookup y.1 = some .local ∨ (scope.names.lookup y.1 = some .cell ∧ ((cellsFrom (s.heap.objs.size + 1) scope.names []).lookup y.1).isSome = true) := fun ⟨n, v⟩ hy => by
    rcases S.par n (List.of_mem_zip hy).1 with q | q
    · exact .inl q
    · exact .inr ⟨q, PySem.W.cellsFrom_some _ _ _ (.inl q)⟩
  refine codeAny_call_function hr.depth (KX _ _ lk) rfl S.co S.gen rfl (PySem.W.codeRec_of KX hcd) (hb _ _ _ _ ?_)
  refine wpAny_newFunctionEnv_cells S.kind hkind fun env he s1 x => ?_
  subst he
  refine ⟨lim.keeps x.toInCall.keep, codeAny_func ?_⟩
  obtain ⟨t, ht, hq⟩ := hbody A outer s H vs Q E (hr.deeper _) hsp
  have I : Inv (cxS CX P w K mg base N qual scope f cdv A outer s H E) [] (L2.start N vs) H s1 := inv_startS S e0 hl r x
  refine wpAny_mono (ht.run [] s1 (L2.start N vs) H _ I hq) (fun fl s' hs => ?_) fun e s' hs => hs
  have fin : ∀ {σ' : St} {H' : Hp} {v : V} {u : Value}, Inv (cxS CX P w K mg base N qual scope f cdv A outer s H E) [] σ' H' s' → RelV v u → Q v H' → CE outer P w H s Q u s' :=
    fun {σ' H' v u} J rv q => ⟨v, H', J.os, J.bare, J.base, J.hok, rv, q⟩
  cases fl with
  | ret u =>
    obtain ⟨v, σ', H', J, rv, q⟩ := hs
    exact fin J rv q
  | next =>
    obtain ⟨σ', H', J, q⟩ := hs
    exact fin (v := V.non) (u := Value.none) J rfl q
  | brk =>
    obtain ⟨_, _, _, q⟩ := hs
    exact False.elim q
  | cont =>
    obtain ⟨_, _, _, q⟩ := hs
    exact False.elim q
theorem den_okS {nm : Nms} {P : Program} {w : World} {K : PySem.W.Frag} {mg : Str → Option Value} {base : Heap} {x qual : Str} {st : Stmt} {f : Addr} {fd : FuncData} {N ps : List Str} {k : Nat} {m : SM} (F : Fun K x qual st f fd) (S : FnScope N ps (defScope st))
    (hb : ∀ (cdv : Value) (A : Around) (outer : List Env) (s : Shared) (H : Hp) (E : XK), L2H.RoomH k (A.deeper (envOfC qual (defScope st) s.heap.objs.size f cdv)) → MB nm (cxS (L2.CX P w) P w K mg base N qual (defScope st) f cdv A outer s H E) (defBody st) m) {V : FM} {n : Nat} (hV : den N.length m = V) (hn : ps.length = n) :
    FnS P w K mg base (L2.CX P w) (k + 1) f fd ps (spD nm K mg n V) := by
  subst hV hn
  obtain ⟨oc, od, kV, doc, pm, an, cdv, ct, osl, rfl, lk, hcd⟩ := F.ex
  refine fn_ofS lk hcd S (fun vs H Q E h => ?_) fun A outer s H vs Q E hr h => ?_
  · obtain ⟨ds, S, μ, r, hl, _⟩ := h
    rw [r.length, hl]
  · obtain ⟨ds, S', μ, r, hl, sm, p⟩ := h
    refine ⟨_, (hb cdv A outer s H E hr).run (fun cls d _ H => E cls d H) (takes_of rfl rfl rfl rfl), ⟨ds.map some ++ List.replicate (N.length - ds.length) none, []⟩, S', μ, evr_start r ?_, sm, ?_⟩
    · have := congrArg List.length S.pre
      rw [List.length_take] at this
      omega
    · unfold den at p
      cases hr : m ⟨ds.map some ++ List.replicate (N.length - ds.length) none, []⟩ S' with
      | nx e S2 => rw [hr] at p; exact fun σ' μ' H' x s _ => p μ' H' x s _ .non
      | bk e S2 => rw [hr] at p; exact False.elim p
      | ct e S2 => rw [hr] at p; exact False.elim p
      | rt d S2 => rw [hr] at p; exact fun v μ' H' x s r => p μ' H' x s v r
      | exc c fs e S2 => rw [hr] at p; exact fun σ' μ' H' C d x s _ a => p μ' H' C d x s a
      | stuck => rw [hr] at p; exact False.elim p
section
variable (P : Program) (w : World) (K : PySem.W.Frag) (mg : Str → Option Value) (base : Heap) (nm : Nms)
def MethOkS (k : Nat) (c : Nat) (m : Str) (n : Nat) (F : FM) : Prop :=
  ∃ C f fd ps, mg (nm.cls c) = some (.ref C) ∧ Cls K C ∧ Meth K C m f ∧ ps.length = n ∧ Binds K fd ps [] ∧ FnS P w K mg base (L2.CX P w) k f fd ps (spD nm K mg n F) ∧ ∀ i, i < nm.most → nm.fld i ≠ m
end
section
variable {nm : Nms} {X : Cx} {pins : List (Addr × Obj)} {σ : St} {H : Hp} {s : Shared} {W : WX} {k n : Nat} {x m : Str} {F : FM} {vs : List V} {us : List Value} {ds : List D} {S : Store} {μ : List Addr} {Q : VK} {p apos pos : Pos}
theorem run_spDS {f : Addr} {fd : FuncData} {ps : List Str} (F' : FnS X.prog X.w X.K X.mg X.base (L2.CX X.prog X.w) k f fd ps (spD nm X.K X.mg n F)) (hb : Binds X.K fd ps []) (hr : L2H.RoomH k X.A) (tk : Takes X W) (I : Inv X pins σ H s) (r : Vals vs us) (rv : RVs X.K H μ vs ds) (hl : ds.length = n)
    (sm : Sim nm X.K X.mg μ S H) (q : PostX nm X W μ H σ (F ds S) fun d _ μ' H' => ∀ v, RV X.K H' μ' v d → Q v H') : wpAny (model X.prog X.w) X.A (call (.ref f) us) (EP X pins σ Q) X.xe s := by
  have h : spD nm X.K X.mg n F vs H Q (WE W σ) := ⟨ds, S, μ, rv, hl, sm, q⟩
  have hl : us.length = ps.length := by rw [← r.length]; exact F'.len _ _ _ _ h
  have b := hb s us I.kIn (by rw [List.append_nil]; exact hl)
  rw [List.append_nil] at b
  refine wpAny_call (codeAny_mono (F'.run X.A X.stack s H ⟨us, []⟩ us vs Q (WE W σ) hr I.env0 b r h) fun r s' hq => ?_)
  cases r with
  | error e => exact passAt tk σ pins H s e s' I hq
  | ok fl =>
    cases fl with
    | ret u => exact I.after hq
    | next => exact False.elim hq
    | brk => exact False.elim hq
    | cont => exact False.elim hq
theorem me_methS {c : Nat} {o e : Expr} {es : List Expr} {mo : EM} {ma : AM} {pl : Sem Bool} (h : MethOkS X.prog X.w X.K X.mg X.base nm k c m n F) (hr : L2H.RoomH k X.A) (ho : ME nm X o mo) (ha : MA nm X (e :: es) ma) (hn : (e :: es).length + 1 = n := by rfl)
    (hst : starEach (e :: es) X.env = (false, eval e X.env) :: starEach es X.env := by rfl) (hpl : (backTo pos (starEach es X.env)).any (·.1) = false := by rfl)
    (ht : eval (.Call (.Attribute o m apos) (e :: es) [] pos) X.env = (do
      let ov ← eval o X.env
      standAt apos.atName
      let (f, first) ← holding [ov] (getMethod ov m pl)
      callWith pos f first (backTo pos (starEach (e :: es) X.env)) (backToKw pos (keywordEach [] X.env))) := by rfl) : ME nm X (.Call (.Attribute o m apos) (e :: es) [] pos) (mMeth c F mo ma) := by
  obtain ⟨C, f, fd, ps, g1, g2, g3, g4, g5, g6, g7⟩ := h
  refine ⟨fun W tk => ⟨fun pins s σ H Q I hh => ?_⟩⟩
  obtain ⟨ev, S, μ, E, sm, q⟩ := hh
  refine PySem.W.methodCall_KW (pl := pl) (thn ((ho.run W tk).run pins s σ H (fun x H1 => ∃ S1 μ1 d, EvR nm X H1 μ1 ev σ ∧ Sim nm X.K X.mg μ1 S1 H1 ∧ RV X.K H1 μ1 x d ∧ isIns c S1 d = true ∧ PostX nm X W μ1 H1 σ ((ma ev S1).bind fun ds S => F (d :: ds) S) fun d _ μ' H' => ∀ v, RV X.K H' μ' v d → Q v H') I
    ⟨ev, S, μ, E, sm, (Post.bind q).mono fun d S1 μ1 H1 x1 s1 q1 v rv => ?_⟩) fun u s1 ⟨x, H1, I1, rx, S1, μ1, d, E1, sm1, rd, hi, q1⟩ => ?_) ht
  · split at q1
    · rename_i hi; exact ⟨S1, μ1, d, E.ext x1, s1, rv, hi, q1⟩
    · exact False.elim q1
  · obtain ⟨a, dx, gs, rfl, ea, l⟩ := ins_meth g1 g7 sm1 rd hi
    obtain rfl : u = Value.ref a := rx
    refine getmeth_ok I1 ea g2 g3 l ?_
    refine PySem.W.callWith_K (first := [.ref a]) (h₀ := X.base) I1.ok.mod.kin g3.kp (thn ((ha.run W tk).run pos pins s1 σ H1 (fun vs H2 => ∃ ds S2 μ2, RVs X.K H2 μ2 (.ref a :: vs) (d :: ds) ∧ (d :: ds).length = n ∧ Sim nm X.K X.mg μ2 S2 H2 ∧ PostX nm X W μ2 H2 σ (F (d :: ds) S2) fun d _ μ' H' => ∀ v, RV X.K H' μ' v d → Q v H') I1
      ⟨ev, S1, μ1, E1, sm1, (post_len ha (Post.bind q1)).mono fun ds S2 μ2 H2 x2 s2 q2 vs rvs => ⟨ds, S2, μ2, .cons (rd.ext x2) rvs, by rw [List.length_cons, q2.1, hn], s2, q2.2⟩⟩) fun us s2 ⟨vs, H2, I2, r, ds, S2, μ2, rvs, hl, sm2, q2⟩ => ⟨I2.kIn, ?_⟩) hst hpl
    exact run_spDS (us := .ref a :: us) (vs := .ref a :: vs) g6 g5 hr tk I2 (.cons rfl r) rvs hl sm2 q2
theorem methS_mk {K : PySem.W.Frag} {P : Program} {w : World} {mg : Str → Option Value} {base : Heap} {c : Nat} {C f : Addr} {cx : Str} {fd : FuncData} {ps : List Str} (hx : nm.cls c = cx) (g : mg cx = some (.ref C)) (kc : Cls K C) (a : PySem.W.findIn K (.ref C) m = some (some (.ref f))) (i : PySem.W.isFn K (.ref f) = true) (kp : PySem.W.keepIn K (.ref f) = true)
    (hps : ps.length = n) (b : Binds K fd ps []) (o : FnS P w K mg base (L2.CX P w) k f fd ps (spD nm K mg n F)) (nf : noFld nm m = true) : MethOkS P w K mg base nm k c m n F :=
  ⟨C, f, fd, ps, by rw [hx]; exact g, kc, ⟨a, i, kp⟩, hps, b, o, noFld_of nf⟩
end
/-- what the clauses wish of an exception of the body, one after the other; with a name: slot i is its -/
def wManyN (K : PySem.W.Frag) (Wout : WX) (D : Ends) : List (Value × Option Nat × (Addr → Value → Option Addr → TS)) → WX
  | [] => Wout
  | (c, none, ts) :: r => fun cls d σ H => ∃ b, PySem.W.exmOne K cls c = some b ∧ (b = true → ∀ a, H a = none → ts a cls d D σ H) ∧ (b = false → wManyN K Wout D r cls d σ H)
  | (c, some i, ts) :: r => fun cls d σ H => ∃ b, PySem.W.exmOne K cls c = some b ∧ (b = true → ∀ a, H a = none → ts a cls d { nx := fun σ' H' => D.nx (σ'.set i none) H', rt := D.rt, bk := fun σ' H' => D.bk (σ'.set i none) H', ct := fun σ' H' => D.ct (σ'.set i none) H' } (σ.set i (some (.ref a))) H) ∧
      (b = false → wManyN K Wout D r cls d σ H)
inductive HdsN (X : Cx) : List ExceptHandler → List (Value × Option Nat × (Addr → Value → Option Addr → TS)) → Prop
  | nil : HdsN X [] []
  | plain {x : Str} {c : Value} {ts : Addr → Value → Option Addr → TS} {b₀ : Stmt} {suite : List Stmt} {np pos' : Pos} {hds : List ExceptHandler} {l : List (Value × Option Nat × (Addr → Value → Option Addr → TS))} (hc : Names X x c)
      (hsu : ∀ (a : Addr) (oe : Obj) (cls : Value) (d : Option Addr) (pn : List (Addr × Obj)), Zc cls d oe → (∃ vs, oe.data = .fields vs) → PSs (X.suite a ((a, oe) :: pn)) (b₀ :: suite) (ts a cls d)) (r : HdsN X hds l) :
      HdsN X (.ExceptHandler (some (.Name x np)) none (b₀ :: suite) pos' :: hds) ((c, none, ts) :: l)
  | named {x n : Str} {i : Nat} {c : Value} {ts : Addr → Value → Option Addr → TS} {b₀ : Stmt} {suite : List Stmt} {np pos' : Pos} {hds : List ExceptHandler} {l : List (Value × Option Nat × (Addr → Value → Option Addr → TS))} (hi : X.N[i]? = some n) (hln : X.env.kindOf n = some .local) (hc : Names X x c)
      (hsu : ∀ (a : Addr) (oe : Obj) (cls : Value) (d : Option Addr) (pn : List (Addr × Obj)), Zc cls d oe → (∃ vs, oe.data = .fields vs) → PSs (X.suite a ((a, oe) :: pn)) (b₀ :: suite) (ts a cls d)) (r : HdsN X hds l) :
      HdsN X (.ExceptHandler (some (.Name x np)) (some n) (b₀ :: suite) pos' :: hds) ((c, some i, ts) :: l)
section
variable {X : Cx} {body : List Stmt} {h₀ : ExceptHandler} {hds : List ExceptHandler} {l : List (Value × Option Nat × (Addr → Value → Option Addr → TS))} {pos : Pos} {tb : WX → TS} {Wout : WX}
theorem ps_try_manyN (hs : X.stack = X.env :: X.outer) (hf : X.env.frame = some X.env.locals) (hN : X.N.Nodup) (tk : Takes X Wout)
    (hb : ∀ (W : WX) (pn : List (Addr × Obj)) (xe : Value → Shared → Prop), Takes (X.tr pn xe) W → PassesOwn (model X.prog X.w) X.A X.env xe → PSs (X.tr pn xe) body (tb W))
    (hh : HdsN X (h₀ :: hds) l) : PS X (.Try body (h₀ :: hds) [] [] pos) (fun D σ H => tb (wManyN X.K Wout D l) D σ H) := by
  refine ⟨fun pins s σ H D I h => ?_⟩
  have ok := I.ok
  have hfr : X.A.frames = some (X.env :: X.outer) := by rw [ok.frames, hs]
  refine wpAny_Try_except ?_
  refine wpAny_mono ((hb (wManyN X.K Wout D l) (X.pn ++ pins) (fun e s₁ => wpAny (model X.prog X.w) X.A (noteFrame e X.env) (fun _ s₂ => wpAny (model X.prog X.w) X.A (setFlight e none) (fun _ s₃ =>
    wpAny (model X.prog X.w) X.A (handleBy e X.env (h₀ :: hds)) (SP X pins D) X.xe s₃) X.xe s₂) X.xe s₁) (fun u s' xx => ?_) PassesOwn.looking).run [] s σ H D (I.toTry _) h) (fun f s1 hsp => ?_) (fun e s1 he => he)
  · -- the catch
    obtain ⟨a, B, sI, pins', σ', H', cls, d, rfl, J', nb, up, sky, na, os, ag, w⟩ := xx
    have J : Inv X pins σ' H' sI := J'.ofTry ok
    have sky' : Sky B (X.env :: X.outer) a (Zc cls d) X.env.locals s'.heap := by rw [← hs]; exact sky
    show wpAny (model X.prog X.w) X.A (noteFrame (.ref a) X.env) _ _ _
    refine Sky.land Zc.steady hfr hf sky' fun h3 fl3 up3 => ?_
    have J3 : Inv X pins σ' H' { s' with heap := h3 } := J.landed nb fl3.1 (up.trans up3) os ag
    obtain ⟨oe3, vs3, he3, hz3, hd3⟩ := fl3.there
    have notFr : ∀ {h : Heap} {o : Obj} {vs : Array Value}, h.FunFrames B (X.env :: X.outer) → h.get? a = some o → o.data = .fields vs → a ∉ frs (X.env :: X.outer) := fun {h o vs} ff e dd hm => by
      obtain ⟨_, o', e', hnf⟩ := ff.mem hm
      rw [e] at e'; cases e'
      exact hnf _ dd
    have nfr := notFr fl3.2.2.1 he3 hd3
    have nL : a ≠ X.env.locals := fun z => nfr (List.mem_filterMap.mpr ⟨X.env, List.mem_cons_self, by rw [hf, z]⟩)
    have nF : a ∉ X.fs := fun hm => by
      obtain ⟨e, he, q⟩ := List.mem_filterMap.mp hm
      exact nfr (List.mem_filterMap.mpr ⟨e, List.mem_cons_of_mem _ he, q⟩)
    have S3 := J3.suite he3 hd3 na nL nF
    have go : ∀ {hds' : List ExceptHandler} {l' : List (Value × Option Nat × (Addr → Value → Option Addr → TS))}, HdsN X hds' l' → wManyN X.K Wout D l' cls d σ' H' →
        wpAny (model X.prog X.w) X.A (handleBy (.ref a) X.env hds') (SP X pins D) X.xe { s' with heap := h3 } := by
      intro hds' l' hk
      induction hk with
      | nil =>
        intro w
        refine wpAny_handleBy_nil ?_
        obtain ⟨k1, k2, k3, oe, vs, T, oT, ts', he, hz, hd, h1, hr⟩ := id fl3
        unfold PySem.passOn
        refine wpAny_bind (wpAny_field he hd h1 ?_)
        rw [if_neg (show ¬ ((Value.ref T == Value.none) = true) from by simp)]
        have fin : wpAny (model X.prog X.w) X.A (setFlight (.ref a) X.env.frame) (fun _ s4 => wpAny (model X.prog X.w) X.A (throw (.ref a) : Sem Flow) (SP X pins D) X.xe s4) X.xe { s' with heap := h3 } := by
          rw [hf]
          refine HandSPX.setFlight_upZ fl3 fun h4 hh4 up4 => wpAny_throw (tk _ _ ?_)
          exact ⟨a, B, sI, pins, σ', H', cls, d, rfl, J, nb, (up.trans up3).trans up4, .inr (.inr (by rw [hs]; exact hh4)), na, os, ag, w⟩
        first
          | exact wpAny_bind (wpAny_pure (wpAny_bind fin))
          | exact wpAny_bind fin
      | @plain x c ts b₀ suite np pos' hds2 l2 hc hsu r ih =>
        intro w
        obtain ⟨b, hb1, hyes, hno⟩ := w
        refine wpAny_handleBy_cons (codeAny_handlers_test ?_) (by intro q; cases q)
        have LT : PySem.W.Looks (model X.prog X.w) h3 (typeOf (.ref a)) cls := fun A Q E s k q => wpAny_typeOf_ref (k _ _ he3) (by rw [hz3.1]; exact q)
        have LM := PySem.W.exm_one (M := model X.prog X.w) (J3.kIn) LT hb1
        have test : ∀ {Q : Value → Shared → Prop} {E : Value → Shared → Prop}, Q c { s' with heap := h3 } → wpAny (model X.prog X.w) (X.A.mark (some (.ref a))) (eval (.Name x np) X.env) Q E { s' with heap := h3 } := fun {Q E} q => by
          obtain ⟨hg, hdbg, hm | ⟨hm, hv, hnn⟩⟩ := hc
          · exact ld_glob (X := X.suite a ((a, oe3) :: (X.pn ++ pins))) S3 hg hm q hdbg
          · exact ld_blt (X := X.suite a ((a, oe3) :: (X.pn ++ pins))) S3 hg hm hv q hnn hdbg
        refine test (LM.here ?_)
        cases b with
        | true =>
          refine codeAny_handlers_suite ?_
          refine HandSPX.lands_againZ fl3 fun h4 fl4 up4 => ?_
          have J4 : Inv X pins σ' H' { s' with heap := h4 } := J.landed nb fl4.1 ((up.trans up3).trans up4) os ag
          obtain ⟨oe4, vs4, he4, hz4, hd4⟩ := fl4.there
          have S4 := J4.suite he4 hd4 na nL nF
          refine wpAny_mono ((hsu a oe4 cls d (X.pn ++ pins) hz4 ⟨_, hd4⟩).run [] _ _ H' _ S4 (hyes rfl a na)) (fun f s6 hsp => ?_) (fun _ _ z => False.elim z)
          cases f with
          | next =>
            obtain ⟨σ6, H6, S6, q6⟩ := hsp
            exact ⟨_, _, S6.unsuite ok, q6⟩
          | brk =>
            obtain ⟨σ6, H6, S6, q6⟩ := hsp
            exact ⟨_, _, S6.unsuite ok, q6⟩
          | cont =>
            obtain ⟨σ6, H6, S6, q6⟩ := hsp
            exact ⟨_, _, S6.unsuite ok, q6⟩
          | ret u =>
            obtain ⟨v6, σ6, H6, S6, r6, q6⟩ := hsp
            exact ⟨_, _, _, S6.unsuite ok, r6, q6⟩
        | false =>
          show wpAny _ X.A (handleBy (.ref a) X.env hds2) _ _ _
          exact ih (hno rfl)
      | @named x n i c ts b₀ suite np pos' hds2 l2 hi hln hc hsu r ih =>
        intro w
        obtain ⟨b, hb1, hyes, hno⟩ := w
        have hloc : Loc X.env.scope n := .inl hln
        refine wpAny_handleBy_cons (codeAny_handlers_test ?_) (by intro q; cases q)
        have LT : PySem.W.Looks (model X.prog X.w) h3 (typeOf (.ref a)) cls := fun A Q E s k q => wpAny_typeOf_ref (k _ _ he3) (by rw [hz3.1]; exact q)
        have LM := PySem.W.exm_one (M := model X.prog X.w) (J3.kIn) LT hb1
        have test : ∀ {Q : Value → Shared → Prop} {E : Value → Shared → Prop}, Q c { s' with heap := h3 } → wpAny (model X.prog X.w) (X.A.mark (some (.ref a))) (eval (.Name x np) X.env) Q E { s' with heap := h3 } := fun {Q E} q => by
          obtain ⟨hg, hdbg, hm | ⟨hm, hv, hnn⟩⟩ := hc
          · exact ld_glob (X := X.suite a ((a, oe3) :: (X.pn ++ pins))) S3 hg hm q hdbg
          · exact ld_blt (X := X.suite a ((a, oe3) :: (X.pn ++ pins))) S3 hg hm hv q hnn hdbg
        refine test (LM.here ?_)
        cases b with
        | true =>
          refine codeAny_handlers_suite_as ?_
          refine HandSPX.lands_againZ fl3 fun h4 fl4 up4 => ?_
          have J4 : Inv X pins σ' H' { s' with heap := h4 } := J.landed nb fl4.1 ((up.trans up3).trans up4) os ag
          obtain ⟨oe4, vs4, he4, hz4, hd4⟩ := fl4.there
          have S4 := J4.suite he4 hd4 na nL nF
          refine store_ok (X := X.suite a ((a, oe4) :: (X.pn ++ pins))) (v := .ref a) S4 hN hi hloc rfl (fun s5 S5 => ?_) (.inr hln)
          refine wpAny_mono ((hsu a oe4 cls d (X.pn ++ pins) hz4 ⟨_, hd4⟩).run [] s5 _ H' _ S5 (hyes rfl a na)) (fun f s6 hsp => ?_) (fun _ _ z => False.elim z)
          have end_ : ∀ {σ6 : St} {H6 : Hp} {Q : Shared → Prop}, Inv (X.suite a ((a, oe4) :: (X.pn ++ pins))) [] σ6 H6 s6 → (∀ s7, Inv X pins (σ6.set i none) H6 s7 → Q s7) →
              wpAny (model X.prog X.w) X.A (do bindName X.env n .none; unbindBehindTheSuite X.env n pos') (fun _ s7 => Q s7) X.xe s6 := fun {σ6 H6 Q} S6 hq => gone_ok (S6.unsuite ok) hN hi hln hq
          cases f with
          | next =>
            obtain ⟨σ6, H6, S6, q6⟩ := hsp
            exact end_ S6 fun s7 J7 => ⟨_, _, J7, q6⟩
          | brk =>
            obtain ⟨σ6, H6, S6, q6⟩ := hsp
            exact end_ S6 fun s7 J7 => ⟨_, _, J7, q6⟩
          | cont =>
            obtain ⟨σ6, H6, S6, q6⟩ := hsp
            exact end_ S6 fun s7 J7 => ⟨_, _, J7, q6⟩
          | ret u =>
            obtain ⟨v6, σ6, H6, S6, r6, q6⟩ := hsp
            exact end_ S6 fun s7 J7 => ⟨_, _, _, J7, r6, q6⟩
        | false =>
          show wpAny _ X.A (handleBy (.ref a) X.env hds2) _ _ _
          exact ih (hno rfl)
    exact go hh w
  · cases f with
    | next =>
      obtain ⟨σ', H', J', q⟩ := hsp
      exact wpAny_execs_nil ⟨σ', H', J'.ofTry ok, q⟩
    | brk =>
      obtain ⟨σ', H', J', q⟩ := hsp
      exact ⟨σ', H', J'.ofTry ok, q⟩
    | cont =>
      obtain ⟨σ', H', J', q⟩ := hsp
      exact ⟨σ', H', J'.ofTry ok, q⟩
    | ret u =>
      obtain ⟨v, σ', H', J', r, q⟩ := hsp
      exact ⟨v, σ', H', J'.ofTry ok, r, q⟩
end
def mTry2 (i : Nat) (y1 n1 y2 n2 : List Nat) (b s1 s2 : SM) : SM := fun e S => (b e.clr S).caught (y1 ++ n1) [] fun c fs e S => if y1.contains c = true then (if i < e.sl.length then (s1 (e.exn i c fs) S).gone i else .stuck) else if y2.contains c = true then (s2 e S).nox else if n2.contains c = true then .exc c fs e S else .stuck
section
variable {nm : Nms} {X : Cx} {pos : Pos}
theorem ms_try2 (i : Nat) {x n x2 : Str} {body suite suite2 : List Stmt} {b₀ b₂ : Stmt} {np pos' np2 pos2 : Pos} {mb ms ms2 : SM} {y1 n1 y2 n2 : List Nat} (hs : X.stack = X.env :: X.outer) (hf : X.env.frame = some X.env.locals) (hN : X.N.Nodup) (hg : GlN X x) (hc : Catch X.K X.mg nm x y1 n1) (hg2 : GlN X x2) (hc2 : Catch X.K X.mg nm x2 y2 n2)
    (hb : ∀ (pn : List (Addr × Obj)) (xe : Value → Shared → Prop), PassesOwn (model X.prog X.w) X.A X.env xe → MB nm (X.tr pn xe) body mb)
    (hsu : ∀ (a : Addr) (oe : Obj) (pn : List (Addr × Obj)), MB nm (X.suite a ((a, oe) :: pn)) (b₀ :: suite) ms)
    (hsu2 : ∀ (a : Addr) (oe : Obj) (pn : List (Addr × Obj)), MB nm (X.suite a ((a, oe) :: pn)) (b₂ :: suite2) ms2) (hln : X.env.kindOf n = some .local) (hi : X.N[i]? = some n := by rfl) :
    MS nm X (.Try body [.ExceptHandler (some (.Name x np)) (some n) (b₀ :: suite) pos', .ExceptHandler (some (.Name x2 np2)) none (b₂ :: suite2) pos2] [] [] pos) (mTry2 i y1 n1 y2 n2 mb ms ms2) := by
  obtain ⟨cv, h1, h2, h3⟩ := hc
  obtain ⟨cv2, k1, k2, k3⟩ := hc2
  let ts : Addr → Value → Option Addr → TS := fun a cls d D σ H => ∃ c fs, ∃ e : Ev, ∃ S μ C, cls = .ref C ∧ EvR nm X H μ ⟨e.sl.set i none, []⟩ σ ∧ σ[i]? = some (some (.ref a)) ∧ Sim nm X.K X.mg μ S H ∧ ExcAt nm X.K X.mg H μ c fs C d ∧
    ∀ X', X'.K = X.K → X'.mg = X.mg → PostS nm X' (fun _ _ _ _ => False) μ H (ms (e.exn i c fs) S) D
  have hh0 : HdsN X [.ExceptHandler (some (.Name x np)) (some n) (b₀ :: suite) pos', .ExceptHandler (some (.Name x2 np2)) none (b₂ :: suite2) pos2] [(cv, some i, ts), (cv2, none, fun a _ _ => rdC nm X (fun _ _ _ _ => False) ms2)] := by
    refine .named hi hln ⟨hg.g, hg.d, .inl h1⟩ (fun a oe cls d pn hz hv => ((hsu a oe pn).run _ takes0).imp fun D σ H hh => ?_) (.plain ⟨hg2.g, hg2.d, .inl k1⟩ (fun a oe cls d pn hz hv => ((hsu2 a oe pn).run _ takes0).imp fun D σ H hh => rdC_to X rfl rfl hh) .nil)
    obtain ⟨c, fs, e, S, μ, C, rfl, E, ha, s, ea, p⟩ := hh
    refine ⟨e.exn i c fs, S, μ, ⟨E.len, E.at_, fun q hq => ?_⟩, s, p _ rfl rfl⟩
    rcases List.mem_singleton.mp (show q ∈ [(i, c, fs)] from hq) with rfl
    exact ⟨a, oe, C, d, ha, List.mem_cons_self, ⟨hz, hv⟩, ea⟩
  refine ⟨fun W tk => (ps_try_manyN (tb := fun W => rdC nm X W mb) hs hf hN tk (fun W' pn xe tk' hp => ((hb pn xe hp).run W' tk').imp fun D σ H hh => rdC_to X rfl rfl hh) hh0).imp fun D σ H hh => ?_⟩
  refine try_rd hh (fun c hc fs e S σ' μ' H' C d g s E ea p => ?_) fun c hc => absurd hc (by simp)
  by_cases hy : y1.contains c = true
  · have p : PostS nm X W μ' H' (if y1.contains c = true then (if i < e.clr.sl.length then (ms (e.clr.exn i c fs) S).gone i else .stuck) else if y2.contains c = true then (ms2 e.clr S).nox else if n2.contains c = true then .exc c fs e.clr S else .stuck) D := p
    rw [if_pos hy] at p
    split at p
    · rename_i hl
      have hl2 : i < σ'.length := by rw [← E.len]; exact hl
      refine ⟨true, h2 c (by simpa using hy) C g, fun _ a na => ⟨c, fs, e.clr, S, μ', C, rfl, E.weak i _ rfl, List.getElem?_set_self hl2, s, ea, fun X' hK hm => ?_⟩, fun q => (nomatch q)⟩
      cases hr : ms (e.clr.exn i c fs) S with
      | nx e' S' => rw [hr] at p; exact fun σ2 μ2 H2 x s E => p _ μ2 H2 x (by rw [← hK, ← hm]; exact s) (E.unset i hK.symm)
      | bk e' S' => rw [hr] at p; exact fun σ2 μ2 H2 x s E => p _ μ2 H2 x (by rw [← hK, ← hm]; exact s) (E.unset i hK.symm)
      | ct e' S' => rw [hr] at p; exact fun σ2 μ2 H2 x s E => p _ μ2 H2 x (by rw [← hK, ← hm]; exact s) (E.unset i hK.symm)
      | rt d' S' => rw [hr] at p; exact fun v μ2 H2 x s r => p v μ2 H2 x (by rw [← hK, ← hm]; exact s) (by rw [← hK]; exact r)
      | exc c' fs' e' S' => rw [hr] at p; exact False.elim p
      | stuck => rw [hr] at p; exact False.elim p
    · exact False.elim p
  · have p : PostS nm X W μ' H' (if y1.contains c = true then (if i < e.clr.sl.length then (ms (e.clr.exn i c fs) S).gone i else .stuck) else if y2.contains c = true then (ms2 e.clr S).nox else if n2.contains c = true then .exc c fs e.clr S else .stuck) D := p
    rw [if_neg hy] at p
    have hn1 : c ∈ n1 := by
      rcases List.mem_append.mp hc with z | z
      · exact absurd (by simpa using z) hy
      · exact z
    refine ⟨false, h3 c hn1 C g, fun q => (nomatch q), fun _ => ?_⟩
    split at p
    · rename_i hy2
      exact ⟨true, k2 c (by simpa using hy2) C g, fun _ a na => ⟨e.clr, S, μ', E, s, rfl, PostS.noW p⟩, fun q => (nomatch q)⟩
    · split at p
      · rename_i hn2
        exact ⟨false, k3 c (by simpa using hn2) C g, fun q => (nomatch q), fun _ => p σ' μ' H' C d .refl s E ea⟩
      · exact False.elim p
end
end BS
namespace BS
open PySem PySem.Spec PyProof.Rows L2
section
variable {nm : Nms} {X : Cx} {pos : Pos}
/-- o[i] of an object of the store -/
def fIxA : Store → D → D → Option D := fun S x i => match x with
  | .obj n => match S[n]? with
    | some (.lst ds) => match i with
      | .int k => atI ds k
      | _ => none
    | some (.dct kvs) => match keyOf i with
      | some k => getK kvs k
      | none => none
    | _ => none
  | _ => none
theorem get_A {k : Nat} (hr : L2H.RoomH k X.A) : PGet X (rOpD nm X fIxA) := by
  intro pins s σ H o i ov iv Q I ro ri h
  obtain ⟨S, μ, dx, dy, d, sm, rx, ry, e, q⟩ := h
  have q : ∀ v, RV X.K H μ v d → Q v H := fun v r => q v μ H .refl sm r
  have hun := hr.un
  unfold fIxA at e
  split at e
  · rename_i n
    cases rx with | @obj a _ en =>
    split at e
    · rename_i ds hds
      split at e
      · rename_i i
        cases ry
        obtain ⟨xs, e1, r⟩ := sm.ob _ _ _ en hds
        obtain ⟨w, h1, h2⟩ := atI_rvs r e
        cases ro
        obtain ⟨t, rfl⟩ := ri
        obtain ⟨its, rr, pl, hz⟩ := I.list (.of e1)
        obtain ⟨j, g1, g2, g3, g4, g5⟩ := atI_get h1
        obtain ⟨w', ew, rw'⟩ := rr.get g2
        have hl := rr.length
        have hn := line63
        have fin : EP X pins σ Q w' s := ⟨w, H, I, rw', q _ h2⟩
        by_cases h0 : 0 ≤ i
        · have hj : i.toNat = j := by
            rw [seqIndex_of h0 g5] at g1
            exact Option.some.inj g1
          exact wpAny_getItem_list pl.isList h0 (by omega) (by rw [hj]; simpa using ew) fin
        · have hj : (i + (its.toArray.size : Int)).toNat = j := by
            rw [seqIndex_neg (by omega) g4] at g1
            rw [List.size_toArray, ← hl]
            exact Option.some.inj g1
          exact wpAny_getItem_list_neg pl.isList (by omega) (by rw [List.size_toArray] <;> omega) (by omega) (by rw [hj]; simpa using ew) fin
      · cases e
    · rename_i kvs hds
      split at e
      · rename_i k hk
        have ek := keyOf_kV ry hk
        subst ek
        obtain ⟨ys, e1, r1⟩ := sm.ob _ _ _ en hds
        cases ro
        rcases getK_val _ r1 with ⟨h1, h2⟩ | ⟨w, d', h1, h2, h3⟩
        · rw [h2] at e; cases e
        · rw [h2] at e; cases e
          exact d_getItem (by omega) I (h1 ▸ (.inl ⟨ys, k, .inl e1, rfl, rfl⟩ : DGet H a (kV k) (valV ys k))) ri fun w' s' I' rw' => ⟨w, H, I', rw', q _ h3⟩
      · cases e
    · cases e
  · cases e
def mAugI (f : Store → D → D → Option D) (o i m : EM) : SM := fun e S => (o e S).toS e fun x S => (i e S).toS e fun y S => match fIxA S x y with
  | some z => (m e S).toS e fun u S => (lift2 f S z u).toS e fun v S => match setS S x y v with
    | some S => .nx e S
    | none => .stuck
  | none => .stuck
theorem ms_augI {k : Nat} (hr : L2H.RoomH k X.A) {op : Operator} {f : Store → D → D → Option D} {o i e : Expr} {mo mi me : EM} {tpos : Pos} (hop : OpD nm X (inplaceOp op) f) (ho : ME nm X o mo) (hi : ME nm X i mi) (he : ME nm X e me)
    (ha : ∀ ov iv new, augStore i ov iv new = (do holding [new, ov, iv] (setItem ov iv new); release [new, ov, iv] []; pure .next) := by intros; rfl) : MS nm X (.AugAssign (.Subscript o i tpos) op e pos) (mAugI f mo mi me) :=
  ⟨fun W tk => (ps_augS (tget := rOpD nm X fIxA) (tip := rOpD nm X f) (tset := rSetD nm X) (ho.run W tk) (hi.run W tk) (get_A hr) (he.run W tk) (fun pins s σ H x y v u Q I rx ry q => hop pins s σ H x y v u Q I rx ry q) (set_D hr) ha).imp fun D σ H h => by
    obtain ⟨e, S, μ, E, s, p⟩ := h
    refine ⟨e, S, μ, E, s, (PostS.toS E p).mono fun ox S1 μ1 H1 x1 s1 p1 vo ro => ?_⟩
    refine ⟨e, S1, μ1, E.ext x1, s1, (PostS.toS (E.ext x1) p1).mono fun ix S2 μ2 H2 x2 s2 p2 vi ri => ?_⟩
    split at p2
    · rename_i z hz
      refine ⟨S2, μ2, ox, ix, z, s2, ro.ext x2, ri, hz, fun vz μ3 H3 x3 s3 rz => ?_⟩
      have E3 := ((E.ext x1).ext x2).ext x3
      have p3 : PostS nm X W μ3 H3 ((me e S2).toS e fun u S => (lift2 f S z u).toS e fun v S => match setS S ox ix v with
        | some S => .nx e S
        | none => .stuck) D := PostS.ext x3 p2
      refine ⟨e, S2, μ3, E3, s3, (PostS.toS E3 p3).mono fun u S4 μ4 H4 x4 s4 p4 vu ru => ?_⟩
      unfold lift2 at p4
      split at p4
      · rename_i v hv
        refine ⟨S4, μ4, z, u, v, s4, rz.ext x4, ru, hv, fun w μ5 H5 x5 s5 rw => ?_⟩
        have p5 : PostS nm X W μ5 H5 (match setS S4 ox ix v with
          | some S => .nx e S
          | none => .stuck) D := PostS.ext x5 p4
        split at p5
        · rename_i S6 hS
          exact ⟨S4, μ5, ox, ix, v, S6, s5, (((ro.ext x2).ext x3).ext x4).ext x5, ((ri.ext x3).ext x4).ext x5, rw, hS, fun H6 x6 s6 => p5 σ μ5 H6 x6 s6 (((E3.ext x4).ext x5).ext x6)⟩
        · exact False.elim p5
      · exact False.elim p4
    · exact False.elim p2⟩
def idxI : List Int → Int → Option Nat
  | [], _ => none
  | a :: r, k => if a = k then some 0 else (idxI r k).map (· + 1)
theorem idxI_at : ∀ {ns : List Int} {k : Int} {j : Nat}, idxI ns k = some j → ns[j]? = some k ∧ ∀ m, m < j → ∃ a, ns[m]? = some a ∧ a ≠ k
  | a :: r, k, j, h => by
    unfold idxI at h
    split at h
    · rename_i e; cases h; exact ⟨by rw [e]; rfl, fun m hm => absurd hm (Nat.not_lt_zero _)⟩
    · rename_i e
      obtain ⟨i, hi, rfl⟩ := Option.map_eq_some_iff.mp h
      obtain ⟨h1, h2⟩ := idxI_at hi
      refine ⟨by simpa using h1, fun m hm => ?_⟩
      cases m with
      | zero => exact ⟨a, rfl, e⟩
      | succ m => obtain ⟨b, q1, q2⟩ := h2 m (by omega); exact ⟨b, by simpa using q1, q2⟩
def fnIndex : FM := fun ds S => match ds with
  | [x, .int k] => match lstOf S x with
    | some es => match BS.intsOf es with
      | some ns => match idxI ns k with
        | some j => .ok (.int j) S
        | none => .stuck
      | none => .stuck
    | none => .stuck
  | _ => .stuck
theorem t_index : MtD nm X "list.index" fnIndex := by
  intro pins s σ H x xs v us Q I rx r h
  obtain ⟨ds, S, μ, E, rv, sm, p⟩ := h
  unfold fnIndex at p
  split at p
  · rename_i d k
    obtain ⟨r1, rt⟩ := rvs_cons rv
    obtain ⟨w, rfl, r2⟩ := one_rv rt
    cases r2
    split at p
    · rename_i es hes
      split at p
      · rename_i ns hns
        split at p
        · rename_i j hj
          obtain ⟨a, ys, rfl, hs, rs⟩ := lstOf_sq sm r1 hes
          have e := intsOf_rv rs hns
          subst e
          obtain ⟨h1, h2⟩ := idxI_at hj
          refine mt_index pins s σ H _ _ v us Q I rx r ⟨a, _, _, j, .int k, rfl, rfl, hs, rfl, ?_, by rw [List.getElem?_map, h1]; rfl, by simp [eqV], fun m z' hm hz => ?_, p μ H .refl sm _ (.int _)⟩
          · exact List.all_eq_true.mpr fun y hy => by obtain ⟨n, _, rfl⟩ := List.mem_map.mp hy; rfl
          · obtain ⟨b, q1, q2⟩ := h2 m hm
            rw [List.getElem?_map, q1] at hz
            cases hz
            simp [eqV, q2]
        · exact False.elim p
      · exact False.elim p
    · exact False.elim p
  · exact False.elim p
def maxI : List Int → Int
  | [] => 0
  | [a] => a
  | a :: b :: r => if a < maxI (b :: r) then maxI (b :: r) else a
def minI : List Int → Int
  | [] => 0
  | [a] => a
  | a :: b :: r => if minI (b :: r) < a then minI (b :: r) else a
theorem maxI_ok : ∀ {ns : List Int}, 0 < ns.length → maxI ns ∈ ns ∧ ∀ y ∈ ns, y ≤ maxI ns
  | [a], _ => ⟨by simp [maxI], fun y h => by simp at h; subst h; exact Int.le_refl _⟩
  | a :: b :: r, _ => by
    obtain ⟨h1, h2⟩ := maxI_ok (ns := b :: r) (by simp)
    unfold maxI
    split
    · exact ⟨List.mem_cons_of_mem _ h1, fun y hy => (List.mem_cons.mp hy).elim (fun e => by subst e; omega) (fun hy => h2 y hy)⟩
    · exact ⟨List.mem_cons_self, fun y hy => (List.mem_cons.mp hy).elim (fun e => by subst e; omega) (fun hy => by have := h2 y hy; omega)⟩
theorem minI_ok : ∀ {ns : List Int}, 0 < ns.length → minI ns ∈ ns ∧ ∀ y ∈ ns, minI ns ≤ y
  | [a], _ => ⟨by simp [minI], fun y h => by simp at h; subst h; exact Int.le_refl _⟩
  | a :: b :: r, _ => by
    obtain ⟨h1, h2⟩ := minI_ok (ns := b :: r) (by simp)
    unfold minI
    split
    · exact ⟨List.mem_cons_of_mem _ h1, fun y hy => (List.mem_cons.mp hy).elim (fun e => by subst e; omega) (fun hy => h2 y hy)⟩
    · exact ⟨List.mem_cons_self, fun y hy => (List.mem_cons.mp hy).elim (fun e => by subst e; omega) (fun hy => by have := h2 y hy; omega)⟩
def fnMM (g : List Int → Int) : FM := fun ds S => match ds with
  | [x] => match lstOf S x with
    | some es => match BS.intsOf es with
      | some ns => if 0 < ns.length then .ok (.int (g ns)) S else .stuck
      | none => .stuck
    | none => .stuck
  | _ => .stuck
abbrev fnMax1 : FM := fnMM maxI
abbrev fnMin1 : FM := fnMM minI
theorem c_max1 (hc : X.calm = true) : CallD nm X (.builtin "max") fnMax1 := by
  intro pins s σ H vs us Q I r h
  obtain ⟨ds, S, μ, E, rv, sm, p⟩ := h
  unfold fnMax1 fnMM at p
  split at p
  · rename_i d
    obtain ⟨w, rfl, r1⟩ := one_rv rv
    split at p
    · rename_i es hes
      split at p
      · rename_i ns hns
        split at p
        · rename_i hl
          obtain ⟨a, ys, rfl, hs, rs⟩ := lstOf_sq sm r1 hes
          have e := intsOf_rv rs hns
          subst e
          obtain ⟨h1, h2⟩ := maxI_ok hl
          refine cr_max hc pins s σ H _ us Q I r ⟨a, ns, rfl, hs, hl, fun m hm hy => ?_⟩
          have : m = maxI ns := Int.le_antisymm (h2 m hm) (hy _ h1)
          subst this
          exact p μ H .refl sm _ (.int _)
        · exact False.elim p
      · exact False.elim p
    · exact False.elim p
  · exact False.elim p
theorem c_min1 (hc : X.calm = true) : CallD nm X (.builtin "min") fnMin1 := by
  intro pins s σ H vs us Q I r h
  obtain ⟨ds, S, μ, E, rv, sm, p⟩ := h
  unfold fnMin1 fnMM at p
  split at p
  · rename_i d
    obtain ⟨w, rfl, r1⟩ := one_rv rv
    split at p
    · rename_i es hes
      split at p
      · rename_i ns hns
        split at p
        · rename_i hl
          obtain ⟨a, ys, rfl, hs, rs⟩ := lstOf_sq sm r1 hes
          have e := intsOf_rv rs hns
          subst e
          obtain ⟨h1, h2⟩ := minI_ok hl
          refine cr_min hc pins s σ H _ us Q I r ⟨a, ns, rfl, hs, hl, fun m hm hy => ?_⟩
          have : m = minI ns := Int.le_antisymm (hy _ h1) (h2 m hm)
          subst this
          exact p μ H .refl sm _ (.int _)
        · exact False.elim p
      · exact False.elim p
    · exact False.elim p
  · exact False.elim p
end
end BS
namespace BS
open PySem PySem.Spec PyProof.Rows L2
section
variable {M : Model} {A : Around} {E : Value → Shared → Prop} {s : Shared} {env : Env}
def compPostX (M : Model) (A : Around) (E : Value → Shared → Prop) (use : Option (Value → Sem Unit)) (Q : Value → Shared → Prop) (acc : Value) (C : Addr) (fr : Option Addr) (r : Result) (s' : Shared) : Prop :=
  match r, use with
  | .ok _, none => ∃ m, s'.heap.Ns C m ∧ ∀ h', Heap.SameBut C s'.heap h' → Q acc { s' with heap := h' }
  | .ok _, some u => wpAny M A (u acc) (fun _ s'' => ∃ m, s''.heap.Ns C m ∧ ∀ h', Heap.SameBut C s''.heap h' → Q .none { s'' with heap := h' }) E s'
  | .error x, _ => ∃ m, s'.heap.Ns C m ∧ ∀ h', Heap.SameBut C s'.heap h' → ∀ cenv : Env, cenv.locals = C → cenv.frame = fr → wpAny M A (passOn "comprehension.variables-let-go" x cenv : Sem Value) (fun _ _ => False) E { s' with heap := h' }
theorem compX {e : Expr} {scope : Scope} {pos : Pos} {newAcc first : Sem Value} {g : Comprehension} {gs : List Comprehension} {cl : List (Str × Addr)} {use : Option (Value → Sem Unit)}
    {Q : Value → Shared → Prop}
    (hcl : clausesOf e = g :: gs) (hs : ∀ x, foldedSetIterable g.iter env x = pure x) (hclos : closureFor scope env = pure cl)
    (hkind : scope.kind = .function) (hnames : ∀ x ∈ scope.names, x.2 = .local → scope.names.lookup x.1 = some .local)
    (h : wpAny M A first (fun x s₁ => wpAny M A (pyIter x) (fun it s₂ => wpAny M A newAcc (fun acc s₃ =>
      wpAny M A (newFunctionEnv scope env.globals cl [] env.qual none .none (some env)) (fun cenv s₄ => cenv.frame = env.frame ∧
        codeAny M A (.compStart e 0 it acc { cenv with scope := relabel scope env }) (compPostX M A E use Q acc cenv.locals env.frame) s₄) E s₃) E s₂) E s₁) E s) :
    wpAny M A (comprehension e scope env pos newAcc false first use) Q E s := by
  unfold comprehension
  rw [hclos, hcl]
  refine wpAny_bind (wpAny_mono h (fun x s₁ h₁ => wpAny_bind (wpAny_standAt (wpAny_bind (wpAny_of_eq (hs x) (wpAny_bind (wpAny_holding (wpAny_mono h₁ (fun it s₂ h₂ =>
    wpAny_standIf (wpAny_bind (wpAny_mono h₂ (fun acc s₃ h₃ => wpAny_bind (wpAny_pure (wpAny_bind (wpAny_mono h₃ (fun cenv s₄ h₄ => ?_) fun _ _ h' => h')))) fun _ _ h' => h')))
      fun _ _ h' => h'))))))) fun _ _ h' => h')
  obtain ⟨hfr, h₄⟩ := h₄
  dsimp only
  have hv : ∀ x ∈ (scope.names.filter fun x => (x.2 == .local || x.2 == .cell) && x.1 != (".0" : Str)).reverse, x.2 = .local →
      Env.kindOf { cenv with scope := relabel scope env } x.1 = some .local := fun x hx hl => lookup_relabel_local (hnames x (List.mem_filter.mp (List.mem_reverse.mp hx)).1 hl)
  have hv' : ∀ x ∈ (scope.names.filter fun x => (x.2 == .local || x.2 == .cell) && x.1 != (".0" : Str)).reverse.drop 1 ++ (scope.names.filter fun x => (x.2 == .local || x.2 == .cell) && x.1 != (".0" : Str)).reverse.take 1,
      x.2 = .local → Env.kindOf { cenv with scope := relabel scope env } x.1 = some .local := fun x hx hl => by
    rcases List.mem_append.mp hx with h1 | h1
    · exact hv x (List.mem_of_mem_drop h1) hl
    · exact hv x (List.mem_of_mem_take h1) hl
  refine wpAny_holding (wpAny_bind (wpAny_attempt (wpAny_holding (wpAny_run (codeAny_mono h₄ fun r s' hr => ?_)))))
  cases r with
  | ok f =>
    cases use with
    | none =>
      obtain ⟨m, hn, hr⟩ := hr
      exact wpAny_bind (wpAny_holding (wpAny_comp_letGo (cenv := { cenv with scope := relabel scope env }) hkind _ s' m hv hn fun h' m' _ hs' => wpAny_pure (hr h' hs')))
    | some u =>
      refine wpAny_bind (wpAny_rule (wpAny_bind (wpAny_holding (wpAny_mono hr (fun _ s'' hr' => ?_) fun _ _ h' => h'))))
      obtain ⟨m, hn, hr'⟩ := hr'
      exact wpAny_bind (wpAny_comp_letGo (cenv := { cenv with scope := relabel scope env }) hkind _ s'' m hv' hn fun h' m' _ hs' => wpAny_pure (hr' h' hs'))
  | error x =>
    have hr' : ∃ m, s'.heap.Ns cenv.locals m ∧ ∀ h', Heap.SameBut cenv.locals s'.heap h' → ∀ cenv' : Env, cenv'.locals = cenv.locals → cenv'.frame = env.frame → wpAny M A (passOn "comprehension.variables-let-go" x cenv' : Sem Value) (fun _ _ => False) E { s' with heap := h' } := by cases use <;> exact hr
    obtain ⟨m, hn, hr⟩ := hr'
    exact wpAny_bind (wpAny_holding (wpAny_comp_letGo (cenv := { cenv with scope := relabel scope env }) hkind _ s' m hv hn fun h' m' _ hs' => wpAny_mono (hr h' hs' _ rfl hfr) (fun _ _ f => f.elim) fun _ _ y => y))
theorem noteFrame_same {e : Value} {env env' : Env} (h : env.frame = env'.frame) : noteFrame e env = noteFrame e env' := by
  unfold noteFrame PySem.frameOf
  rw [h]
end
section
open PySem.HandSPX
variable {M : Model} {A : Around} {E : Value → Shared → Prop} {s : Shared} {Z : Obj → Prop} {base : Heap} {env : Env} {outer l : List Env} {L e : Addr}
theorem looks_anyZ {fl : Value} {Q : Unit → Shared → Prop} (hZ : Steady Z) (hfr : A.frames = some (env :: outer)) (hf : env.frame = some L) (hne : (fl == rawInt L) = false)
    (hkb : base.StaysIn s.heap) (hen : base.get? e = none) (hl : s.heap.FunFrames base (env :: outer)) (ht : TracedZ s.heap base e Z fl)
    (hQ : ∀ h', HeldZ base (env :: outer) e Z L h' → s.heap.UpToSlots h' → Q () { s with heap := h' }) : wpAny M A (noteFrame (.ref e) env) Q E s := by
  obtain ⟨oe, vs, T, oT, ts, he, hz, hd, h1, hnT, hTe, hT, hdT, h3⟩ := ht
  unfold noteFrame
  simp only [hf]
  refine wpAny_bind (wpAny_field he hd h1 ?_)
  rw [if_pos (show (Value.ref T != Value.none) = true from by simp)]
  refine wpAny_bind (wpAny_field hT hdT h3 ?_)
  rw [if_neg (show ¬ ((fl == rawInt L) = true) from by rw [hne]; decide)]
  refine wpAny_bind (wpAny_setField hT hdT (Array.getElem?_eq_some_iff.mp h3).1 ?_)
  have other : ∀ b, b ≠ T → (s.heap.update T (Obj.mapFields (·.setIfInBounds 3 Value.none))).get? b = s.heap.get? b := fun b hb => Heap.get?_update_other _ _ (Ne.symm hb)
  have noRecord : ∀ b o, s.heap.get? b = some o → (∀ vs, o.data ≠ .fields vs) → b ≠ T := fun b o hb hnf q => by
    rw [q, hT] at hb; injection hb with hb; subst hb; exact hnf ts hdT
  refine wpAny_entryZ hZ hfr (hl.of_keeps fun b o hb hnf => ⟨o, (other b (noRecord b o hb hnf)).trans hb, rfl⟩) hf ((other e (Ne.symm hTe)).trans he)
    (fun b o hbo => (other b fun q => by rw [q, hnT] at hbo; cases hbo).trans (hkb b o hbo)) hen hd (Array.getElem?_eq_some_iff.mp h1).1 hz fun h' hN => ?_
  obtain ⟨x1, x2, x3, x4⟩ := hN
  exact hQ h' ⟨x1, hen, x2, x3⟩ fun b o hb hnf => x4 b o ((other b (noRecord b o hb hnf)).trans hb) hnf
theorem funFrames_hide {h h' : Heap} {C : Addr} (hC : ∃ o, base.get? C = some o) (hs : Heap.SameBut C h h') : ∀ {l : List Env}, h.FunFrames base l → h'.FunFrames (PySem.W.hideAll base [C]) l
  | [], _ => trivial
  | env :: l, hl => by
    obtain ⟨hk, ⟨L, o, hf, hb, ho, hd⟩, hr⟩ := hl
    have hne : L ≠ C := fun q => by obtain ⟨o', e⟩ := hC; rw [q, e] at hb; cases hb
    refine ⟨hk, ⟨L, o, hf, ?_, (hs.2 L hne).trans ho, hd⟩, funFrames_hide hC hs hr⟩
    cases q : (PySem.W.hideAll base [C]).get? L with
    | none => rfl
    | some o' =>
      have z := PySem.W.of_hideAll _ q
      rw [hb] at z; cases z
theorem hide_none {C x : Addr} (h : base.get? x = none) : (PySem.W.hideAll base [C]).get? x = none := by
  cases q : (PySem.W.hideAll base [C]).get? x with
  | none => rfl
  | some o' =>
    have z := PySem.W.of_hideAll _ q
    rw [h] at z; cases z
theorem heldZ_hide {h h' : Heap} {C : Addr} (hC : ∃ o, base.get? C = some o) (hs : Heap.SameBut C h h') (x : HeldZ base l e Z L h) : HeldZ (PySem.W.hideAll base [C]) l e Z L h' := by
  obtain ⟨f1, f2, f3, oe, vs, T, oT, ts, he, hz, hd, h1, hnT, hTe, hT, hdT, h3⟩ := x
  obtain ⟨o, eC⟩ := hC
  have heC : e ≠ C := fun q => by rw [q, eC] at f2; cases f2
  have hTC : T ≠ C := fun q => by rw [q, eC] at hnT; cases hnT
  refine ⟨fun b ob hb => ?_, hide_none f2, funFrames_hide ⟨o, eC⟩ hs f3, oe, vs, T, oT, ts, (hs.2 e heC).trans he, hz, hd, h1, hide_none hnT, hTe, (hs.2 T hTC).trans hT, hdT, h3⟩
  have hb1 := PySem.W.of_hideAll _ hb
  have hbC : b ≠ C := fun q => by
    rw [q, PySem.W.hideAll_none [C] (by simp)] at hb; cases hb
  exact (hs.2 b hbC).trans (f1 b ob hb1)
end
abbrev _root_.L2.Cx.blkX (X : Cx) (s : Shared) (H : Hp) (scope : Scope) (cenv : Env) (fp : List Addr) (xe : Value → Shared → Prop) : Cx := { X.blk s H scope cenv fp with xe := xe }
/-- the frame is the def's own -/
structure OwnFrame (X : Cx) : Prop where
  stk : X.stack = X.env :: X.outer
  frm : X.env.frame = some X.env.locals
section
variable {X : Cx}
def tLcX (wi : TI) (g : TG) (tt : St → TT) (te : St → TE) (vs : List Nat) : TE := fun σ H Q => tLc wi g (tt σ) (te σ) vs σ H Q
theorem blk_takes {pins : List (Addr × Obj)} {σ : St} {H3 : Hp} {s3 : Shared} {scope : Scope} {ce : Env} {fp : List Addr} {W : WX} {Qf : Value → Shared → Prop} {use : Option (Value → Sem Unit)} {acc : Value} {xe : Value → Shared → Prop}
    (of : OwnFrame X) (tk : Takes X W) (I3 : Inv X pins σ H3 s3) (f3 : ∀ b ∈ fp, FpOk X pins H3 b ∧ b < s3.heap.objs.size) (cL : ce.locals = s3.heap.objs.size) (cF : ce.frame = X.env.frame)
    (hxe : xe = notedBy (model X.prog X.w) X.A ce fun e s' => compPostX (model X.prog X.w) X.A X.xe use Qf acc s3.heap.objs.size X.env.frame (.error e) s') :
    Takes (X.blkX s3 H3 scope ce fp xe) (fun c d _ H => W c d σ H) := by
  rintro u s' ⟨a, B, sI, pins', σ', H', cls, d, rfl, I', nb, up, sky, na, os, ag, w⟩
  subst hxe
  show wpAny _ _ (noteFrame (.ref a) ce) _ _ s'
  rw [noteFrame_same cF]
  have hfr : X.A.frames = some (X.env :: X.outer) := by rw [I3.ok.frames, of.stk]
  have cLn : (X.env.locals : Addr) ≠ s3.heap.objs.size := Nat.ne_of_lt I3.lt
  -- the names of the block
  obtain ⟨m, hn, _⟩ := I'.loc
  have hn : sI.heap.Ns ce.locals m := hn
  rw [cL] at hn
  have hnf : s3.heap.objs.size ∉ frs X.stack := fun hm => by
    rcases List.mem_cons.mp (I3.stkSub _ hm) with z | z
    · exact cLn z.symm
    · exact I3.nofs (Nat.le_refl _) z
  obtain ⟨oC, eC⟩ : ∃ o, sI.heap.get? s3.heap.objs.size = some o := by
    obtain ⟨o, _, _, ho, _⟩ := hn
    exact ⟨o, ho⟩
  have bC : B.get? s3.heap.objs.size = some oC := nb _ _ eC hnf
  have nC : H' s3.heap.objs.size = none := by
    have z : H' ce.locals = none := I'.free
    rw [cL] at z
    exact z
  have I7 : Inv X pins σ H' sI := I3.call' (ch := fp) I'.os I'.base I'.hok I'.bare fun b hb => ⟨(f3 b hb).1.2.2.2.1, (f3 b hb).1.2.1, (f3 b hb).1.2.2.2.2.1, (f3 b hb).1.2.2.2.2.2⟩
  obtain ⟨f0, f1, f2, f4, f5, f6⟩ := I3.fpOk (Nat.le_refl _) nC
  have fin : ∀ h1, HandSPX.HeldZ B X.stack a (Zc cls d) X.env.locals h1 → s'.heap.UpToSlots h1 → compPostX (model X.prog X.w) X.A X.xe use Qf acc s3.heap.objs.size X.env.frame (.error (.ref a)) { s' with heap := h1 } := by
    intro h1 hh up1
    show ∃ m, h1.Ns s3.heap.objs.size m ∧ _
    refine ⟨m, (up.trans up1).ns hn, fun h2 sb cenv hc1 hc2 => ?_⟩
    have hh2 := heldZ_hide ⟨oC, bC⟩ sb hh
    have I8 : Inv X pins σ H' { sI with heap := PySem.W.hideAll sI.heap [s3.heap.objs.size], toks := sI.toks } :=
      I7.turned (t' := sI.toks) (fun b o hb e => PySem.W.hideAll_get _ e (by simpa using hb)) f0 f1 f4 f5 f6
    have nb2 : ∀ b o, (PySem.W.hideAll sI.heap [s3.heap.objs.size]).get? b = some o → b ∉ frs X.stack → (PySem.W.hideAll B [s3.heap.objs.size]).get? b = some o := fun b o e hb => by
      have e1 := PySem.W.of_hideAll _ e
      have hbC : b ≠ s3.heap.objs.size := fun q => by rw [q, PySem.W.hideAll_none [s3.heap.objs.size] (by simp)] at e; cases e
      exact PySem.W.hideAll_get _ (nb b o e1 hb) (by simpa using hbC)
    have up2 : (PySem.W.hideAll sI.heap [s3.heap.objs.size]).UpToSlots h2 := fun b o e hnf' => by
      have e1 := PySem.W.of_hideAll _ e
      have hbC : b ≠ s3.heap.objs.size := fun q => by rw [q, PySem.W.hideAll_none [s3.heap.objs.size] (by simp)] at e; cases e
      obtain ⟨sl, e2⟩ := (up.trans up1) b o e1 hnf'
      exact ⟨sl, (sb.2 b hbC).trans e2⟩
    have fin2 : wpAny (model X.prog X.w) X.A (setFlight (.ref a) cenv.frame) (fun _ s4 => wpAny (model X.prog X.w) X.A (throw (.ref a) : Sem Value) (fun _ _ => False) X.xe s4) X.xe { s' with heap := h2 } := by
      rw [hc2, of.frm]
      refine HandSPX.setFlight_onZ hh2 fun h4 hh4 up4 => wpAny_throw (tk _ _ ?_)
      exact ⟨a, _, _, pins, σ, H', cls, d, rfl, I8, nb2, up2.trans up4, .inr (.inr hh4), na, os, ag, w⟩
    obtain ⟨g1, g2, g3, oe, vs, T, oT, ts, he, hz, hd, h1', hnT, hTe, hT, hdT, h3⟩ := hh2
    unfold PySem.passOn
    refine wpAny_bind (wpAny_field (s := { s' with heap := h2 }) he hd h1' ?_)
    rw [if_neg (show ¬ ((Value.ref T == Value.none) = true) from by simp)]
    first
      | exact wpAny_bind (wpAny_pure (wpAny_bind fin2))
      | exact wpAny_bind fin2
  rw [of.stk] at sky fin
  have sky : Sky B (X.env :: X.outer) a (Zc cls d) s3.heap.objs.size s'.heap := by
    have z : Sky B (X.env :: X.outer) a (Zc cls d) ce.locals s'.heap := sky
    rwa [cL] at z
  rcases sky with ⟨hB, hnone, hl, oe, vs, he, hz, hd, h1⟩ | ⟨k1, k2, k3, k4⟩ | ⟨k1, k2, k3, k4⟩
  · exact HandSPX.look_newZ Zc.steady hfr hl of.frm he hB hnone hd h1 hz fin
  · exact looks_anyZ Zc.steady hfr of.frm (by simp [rawInt]) k1 k2 k3 k4 fin
  · refine looks_anyZ Zc.steady hfr of.frm ?_ k1 k2 k3 k4 fin
    have : s3.heap.objs.size ≠ X.env.locals := Ne.symm cLn
    simp only [rawInt]
    simp
    omega
theorem inv_blkX {pins : List (Addr × Obj)} {σ : St} {H H3 : Hp} {s s3 : Shared} {scope : Scope} {ce : Env} {fp : List Addr} (I : Inv (X.blk s3 H3 scope ce fp) pins σ H s) (xe : Value → Shared → Prop) : Inv (X.blkX s3 H3 scope ce fp xe) pins σ H s :=
  { I with ok := { I.ok with } }
theorem lc_coreX {W : WX} {pins : List (Addr × Obj)} {s : Shared} {σ : St} {H : Hp} {Q : VK} {elt tg iter : Expr} {ifs : List Expr} {scope : Scope} {own : List (Str × Nat)} {pos pos' : Pos} {wi : TI} {g : TG} {tt : TT} {te : TE} {use : Option (Value → Sem Unit)} {Qf : Value → Shared → Prop}
    (of : OwnFrame X) (tk : Takes X W) (hc : X.calm = true) (hN : X.N.Nodup) (I : Inv X pins σ H s) (hi : PI X tg iter wi) (ok : BlkOk X.N X.env.scope scope own)
    (hg : ∀ (s : Shared) (H : Hp) (C : Addr) (cl : List (Str × Addr)) (fp : List Addr) (xe : Value → Shared → Prop), PG (X.blkX s H scope (compEnvC scope cl C X.env) fp xe) tg g)
    (ht : ∀ (s : Shared) (H : Hp) (C : Addr) (cl : List (Str × Addr)) (fp : List Addr) (xe : Value → Shared → Prop), Takes (X.blkX s H scope (compEnvC scope cl C X.env) fp xe) (fun c d _ H => W c d σ H) → PTs (X.blkX s H scope (compEnvC scope cl C X.env) fp xe) ifs tt)
    (he : ∀ (s : Shared) (H : Hp) (C : Addr) (cl : List (Str × Addr)) (fp : List Addr) (xe : Value → Shared → Prop), Takes (X.blkX s H scope (compEnvC scope cl C X.env) fp xe) (fun c d _ H => W c d σ H) → PE (X.blkX s H scope (compEnvC scope cl C X.env) fp xe) elt te) (hs : ∀ x, foldedSetIterable iter X.env x = pure x)
    (h : tLc wi g tt te (own.map (·.2)) σ H Q)
    (hRR : ∀ D C s' m H', Inv X pins σ H' s' → Q (.ref D) H' → s'.heap.Ns C m → FpOk X pins H' C → compPostX (model X.prog X.w) X.A X.xe use Qf (.ref D) C X.env.frame (.ok .next) s') :
    wpAny (model X.prog X.w) X.A (comprehension (.ListComp elt [⟨tg, iter, ifs, 0⟩] scope pos) scope X.env pos' (newList []) false (eval iter X.env) use) Qf X.xe s := by
  have hfree : ∀ y ∈ scope.names, y.2 = .free → ∃ c, X.env.cells.lookup y.1 = some c := fun y hy e => by
    rcases ok.free y hy e with k | k
    · exact I.ok.has _ (.inl k)
    · exact I.ok.has _ (.inr k)
  refine compX (use := use) rfl hs (closure_ok hfree) ok.kind (fun y hy e => by rw [ok.uniq y hy, e])
    (thn (hi.run pins s σ H _ I h) fun xv s1 hx => thn hx fun itv s2 h2 => ?_)
  obtain ⟨it, fp, tn, J, H2, e, I2, T, st2, f2, q⟩ := h2
  subst e
  refine wpAny_newObj_type (newEnv_comp ⟨rfl, ?_⟩) (by show 0 ≤ sizeLine; decide)
  generalize hD : s2.heap.objs.size = D
  have hDn : H2 D = none := I2.hok.fresh (Nat.le_of_eq hD)
  obtain ⟨Wm, ⟨m0, w0⟩, turn⟩ := q D hDn
  -- the new list
  generalize hs3 : ({ s2 with heap := s2.heap.push { cls := .type "list", data := .seq ([] : List Value).toArray } } : Shared) = s3
  have I3 : Inv X pins σ (upd H2 D (.lst [])) s3 := by
    rw [← hs3]
    refine I2.laid (t' := s2.toks) (fun b o e => Heap.get?_push_of_some _ e) (Nat.le_of_eq hD) ⟨Nat.zero_le _, [], 0, .nil, ?_⟩
    rw [← hD]
    exact Heap.get?_push_size _ rfl
  have h3 : s3.heap = s2.heap.push { cls := .type "list", data := .seq ([] : List Value).toArray } := by rw [← hs3]
  have sz : ∀ b ∈ fp, b < s2.heap.objs.size := fun b hb => by
    obtain ⟨o, e, _⟩ := T.obj _ _ st2 b hb
    exact Heap.lt_size e
  have f3 : ∀ b ∈ fp, FpOk X pins (upd H2 D (.lst [])) b ∧ b < s3.heap.objs.size := fun b hb => by
    have hlt := sz b hb
    refine ⟨⟨?_, (f2 b hb).2⟩, by rw [h3, Heap.size_push]; exact Nat.lt_succ_of_lt hlt⟩
    rw [upd_ne (by rw [← hD]; exact Nat.ne_of_lt hlt)]
    exact (f2 b hb).1
  have st3 : tn 0 s3.heap := T.keep _ _ _ st2 fun b _ o e => by rw [h3]; exact Heap.get?_push_of_some _ e
  have I4 := block_start I3 ok hN f3
  have pg := hg s3 (upd H2 D (.lst [])) s3.heap.objs.size (cellsFrom (s3.heap.objs.size + 1) scope.names (cloFrom X.env.cells scope.names [])) fp
  have pt := ht s3 (upd H2 D (.lst [])) s3.heap.objs.size (cellsFrom (s3.heap.objs.size + 1) scope.names (cloFrom X.env.cells scope.names [])) fp
  have pe := he s3 (upd H2 D (.lst [])) s3.heap.objs.size (cellsFrom (s3.heap.objs.size + 1) scope.names (cloFrom X.env.cells scope.names [])) fp
  show codeAny _ _ (.compStart (.ListComp elt [⟨tg, iter, ifs, 0⟩] scope pos) 0 (.ref it) (.ref D) (compEnvC scope (cellsFrom (s3.heap.objs.size + 1) scope.names (cloFrom X.env.cells scope.names [])) s3.heap.objs.size X.env)) (compPostX (model X.prog X.w) X.A X.xe use Qf (.ref D) s3.heap.objs.size X.env.frame) { s3 with heap := pushCells (s3.heap.push { cls := .type "dict", data := .dict #[] }) scope.names }
  have nfp : ∀ b ∈ fp, (upd H2 D (.lst [])) b = none := fun b hb => (f3 b hb).1.1
  have cF : (compEnvC scope (cellsFrom (s3.heap.objs.size + 1) scope.names (cloFrom X.env.cells scope.names [])) s3.heap.objs.size X.env).frame = X.env.frame := rfl
  have cL : (compEnvC scope (cellsFrom (s3.heap.objs.size + 1) scope.names (cloFrom X.env.cells scope.names [])) s3.heap.objs.size X.env).locals = s3.heap.objs.size := rfl
  generalize hce : compEnvC scope (cellsFrom (s3.heap.objs.size + 1) scope.names (cloFrom X.env.cells scope.names [])) s3.heap.objs.size X.env = ce at I4 pg pt pe cF cL ⊢
  generalize hH3 : upd H2 D (.lst []) = H3 at I3 I4 pg pt pe w0 nfp f3
  obtain ⟨xe, hxe⟩ : ∃ xe, xe = notedBy (model X.prog X.w) X.A ce fun e s' => compPostX (model X.prog X.w) X.A X.xe use Qf (.ref D) s3.heap.objs.size X.env.frame (.error e) s' := ⟨_, rfl⟩
  have tkb : Takes (X.blkX s3 H3 scope ce fp xe) (fun c d _ H => W c d σ H) := blk_takes of tk I3 f3 cL cF hxe
  have pg := pg xe
  have pt := pt xe tkb
  have pe := pe xe tkb
  have I4 : Inv (X.blkX s3 H3 scope ce fp xe) [] (wipe σ (own.map (·.2))) H3 { s3 with heap := pushCells (s3.heap.push { cls := .type "dict", data := .dict #[] }) scope.names } := inv_blkX I4 xe
  generalize hs4 : ({ s3 with heap := pushCells (s3.heap.push { cls := .type "dict", data := .dict #[] }) scope.names } : Shared) = s4 at I4 ⊢
  have st4 : tn 0 s4.heap := T.keep _ _ _ st3 fun b _ o e => by rw [← hs4]; exact pushCells_keeps _ _ _ _ (Heap.get?_push_of_some _ e)
  have stat : ∀ {σ' : St} {H' : Hp} {s' : Shared}, Inv (X.blkX s3 H3 scope ce fp xe) [] σ' H' s' → (∀ b ∈ fp, H' b = none) → ∀ b ∈ fp, FpOk (X.blkX s3 H3 scope ce fp xe) [] H' b := fun {σ' H' s'} I' hn b hb =>
    ⟨hn b hb, (I'.ok.exf b hb).1, I'.ok.exfs b hb, .inl hb, fun x c e => (I'.ok.exf b hb).2 x c e, fun p hp => absurd (show p ∈ ([] : List (Addr × Obj)) ++ [] from hp) (by simp)⟩
  have loop : codeAny (model X.prog X.w) X.A (.compLoop (.ListComp elt [⟨tg, iter, ifs, 0⟩] scope pos) 0 (.ref it) (.ref D) ce) (compPostX (model X.prog X.w) X.A X.xe use Qf (.ref D) s3.heap.objs.size X.env.frame) s4 := by
    refine compLoop_any (fun n s' => ∃ i H', Inv (X.blkX s3 H3 scope ce fp xe) [] (wipe σ (own.map (·.2))) H' s' ∧ tn i s'.heap ∧ (∀ b ∈ fp, H' b = none) ∧ Wm i n H') ?_ m0 ⟨0, H3, I4, st4, nfp, w0⟩
    rintro n s5 ⟨i, H5, I5, st5, n5, w5⟩
    rw [← hxe]
    rcases turn i n H5 w5 with ⟨stop, qq⟩ | ⟨go, Nx, hNx, step⟩
    · have td := T.done (X.blkX s3 H3 scope ce fp xe) rfl rfl rfl hc i [] s5 _ H5 (fun _ _ => False) I5 (stat I5 n5) st5 stop
      refine thnF td fun r s6 ⟨hr, I6⟩ => ?_
      subst hr
      have I7 : Inv X pins σ H5 s6 := I3.call' (ch := fp) I6.os I6.base I6.hok I6.bare fun b hb => ⟨(f3 b hb).1.2.2.2.1, (f3 b hb).1.2.1, (f3 b hb).1.2.2.2.2.1, (f3 b hb).1.2.2.2.2.2⟩
      have nC : H5 s3.heap.objs.size = none := by
        have z : H5 ce.locals = none := I6.free
        rw [cL] at z
        exact z
      obtain ⟨m, hn, _⟩ := I6.loc
      have hn : s6.heap.Ns ce.locals m := hn
      rw [cL] at hn
      exact hRR D s3.heap.objs.size s6 m H5 I7 qq hn (I3.fpOk (Nat.le_refl _) nC)
    · have ti := T.item (X.blkX s3 H3 scope ce fp xe) rfl rfl rfl hc i [] s5 _ H5 (fun _ _ => False) I5 (stat I5 n5) st5 go
      refine thnF ti fun r s6 ⟨u, hr, h6⟩ => ?_
      subst hr
      refine thnF h6 fun _ s7 ⟨x, H7, I7, r7, y7, st7, n7⟩ => ?_
      have I7' := I7.pinned (stat I7 n7) (T.obj _ _ st7)
      refine thn (pg.run _ s7 _ H7 x u _ I7' r7 (step x H7 y7)) fun _ s8 ⟨σ8, H8, I8, hw8, q8⟩ => ?_
      refine thn (pt.run _ s8 σ8 H8 _ I8 q8) fun b s9 ⟨H9, I9, q9⟩ => ?_
      have fin : ∀ {s' : Shared} {H' : Hp}, Inv (X.blkX s3 H3 scope ce fp xe) ([] ++ pinsAt fp s7.heap) σ8 H' s' → Nx H' → ∃ m, m < n ∧ ∃ i H', Inv (X.blkX s3 H3 scope ce fp xe) [] (wipe σ (own.map (·.2))) H' s' ∧ tn i s'.heap ∧ (∀ b ∈ fp, H' b = none) ∧ Wm i m H' := fun {s' H'} I' nx => by
        obtain ⟨m', hm, w'⟩ := hNx H' nx
        have pin' : ∀ b ∈ fp, ∀ o, s7.heap.get? b = some o → s'.heap.get? b = some o ∧ H' b = none := fun b hb o e =>
          let z := I'.pin (b, o) (List.mem_append_right _ (List.mem_append_right _ (mem_pinsAt hb e)))
          ⟨z.1, z.2.1⟩
        have hl : (wipe σ (own.map (·.2))).length = σ8.length := by rw [← hw8, wipe_length]
        refine ⟨m', hm, i + 1, H', (I'.unpinned (pins := [])).weak hl (fun j v e => ?_), T.keep _ _ _ st7 fun b hb o e => (pin' b hb o e).1, fun b hb => ?_, w'⟩
        · rw [← hw8] at e
          exact (wipe_some e).1
        · obtain ⟨o, e, _⟩ := T.obj _ _ st7 b hb
          exact (pin' b hb o e).2
      cases b with
      | false =>
        simp only [Bool.false_eq_true, if_false] at q9 ⊢
        exact fin I9 q9
      | true =>
        simp only [if_true] at q9 ⊢
        refine thn (pe.run _ s9 σ8 H9 _ I9 q9) fun z s10 ⟨yv, H10, I10, r10, acc, hD10, hz10, nx⟩ => ?_
        exact app_ok (X := X.blkX s3 H3 scope ce fp xe) I10 hD10 hz10 r10 fun s11 I11 => fin I11 nx
  exact codeAny_compStart_list loop (T.self X.A 0 _ _ _ st4 loop)
theorem pe_lcX {W : WX} {elt tg iter : Expr} {ifs : List Expr} {scope : Scope} {own : List (Str × Nat)} {pos : Pos} {wi : TI} {g : TG} {tt : St → TT} {te : St → TE} (of : OwnFrame X) (tk : Takes X W) (hc : X.calm = true) (hN : X.N.Nodup) (hi : PI X tg iter wi) (ok : BlkOk X.N X.env.scope scope own)
    (hg : ∀ (s : Shared) (H : Hp) (C : Addr) (cl : List (Str × Addr)) (fp : List Addr) (xe : Value → Shared → Prop), PG (X.blkX s H scope (compEnvC scope cl C X.env) fp xe) tg g)
    (ht : ∀ (σ : St) (s : Shared) (H : Hp) (C : Addr) (cl : List (Str × Addr)) (fp : List Addr) (xe : Value → Shared → Prop), Takes (X.blkX s H scope (compEnvC scope cl C X.env) fp xe) (fun c d _ H => W c d σ H) → PTs (X.blkX s H scope (compEnvC scope cl C X.env) fp xe) ifs (tt σ))
    (he : ∀ (σ : St) (s : Shared) (H : Hp) (C : Addr) (cl : List (Str × Addr)) (fp : List Addr) (xe : Value → Shared → Prop), Takes (X.blkX s H scope (compEnvC scope cl C X.env) fp xe) (fun c d _ H => W c d σ H) → PE (X.blkX s H scope (compEnvC scope cl C X.env) fp xe) elt (te σ)) (hs : ∀ x, foldedSetIterable iter X.env x = pure x := by intro _; rfl) :
    PE X (.ListComp elt [⟨tg, iter, ifs, 0⟩] scope pos) (tLcX wi g tt te (own.map (·.2))) := by
  refine ⟨fun pins s σ H Q I h => ?_⟩
  rw [eval_ListComp]
  refine lc_coreX of tk hc hN I hi ok hg (ht σ) (he σ) hs h fun D C s' m H' I' q hn f => ⟨m, hn, fun h'' sb => ?_⟩
  obtain ⟨f0, f1, f2, f3, f4, f5⟩ := f
  exact ⟨.ref D, H', I'.turned (t' := s'.toks) (fun b o hb e => (sb.2 b hb).trans e) f0 f1 f3 f4 f5, rfl, q⟩
theorem ps_setLcX {W : WX} {i : Nat} {y : Str} {py : Pos} {elt tg iter : Expr} {ifs : List Expr} {scope : Scope} {own : List (Str × Nat)} {pos spos : Pos} {wi : TI} {g : TG} {tt : St → TT} {te : St → TE} (of : OwnFrame X) (tk : Takes X W) (hc : X.calm = true) (hN : X.N.Nodup) (hy : X.N[i]? = some y) (hyl : X.env.scope.names.lookup y = some .local)
    (hsw : swapsWith (.ListComp elt [⟨tg, iter, ifs, 0⟩] scope pos) (some (.Name y py)) spos.line X.env = pure true) (hi : PI X tg iter wi) (ok : BlkOk X.N X.env.scope scope own)
    (hg : ∀ (s : Shared) (H : Hp) (C : Addr) (cl : List (Str × Addr)) (fp : List Addr) (xe : Value → Shared → Prop), PG (X.blkX s H scope (compEnvC scope cl C X.env) fp xe) tg g)
    (ht : ∀ (σ : St) (s : Shared) (H : Hp) (C : Addr) (cl : List (Str × Addr)) (fp : List Addr) (xe : Value → Shared → Prop), Takes (X.blkX s H scope (compEnvC scope cl C X.env) fp xe) (fun c d _ H => W c d σ H) → PTs (X.blkX s H scope (compEnvC scope cl C X.env) fp xe) ifs (tt σ))
    (he : ∀ (σ : St) (s : Shared) (H : Hp) (C : Addr) (cl : List (Str × Addr)) (fp : List Addr) (xe : Value → Shared → Prop), Takes (X.blkX s H scope (compEnvC scope cl C X.env) fp xe) (fun c d _ H => W c d σ H) → PE (X.blkX s H scope (compEnvC scope cl C X.env) fp xe) elt (te σ)) (hs : ∀ x, foldedSetIterable iter X.env x = pure x := by intro _; rfl) :
    PS X (.Assign [.Name y py] (.ListComp elt [⟨tg, iter, ifs, 0⟩] scope pos) spos) (tAsg (tLcX wi g tt te (own.map (·.2))) (gName i)) := by
  refine ⟨fun pins s σ H D I h => ?_⟩
  rw [exec_Assign_Name_used _ _ _ _ hsw]
  refine wpAny_bind (wpAny_standAt (wpAny_bind ?_))
  show wpAny _ X.A (do let _ ← comprehension (.ListComp elt [⟨tg, iter, ifs, 0⟩] scope pos) scope X.env (firstIterPos [⟨tg, iter, ifs, 0⟩] pos) (newList []) false (eval iter X.env) (some (assign (.Name y py) X.env))) _ _ s
  have h : tLc wi g (tt σ) (te σ) (own.map (·.2)) σ H (fun x H1 => gName i x σ H1 D.nx) := h
  refine wpAny_bind (thn (lc_coreX (Qf := fun _ s' => SP X pins D .next s') of tk hc hN I hi ok hg (ht σ) (he σ) hs h fun L C s' m H' I' q hn f => ?_) fun _ s' hq => wpAny_pure (wpAny_pure hq))
  show wpAny _ _ (assign (.Name y py) X.env (.ref L)) _ _ _
  refine wpAny_assign_Name (store_ok2 (v := V.ref L) I' hN hy (.inl hyl) rfl (fun s2 I2 ⟨a, sb, ha⟩ => ?_) (.inr hyl))
  obtain ⟨f0, f1, f2, f3, f4, f5⟩ := f
  have haC : C ≠ a := by
    rcases ha with z | z
    · rw [z]; exact f1
    · exact fun e => f4 y a z e.symm
  refine ⟨m, hn.sameBut sb haC, fun h3 sb3 => ?_⟩
  exact ⟨_, H', I2.turned (t' := s2.toks) (fun b o hb e => (sb3.2 b hb).trans e) f0 f1 f3 f4 f5, q⟩
end
open Classical in
noncomputable def lcLX (n : Nat) (G : Store → Prop) (t : LT) (e0 : Ev) (tt : TM) (el : EM) : List D → Store → R Unit
  | [], S => if G S then .ok () S else .stuck
  | d :: ds, S => if G S then match t.items d with
    | some xs => (tt ⟨setAll e0.sl t.ix xs, []⟩ S).bind fun b S2 => if b = true then (el ⟨setAll e0.sl t.ix xs, []⟩ S2).bind fun y S3 => match S3[n]? with
        | some (.lst acc) => if acc.length < sizeLine then lcLX n G t e0 tt el ds (S3.set n (.lst (acc ++ [y]))) else .stuck
        | _ => .stuck
      else lcLX n G t e0 tt el ds S2
    | none => .stuck
    else .stuck
noncomputable def mLcX (vs : List Nat) (t : LT) (it : IM) (tt : TM) (el : EM) : EM := fun e S => (it e S).bind fun w S1 => (lcLX S1.length w.G t (e.wip vs) tt el w.ds (S1 ++ [.lst []])).bind fun _ S2 => .ok (.obj S1.length) S2
section
variable {nm : Nms} {X : Cx}
theorem lc_rdX {W : WX} {tg iter : Expr} {scope : Scope} {it : IM} {tt : TM} {el : EM} {vs : List Nat} (t : LT) (hsub : ∀ i ∈ t.ix, i ∈ vs) {σ : St} {H : Hp} {Q : VK} (hh : rdE nm X W (mLcX vs t it tt el) σ H Q) :
    tLc (fun σ H R => ∃ e S μ, EvR nm X H μ e σ ∧ Sim nm X.K X.mg μ S H ∧ PostX nm X W μ H σ (it e S) fun w S' μ' H' => ∀ J C, Stable C → C H' μ' → WOk nm X J w C → R J H') (t.tg X.K)
      (rdT nm (blk0 X scope) (fun c d _ H => W c d σ H) tt) (rdE nm (blk0 X scope) (fun c d _ H => W c d σ H) el) vs σ H Q := by
  obtain ⟨e, S, μ, E, s, p⟩ := hh
  refine ⟨e, S, μ, E, s, (Post.bind p).mono fun w S1 μ1 H1 x1 s1 p1 J C st c0 ok' => ?_⟩
  intro D nD
  refine ⟨fun i m H' => m = w.ds.length - i ∧ i ≤ w.ds.length ∧ ∃ S μ', EvR nm X H' μ' e σ ∧ Sim nm X.K X.mg μ' S H' ∧ C H' μ' ∧ μ'[S1.length]? = some D ∧ PostX nm X W μ' H' σ ((lcLX S1.length w.G t (e.wip vs) tt el (w.ds.drop i) S).bind fun _ S2 => .ok (.obj S1.length) S2) (fun d _ μ' H' => ∀ v, RV X.K H' μ' v d → Q v H'),
    ⟨w.ds.length, rfl, Nat.zero_le _, S1 ++ [.lst []], μ1 ++ [D], (E.ext x1).ext (Ext.made s1 nD), s1.made (o := .lst []) nD ⟨[], upd_same, .nil⟩, st _ _ _ _ (Ext.made s1 nD) c0, new_at s1, by rw [List.drop_zero]; exact Post.ext (Ext.made s1 nD) p1⟩, ?_⟩
  rintro i m H' ⟨rfl, hi, S, μ', E', s', c', eD, p'⟩
  by_cases hlt : i < w.ds.length
  · obtain ⟨d, hd⟩ : ∃ d, w.ds[i]? = some d := ⟨_, List.getElem?_eq_getElem hlt⟩
    have hdr : w.ds.drop i = d :: w.ds.drop (i + 1) := by
      rw [List.drop_eq_getElem_cons hlt]
      rw [List.getElem?_eq_getElem hlt] at hd
      cases hd; rfl
    rw [hdr] at p'
    unfold lcLX at p'
    split at p'
    · rename_i hG
      obtain ⟨go, yl⟩ := (ok' i S μ' H' s' c' hG).1 d hd
      refine .inr ⟨go, fun H2 => ∃ m', m' < w.ds.length - i ∧ m' = w.ds.length - (i + 1) ∧ i + 1 ≤ w.ds.length ∧ ∃ S μ', EvR nm X H2 μ' e σ ∧ Sim nm X.K X.mg μ' S H2 ∧ C H2 μ' ∧ μ'[S1.length]? = some D ∧ PostX nm X W μ' H2 σ ((lcLX S1.length w.G t (e.wip vs) tt el (w.ds.drop (i + 1)) S).bind fun _ S2 => .ok (.obj S1.length) S2) (fun d _ μ' H' => ∀ v, RV X.K H' μ' v d → Q v H'), fun H2 h => h, fun x H2 y => ?_⟩
      obtain ⟨x2, s2, r2⟩ := yl x H2 y
      split at p'
      · rename_i xs hxs
        obtain ⟨ws, rws, run⟩ := lt_run hxs r2
        refine run _ _ ⟨wipe_setAll ws hsub, ⟨setAll (e.wip vs).sl t.ix xs, []⟩, S, μ', ?_, s2, ?_⟩
        · exact evr_setAll (X := X.blk X.s_0 X.H_0 scope X.env []) t.ix rws (evr_wip (X := X) (X' := X.blk X.s_0 X.H_0 scope X.env []) rfl _ (E'.ext x2))
        · rw [bind_assoc] at p'
          refine (Post.bind (Post.ext x2 p')).mono fun b S3 μ3 H3 x3 s3 p3 => ?_
          have E3 := (E'.ext x2).ext x3
          have c3 := st _ _ _ _ (x2.trans x3) c'
          have eD3 := (x2.trans x3).at eD
          cases b with
          | true =>
            rw [if_pos rfl] at p3
            dsimp only
            rw [if_pos rfl]
            refine ⟨⟨setAll (e.wip vs).sl t.ix xs, []⟩, S3, μ3, ?_, s3, ?_⟩
            · exact evr_setAll (X := X.blk X.s_0 X.H_0 scope X.env []) t.ix (RVs.ext x3 _ rws) (evr_wip (X := X) (X' := X.blk X.s_0 X.H_0 scope X.env []) rfl _ E3)
            · rw [bind_assoc] at p3
              refine (Post.bind p3).mono fun y S4 μ4 H4 x4 s4 p4 v rv => ?_
              have eD4 := x4.at eD3
              split at p4
              · rename_i acc hacc
                split at p4
                · rename_i hl
                  obtain ⟨zs, e1, rz⟩ := s4.ob _ _ _ eD4 hacc
                  have x5 := Ext.wrote (H := H4) (u := .lst (zs ++ [v])) (List.mem_of_getElem? eD4) (NF.of e1)
                  exact ⟨zs, e1, by rw [rz.length]; exact hl, w.ds.length - (i + 1), by omega, rfl, hlt, S4.set S1.length (.lst (acc ++ [y])), μ4, (E3.ext x4).ext x5, s4.wrote eD4 ⟨zs ++ [v], upd_same, RVs.ext x5 _ (rz.append (.cons rv .nil))⟩, st _ _ _ _ (x4.trans x5) c3, eD4, Post.ext x5 p4⟩
                · exact False.elim p4
              · exact False.elim p4
          | false =>
            rw [if_neg Bool.false_ne_true] at p3
            dsimp only
            rw [if_neg Bool.false_ne_true]
            exact ⟨w.ds.length - (i + 1), by omega, rfl, hlt, S3, μ3, E3, s3, c3, eD3, p3⟩
      · exact False.elim p'
    · exact False.elim p'
  · have hz : w.ds.drop i = [] := List.drop_eq_nil_of_le (Nat.le_of_not_lt hlt)
    rw [hz] at p'
    unfold lcLX at p'
    split at p'
    · rename_i hG
      exact .inl ⟨(ok' i S μ' H' s' c' hG).2 (Nat.le_of_not_lt hlt), p' μ' H' .refl s' _ (.obj eD)⟩
    · exact False.elim p'
theorem pts_blkX {W : WX} {σ : St} {s : Shared} {H : Hp} {scope : Scope} {cenv : Env} {fp : List Addr} {xe : Value → Shared → Prop} {ifs : List Expr} {tt : TM} (h : MTs nm (X.blkX s H scope cenv fp xe) ifs tt) (tk : Takes (X.blkX s H scope cenv fp xe) (fun c d _ H => W c d σ H)) : PTs (X.blkX s H scope cenv fp xe) ifs (rdT nm (blk0 X scope) (fun c d _ H => W c d σ H) tt) :=
  ⟨fun pins s1 σ1 H1 Q I hh => (h.run _ tk).run pins s1 σ1 H1 Q I (by obtain ⟨e, S, μ, E, sm, p⟩ := hh; exact ⟨e, S, μ, ⟨E.len, E.at_, E.ex⟩, sm, p⟩)⟩
theorem pe_blkX {W : WX} {σ : St} {s : Shared} {H : Hp} {scope : Scope} {cenv : Env} {fp : List Addr} {xe : Value → Shared → Prop} {e : Expr} {el : EM} (h : ME nm (X.blkX s H scope cenv fp xe) e el) (tk : Takes (X.blkX s H scope cenv fp xe) (fun c d _ H => W c d σ H)) : PE (X.blkX s H scope cenv fp xe) e (rdE nm (blk0 X scope) (fun c d _ H => W c d σ H) el) :=
  (h.run _ tk).imp fun σ1 H1 Q hh => by obtain ⟨e, S, μ, E, sm, p⟩ := hh; exact ⟨e, S, μ, ⟨E.len, E.at_, E.ex⟩, sm, p⟩
theorem me_lcX {elt tg iter : Expr} {ifs : List Expr} {scope : Scope} {own : List (Str × Nat)} {pos : Pos} {it : IM} {tt : TM} {el : EM} {vs : List Nat} (of : OwnFrame X) (t : LT) (hc : X.calm = true) (hN : X.N.Nodup) (hi : MI nm X tg iter it) (ok : BlkOk X.N X.env.scope scope own) (hv : own.map (·.2) = vs) (hsub : ∀ i ∈ t.ix, i ∈ vs)
    (hg : ∀ (s : Shared) (H : Hp) (C : Addr) (cl : List (Str × Addr)) (fp : List Addr) (xe : Value → Shared → Prop), PG (X.blkX s H scope (compEnvC scope cl C X.env) fp xe) tg (t.tg X.K))
    (ht : ∀ (s : Shared) (H : Hp) (C : Addr) (cl : List (Str × Addr)) (fp : List Addr) (xe : Value → Shared → Prop), MTs nm (X.blkX s H scope (compEnvC scope cl C X.env) fp xe) ifs tt)
    (he : ∀ (s : Shared) (H : Hp) (C : Addr) (cl : List (Str × Addr)) (fp : List Addr) (xe : Value → Shared → Prop), ME nm (X.blkX s H scope (compEnvC scope cl C X.env) fp xe) elt el)
    (hs : ∀ x, foldedSetIterable iter X.env x = pure x := by intro _; rfl) : ME nm X (.ListComp elt [⟨tg, iter, ifs, 0⟩] scope pos) (mLcX vs t it tt el) := by
  subst hv
  exact ⟨fun W tk => (pe_lcX of tk hc hN (hi.run W tk) ok hg (fun σ s H C cl fp xe tkb => pts_blkX (σ := σ) (ht s H C cl fp xe) tkb) (fun σ s H C cl fp xe tkb => pe_blkX (σ := σ) (he s H C cl fp xe) tkb) hs).imp fun σ H Q hh => lc_rdX (tg := tg) (iter := iter) t hsub hh⟩
theorem ms_setLcX (of : OwnFrame X) (i : Nat) {y : Str} {py spos : Pos} {elt tg iter : Expr} {ifs : List Expr} {scope : Scope} {own : List (Str × Nat)} {pos : Pos} {it : IM} {tt : TM} {el : EM} {vs : List Nat} (t : LT) (hc : X.calm = true) (hN : X.N.Nodup) (hy : X.N[i]? = some y) (hyl : X.env.scope.names.lookup y = some .local)
    (hk : X.env.scope.kind = .function) (hl : (py.line == pos.line) = true) (ha : (scope.names.any fun (n, k) => n == y && (k == .local || k == .cell)) = false)
    (hi : MI nm X tg iter it) (ok : BlkOk X.N X.env.scope scope own) (hv : own.map (·.2) = vs) (hsub : ∀ i ∈ t.ix, i ∈ vs)
    (hg : ∀ (s : Shared) (H : Hp) (C : Addr) (cl : List (Str × Addr)) (fp : List Addr) (xe : Value → Shared → Prop), PG (X.blkX s H scope (compEnvC scope cl C X.env) fp xe) tg (t.tg X.K))
    (ht : ∀ (s : Shared) (H : Hp) (C : Addr) (cl : List (Str × Addr)) (fp : List Addr) (xe : Value → Shared → Prop), MTs nm (X.blkX s H scope (compEnvC scope cl C X.env) fp xe) ifs tt)
    (he : ∀ (s : Shared) (H : Hp) (C : Addr) (cl : List (Str × Addr)) (fp : List Addr) (xe : Value → Shared → Prop), ME nm (X.blkX s H scope (compEnvC scope cl C X.env) fp xe) elt el)
    (hs : ∀ x, foldedSetIterable iter X.env x = pure x := by intro _; rfl) : MS nm X (.Assign [.Name y py] (.ListComp elt [⟨tg, iter, ifs, 0⟩] scope pos) spos) (mSet i (mLcX vs t it tt el)) := by
  subst hv
  refine ⟨fun W tk => (ps_setLcX of tk hc hN hy hyl (sw_true hk hyl hl ha) (hi.run W tk) ok hg (fun σ s H C cl fp xe tkb => pts_blkX (σ := σ) (ht s H C cl fp xe) tkb) (fun σ s H C cl fp xe tkb => pe_blkX (σ := σ) (he s H C cl fp xe) tkb) hs).imp fun D σ H h => ?_⟩
  obtain ⟨e, S, μ, E, s, p⟩ := h
  exact lc_rdX (tg := tg) (iter := iter) t hsub ⟨e, S, μ, E, s, (PostS.toS E p).mono fun d S' μ' H' x s' q v r => q _ μ' H' .refl s' ((E.ext x).set r)⟩
theorem pg_oneX {s : Shared} {H : Hp} {scope : Scope} {cenv : Env} {fp : List Addr} {xe : Value → Shared → Prop} {pos : Pos} (i : Nat) {x : Str} (hN : X.N.Nodup) (hi : X.N[i]? = some x) (hl : Loc cenv.scope x) (hf : (scope.names.lookup x == some .cell) = true ∨ cenv.scope.names.lookup x = some .local) :
    PG (X.blkX s H scope cenv fp xe) (.Name x pos) ((LT.one i).tg X.K) := pg_name (X := X.blkX s H scope cenv fp xe) hN hi hl hf
end
theorem lcX_of {n : Nat} {G : Store → Prop} {t : LT} {e0 : Ev} {tt : TM} {el : EM} : ∀ {ds : List D} {S S' : Store}, lcL n G t e0 tt el ds S = .ok () S' → lcLX n G t e0 tt el ds S = .ok () S'
  | [], S, S', h => h
  | d :: ds, S, S', h => by
    unfold lcL at h
    unfold lcLX
    split at h
    · rename_i hG
      rw [if_pos hG]
      split at h
      · rename_i xs hx
        try rw [hx]
        try dsimp only
        cases ht : tt ⟨setAll e0.sl t.ix xs, []⟩ S with
        | ok b S2 =>
          rw [ht, R.nox_ok, R.bind_ok] at h
          rw [R.bind_ok]
          cases b with
          | false =>
            rw [if_neg Bool.false_ne_true] at h ⊢
            exact lcX_of h
          | true =>
            rw [if_pos rfl] at h ⊢
            cases hy : el ⟨setAll e0.sl t.ix xs, []⟩ S2 with
            | ok y S3 =>
              rw [hy, R.nox_ok, R.bind_ok] at h
              rw [R.bind_ok]
              split at h
              · rename_i acc hacc
                try rw [hacc]
                try dsimp only
                split at h
                · rename_i hlt
                  rw [if_pos hlt]
                  exact lcX_of h
                · cases h
              · cases h
            | exc c fs S3 => rw [hy] at h; cases h
            | stuck => rw [hy] at h; cases h
        | exc c fs S2 => rw [ht] at h; cases h
        | stuck => rw [ht] at h; cases h
      · cases h
    · cases h
/-- the items of ds are served, the next one raises -/
theorem lcX_exc {n : Nat} {G : Store → Prop} {t : LT} {e0 : Ev} {tt : TM} {el : EM} {c : Nat} {fs : List (Nat × D)} {Se : Store} {d : D} {xs : List D} {r : List D} : ∀ {ds : List D} {S S' : Store}, lcL n G t e0 tt el ds S = .ok () S' → G S' → t.items d = some xs →
    (tt ⟨setAll e0.sl t.ix xs, []⟩ S').bind (fun b S2 => if b = true then (el ⟨setAll e0.sl t.ix xs, []⟩ S2).bind fun _ S3 => .ok () S3 else .ok () S2) = .exc c fs Se → lcLX n G t e0 tt el (ds ++ d :: r) S = .exc c fs Se
  | [], S, S', h, hG, hx, he => by
    unfold lcL at h
    split at h
    · cases h
      rw [List.nil_append]
      unfold lcLX
      rw [if_pos hG, hx]
      dsimp only
      cases ht : tt ⟨setAll e0.sl t.ix xs, []⟩ S with
      | ok b S2 =>
        rw [ht, R.bind_ok] at he
        rw [R.bind_ok]
        cases b with
        | false => rw [if_neg Bool.false_ne_true] at he; cases he
        | true =>
          rw [if_pos rfl] at he ⊢
          cases hy : el ⟨setAll e0.sl t.ix xs, []⟩ S2 with
          | ok y S3 => rw [hy] at he; cases he
          | exc c2 fs2 S3 => rw [hy] at he; exact he
          | stuck => rw [hy] at he; cases he
      | exc c2 fs2 S2 => rw [ht] at he; exact he
      | stuck => rw [ht] at he; cases he
    · cases h
  | d0 :: ds, S, S', h, hG, hx, he => by
    unfold lcL at h
    rw [List.cons_append]
    unfold lcLX
    split at h
    · rename_i hG0
      rw [if_pos hG0]
      split at h
      · rename_i xs0 hx0
        try rw [hx0]
        try dsimp only
        cases ht : tt ⟨setAll e0.sl t.ix xs0, []⟩ S with
        | ok b S2 =>
          rw [ht, R.nox_ok, R.bind_ok] at h
          rw [R.bind_ok]
          cases b with
          | false =>
            rw [if_neg Bool.false_ne_true] at h ⊢
            exact lcX_exc h hG hx he
          | true =>
            rw [if_pos rfl] at h ⊢
            cases hy : el ⟨setAll e0.sl t.ix xs0, []⟩ S2 with
            | ok y S3 =>
              rw [hy, R.nox_ok, R.bind_ok] at h
              rw [R.bind_ok]
              split at h
              · rename_i acc hacc
                try rw [hacc]
                try dsimp only
                split at h
                · rename_i hlt
                  rw [if_pos hlt]
                  exact lcX_exc h hG hx he
                · cases h
              · cases h
            | exc c2 fs2 S3 => rw [hy] at h; cases h
            | stuck => rw [hy] at h; cases h
        | exc c2 fs2 S2 => rw [ht] at h; cases h
        | stuck => rw [ht] at h; cases h
      · cases h
    · cases h
section
variable {nm : Nms} {X : Cx} {pos : Pos}
def gAttr (K : PySem.W.Frag) (ta : TE) (f : Str) : TG := fun v σ H Q => ta σ H fun x H2 => ∃ a C dx fs, x = .ref a ∧ H2 a = some (.ins C dx fs) ∧ Cls K C ∧ NoAttr K C f ∧ fs.length < 1000 ∧ Q σ (upd H2 a (.ins C dx (putF f v fs)))
theorem pg_attr {o : Expr} {f : Str} {ta : TE} (ha : PE X o ta) : PG X (.Attribute o f pos) (gAttr X.K ta f) := by
  refine ⟨fun pins s σ H v u Q I r h => ?_⟩
  rw [assign_Attribute]
  refine wpAny_bind (wpAny_holding (thn (ha.run pins s σ H _ I h) fun ov s2 ⟨x, H2, I2, rx, a, C, dx, fs, ex, ea, c, n, l, q2⟩ => ?_))
  subst ex
  obtain rfl : ov = Value.ref a := rx
  refine wpAny_bind (wpAny_standAt (wpAny_bind (wpAny_holding ?_)))
  exact setattr_ok I2 ea c n l r fun s3 I3 => wpAny_release ⟨σ, _, I3, q2⟩
def gFd (cs : List Nat) (f : Nat) (o : EM) : GM := fun d e S => (o e S).toS e fun x S => match putF_ cs f S x d with
  | some S => .nx e S
  | none => .stuck
theorem mg_fld {cs : List Nat} {f : Nat} {fx : Str} {o : Expr} {mo : EM} (h : FldOk X.K X.mg nm cs f) (ho : ME nm X o mo) (hf : nm.fld f = fx := by decide +kernel) : MG nm X (.Attribute o fx pos) (gFd cs f mo) := by
  subst hf
  exact ⟨fun W tk => (pg_attr (ho.run W tk)).imp fun v σ H Q hh => by
    obtain ⟨d, e, S, μ, r, E, s, p⟩ := hh
    refine ⟨e, S, μ, E, s, (PostS.toS E p).mono fun d2 S2 μ2 H2 x2 s2 q2 v2 r2 => ?_⟩
    split at q2
    · rename_i S3 hp
      obtain ⟨a, C, dx, gs, h1, h2, h3, h4, h5, h6, h7, _⟩ := putF_at h s2 r2 (r.ext x2) hp
      exact ⟨a, C, dx, gs, h1, h2, h3, h4, h5, q2 _ _ _ h6 h7 ((E.ext x2).ext h6)⟩
    · exact False.elim q2⟩
theorem gok_fd {cs : List Nat} {f : Nat} {o : EM} : GOk (gFd cs f o) := fun d e S d' S' => by
  unfold gFd
  cases h1 : o e S with
  | ok x S1 =>
    rw [R.toS_ok]
    split <;> exact ⟨fun h => (nomatch h), fun e' => ⟨fun h => (nomatch h), fun h => (nomatch h)⟩⟩
  | exc c fs S2 => exact ⟨fun h => (nomatch h), fun e' => ⟨fun h => (nomatch h), fun h => (nomatch h)⟩⟩
  | stuck => exact ⟨fun h => (nomatch h), fun e' => ⟨fun h => (nomatch h), fun h => (nomatch h)⟩⟩
end
end BS
namespace BS
open PySem PySem.Spec PyProof.Rows L2
def tKey (e : Int × Value) : Str := match e.2 with | .str z _ => z | _ => ⟨#[]⟩
def GoodT (w : World) (e : Int × Value) : Prop := ∃ z tk, e.2 = Value.str z tk ∧ e.1 = hashStr w z
def SetT (w : World) (h : Heap) (a : Addr) (S : Str → Bool) (n : Nat) : Prop :=
  ∃ o es ep t, h.get? a = some o ∧ o.ExactSet ∧ o.data = .set es ep t ∧ (∀ e ∈ es.toList, GoodT w e) ∧ (es.toList.map tKey).Nodup ∧ (∀ k, S k = true ↔ k ∈ es.toList.map tKey) ∧
    es.size < scanBound ∧ t.fits es.size = true ∧ es.size = n ∧ Ris t.place.toList ∧ (w.params.followText "set-order" = true ∨ t.led = true)
section
variable {P : Program} {w : World}
theorem goodT_elems {l : List (Int × Value)} (g : ∀ e ∈ l, GoodT w e) : ElemsOf (strKind P w) l := fun e he => by
  obtain ⟨k, tk, h1, h2⟩ := g e he
  exact ⟨⟨k, by rw [h1]; exact strKind_is P w k tk, h2⟩, by rw [h1] <;> rfl⟩
theorem goodT_is {e : Int × Value} (g : GoodT w e) (k : Str) : (strKind P w).is k e.2 = true ↔ tKey e = k := by
  obtain ⟨k0, tk, h1, _⟩ := g
  unfold tKey
  rw [h1]
  show ((k0 == k) = true) ↔ k0 = k
  exact beq_iff_eq
theorem goodT_mem {l : List (Int × Value)} (g : ∀ e ∈ l, GoodT w e) (k : Str) : k ∈ l.map tKey ↔ ∃ e ∈ l, (strKind P w).is k e.2 = true := by
  rw [List.mem_map]
  constructor
  · rintro ⟨e, he, q⟩
    exact ⟨e, he, (goodT_is (g e he) k).2 q⟩
  · rintro ⟨e, he, q⟩
    exact ⟨e, he, (goodT_is (g e he) k).1 q⟩
end
section
variable {P : Program} {w : World} {A : Around} {E : Value → Shared → Prop} {s : Shared} {a : Addr} {S : Str → Bool} {n : Nat}
theorem setT_add_tail {g : Bool → Sem Unit} (hg : ∀ (b : Bool) (s₁ : Shared) (Q' : Unit → Shared → Prop), Q' () s₁ → wpAny (model P w) A (g b) Q' E s₁)
    {o : Obj} {es : Array (Int × Value)} {ep : Nat} {t : SetTable} (ho : s.heap.get? a = some o) (hex : o.ExactSet) (hd : o.data = .set es ep t)
    {es1 : Array (Int × Value)} {t2 : SetTable} {S' : Str → Bool} (g1 : ∀ e ∈ es1.toList, GoodT w e) (nd1 : (es1.toList.map tKey).Nodup) (m1 : ∀ k, S' k = true ↔ k ∈ es1.toList.map tKey)
    (hb1 : es1.size < scanBound) (hf2 : t2.fits es1.size = true) (hr : Ris t2.place.toList) (hl : w.params.followText "set-order" = true ∨ t2.led = true) {wasDummy : Bool} {R : Option Bool → Shared → Prop}
    (hR : ∀ h', Heap.SameBut a s.heap h' → SetT w h' a S' es1.size → R (some true) { s with heap := h' }) :
    wpAny (model P w) A (do
        storeSet a es1 t2
        if (!wasDummy && t2.tooFull) = true then do
            g (relayAll t2 es1 (SetTable.grown es1.size)).2.2
            storeSet a (relayAll t2 es1 (SetTable.grown es1.size)).1 (relayAll t2 es1 (SetTable.grown es1.size)).2.1
            pure (some true)
          else pure (some true)) R E s := by
  refine wpAny_bind (wpAny_storeSet_of ho hd ?_ (fits_of_scanBound hb1))
  have ho1 := store_at (es' := es1) (t' := t2) ho hd
  have sb1 := Heap.SameBut.update s.heap a (Obj.putSet es1 t2)
  split
  · have pm := relayAll_perm t2 es1 (SetTable.grown es1.size)
    have hf3 := relayAll_fits t2 es1 (SetTable.grown es1.size)
    have hr3 := relayAll_ris t2 es1 (SetTable.grown es1.size)
    have hl3 := relayAll_led t2 es1 (SetTable.grown es1.size)
    generalize relayAll t2 es1 (SetTable.grown es1.size) = Z at pm hf3 hr3 hl3 ⊢
    obtain ⟨es2, t3, gave⟩ := Z
    dsimp only at pm hf3 hr3 hl3 ⊢
    have hsz : es2.size = es1.size := by rw [← Array.length_toList, pm.length_eq, Array.length_toList]
    have hb2 : es2.size < scanBound := by rw [hsz]; exact hb1
    refine wpAny_bind (hg _ _ _ ?_)
    refine wpAny_bind (wpAny_storeSet_of ho1 rfl ?_ (fits_of_scanBound hb2))
    have ho2 := store_at (es' := es2) (t' := t3) ho1 rfl
    refine wpAny_pure (hR _ (sb1.trans (Heap.SameBut.update _ a _)) ?_)
    exact ⟨_, es2, _, t3, ho2, hex, rfl, fun e he => g1 e (pm.mem_iff.mp he), (pm.map tKey).nodup_iff.mpr nd1, fun k => (m1 k).trans (pm.map tKey).mem_iff.symm, hb2, hf3, hsz, hr3,
      hl.imp id fun z => by rw [hl3]; exact z⟩
  · exact wpAny_pure (hR _ sb1 ⟨_, es1, _, t2, ho1, hex, rfl, g1, nd1, m1, hb1, hf2, rfl, hr, hl⟩)
theorem setT_add_hashed {k : Str} {tk : Tok} {Q : Bool → Shared → Prop} (R : SetT w s.heap a S n) (room : n + 1 < scanBound)
    (hQ : ∀ h', Heap.SameBut a s.heap h' → SetT w h' a (fun j => S j || decide (j = k)) (if S k = true then n else n + 1) → Q (!S k) { s with heap := h' }) :
    wpAny (model P w) A (setAddHashed a (.str k tk) ((strKind P w).hash k)) Q E s := by
  obtain ⟨o, es, ep, t, ho, hex, hd, g, nd, hm, hb, hf, hn, hr, hl⟩ := R
  have hkey : (strKind P w).is k (.str k tk) = true := strKind_is P w k tk
  have hsc : (Value.str k tk).scannable = true := rfl
  have hel : ElemsOf (strKind P w) es.toList := goodT_elems g
  unfold setAddHashed setAddHashedIn
  refine wpAny_holding (wpAny_bind (wpAny_setState_of ho hd hf ?_))
  dsimp only
  rw [byScan_of hsc hb hel]
  simp only [↓reduceIte]
  unfold setAddByScan
  refine wpAny_bind ?_
  refine wpAny_bind (wpAny_rule ?_)
  refine wpAny_bind (wpAny_setScan_of hkey ho hd hf hel ?_)
  cases hfi : List.findIdx? (fun e => (strKind P w).is k e.2) es.toList with
  | some j =>
    dsimp only
    obtain ⟨hj, pj, _⟩ := List.findIdx?_eq_some_iff_getElem.mp hfi
    have hSk : S k = true := (hm k).2 ((goodT_mem (P := P) (w := w) g k).2 ⟨es.toList[j], List.getElem_mem hj, pj⟩)
    refine wpAny_pure (wpAny_pure ?_)
    have q := hQ s.heap (Heap.SameBut.refl a s.heap) ⟨o, es, ep, t, ho, hex, hd, g, nd, fun i => by
      rw [Bool.or_eq_true, decide_eq_true_eq, ← hm i]
      exact ⟨fun z => z.elim id (fun e => e ▸ hSk), .inl⟩, hb, hf, by rw [if_pos hSk]; exact hn, hr, hl⟩
    rw [hSk] at q
    exact q
  | none =>
    dsimp only
    have hnk : k ∉ es.toList.map tKey := fun z => by
      obtain ⟨e, he, q⟩ := (goodT_mem (P := P) (w := w) g k).1 z
      have c := List.findIdx?_eq_none_iff.mp hfi e he
      rw [q] at c
      cases c
    have hSk : S k = false := by
      cases q : S k with
      | false => rfl
      | true => exact absurd ((hm k).1 q) hnk
    have hgw : ∀ (b : Bool) {s₁ : Shared} {Q' : Unit → Shared → Prop}, Q' () s₁ → wpAny (model P w) A (match b with | true => rule "set.scan.the-table-gave-way" | false => pure ()) Q' E s₁ :=
      fun b s₁ Q' q => by cases b <;> first | exact wpAny_pure q | exact wpAny_rule q
    have pm := layNew_perm t es ((strKind P w).hash k) (.str k tk)
    have hf1 := layNew_fits t es ((strKind P w).hash k) (.str k tk)
    have hr1 := layNew_ris t es ((strKind P w).hash k) (.str k tk) hr
    have hl1 := layNew_led t es ((strKind P w).hash k) (.str k tk)
    generalize layNew t es ((strKind P w).hash k) (.str k tk) = Z at pm hf1 hr1 hl1 ⊢
    obtain ⟨es1, t1, wasDummy, gave⟩ := Z
    dsimp only at pm hf1 hr1 hl1 ⊢
    rw [Array.toList_push] at pm
    have pc : es1.toList.Perm (((strKind P w).hash k, Value.str k tk) :: es.toList) := pm.trans (List.perm_append_singleton _ _)
    have pk : (es1.toList.map tKey).Perm (k :: es.toList.map tKey) := pc.map tKey
    have g1 : ∀ e ∈ es1.toList, GoodT w e := fun e he => by
      rcases List.mem_cons.mp (pc.mem_iff.mp he) with z | z
      · rw [z]; exact ⟨k, tk, rfl, rfl⟩
      · exact g e z
    have nd1 : (es1.toList.map tKey).Nodup := pk.nodup_iff.mpr (List.nodup_cons.mpr ⟨hnk, nd⟩)
    have m1 : ∀ i, (S i || decide (i = k)) = true ↔ i ∈ es1.toList.map tKey := fun i => by
      rw [Bool.or_eq_true, decide_eq_true_eq, hm i, pk.mem_iff, List.mem_cons]
      exact Or.comm
    have hsz : es1.size = n + 1 := by rw [← Array.length_toList, pc.length_eq, List.length_cons, Array.length_toList, hn]
    have hb1 : es1.size < scanBound := by rw [hsz]; exact room
    have hled : w.params.followText "set-order" = true ∨ t1.led = true := hl.imp id fun z => by rw [hl1]; exact z
    have fin : ∀ h', Heap.SameBut a s.heap h' → SetT w h' a (fun j => S j || decide (j = k)) es1.size → Q true { s with heap := h' } := fun h' sb r => by
      have q := hQ h' sb
      rw [hSk] at q
      rw [hsz] at r
      exact q r
    refine wpAny_bind (hgw _ ?_)
    split
    · refine wpAny_bind ?_
      rw [hashByValue_scannable 8 hsc]
      refine wpAny_pure ?_
      refine setT_add_tail ?_ ho hex hd g1 nd1 m1 hb1 ?_ ?_ ?_ ?_
      · intro b s₁ Q' q; cases b <;> first | exact wpAny_pure q | exact wpAny_rule q
      · first | (split <;> first | exact hf1 | exact SetTable.fits_plain_off hf1) | exact hf1
      · first | (split <;> exact hr1) | exact hr1
      · first | (split <;> exact hled) | exact hled
      · intro h' sb r; dsimp only; exact wpAny_pure (fin h' sb r)
    · refine wpAny_bind (wpAny_pure ?_)
      simp only [↓reduceIte]
      refine setT_add_tail ?_ ho hex hd g1 nd1 m1 hb1 hf1 hr1 hled ?_
      · intro b s₁ Q' q; cases b <;> first | exact wpAny_pure q | exact wpAny_rule q
      · intro h' sb r; dsimp only; exact wpAny_pure (fin h' sb r)
end
theorem SetT.at {w : World} {h h' : Heap} {a : Addr} {S : Str → Bool} {n : Nat} (R : SetT w h a S n) (k : ∀ o, h.get? a = some o → h'.get? a = some o) : SetT w h' a S n := by
  obtain ⟨o, es, ep, t, ho, r⟩ := R
  exact ⟨o, es, ep, t, k o ho, r⟩
theorem SetT.congr {w : World} {h : Heap} {a : Addr} {S S' : Str → Bool} {n : Nat} (R : SetT w h a S n) (e : ∀ k, S' k = S k) : SetT w h a S' n := by
  have q : S' = S := funext e
  rw [q]; exact R
theorem setT_new_at {w : World} {h : Heap} {a : Addr} {ns : List Str} (ho : h.get? a = some { cls := .type "set", dict := none, data := .set #[] 0 (.fresh 0 0 (!w.params.followText "set-order")) }) : SetT w h a (fun j => decide (j ∈ ns.take 0)) 0 :=
  ⟨_, #[], 0, _, ho, ⟨rfl, rfl, rfl⟩, rfl, (fun e he => by simp at he), (by simp), (fun k => by simp), (by decide), (by rfl), rfl, List.Pairwise.nil, by
    show _ ∨ (!w.params.followText "set-order") = true
    cases w.params.followText "set-order"
    · exact .inr rfl
    · exact .inl rfl⟩
section
variable {P : Program} {w : World} {A : Around} {E : Value → Shared → Prop} {s : Shared}
theorem set_update_strs {I : Addr} {fp wr : List Addr} {G : Array GenState → Array GenState → Prop} {n : Nat} {Pv : Nat → Value → Prop} {St : Nat → Shared → Prop} {R : Result → Shared → Prop}
    (W : WalksS P w A.in1 I fp wr G n Pv St) (S : Addr) (hSf : S ∉ fp) (ns : List Str) (hn : n = ns.length) (hb : ns.length + 1 < scanBound) (hval : ∀ i v, Pv i v → ∃ k t, ns[i]? = some k ∧ v = .str k t) :
    ∀ (k i : Nat) (s : Shared), n - i = k → i ≤ n → St i s → (∃ c, c ≤ i ∧ SetT w s.heap S (fun j => decide (j ∈ ns.take i)) c) →
      (∀ s' c, Moved (S :: wr) G s s' → c ≤ n → SetT w s'.heap S (fun j => decide (j ∈ ns)) c → R (.ok (.ret .none)) s') →
      codeAny (model P w) A (.builtin "set.update.loop" ⟨[.ref S, .ref I], []⟩) R s := by
  have hSw : S ∉ wr := fun h => hSf (W.sub _ h)
  have hsub : ∀ b ∈ wr, b ∈ S :: wr := fun b hb => List.mem_cons_of_mem _ hb
  intro k
  induction k with
  | zero =>
    intro i s hk' hi hst ⟨c, hc, hS⟩ hR
    have hin : i = n := by omega
    subst hin
    refine codeAny_builtin F.entry_set_update_loop ?_
    rw [Around.under_plainId F.plain_set_update_loop _]
    show wpAny _ A.in1 (pyNext (.ref I) >>= _) _ _ s
    refine wpAny_bind (W.done s _ _ hst fun s' hm => ?_)
    show wpAny _ A.in1 (ret Value.none) _ _ s'
    have e : ns.take i = ns := List.take_of_length_le (by omega)
    rw [e] at hS
    exact wpAny_pure (hR s' c (hm.mono hsub) hc (hS.at fun o e => hm.heap S o hSw e))
  | succ k ih =>
    intro i s hk' hi hst ⟨c, hc, hS⟩ hR
    have hlt : i < n := by omega
    refine codeAny_builtin F.entry_set_update_loop ?_
    rw [Around.under_plainId F.plain_set_update_loop _]
    show wpAny _ A.in1 (pyNext (.ref I) >>= _) _ _ s
    refine wpAny_bind (W.item i s _ _ hlt hst fun v s' hP hst' hm => ?_)
    obtain ⟨z, t, hz, rfl⟩ := hval i v hP
    have hS' : SetT w s'.heap S (fun j => decide (j ∈ ns.take i)) c := hS.at fun o e => hm.heap S o hSw e
    show wpAny _ A.in1 (holding [Value.str z t] (setAdd S (.str z t)) >>= _) _ _ s'
    refine wpAny_bind (wpAny_holding ?_)
    unfold setAdd
    refine wpAny_holding ?_
    refine wpAny_bind ((strKind P w).pyHash (k := z) (strKind_is _ _ _ _) ?_)
    refine setT_add_hashed (s := { s' with toks := s'.toks + 1 }) hS' (by omega) fun h' hsb hS2 => ?_
    have hS3 : SetT w h' S (fun j => decide (j ∈ ns.take (i + 1))) (if decide (z ∈ ns.take i) = true then c else c + 1) := hS2.congr fun j => by
      rw [List.take_add_one, hz]
      simp [List.mem_append]
    have hc3 : (if decide (z ∈ ns.take i) = true then c else c + 1) ≤ i + 1 := by
      split <;> omega
    refine wpAny_pure ⟨plainId_quiet F.plain_set_update_loop _, ih (i + 1) _ (by omega) hlt (W.frame _ s' _ _ hst' (Nat.le_succ _) fun b hb o e => ?_) ⟨_, hc3, hS3⟩ fun s'' c2 hm'' hc'' hS'' => ?_⟩
    · rw [hsb.2 b (fun h : b = S => hSf (by rw [← h]; exact hb))]; exact e
    · refine hR s'' c2 (Moved.trans W.gtrans ((hm.mono hsub).then_heap (Nat.le_succ _) fun b o hb e => ?_) hm'') hc'' hS''
      rw [hsb.2 b (fun h : b = S => hb (by rw [h]; exact List.mem_cons_self))]; exact e
set_option maxRecDepth 100000 in
set_option maxHeartbeats 3200000 in
theorem call_set_strs {l : Addr} {items : Array Value} (ns : List Str) {Q : Value → Shared → Prop} (hh : A.handled = none) (hl : s.heap.IsList l items) (hit : StrsAre items.toList ns) (hb : ns.length + 1 < scanBound)
    (h : ∀ (h' : Heap) (tk c : Nat), SetT w h' s.heap.objs.size (fun j => decide (j ∈ ns)) c → c ≤ ns.length → (∀ b o, s.heap.get? b = some o → h'.get? b = some o) → Q (.ref s.heap.objs.size) { s with heap := h', toks := tk }) :
    wpAny (model P w) A (call (.type "set") [.ref l]) Q E s := by
  have hisz : items.size = ns.length := by
    have q := StrsAre.length hit
    rw [Array.length_toList] at q
    exact q
  obtain ⟨c, tl, hmro⟩ := F.called_set.mro
  have hmade := F.called_set.made
  have hsub := F.called_set.sub
  refine wpAny_call (codeAny_of_tree ?_)
  show wpAny _ _ (callAny (.type "set") _) _ _ _
  refine wpAny_pure ⟨Code.quiet_builtin _ (by decide +kernel), codeAny_builtin F.entry_type_call ?_⟩
  rw [Around.under_plain (weight_type_call_type "set" [.ref l] []) rfl]
  have h1 := F.called_set.notType
  have h2 := F.called_set.canCreate
  have hct := F.typeCall_set_1 (.ref l)
  repeat (any_goals (first | assumption | wp_step))
  refine codeAny_mono (code_set_led1 (.ref l) (E := E) (Q₁ := fun obj s₁ => obj = .ref s.heap.objs.size ∧ s₁ = { s with heap := s.heap.push { cls := .type "set", dict := none, data := .set #[] 0 (.fresh 0 0 (!w.params.followText "set-order")) } }) ⟨rfl, rfl⟩) fun r s₁ hr => ?_
  cases r with
  | error e => exact hr
  | ok fl =>
    cases fl with
    | ret obj =>
      obtain ⟨rfl, rfl⟩ := hr
      have hS : (s.heap.push { cls := .type "set", dict := none, data := .set #[] 0 (.fresh 0 0 (!w.params.followText "set-order")) }).get? s.heap.objs.size = some { cls := .type "set", dict := none, data := .set #[] 0 (.fresh 0 0 (!w.params.followText "set-order")) } := Heap.get?_push_size _ rfl
      have hT : Shared.TypeIs { s with heap := s.heap.push { cls := .type "set", dict := none, data := .set #[] 0 (.fresh 0 0 (!w.params.followText "set-order")) } } (.ref s.heap.objs.size) "set" := ⟨_, hS, rfl⟩
      have hli := F.called_set.init.lookup
      have hbi := F.called_set.init.bind (.ref s.heap.objs.size)
      repeat (any_goals (first | assumption | wp_step))
      refine codeAny_mono (codeAny_call_builtin (R := wants (fun r s₂ => r = .none ∧ ∃ h' tk c, s₂ = { s with heap := h', toks := tk } ∧ SetT w h' s.heap.objs.size (fun j => decide (j ∈ ns)) c ∧ c ≤ ns.length ∧
          (∀ b o, s.heap.get? b = some o → h'.get? b = some o)) E) F.called_set.init.plain F.entry_set_init (check_set_init_1 hT ?_)) fun r₂ s₂ hr₂ => ?_
      · obtain ⟨ol, hol, hcl, nl, hdl⟩ := hl
        obtain ⟨ocls, odict, odata, oslots⟩ := ol
        simp only at hcl hdl
        subst hcl; subst hdl
        have hol' : (s.heap.push { cls := .type "set", dict := none, data := .set #[] 0 (.fresh 0 0 (!w.params.followText "set-order")) }).get? l = some { cls := .type "list", dict := odict, data := .seq items nl, slots := oslots } := Heap.get?_push_of_some _ hol
        have hsls := F.sub_list_set
        have hslf := F.sub_list_frozenset
        have hne : (Value.type "list" == Value.type "dict") = false := by decide
        have hl1 : (s.heap.push { cls := .type "set", dict := none, data := .set #[] 0 (.fresh 0 0 (!w.params.followText "set-order")) }).IsList l items := ⟨_, hol', rfl, nl, rfl⟩
        unfold Builtin.«set.__init__» noKeywords Builtin.Frozenset.updateFrom
        generalize hPI : pyIter = PI
        wp_walk
        subst hPI
        refine wpAny_pyIter_list hl1 ?_
        refine wpAny_bind (wpAny_runValue ?_)
        have hlS : l < s.heap.objs.size := Heap.lt_size hol
        have hh3 : A.in1.in1.in1.handled = none := by simp [hh]
        have hz1 : (s.heap.push { cls := .type "set", dict := none, data := .set #[] 0 (.fresh 0 0 (!w.params.followText "set-order")) }).objs.size = s.heap.objs.size + 1 := Heap.size_push ..
        have hneI : l ≠ (s.heap.push { cls := .type "set", dict := none, data := .set #[] 0 (.fresh 0 0 (!w.params.followText "set-order")) }).objs.size := by
          rw [Heap.size_push]; exact Nat.ne_of_lt (Nat.lt_succ_of_lt hlS)
        have hSf : s.heap.objs.size ∉ [(s.heap.push { cls := .type "set", dict := none, data := .set #[] 0 (.fresh 0 0 (!w.params.followText "set-order")) }).objs.size, l] := by
          rw [Heap.size_push]; simp only [List.mem_cons, List.mem_singleton, List.not_mem_nil, or_false, not_or]
          exact ⟨Nat.ne_of_lt (Nat.lt_succ_self _), Nat.ne_of_gt hlS⟩
        have hval : ∀ (i : Nat) (v : Value), items[i]? = some v → ∃ k t, ns[i]? = some k ∧ v = .str k t := fun i v hv => by
          have hi : i < ns.length := by rw [← hisz]; exact (Array.getElem?_eq_some_iff.mp hv).1
          obtain ⟨t, e⟩ := SS.strs_at hit i v (by rw [Array.getElem?_toList]; exact hv)
          refine ⟨ns[i], t, List.getElem?_eq_getElem hi, ?_⟩
          rw [e, List.getD_eq_getElem?_getD, List.getElem?_eq_getElem hi] <;> rfl
        refine set_update_strs ((Walks.list hh3 _ l hneI items).toS) s.heap.objs.size
          hSf ns hisz hb hval (items.size - 0) 0 _ (by omega) (Nat.zero_le _)
          ⟨⟨_, Heap.get?_push_size _ rfl, rfl, rfl⟩, (hl1.push _)⟩ ?hS0 ?hR
        case hS0 =>
          have hget : ((s.heap.push { cls := .type "set", dict := none, data := .set #[] 0 (.fresh 0 0 (!w.params.followText "set-order")) }).push { cls := .type "list_iterator", data := .fields #[.ref l, .int 0 0] }).get? s.heap.objs.size
              = some { cls := .type "set", dict := none, data := .set #[] 0 (.fresh 0 0 (!w.params.followText "set-order")) } := Heap.get?_push_of_some _ hS
          exact ⟨0, Nat.le_refl 0, setT_new_at hget⟩
        case hR =>
          intro s' c' hm hc' hS'
          obtain ⟨h', g2, d', tk', os'⟩ := s'
          have eg : g2 = s.gens := hm.gens
          have ed : d' = s.drawn := hm.drawn
          have eo : os' = s.os := hm.os
          subst eg; subst ed; subst eo
          show wpAny _ _ _ _ _ _
          refine wpAny_pure ?_
          show wpAny _ _ (ret Value.none) _ _ _
          rw [hisz] at hc'
          refine wpAny_pure ⟨rfl, h', tk', c', rfl, hS', hc', fun b o e => ?_⟩
          have hb0 : b < s.heap.objs.size := Heap.lt_size e
          have hb1 : b ≠ s.heap.objs.size := Nat.ne_of_lt hb0
          have hb2 : b ≠ (s.heap.push { cls := .type "set", dict := none, data := .set #[] 0 (.fresh 0 0 (!w.params.followText "set-order")) }).objs.size := by
            rw [Heap.size_push]; exact Nat.ne_of_lt (Nat.lt_succ_of_lt hb0)
          exact hm.heap b o (by simp only [List.mem_cons, List.mem_singleton, List.not_mem_nil, or_false, not_or]; exact ⟨hb1, hb2⟩) (Heap.get?_push_of_some _ (Heap.get?_push_of_some _ e))
      · cases r₂ with
        | error e => exact hr₂
        | ok fl₂ =>
          cases fl₂ with
          | ret r =>
            obtain ⟨rfl, h', tk, c', rfl, hS', hc', hk'⟩ := hr₂
            repeat (any_goals (first | assumption | wp_step))
            exact h _ _ _ hS' hc' hk'
          | _ => exact hr₂.elim
    | _ => exact hr.elim
end
/-- the texts of a list, each once -/
def dedT : List Str → List Str
  | [] => []
  | x :: xs => if x ∈ xs then dedT xs else x :: dedT xs
theorem mem_dedT : ∀ (l : List Str) (k : Str), k ∈ dedT l ↔ k ∈ l
  | [], k => Iff.rfl
  | x :: xs, k => by
    unfold dedT
    split
    · rename_i h
      rw [mem_dedT xs k, List.mem_cons]
      exact ⟨.inr, fun z => z.elim (fun e => e ▸ h) id⟩
    · rw [List.mem_cons, List.mem_cons, mem_dedT xs k]
theorem nodup_dedT : ∀ (l : List Str), (dedT l).Nodup
  | [] => List.Pairwise.nil
  | x :: xs => by
    unfold dedT
    split
    · exact nodup_dedT xs
    · rename_i h
      exact List.nodup_cons.mpr ⟨fun z => h ((mem_dedT xs x).1 z), nodup_dedT xs⟩
theorem len_dedT : ∀ (l : List Str), (dedT l).length ≤ l.length
  | [] => Nat.le_refl _
  | x :: xs => by
    unfold dedT
    have h := len_dedT xs
    split
    · rw [List.length_cons]; omega
    · rw [List.length_cons, List.length_cons]; omega
theorem perm_nodup : ∀ (a b : List Str), a.Nodup → b.Nodup → (∀ k, k ∈ a ↔ k ∈ b) → a.Perm b
  | [], b, _, _, h => by
    cases b with
    | nil => exact List.Perm.refl _
    | cons y ys => exact absurd ((h y).2 List.mem_cons_self) (by simp)
  | x :: xs, b, ha, hb, h => by
    obtain ⟨a1, a2⟩ := List.nodup_cons.mp ha
    have hx : x ∈ b := (h x).1 List.mem_cons_self
    have hp : b.Perm (x :: b.erase x) := List.perm_cons_erase hx
    have hb' := hp.nodup_iff.mp hb
    obtain ⟨b1, b2⟩ := List.nodup_cons.mp hb'
    refine (List.Perm.cons x (perm_nodup xs (b.erase x) a2 b2 fun k => ?_)).trans hp.symm
    constructor
    · intro z
      have hk : k ∈ b := (h k).1 (List.mem_cons_of_mem _ z)
      rcases List.mem_cons.mp (hp.mem_iff.mp hk) with e | e
      · exact absurd (e ▸ z) a1
      · exact e
    · intro z
      have hk : k ∈ x :: xs := (h k).2 (hp.mem_iff.mpr (List.mem_cons_of_mem _ z))
      rcases List.mem_cons.mp hk with e | e
      · exact absurd (e ▸ z) b1
      · exact e
def setSort (l : List Str) : List Str := sortT (dedT l)
theorem mem_setSort (l : List Str) (k : Str) : k ∈ setSort l ↔ k ∈ l := (sortT_perm (dedT l)).mem_iff.trans (mem_dedT l k)
theorem nodup_setSort (l : List Str) : (setSort l).Nodup := (sortT_perm (dedT l)).nodup_iff.mpr (nodup_dedT l)
theorem len_setSort (l : List Str) : (setSort l).length ≤ l.length := by
  unfold setSort
  rw [(sortT_perm (dedT l)).length_eq]
  exact len_dedT l
section
variable {P : Program} {w : World} {A : Around} {E : Value → Shared → Prop} {s : Shared} {a : Addr}
theorem strs_ofT : ∀ (l : List Value), (∀ v ∈ l, ∃ k tk, v = Value.str k tk) → StrsAre l (l.map fun v => tKey ((0 : Int), v))
  | [], _ => .nil
  | v :: l, h => by
    obtain ⟨k, tk, rfl⟩ := h v List.mem_cons_self
    exact .cons k tk (strs_ofT l fun u hu => h u (List.mem_cons_of_mem _ hu))
theorem sorted_setT {ns : List Str} {n : Nat} {Q : Value → Shared → Prop} (R : SetT w s.heap a (fun j => decide (j ∈ ns)) n) (hh : A.handled = none) (hz : n ≤ sizeLine)
    (hQ : ∀ s' p (out : Array Value) (c : Nat), (∀ b o, s.heap.get? b = some o → s'.heap.get? b = some o) → s'.gens = s.gens → s'.os = s.os → s.heap.objs.size ≤ p →
      s'.heap.get? p = some (seqObj "list" out c) → StrsAre out.toList (setSort ns) → Q (.ref p) s') :
    wpAny (model P w) A (call (.builtin "sorted") [.ref a]) Q E s := by
  obtain ⟨o, es, ep, t, ho, hex, hd, g, nd, hm, hb, hf, hn, hr, hl⟩ := R
  refine Calls.call_function_entry kind_sorted plain_sorted entry_sorted (args_sorted1 _) ?_
  unfold Builtin.«sorted»
  refine wpAny_bind (m := checkCount "sorted" 1 1 _) (wpAny_pure ?_)
  refine wpAny_bind (L2.collect_set (A := A.in1) hh ⟨o, ho, hex.1, hd⟩ hf hb hr hl fun s1 vs k1 hz1 g1 o1 pm => ?_)
  have hvl : vs.length = n := by rw [pm.length_eq, List.length_map, Array.length_toList]; exact hn
  have hI : StrsAre vs (vs.map fun v => tKey ((0 : Int), v)) := strs_ofT vs fun v hv => by
    obtain ⟨e, he, q⟩ := List.mem_map.mp (pm.mem_iff.mp hv)
    obtain ⟨k, tk, h1, _⟩ := g e he
    exact ⟨k, tk, by rw [← q]; exact h1⟩
  have pk : (vs.map fun v => tKey ((0 : Int), v)).Perm (es.toList.map tKey) := by
    have q := pm.map fun v => tKey ((0 : Int), v)
    rw [List.map_map] at q
    exact q
  have hx : sortT (vs.map fun v => tKey ((0 : Int), v)) = setSort ns := by
    have pp : (vs.map fun v => tKey ((0 : Int), v)).Perm (dedT ns) := perm_nodup _ _ (pk.nodup_iff.mpr nd) (nodup_dedT ns) fun k => by
      rw [pk.mem_iff, ← hm k, mem_dedT, decide_eq_true_eq]
    exact sorted_one (fun a b => leS_anti) ((sortT_perm _).trans (pp.trans (sortT_perm _).symm)) (sortT_sorted _) (sortT_sorted _)
  refine wpAny_bind (wpAny_newList ?_ (by rw [hvl]; exact hz))
  have hoL : (s1.heap.push (seqObj "list" vs.toArray 0)).get? s1.heap.objs.size = some (seqObj "list" vs.toArray 0) := Heap.get?_push_size _ rfl
  refine wpAny_bind (wpAny_holding (wpAny_call_entry slot_list_sort ⟨_, hoL, rfl⟩ entry_list_sort ?_ (args_list_sort _)))
  refine SrtO.list_sort_ord swo_str hoL (by rw [hvl]; exact hz) (fun h2 => strs_sortable hI h2) fun out e1 e2 => ⟨_, rfl, ?_⟩
  have gg := strs_outF hI e1 e2
  rw [hx] at gg
  obtain ⟨c, hc⟩ := sortedHeap_at (vs := vs) (out := out.toArray) hoL
  refine wpAny_pure ⟨_, rfl, hQ _ s1.heap.objs.size out.toArray c (fun b u e => ?_) g1 o1 hz1 hc gg⟩
  have q := k1 b u e
  have hlt := Heap.lt_size q
  show (sortedHeap (s1.heap.push (seqObj "list" vs.toArray 0)) s1.heap.objs.size vs out.toArray).get? b = some u
  rw [sortedHeap_old (Nat.ne_of_lt hlt) (by rw [size_push']; exact Nat.lt_succ_of_lt hlt)]
  exact Heap.get?_push_of_some _ q
end
section
variable {X : Cx}
def tSortSet (K : PySem.W.Frag) (ta : TE) : TE := fun σ H Q => ta σ H fun x H1 => ∃ l, ∃ xs : List Str, x = .ref l ∧ SqL K H1 l (xs.map V.str) ∧ xs.length + 1 < scanBound ∧ (∀ p, H1 p = none → Q (.ref p) (upd H1 p (.lst ((setSort xs).map V.str))))
theorem room_scan : 1001 < scanBound := by decide
theorem pe_sortSet {a : Expr} {ta : TE} {p p2 q pos : Pos} (hc : X.calm = true) (hg : Gl X "sorted") (hm : X.mg "sorted" = none) (hv : bootBuiltins "sorted" = some (.builtin "sorted")) (hg2 : Gl X "set") (hm2 : X.mg "set" = none) (ha : PE X a ta)
    (na : starEach [a] X.env = (false, eval a X.env) :: starEach [] X.env := by rfl) : PE X (.Call (.Name "sorted" p) [.Call (.Name "set" p2) [a] [] q] [] pos) (tSortSet X.K ta) := by
  refine ⟨fun pins s σ H Q I h => ?_⟩
  refine Call_ (ld_blt I hg hm hv ?_)
  refine PyProof.Rows.callWith_builtin1 (PyProof.Rows.args_cons ?_ rfl) rfl rfl
  refine Call_ (ld_blt I hg2 hm2 boot_set ?_)
  refine PyProof.Rows.callWith_type1 (PyProof.Rows.args_cons (thn (ha.run pins s σ H _ I h) fun v s1 ⟨x, H1, I1, r1, q1⟩ => PyProof.Rows.args_nil ?_) na) na rfl
  obtain ⟨l, xs, rfl, hq, hsb, q1⟩ := q1
  cases r1
  obtain ⟨its, r, pl, hz⟩ := I1.list hq
  have hxz : xs.length ≤ sizeLine := by simpa using hz
  refine call_set_strs xs (I1.ok.hd hc) pl.isList (by simpa using strsAre_of r) hsb fun h' tk c hS hcl hk => ?_
  have I2 : Inv X pins σ H1 { s1 with heap := h', toks := tk } := I1.kept fun b o e => hk b o e
  refine PyProof.Rows.args_nil ?_
  refine sorted_setT (s := { s1 with heap := h', toks := tk }) hS (I1.ok.hd hc) (by omega) fun s' p' out c' k g o hp hg' hi => ?_
  have hlen : ((setSort xs).map V.str).length ≤ sizeLine := by
    rw [List.length_map]
    have := len_setSort xs
    omega
  have hn : H1 p' = none := I2.hok.fresh hp
  have J : Inv X pins σ (upd H1 p' (.lst ((setSort xs).map V.str))) { ({ s1 with heap := h', toks := tk } : Shared) with heap := s'.heap, gens := s'.gens, drawn := s'.drawn, toks := s'.toks } :=
    I2.call (ch := []) (Un.laid k hp hn) (I2.hok.laid k hp ⟨hlen, out.toList, c', vals_of_strs hi, hg'⟩) (by rw [g]; exact I2.bare) (fun _ z => nomatch z)
  have e : s' = { ({ s1 with heap := h', toks := tk } : Shared) with heap := s'.heap, gens := s'.gens, drawn := s'.drawn, toks := s'.toks } := by
    cases s'
    cases s1
    cases o
    rfl
  rw [e]
  exact ⟨.ref p', _, J, rfl, q1 p' hn⟩
end
section
variable {nm : Nms} {X : Cx}
noncomputable def mSortSet (new : Bool) (me : EM) : EM := fun e S => (me e S).bind fun d S1 => match lstOf S1 d with
  | some xs => match BS.strsOf xs with
    | some zs => if zs.length < 1000 then fin new ((setSort zs).map .str) S1 else .stuck
    | none => .stuck
  | none => .stuck
theorem me_sortSet {a : Expr} {ma : EM} {p p2 q pos : Pos} (new : Bool) (hc : X.calm = true) (hg : GlN X "sorted") (hm : X.mg "sorted" = none) (hv : bootBuiltins "sorted" = some (.builtin "sorted")) (hg2 : GlN X "set") (hm2 : X.mg "set" = none) (ha : ME nm X a ma)
    (na : starEach [a] X.env = (false, eval a X.env) :: starEach [] X.env := by rfl) : ME nm X (.Call (.Name "sorted" p) [.Call (.Name "set" p2) [a] [] q] [] pos) (mSortSet new ma) :=
  ⟨fun W tk => (pe_sortSet hc hg.g hm hv hg2.g hm2 (ha.run W tk) na).imp fun σ H Q h => by
    obtain ⟨e, S, μ, E, s, q⟩ := h
    refine ⟨e, S, μ, E, s, (Post.bind q).mono fun d S1 μ1 H1 x1 s1 p1 v rv => ?_⟩
    split at p1
    · rename_i xs hl
      split at p1
      · rename_i zs hb
        split at p1
        · rename_i h1k
          obtain ⟨l, ys, rfl, hs, r2⟩ := lstOf_sq s1 rv hl
          exact ⟨l, zs, rfl, by rw [← strsOf_rv r2 hb]; exact hs, by have := room_scan; omega, fun q' hp => fin_post s1 (rvs_strsD _) hp p1⟩
        · exact False.elim p1
      · exact False.elim p1
    · exact False.elim p1⟩
end
end BS
namespace BS
open PySem PySem.Spec PyProof.Rows L2
/-- the parts of a lambda -/
structure LamF where
  x : Str
  qual : Str
  params : Arguments
  body : Expr
  scope : Scope
/-- one parameter, no other name -/
structure LamOk (F : LamF) : Prop where
  kind : F.scope.kind = .function
  co : F.scope.isCoroutine = false
  gen : F.scope.isGenerator = false
  own : ∀ y ∈ F.scope.names, y.2 ≠ .cell ∧ y.2 ≠ .free
  loc : F.scope.names.lookup F.x = some .local
  bind : ∀ (q : Str) (cl : List (Str × Addr)) (pm cv ctv u : Value), bindArgs (PySem.W.kla_fn "<lambda>" q F.params F.body F.scope cl pm cv ctv) ⟨[u], []⟩ = pure [(F.x, u)]
section
variable {prog : Program} {w : World} {A : Around} {s : Shared}
theorem lam_call {F : LamF} (L : LamOk F) {f c' : Addr} {cl : List (Str × Addr)} {pm ctv v : Value} {Q : Value → Shared → Prop} (hr : A.depth < recursionLimit) (hf : s.heap.get? f = some (PySem.W.kla_obj "<lambda>" F.qual F.params F.body F.scope cl pm c' ctv)) (hc : s.heap.CodeRec (.ref c') F.qual) (lim : s.heap.NoLimit)
    (h : ∀ (A' : Around) (env : Env) (h' : Heap) (tk : Nat) (m : Str → Option Value), env.scope = F.scope → h'.Ns env.locals m → m F.x = some v → (∀ b o, s.heap.get? b = some o → h'.get? b = some o) →
      wpAny (model prog w) A' (eval F.body env) Q (fun _ _ => False) { s with heap := h', toks := tk }) :
    wpAny (model prog w) A (call (.ref f) [v]) Q (fun _ _ => False) s := by
  refine wpAny_call ?_
  refine PySem.W.kla_callFunE hr hf rfl L.co L.gen rfl hc ?_
  rw [L.bind]
  refine wpAny_pure (wpAny_newFunctionEnv (fun y hy => (L.own y hy).1) (fun y hy => by rw [List.mem_singleton.mp hy]; exact L.loc) (fun h₁ hns hsb => ⟨lim.fresh _ hsb, ?_⟩) L.kind)
  have kp : ∀ b o, s.heap.get? b = some o → h₁.get? b = some o := fun b o e => hsb.extBut b o (Nat.ne_of_lt (Heap.lt_size e)) (Heap.get?_push_of_some _ e)
  refine PySem.W.kla_codeExpr (wpAny_mono (h _ _ h₁ _ _ rfl hns ?_ kp) (fun v' s' hq => hq) fun e s' z => z.elim)
  simp
end
def keyI : Option D → Option PyData
  | some (.str z) => some (.str z)
  | some (.int n) => some (.int n)
  | _ => none
/-- p[i] -/
def key1 (i : Nat) : D → Option PyData
  | .tup es => keyI es[i]?
  | _ => none
/-- (p[i], p[j]) -/
def key2 (i j : Nat) : D → Option PyData
  | .tup es => match keyI es[i]?, keyI es[j]? with
    | some a, some b => some (.tuple [a, b])
    | _, _ => none
  | _ => none
def TupV (h : Heap) (v : Value) (us : List Value) : Prop := ∃ t, v = .ref t ∧ IsTup h t us.toArray ∧ us.length ≤ sizeLine
/-- a value that stands for a text or an int -/
def ItV (u : Value) (d : D) : Prop := (∀ z, d = .str z → ∃ t, u = .str z t) ∧ ∀ n, d = .int n → ∃ t, u = .int n t
theorem TupV.keeps {h h' : Heap} {v : Value} {us : List Value} (x : TupV h v us) (k : ∀ b o, h.get? b = some o → h'.get? b = some o) : TupV h' v us := by
  obtain ⟨t, e, h1, h2⟩ := x
  exact ⟨t, e, h1.keeps k, h2⟩
theorem keyI_reads {h : Heap} {u : Value} {e : D} {k : PyData} (hu : ItV u e) (hk : keyI (some e) = some k) : Reads h u k [] := by
  cases e with
  | str z =>
    obtain ⟨t, rfl⟩ := hu.1 z rfl
    cases hk
    exact .str z t
  | int n =>
    obtain ⟨t, rfl⟩ := hu.2 n rfl
    cases hk
    exact .int n t
  | _ => cases hk
/-- the lambda's body gives the key -/
structure BodyOk (F : LamF) (key : D → Option PyData) : Prop where
  lam : LamOk F
  run : ∀ {prog : Program} {w : World} {A : Around} {env : Env} {s : Shared} {m : Str → Option Value} {v : Value} {us : List Value} {es : List D} {k : PyData}, env.scope = F.scope → s.heap.Ns env.locals m → m F.x = some v → TupV s.heap v us →
    (∀ (i : Nat) (e : D), es[i]? = some e → ∃ u, us[i]? = some u ∧ ItV u e) → key (.tup es) = some k → wpAny (model prog w) A (eval F.body env) (PySem.W.KeyPure k s) (fun _ _ => False) s
section
variable {prog : Program} {w : World} {A : Around} {s : Shared} {env : Env} {m : Str → Option Value}
theorem ev_ix {E : Value → Shared → Prop} {x : Str} {v u : Value} {us : List Value} {i j : Nat} {p1 p2 p3 : Pos} {Q : Value → Shared → Prop} (hk : env.scope.kind = .function) (hl : env.scope.names.lookup x = some .local) (hn : s.heap.Ns env.locals m) (hm : m x = some v) (ht : TupV s.heap v us)
    (hi : us[i]? = some u) (hd : (x == ("__debug__" : Str)) = false) (h : ∀ tk, Q u { s with toks := tk }) : wpAny (model prog w) A (eval (.Subscript (.Name x p1) (.Constant (.int (i : Int)) j p2) p3) env) Q E s := by
  obtain ⟨t, rfl, ht, hz⟩ := ht
  have hlt := (List.getElem?_eq_some_iff.mp hi).1
  have hz2 := PySem.sizeLine_eq
  refine Subscript_ (wpAny_Name (wpAny_loadName_local hk hl hn hm (wpAny_Constant_int (item_tupleL (j := i) ht (by omega) (by omega) ?_ hi (h _)))) hd)
  unfold PySem.seqIndex?
  simp only [Int.natCast_nonneg, if_true]
  simp
  omega
end
theorem kp_refl {k : PyData} {s : Shared} {u : Value} {tk : Nat} (r : Reads s.heap u k []) : PySem.W.KeyPure k s u { s with toks := tk } := ⟨s.heap, tk, rfl, fun _ _ e => e, r⟩
theorem kp_trans {k : PyData} {s : Shared} {h' : Heap} {tk : Nat} {u : Value} {s2 : Shared} (kp : ∀ b o, s.heap.get? b = some o → h'.get? b = some o) (h : PySem.W.KeyPure k { s with heap := h', toks := tk } u s2) : PySem.W.KeyPure k s u s2 := by
  obtain ⟨g, tk', e, k2, r⟩ := h
  exact ⟨g, tk', e, fun b o q => k2 b o (kp b o q), r⟩
/-- lambda p: p[i] -/
theorem body1 {F : LamF} {i j : Nat} {p1 p2 p3 : Pos} (L : LamOk F) (hb : F.body = .Subscript (.Name F.x p1) (.Constant (.int (i : Int)) j p2) p3) (hd : (F.x == ("__debug__" : Str)) = false := by decide) : BodyOk F (key1 i) := by
  refine ⟨L, fun {prog w A env s m v us es k} hs hn hm ht hi hk => ?_⟩
  rw [hb]
  have hk' : keyI es[i]? = some k := hk
  cases he : es[i]? with
  | none => rw [he] at hk'; cases hk'
  | some e =>
    rw [he] at hk'
    obtain ⟨u, hu, it⟩ := hi i e he
    exact ev_ix (by rw [hs]; exact L.kind) (by rw [hs]; exact L.loc) hn hm ht hu hd fun tk => kp_refl (keyI_reads it hk')
/-- lambda p: (p[i], p[j]) -/
theorem body2 {F : LamF} {i j i' j' kk : Nat} {p1 p2 p3 q1 q2 q3 pos : Pos} (L : LamOk F) (hb : F.body = .Tuple [.Subscript (.Name F.x p1) (.Constant (.int (i : Int)) i' p2) p3, .Subscript (.Name F.x q1) (.Constant (.int (j : Int)) j' q2) q3] kk pos) (hd : (F.x == ("__debug__" : Str)) = false := by decide) : BodyOk F (key2 i j) := by
  refine ⟨L, fun {prog w A env s m v us es k} hs hn hm ht hi hk => ?_⟩
  rw [hb]
  unfold key2 at hk
  dsimp only at hk
  cases he : es[i]? with
  | none => rw [he] at hk; cases hk
  | some e =>
    cases he2 : es[j]? with
    | none =>
      rw [he, he2] at hk
      cases h1 : keyI (some e) <;> rw [h1] at hk <;> cases hk
    | some e2 =>
      rw [he, he2] at hk
      obtain ⟨u, hu, it⟩ := hi i e he
      obtain ⟨u2, hu2, it2⟩ := hi j e2 he2
      cases h1 : keyI (some e) with
      | none => rw [h1] at hk; cases hk
      | some a =>
        cases h2 : keyI (some e2) with
        | none => rw [h1, h2] at hk; cases hk
        | some b =>
          rw [h1, h2] at hk
          cases hk
          have k1 : env.scope.kind = .function := by rw [hs]; exact L.kind
          have k2 : env.scope.names.lookup F.x = some .local := by rw [hs]; exact L.loc
          refine wpAny_Tuple_spliced ?_
          refine Calls.spliced_cons (ev_ix k1 k2 hn hm ht hu hd fun tk => ?_)
          refine Calls.spliced_cons (ev_ix k1 k2 hn hm ht hu2 hd fun tk2 => ?_)
          refine Calls.spliced_nil ⟨by show 2 ≤ sizeLine; have := PySem.sizeLine_eq; omega, ?_⟩
          have old : ∀ b o, s.heap.get? b = some o → (s.heap.push { cls := .type "tuple", data := .seq #[u, u2] }).get? b = some o := fun b o e => Heap.get?_push_of_some _ e
          refine ⟨_, tk2, rfl, old, ?_⟩
          have r1 := PyProof.Rows.Reads.keeps old (keyI_reads (h := s.heap) it h1)
          have r2 := PyProof.Rows.Reads.keeps old (keyI_reads (h := s.heap) it2 h2)
          exact .tuple (Heap.get?_push_size _ rfl) rfl rfl (.cons r1 (.cons r2 .nil))
section
variable {X : Cx} {pins : List (Addr × Obj)} {σ : L2.St} {H : Hp} {s : Shared}
theorem lam_make {F : LamF} (L : LamOk F) {c P : Addr} {ps : Array Value} {pos : Pos} {E : Value → Shared → Prop} {Q : Value → Shared → Prop} (I : Inv X pins σ H s) (TB : LamX.TabB X.base X.mg c P) (hcode : X.env.code = .ref c) (hq : F.qual = X.env.qual ++ "<lambda>")
    (hP : H P = some (.tbl ps)) (ht : TriplesOk ps.toList) (ha : ∀ (pos : Pos) (cv : Value), codeAmong pos ps.toList = some cv → ∃ c', cv = .ref c' ∧ H c' = some (LamX.CodeO c' F.qual)) (hdef : defaultsOf F.params X.env = ([], []))
    (h : ∀ (f c' : Addr) (cl : List (Str × Addr)) (pm ctv : Value) (ps' : Array Value) (H1 : Hp) (s' : Shared), Inv X pins σ H1 s' → H1 P = some (.tbl ps') → (∀ a o, a ≠ P → H a = some o → H1 a = some o) → TriplesOk ps'.toList →
      (∀ (pos : Pos) (cv : Value), codeAmong pos ps'.toList = some cv → ∃ c2, cv = .ref c2 ∧ H1 c2 = some (LamX.CodeO c2 F.qual) ∧ (H c2 = none ∨ ∃ pos', codeAmong pos' ps.toList = some cv)) →
      s'.heap.get? f = some (PySem.W.kla_obj "<lambda>" F.qual F.params F.body F.scope cl pm c' ctv) → s'.heap.CodeRec (.ref c') F.qual → Q (.ref f) s') :
    wpAny (model X.prog X.w) X.A (eval (.Lambda F.params F.body F.scope pos) X.env) Q E s := by
  have hfree : ∀ y ∈ F.scope.names, y.2 = .free → ∃ c, X.env.cells.lookup y.1 = some c := fun y hy e => absurd e (L.own y hy).2
  rw [hq] at ha h
  refine PySem.W.kla_eval hdef ?_
  have bP : s.heap.BuiltinsAt X.mg P := TB.bm.keeps I.bk
  have hP' : s.heap.get? P = some { cls := .none, data := .fields ps } := I.hok P _ hP
  cases hc : codeAmong pos ps.toList with
  | none =>
    refine PySem.W.kla_makeFunction (mg := X.mg) (c := c) (P := P) (ps := ps) (closure_ok hfree) I.ok.glob (I.mod.glob.keeps I.bk) hcode (TB.code.keeps I.bk) hP' ht hc TB.gP bP fun c' ctv h' tk hx hge hlt hrec htb => ?_
    obtain ⟨c2, oc, vs, t, e2, hoc, hd, hv⟩ := hrec
    cases e2
    have nC : H c' = none := I.hok.fresh hge
    have I1 := LamX.inv_table (t' := tk) (more := #[rawInt pos.line, rawInt pos.col, .ref c']) (q := X.env.qual ++ "<lambda>") (h' := h'.push (PySem.W.kla_obj "<lambda>" (X.env.qual ++ "<lambda>") F.params F.body F.scope (cloFrom X.env.cells F.scope.names []) ((X.mg "__name__").getD .none) c' ctv)) I hP
      (fun b o hb e => Heap.get?_push_of_some _ (hx b o hb e)) (Heap.get?_push_of_some _ htb) hge ⟨oc, vs, t, Heap.get?_push_of_some _ hoc, hd, hv⟩
    have nPc : P ≠ c' := ne_of_none hP nC
    have eL : (ps ++ #[rawInt pos.line, rawInt pos.col, .ref c']).toList = ps.toList ++ [rawInt pos.line, rawInt pos.col, .ref c'] := by simp
    refine h h'.objs.size c' _ _ ctv (ps ++ #[rawInt pos.line, rawInt pos.col, .ref c']) _ _ I1 (by rw [upd_ne nPc, upd_same]) (fun a o n e => by rw [upd_ne (ne_of_none e nC), upd_ne n]; exact e) (by rw [eL]; exact PySem.TriplesOk_snoc _ _ _ _ ht) (fun p' cv hcv => ?_) (Heap.get?_push_size _ rfl) ⟨c', oc, vs, t, rfl, Heap.get?_push_of_some _ hoc, hd, hv⟩
    rw [eL] at hcv
    rcases LamX.among_app _ ht hcv with z | z
    · obtain ⟨c0, e1, e2⟩ := ha p' cv z
      refine ⟨c0, e1, ?_, .inr ⟨p', z⟩⟩
      rw [upd_ne (ne_of_none e2 nC), upd_ne (fun q => by rw [q, hP] at e2; exact LamX.codeO_ne ps (Option.some.inj e2).symm)]
      exact e2
    · exact ⟨c', z, upd_same, .inl nC⟩
  | some cv =>
    obtain ⟨c', e, hco⟩ := ha pos cv hc
    subst e
    refine PySem.W.kla_makeFunctionHit (mg := X.mg) (c := c) (P := P) (ps := ps) (closure_ok hfree) I.ok.glob (I.mod.glob.keeps I.bk) hcode (TB.code.keeps I.bk) hP' ht hc bP fun ctv h' tk hx hsz => ?_
    have I1 : Inv X pins σ H { s with heap := h'.push (PySem.W.kla_obj "<lambda>" (X.env.qual ++ "<lambda>") F.params F.body F.scope (cloFrom X.env.cells F.scope.names []) ((X.mg "__name__").getD .none) c' ctv), toks := tk } := I.kept fun b o e => Heap.get?_push_of_some _ (hx b o e)
    obtain ⟨⟨oc, vs, t, hoc, hd, hv⟩, _, _⟩ := I1.hok c' _ hco
    exact h h'.objs.size c' _ _ ctv ps H _ I1 hP (fun a o _ e => e) ht (fun p' cv hcv => by
      obtain ⟨c0, e1, e2⟩ := ha p' cv hcv
      exact ⟨c0, e1, e2, .inr ⟨p', hcv⟩⟩) (Heap.get?_push_size _ rfl) ⟨c', oc, vs, t, rfl, hoc, hd, hv⟩
end
/-- an item that the lambda can read -/
def ItAt (K : PySem.W.Frag) (H : Hp) (v : V) (d : D) : Prop := ∃ (t : Addr) (ys : List V) (es : List D), v = .ref t ∧ d = .tup es ∧ SqT K H t ys ∧ ∀ (i : Nat) (e : D), es[i]? = some e → ∃ y, ys[i]? = some y ∧ (∀ z, e = .str z → y = .str z) ∧ ∀ n, e = .int n → y = .int n
def keyP (key : D → Option PyData) (d : D) : PyData := (key d).getD .none
/-- the keys can be compared -/
def KeysOk (key : D → Option PyData) (ds : List D) : Prop := (∀ d ∈ ds, ∃ k, key d = some k ∧ k.depth ≤ 1) ∧ PySem.W.AllAlike (ds.map (keyP key)) ∧ PySem.W.Sortable (ds.map (keyP key))
/-- all known things but P are what they were -/
def ButP (P : Addr) (H H' : Hp) : Prop := ∀ a o, a ≠ P → H a = some o → H' a = some o
def CodesAt (H : Hp) (q : Str) (ps : Array Value) : Prop := ∀ (pos : Pos) (cv : Value), codeAmong pos ps.toList = some cv → ∃ c, cv = .ref c ∧ H c = some (LamX.CodeO c q)
def sortPairs (key : D → Option PyData) (xs : List V) (ds : List D) : List (V × D) := (xs.zip ds).mergeSort (PySem.W.dataLe false fun p => keyP key p.2)
def tSortKey (K : PySem.W.Frag) (P : Addr) (q : Str) (key : D → Option PyData) (ta : TE) : TE := fun σ H Q => ta σ H fun x H1 => ∃ (l : Addr) (xs : List V) (ds : List D) (ps : Array Value), x = .ref l ∧ SqL K H1 l xs ∧ xs.length = ds.length ∧ (∀ p ∈ xs.zip ds, ItAt K H1 p.1 p.2) ∧ KeysOk key ds ∧
  H1 P = some (.tbl ps) ∧ TriplesOk ps.toList ∧ CodesAt H1 q ps ∧
  ∀ (ps' : Array Value) (H2 : Hp) (p' : Addr), H2 P = some (.tbl ps') → ButP P H1 H2 → TriplesOk ps'.toList → (∀ (pos : Pos) (cv : Value), codeAmong pos ps'.toList = some cv → ∃ c2, cv = .ref c2 ∧ H2 c2 = some (LamX.CodeO c2 q) ∧ (H1 c2 = none ∨ ∃ pos', codeAmong pos' ps.toList = some cv)) →
    H2 p' = none → Q (.ref p') (upd H2 p' (.lst ((sortPairs key xs ds).map (·.1))))
theorem rd_but {P : Addr} {H H' : Hp} {ps : Array Value} (h : ButP P H H') (hP : H P = some (.tbl ps)) {a : Addr} {u : HO} (nu : ∀ ps, u ≠ .tbl ps) (r : Rd H a u) : Rd H' a u := by
  rcases r with r | ⟨o, r⟩
  · exact .inl (h a _ (fun z => by rw [z, hP] at r; exact nu ps (Option.some.inj r).symm) r)
  · exact .inr ⟨o, h a _ (fun z => by rw [z, hP] at r; cases r) r⟩
theorem sql_but {K : PySem.W.Frag} {P : Addr} {H H' : Hp} {ps : Array Value} (h : ButP P H H') (hP : H P = some (.tbl ps)) {a : Addr} {xs : List V} (r : SqL K H a xs) : SqL K H' a xs := r.elim (fun r => .inl (rd_but h hP (fun _ z => by cases z) r)) .inr
theorem sqt_but {K : PySem.W.Frag} {P : Addr} {H H' : Hp} {ps : Array Value} (h : ButP P H H') (hP : H P = some (.tbl ps)) {a : Addr} {xs : List V} (r : SqT K H a xs) : SqT K H' a xs := r.elim (fun r => .inl (rd_but h hP (fun _ z => by cases z) r)) .inr
theorem each_of_vals : ∀ {xs : List V} {us : List Value} {ds : List D}, Vals xs us → xs.length = ds.length → PySem.W.EachIs (fun v (p : V × D) => RelV p.1 v) us (xs.zip ds)
  | [], _, [], r, _ => by cases r; exact .nil
  | [], _, _ :: _, _, h => by cases h
  | _ :: _, _, [], _, h => by cases h
  | x :: xs, us, d :: ds, r, h => by
    cases r with
    | cons r t => exact .cons r (each_of_vals t (by simpa using h))
theorem vals_of_each : ∀ {us : List Value} {ps : List (V × D)}, PySem.W.EachIs (fun v (p : V × D) => RelV p.1 v) us ps → Vals (ps.map (·.1)) us
  | _, [], .nil => .nil
  | _, _ :: _, .cons r t => .cons r (vals_of_each t)
section
variable {X : Cx} {P c : Addr} {F : LamF} {key : D → Option PyData}
theorem pe_sortKey {a : Expr} {ta : TE} {p kp lpos pos : Pos} {k : Nat} (B : BodyOk F key) (hr : L2H.RoomH k X.A) (hg : Gl X "sorted") (hm : X.mg "sorted" = none) (hv : bootBuiltins "sorted" = some (.builtin "sorted")) (TB : LamX.TabB X.base X.mg c P) (hcode : X.env.code = .ref c) (hq : F.qual = X.env.qual ++ "<lambda>")
    (hdef : defaultsOf F.params X.env = ([], [])) (ha : PE X a ta) (na : backTo pos (starEach [a] X.env) = [(false, eval a X.env)] := by rfl) :
    PE X (.Call (.Name "sorted" p) [a] [{ arg := some "key", value := .Lambda F.params F.body F.scope lpos, pos := kp }] pos) (tSortKey X.K P F.qual key ta) := by
  refine ⟨fun pins s σ H Q I h => ?_⟩
  refine wpAny_Call_Name_kw (ld_blt I hg hm hv ?_)
  refine PyProof.Rows.callWith_kw ?_ na (by rw [na]; rfl)
  rw [na]
  refine Calls.spliced_cons (thn (ha.run pins s σ H _ I h) fun v s1 ⟨x, H1, I1, r1, q1⟩ => Calls.spliced_nil ?_)
  obtain ⟨l, xs, ds, ps, rfl, hl, hlen, hits, hkeys, hP, ht, hcs, q1⟩ := q1
  cases r1
  refine PyProof.Rows.evalAll_cons (wpAny_bind (lam_make (pos := lpos) B.lam I1 TB hcode hq hP ht hcs hdef fun f c' cl pm ctv ps' H2 s2 I2 hP2 hB ht2 hcs2 hf hcr => wpAny_bind (wpAny_standAt (wpAny_pure (PyProof.Rows.evalAll_nil ?_)))))
  obtain ⟨its, rv, pl, hz⟩ := I2.list (sql_but hB hP hl)
  have e := each_of_vals rv hlen
  have hu0 := hr.un
  have hd0 := hr.dp
  have mem2 : ∀ pr ∈ xs.zip ds, pr.2 ∈ ds := fun pr h => (List.of_mem_zip h).2
  have mp : (xs.zip ds).map (fun p : V × D => keyP key p.2) = ds.map (keyP key) := by
    show (xs.zip ds).map (keyP key ∘ Prod.snd) = _
    rw [← List.map_map, List.map_snd_zip (Nat.le_of_eq hlen.symm)]
  have zl : (xs.zip ds).length ≤ sizeLine := by rw [List.length_zip]; omega
  refine PySem.W.sorted_key_data (b := false) (bs := xs.zip ds) (R := fun v (p : V × D) => RelV p.1 v) (fun p : V × D => keyP key p.2) pl.isList e (by rw [mp]; exact hkeys.2.1) (by rw [mp]; exact hkeys.2.2) zl (fun pr hp => ?_) (PyProof.Rows.ksk_s1 _ _) (fun _ => PyProof.Rows.ksk_l1 _ _) (fun _ => PyProof.Rows.ksk_t1 _ _)
    (fun v pr hR hx h tk kpp => ?_) fun out cc h' tk kpp hfr hD ho eo => ?_
  · obtain ⟨k', e1, e2⟩ := hkeys.1 _ (mem2 pr hp)
    unfold keyP
    rw [e1]
    show X.A.units + 2 + k'.depth < cLine
    omega
  · obtain ⟨k', e1, e2⟩ := hkeys.1 _ (mem2 pr hx)
    obtain ⟨t, ys, es, ev, ed, hsq, hat⟩ := hits pr hx
    have hR' : RelV (.ref t) v := by rw [← ev]; exact hR
    have hv' : v = Value.ref t := hR'
    subst hv'
    obtain ⟨itt, rvt, tup, hzt⟩ := I2.tuple (sqt_but hB hP hsq)
    have tv : TupV h (.ref t) itt := ⟨t, rfl, tup.keeps kpp, by rw [← rvt.length]; exact hzt⟩
    have hk2 : keyP key pr.2 = k' := by unfold keyP; rw [e1]; rfl
    rw [hk2]
    refine lam_call (s := { s2 with heap := h, toks := tk }) (Q := PySem.W.KeyPure k' { s2 with heap := h, toks := tk }) B.lam (by show X.A.depth < recursionLimit; omega) (kpp _ _ hf) (hcr.keeps kpp) (I2.nolimit.keeps kpp) fun A' env h2 tk2 m hs hn hmx kp2 => ?_
    refine wpAny_mono (B.run (s := { s2 with heap := h2, toks := tk2 }) (v := .ref t) (us := itt) (es := es) hs hn hmx (tv.keeps kp2) (fun i e he => ?_) (by rw [← ed]; exact e1)) (fun u s3 hq => kp_trans (s := { s2 with heap := h, toks := tk }) kp2 hq) fun _ _ z => z
    obtain ⟨y, hy, y1, y2⟩ := hat i e he
    obtain ⟨u, hu, ru⟩ := rvt.get hy
    refine ⟨u, hu, fun z hz => ?_, fun n hn => ?_⟩
    · rw [y1 z hz] at ru; exact ru
    · rw [y2 n hn] at ru; exact ru
  · have hv2 := vals_of_each eo
    have hlen2 : ((sortPairs key xs ds).map (·.1)).length ≤ sizeLine := by
      unfold sortPairs
      rw [List.length_map, List.length_mergeSort]
      exact zl
    exact ⟨.ref _, upd H2 (s2.heap.objs.size + 1) (.lst ((sortPairs key xs ds).map (·.1))), I2.laid (t' := tk) kpp (Nat.le_succ _) ⟨hlen2, out, cc, hv2, hD⟩, rfl, q1 ps' H2 _ hP2 hB ht2 hcs2 (I2.hok.fresh (Nat.le_succ _))⟩
end
def KeyT (key : D → Option PyData) : Prop := ∀ d k, key d = some k → ∃ es, d = .tup es
theorem key1_t (i : Nat) : KeyT (key1 i) := fun d k h => by
  cases d with
  | tup es => exact ⟨es, rfl⟩
  | _ => cases h
theorem key2_t (i j : Nat) : KeyT (key2 i j) := fun d k h => by
  cases d with
  | tup es => exact ⟨es, rfl⟩
  | _ => cases h
/-- the sorted items -/
def sortK (key : D → Option PyData) (ds : List D) : List D := ds.mergeSort (PySem.W.dataLe false (keyP key))
open Classical in
noncomputable def mSortKey (new : Bool) (k : Nat) (key : D → Option PyData) (me : EM) : EM := fun e S => (me e S).bind fun d S1 => match lstOf S1 d with
  | some ds => if S1[k]? = some (.tab k) ∧ KeysOk key ds then fin new (sortK key ds) S1 else .stuck
  | none => .stuck
theorem rvs_zip {K : PySem.W.Frag} {H : Hp} {μ : List Addr} : ∀ {xs : List V} {ds : List D}, RVs K H μ xs ds → ∀ p ∈ xs.zip ds, RV K H μ p.1 p.2
  | _, _, .nil, p, h => by cases h
  | _, _, .cons r t, p, h => by
    rcases List.mem_cons.mp h with e | e
    · rw [e]; exact r
    · exact rvs_zip t p e
theorem rvs_unzip {K : PySem.W.Frag} {H : Hp} {μ : List Addr} : ∀ (l : List (V × D)), (∀ p ∈ l, RV K H μ p.1 p.2) → RVs K H μ (l.map (·.1)) (l.map (·.2))
  | [], _ => .nil
  | p :: l, h => .cons (h p List.mem_cons_self) (rvs_unzip l fun q hq => h q (List.mem_cons_of_mem _ hq))
theorem sortPairs_snd (key : D → Option PyData) {xs : List V} {ds : List D} (h : xs.length = ds.length) : (sortPairs key xs ds).map (·.2) = sortK key ds := by
  have e := List.map_mergeSort (r := PySem.W.dataLe false fun p : V × D => keyP key p.2) (s := PySem.W.dataLe false (keyP key)) (f := Prod.snd) (l := xs.zip ds) (fun a _ b _ => rfl)
  rw [List.map_snd_zip (Nat.le_of_eq h.symm)] at e
  exact e
section
variable {nm : Nms} {X : Cx} {c : Addr} {F : LamF} {key : D → Option PyData} {k : Nat}
theorem me_sortKey {a : Expr} {ma : EM} {p kp lpos pos : Pos} {n : Nat} (new : Bool) (B : BodyOk F key) (kt : KeyT key) (hr : L2H.RoomH n X.A) (hg : GlN X "sorted") (hm : X.mg "sorted" = none) (hv : bootBuiltins "sorted" = some (.builtin "sorted")) (TB : LamX.TabB X.base X.mg c (nm.tb k).1) (hcode : X.env.code = .ref c) (hq : F.qual = X.env.qual ++ "<lambda>") (hq2 : (nm.tb k).2 = F.qual)
    (hdef : defaultsOf F.params X.env = ([], [])) (ha : ME nm X a ma) (na : backTo pos (starEach [a] X.env) = [(false, eval a X.env)] := by rfl) :
    ME nm X (.Call (.Name "sorted" p) [a] [{ arg := some "key", value := .Lambda F.params F.body F.scope lpos, pos := kp }] pos) (mSortKey new k key ma) :=
  ⟨fun W tk => (pe_sortKey B hr hg.g hm hv TB hcode hq hdef (ha.run W tk) na).imp fun σ H Q h => by
    obtain ⟨e, S, μ, E, s, q⟩ := h
    refine ⟨e, S, μ, E, s, (Post.bind q).mono fun d S1 μ1 H1 x1 s1 p1 v rv => ?_⟩
    split at p1
    · rename_i ds hds
      split at p1
      · rename_i hk
        obtain ⟨hk1, hk2⟩ := hk
        obtain ⟨l, xs, rfl, hs, r2⟩ := lstOf_sq s1 rv hds
        have hkl := (List.getElem?_eq_some_iff.mp hk1).1
        obtain ⟨a0, ha0⟩ : ∃ a0, μ1[k]? = some a0 := ⟨_, List.getElem?_eq_getElem (by rw [s1.len]; exact hkl)⟩
        obtain ⟨ea, ps, hP, ht, hcs⟩ := s1.ob k a0 (.tab k) ha0 hk1
        subst ea
        have zz := rvs_zip r2
        refine ⟨l, xs, ds, ps, rfl, hs, r2.length, fun pr hp => ?_, hk2, hP, ht, fun pos' cv hc => ?_, fun ps' H2 p' hP2 hB ht2 hcs2 hp' => ?_⟩
        · obtain ⟨k', e1, _⟩ := hk2.1 pr.2 (List.of_mem_zip hp).2
          obtain ⟨es, ed⟩ := kt _ _ e1
          have rr := zz pr hp
          rw [ed] at rr
          generalize hv1 : pr.1 = v1 at rr
          cases rr with
          | tup tat re =>
            refine ⟨_, _, es, rfl, ed, tat.sq, fun i e he => ?_⟩
            obtain ⟨y, hy, ry⟩ := RVs.get re he
            exact ⟨y, hy, fun z hz => by rw [hz] at ry; cases ry; rfl, fun n hn => by rw [hn] at ry; cases ry; rfl⟩
        · obtain ⟨c0, e1, _, e3⟩ := hcs pos' cv hc
          rw [hq2] at e3
          exact ⟨c0, e1, e3⟩
        · have hm : (nm.tb k).1 ∈ μ1 := List.mem_of_getElem? ha0
          have x2 : Ext μ1 H1 μ1 H2 := ⟨⟨⟨[], by simp⟩, fun a q n => absurd q n, fun a o n e => hB a o (fun z => n (by rw [z]; exact hm)) e⟩, fun a o u e => hB a _ (fun z => by rw [z, hP] at e; cases e) e⟩
          have s2 : Sim nm X.K X.mg μ1 S1 H2 := ⟨s1.len, s1.nd, fun i a o h1 h2 => by
            by_cases z : a = (nm.tb k).1
            · subst z
              have hi : i = k := nd_ix s1.nd h1 ha0
              subst hi
              rw [hk1] at h2
              cases h2
              refine ⟨rfl, ps', hP2, ht2, fun pos' cv hc => ?_⟩
              obtain ⟨c2, e1, e2, e3⟩ := hcs2 pos' cv hc
              refine ⟨c2, e1, ?_, by rw [hq2]; exact e2⟩
              rcases e3 with e3 | ⟨p0, e3⟩
              · exact s1.fresh e3
              · obtain ⟨c3, f1, f2, _⟩ := hcs p0 cv e3
                rw [e1] at f1
                cases f1
                exact f2
            · have o1 := s1.ob i a o h1 h2
              obtain ⟨u, hu⟩ := o1.some
              exact o1.ext x2 (by rw [hu]; exact hB a u z hu)⟩
          have p2 := Post.ext x2 p1
          refine fin_post s2 ?_ hp' p2
          rw [← sortPairs_snd key r2.length]
          refine rvs_unzip _ fun pr hpr => RV.ext x2 _ (zz pr ?_)
          unfold sortPairs at hpr
          exact List.mem_mergeSort.mp hpr
      · exact False.elim p1
    · exact False.elim p1⟩
end
/-- its code object and that one's table -/
def LamAt (base : Heap) (mg : Str → Option Value) (fd : FuncData) (P : Addr) : Prop := ∃ c, fd.code = .ref c ∧ LamX.TabB base mg c P
theorem den_okT {P : Program} {w : World} {K : PySem.W.Frag} {mg : Str → Option Value} {base : Heap} {nm : Nms} {x qual : Str} {st : Stmt} {f T : Addr} {fd : FuncData} {N ps : List Str} {k : Nat} {m : SM} (F : Fun K x qual st f fd) (S : FnScope N ps (defScope st)) (ht : LamAt base mg fd T)
    (hb : ∀ (c : Addr), LamX.TabB base mg c T → ∀ (A : Around) (outer : List Env) (s : Shared) (H : Hp) (E : XK), Room k (A.deeper (envOfC qual (defScope st) s.heap.objs.size f (.ref c))) → MB nm (cxOf (L2.CX P w) P w K mg base N qual (defScope st) f (.ref c) A outer s H E) (defBody st) m) {V : FM} {n : Nat} (hV : den N.length m = V) (hn : ps.length = n) :
    FnOk P w K mg base (L2.CX P w) (k + 1) f fd ps (spD nm K mg n V) := by
  subst hV hn
  obtain ⟨c, hc, TB⟩ := ht
  obtain ⟨oc, od, kV, doc, pm, an, cdv, ct, osl, rfl, lk, hcd⟩ := F.ex
  have hc' : cdv = .ref c := hc
  subst hc'
  refine fn_of lk hcd S (fun vs H Q E h => ?_) fun A outer s H vs Q E hr h => ?_
  · obtain ⟨ds, S, μ, r, hl, _⟩ := h
    rw [r.length, hl]
  · obtain ⟨ds, S', μ, r, hl, sm, p⟩ := h
    refine ⟨_, (hb c TB A outer s H E hr).run (fun cls d _ H => E cls d H) (takes_of rfl rfl rfl rfl), ⟨ds.map some ++ List.replicate (N.length - ds.length) none, []⟩, S', μ, evr_start r ?_, sm, ?_⟩
    · have := congrArg List.length S.pre
      rw [List.length_take] at this
      omega
    · unfold den at p
      cases hr : m ⟨ds.map some ++ List.replicate (N.length - ds.length) none, []⟩ S' with
      | nx e S2 => rw [hr] at p; exact fun σ' μ' H' x s _ => p μ' H' x s _ .non
      | bk e S2 => rw [hr] at p; exact False.elim p
      | ct e S2 => rw [hr] at p; exact False.elim p
      | rt d S2 => rw [hr] at p; exact fun v μ' H' x s r => p μ' H' x s v r
      | exc c fs e S2 => rw [hr] at p; exact fun σ' μ' H' C d x s _ a => p μ' H' C d x s a
      | stuck => rw [hr] at p; exact False.elim p
def tabs (m : Nat) : Store := (List.range m).map O.tab
def spLawT (K : PySem.W.Frag) (T : List Addr) : Sp := fun vs H Q _ => ∃ (a : Addr) (ns : List Int), vs = [.ref a] ∧ SqL K H a (ns.map V.int) ∧ ns.length ≤ 63 ∧ (∀ P ∈ T, H P = some (.tbl #[])) ∧ ∀ H', Q (.bl true) H'
theorem law_endT {P : Program} {w : World} {K : PySem.W.Frag} {mg : Str → Option Value} {base : Heap} {nm : Nms} {k : Nat} {fa : Addr} {fd : FuncData} {x : Str} {F : FM} {T : List Addr} (h : FnOk P w K mg base (L2.CX P w) k fa fd [x] (spD nm K mg 1 F)) (nd : T.Nodup) (hT : ∀ i P, T[i]? = some P → (nm.tb i).1 = P)
    (hF : ∀ ns : List Int, ns.length ≤ 63 → ∃ S, F [.scr (ns.map .int)] (tabs T.length) = .ok (.bl true) S) : FnOk P w K mg base (L2.CX P w) k fa fd [x] (spLawT K T) := by
  refine h.imp fun vs H Q E hh => ?_
  obtain ⟨a, ns, rfl, hs, hl, ht, q⟩ := hh
  obtain ⟨S, e⟩ := hF ns hl
  refine ⟨[.scr (ns.map .int)], tabs T.length, T, .cons (.scr ?_ (rvs_ints ns)) .nil, rfl, ⟨by simp [tabs], nd, fun n a o h1 h2 => ?_⟩, ?_⟩
  · rcases hs with hs | hs
    · refine .inl ⟨fun z => ?_, hs⟩
      have := ht a z
      rcases hs with hs | ⟨o, hs⟩ <;> (rw [this] at hs; cases hs)
    · exact .inr hs
  · have hn := (List.getElem?_eq_some_iff.mp h1).1
    have e2 : (tabs T.length)[n]? = some (.tab n) := by
      unfold tabs
      rw [List.getElem?_map, List.getElem?_range hn]; rfl
    rw [e2] at h2
    cases h2
    refine ⟨(hT n a h1).symm, #[], ht a (List.mem_of_getElem? h1), True.intro, fun pos cv hc => ?_⟩
    have z : codeAmong pos [] = some cv := hc
    simp [codeAmong] at z
  · rw [e]
    intro μ' H' x s v r
    cases r
    exact q H'
/-- what all_mk gives -/
def LawT (P : Program) (w : World) (K : PySem.W.Frag) (mg : Str → Option Value) (k : Nat) (x : Str) (fa : Addr) (cs : List (Addr × Addr)) : Prop :=
  ∃ fd : FuncData, (∀ (s : Shared) (u : Value), BindsTo s fd ⟨[u], []⟩ [(x, u)]) ∧ ∀ base : Heap, K.In base → base.Ns mainGlobals mg → (∀ p ∈ cs, LamX.TabB base mg p.1 p.2) → FnOk P w K mg base (L2.CX P w) k fa fd [x] (spLawT K (cs.map (·.2)))
theorem walkT {l : PySem.W.OpenLaw} {q : Program} {loose : List Str} {XP : (Str → Option Value) → Heap → Prop} {YP : World → Heap → Prop} {d : DefRec} {K : Params → PySem.W.Frag} {k : Nat} {x : Str} (hn : l.most = some 63) (hdf : d.params.defaults = []) (hr : Room k callerA)
    (hY : ∀ (w : World) (h : Heap), YP w h → (K w.params).In h)
    (F : ∀ (w : World) (mg : Str → Option Value) (fa : Addr) (h : Heap), YP w h → (K w.params).In h → h.Ns mainGlobals mg → mg d.name = some (.ref fa) →
      ∃ cs : List (Addr × Addr), (∀ p ∈ cs, h.get? p.2 = some { cls := .none, data := .fields #[] }) ∧ (∀ p ∈ cs, (K w.params).lookup p.2 = none) ∧ (∀ p ∈ cs, PySem.W.codeHdIn (K w.params) p.1 p.2 = true) ∧ LawT l.prog w (K w.params) mg k x fa cs) :
    PySem.W.WalkO q loose XP YP l.row.toRowW d [] (fun f vs => PySem.call f vs) :=
  LamX.walk_ofTs (n := 63) (k := k) (x := x) (CX := fun w => L2.CX l.prog w) hn (by decide) hdf hr hY (fun w mg fa h Y KX G hmg => by
    obtain ⟨cs, h1, h2, h3, fd, h4, h5⟩ := F w mg fa h Y KX G hmg
    refine ⟨fd, cs, spLawT (K w.params) (cs.map (·.2)), h1, h2, fun p hp => PySem.W.codeHd_of_K KX (h3 p hp), h4, fun H a ns hl _ ht hS => ⟨a, ns, rfl, hS, hl, fun P hP => ?_, fun _ => rfl⟩, h5⟩
    obtain ⟨p, hp, rfl⟩ := List.mem_map.mp hP
    exact ht p hp) fun _ _ _ _ _ z => by
    obtain ⟨_, _, _, _, _, _, _, _, _, _, _, _, z⟩ := z
    exact z.elim
def lamP : Expr → Arguments
  | .Lambda p _ _ _ => p
  | _ => { posonlyargs := [], args := [], vararg := none, kwonlyargs := [], kw_defaults := [], kwarg := none, defaults := [] }
def lamB : Expr → Expr
  | .Lambda _ b _ _ => b
  | e => e
def lamSc : Expr → Scope
  | .Lambda _ _ s _ => s
  | _ => { kind := .module, names := [], isGenerator := false, isCoroutine := false, more := [] }
section
variable {nm : Nms} {X : Cx}
def fnInsert : FM := fun ds S => match ds with
  | [.obj n, .int i, d] => match S[n]? with
    | some (.lst ds) => if ds.length < sizeLine ∧ 0 ≤ i ∧ i < 4611686018427387904 then .ok .non (S.set n (.lst (ds.take i.toNat ++ [d] ++ ds.drop i.toNat))) else .stuck
    | _ => .stuck
  | _ => .stuck
theorem t_insert : MtD nm X "list.insert" fnInsert := by
  intro pins s σ H x xs v us Q I rx r h
  obtain ⟨ds, S, μ, E, rv, sm, p⟩ := h
  unfold fnInsert at p
  split at p
  · rename_i n i d
    obtain ⟨r1, rt⟩ := rvs_cons rv
    cases rt with | cons ri rt2 =>
    obtain ⟨w, rfl, r2⟩ := one_rv rt2
    clear rt2
    cases ri
    split at p
    · rename_i ds hds
      split at p
      · rename_i hl
        cases r1 with | @obj a _ en =>
        obtain ⟨xs, e1, rs⟩ := sm.ob _ _ _ en hds
        exact mt_insert pins s σ H _ _ v us Q I rx r ⟨a, xs, i, w, rfl, rfl, e1, by rw [rs.length]; exact hl.1, hl.2.1, by have := hl.2.2; omega, lst_wr (W := fun _ _ _ _ => False) (σ := σ) (S' := S) sm en (NF.of e1) (((rs.take i.toNat).append (.cons r2 .nil)).append (rs.drop i.toNat)) .non p⟩
      · exact False.elim p
    · exact False.elim p
  · exact False.elim p
end
section
variable {nm : Nms} {X : Cx} {pos : Pos}
def gLs (n : Nat) (g : GsM) : GM := fun d e S => match lstOf S d with
  | some ds => if ds.length = n then g ds e S else .stuck
  | none => .stuck
theorem mg_lst {es : List Expr} {k : Nat} {g : GsM} (hc : X.calm = true) (n : Nat) (h : MGs nm X es g) (hn : (assignEach es X.env).length = n := by rfl) (hst : (assignEach es X.env).findIdx? (·.1) = none := by rfl) : MG nm X (.Tuple es k pos) (gLs n g) := ⟨fun W tk => (pg_lst hc (h.run W tk) hn hst).imp fun v σ H Q hh => by
  obtain ⟨d, e, S, μ, r, E, s, p⟩ := hh
  unfold gLs at p
  split at p
  · rename_i ds hds
    split at p
    · rename_i hl
      obtain ⟨a, xs, rfl, hs, rs⟩ := lstOf_sq s r hds
      exact ⟨a, xs, rfl, hs, by rw [rs.length, hl], ds, e, S, μ, rs, E, s, p⟩
    · exact False.elim p
  · exact False.elim p⟩
theorem gok_ls {n : Nat} {g : GsM} (h : GsOk g) : GOk (gLs n g) := fun d e S d' S' => by
  unfold gLs
  split
  · split
    · exact h _ _ _ _ _
    · exact ⟨fun h => (nomatch h), fun e' => ⟨fun h => (nomatch h), fun h => (nomatch h)⟩⟩
  · exact ⟨fun h => (nomatch h), fun e' => ⟨fun h => (nomatch h), fun h => (nomatch h)⟩⟩
end
end BS
namespace BS
open PySem PySem.Spec PyProof.Rows L2
def lfN : Option Key → NestedKey
  | none => .none
  | some (.inl i) => .num i
  | some (.inr x) => .text x
def tkN (k : TKey) : NestedKey := .tup (k.map lfN)
def tkHash (w : World) (k : TKey) : Int := (tkN k).hash w
theorem lfN_inj : ∀ {a b : Option Key}, lfN a = lfN b → a = b
  | none, none, _ => rfl
  | none, some (.inl _), h => nomatch h
  | none, some (.inr _), h => nomatch h
  | some (.inl _), none, h => nomatch h
  | some (.inr _), none, h => nomatch h
  | some (.inl _), some (.inl _), h => by cases h; rfl
  | some (.inr _), some (.inr _), h => by cases h; rfl
  | some (.inl _), some (.inr _), h => nomatch h
  | some (.inr _), some (.inl _), h => nomatch h
theorem lfN_map {a b : TKey} (h : a.map lfN = b.map lfN) : a = b := by
  induction a generalizing b with
  | nil => cases b with
    | nil => rfl
    | cons _ _ => cases h
  | cons x a ih => cases b with
    | nil => cases h
    | cons y b =>
      rw [List.map_cons, List.map_cons] at h
      injection h with h1 h2
      rw [lfN_inj h1, ih h2]
theorem tkN_inj {a b : TKey} (h : tkN a = tkN b) : a = b := lfN_map (NestedKey.tup.inj h)
/-- the tuple that is the key -/
def tkD (k : TKey) : D := .tup (k.map lfD)
def lfK : D → Option (Option Key)
  | .non => some none
  | .int i => some (some (.inl i))
  | .str x => some (some (.inr x))
  | _ => none
def tkL : List D → Option TKey
  | [] => some []
  | d :: ds => match lfK d with
    | some k => match tkL ds with
      | some ks => some (k :: ks)
      | none => none
    | none => none
def tkOf : D → Option TKey
  | .tup ds => tkL ds
  | _ => none
theorem lfK_eq {d : D} {k : Option Key} (h : lfK d = some k) : d = lfD k := by
  unfold lfK at h
  split at h <;> cases h <;> rfl
theorem tkL_eq : ∀ {ds : List D} {k : TKey}, tkL ds = some k → ds = k.map lfD
  | [], k, h => by cases h; rfl
  | d :: ds, k, h => by
    unfold tkL at h
    split at h
    · rename_i a ha
      split at h
      · rename_i ks hk
        cases h
        rw [List.map_cons, ← lfK_eq ha, ← tkL_eq hk]
      · cases h
    · cases h
theorem tkOf_eq {d : D} {k : TKey} (h : tkOf d = some k) : d = tkD k := by
  unfold tkOf at h
  split at h
  · rw [tkD, ← tkL_eq h]
  · cases h
theorem lfK_lfD (k : Option Key) : lfK (lfD k) = some k := by
  rcases k with _ | (i | x) <;> rfl
theorem tkL_map : ∀ k : TKey, tkL (k.map lfD) = some k
  | [] => rfl
  | a :: k => by rw [List.map_cons, tkL, lfK_lfD, tkL_map k]
@[simp] theorem tkOf_tkD (k : TKey) : tkOf (tkD k) = some k := tkL_map k
theorem depth_flat : ∀ k : TKey, NestedKey.depthAll (k.map lfN) = 0
  | [] => rfl
  | a :: k => by
    rw [List.map_cons, NestedKey.depthAll, depth_flat k]
    rcases a with _ | (i | x) <;> rfl
section
variable {α : Type}
def getT (kvs : List (TKey × α)) (k : TKey) : Option α := (kvs.find? fun kv => decide (kv.1 = k)).map (·.2)
def putT (kvs : List (TKey × α)) (k : TKey) (v : α) : List (TKey × α) := if (kvs.any fun kv => decide (kv.1 = k)) = true then kvs.map (fun kv => if kv.1 = k then (kv.1, v) else kv) else kvs ++ [(k, v)]
def dropT (kvs : List (TKey × α)) (k : TKey) : List (TKey × α) := kvs.filter fun kv => decide (kv.1 ≠ k)
end
/-- .. where the key's tuple stands -/
def putY (ys : List (TKey × Addr × V)) (k : TKey) (b : Addr) (v : V) : List (TKey × Addr × V) := if (ys.any fun kv => decide (kv.1 = k)) = true then ys.map (fun kv => if kv.1 = k then (kv.1, kv.2.1, v) else kv) else ys ++ [(k, b, v)]
section
variable {K : PySem.W.Frag} {H : Hp} {μ : List Addr}
theorem rt_len {ys : List (TKey × Addr × V)} {kvs : List (TKey × D)} (r : RT K H μ ys kvs) : ys.length = kvs.length := Paired.length r
theorem any_rt (k : TKey) : ∀ {ys : List (TKey × Addr × V)} {kvs : List (TKey × D)}, RT K H μ ys kvs → (ys.any fun kv => decide (kv.1 = k)) = kvs.any fun kv => decide (kv.1 = k)
  | _, _, .nil => rfl
  | p :: ys, q :: kvs, .cons r t => by rw [List.any_cons, List.any_cons, any_rt k t, r.1]
theorem put_rt {k : TKey} {b : Addr} {v : V} {d : D} (rb : KeyAt K H μ k b) (rv : RV K H μ v d) {ys : List (TKey × Addr × V)} {kvs : List (TKey × D)} (r : RT K H μ ys kvs) : RT K H μ (putY ys k b v) (putT kvs k d) := by
  unfold putY putT
  rw [any_rt k r]
  split
  · rename_i hany
    clear hany
    induction r with
    | nil => exact .nil
    | @cons p q ys kvs r t ih =>
      rw [List.map_cons, List.map_cons]
      refine .cons ?_ ih
      rw [r.1]
      split
      · rename_i e
        refine ⟨rfl, ?_, rv⟩
        have := r.2.1
        rw [r.1] at this
        exact this
      · exact ⟨r.1, r.2⟩
  · exact paired_app r (.cons ⟨rfl, rb, rv⟩ .nil)
theorem drop_rt {k : TKey} {ys : List (TKey × Addr × V)} {kvs : List (TKey × D)} (r : RT K H μ ys kvs) : RT K H μ (dropT ys k) (dropT kvs k) := by
  unfold dropT
  induction r with
  | nil => exact .nil
  | @cons p q ys kvs r t ih =>
    rw [List.filter_cons, List.filter_cons, r.1]
    split
    · exact .cons r ih
    · exact ih
theorem getT_val (k : TKey) : ∀ {ys : List (TKey × Addr × V)} {kvs : List (TKey × D)}, RT K H μ ys kvs → (getT ys k = none ∧ getT kvs k = none) ∨ ∃ b v d, getT ys k = some (b, v) ∧ getT kvs k = some d ∧ RV K H μ v d
  | _, _, .nil => .inl ⟨rfl, rfl⟩
  | p :: ys, q :: kvs, .cons r t => by
    by_cases e : p.1 = k
    · refine .inr ⟨p.2.1, p.2.2, q.2, ?_, ?_, r.2.2⟩
      · unfold getT
        rw [List.find?_cons_of_pos (by simpa using e)]
        rfl
      · unfold getT
        rw [List.find?_cons_of_pos (by rw [← r.1]; simpa using e)]
        rfl
    · rcases getT_val k t with ⟨h1, h2⟩ | ⟨b, v, d, h1, h2, h3⟩
      · refine .inl ⟨?_, ?_⟩
        · unfold getT at h1 ⊢
          rw [List.find?_cons_of_neg (by simpa using e)]
          exact h1
        · unfold getT at h2 ⊢
          rw [List.find?_cons_of_neg (by rw [← r.1]; simpa using e)]
          exact h2
      · refine .inr ⟨b, v, d, ?_, ?_, h3⟩
        · unfold getT at h1 ⊢
          rw [List.find?_cons_of_neg (by simpa using e)]
          exact h1
        · unfold getT at h2 ⊢
          rw [List.find?_cons_of_neg (by rw [← r.1]; simpa using e)]
          exact h2
end
def kx (x : TKey × Addr × Value) : NestedKey × Addr × Value := (tkN x.1, x.2.1, x.2.2)
theorem vp_len {ys : List (TKey × Addr × V)} {xs : List (TKey × Addr × Value)} (r : ValP ys xs) : ys.length = xs.length := Paired.length r
theorem vp_get (k : TKey) : ∀ {ys : List (TKey × Addr × V)} {xs : List (TKey × Addr × Value)}, ValP ys xs → (getT ys k = none ∧ atKey (xs.map kx) (tkN k) = none) ∨ ∃ b v u, getT ys k = some (b, v) ∧ atKey (xs.map kx) (tkN k) = some (b, u) ∧ RelV v u
  | _, _, .nil => .inl ⟨rfl, rfl⟩
  | p :: ys, q :: xs, .cons r t => by
    by_cases e : p.1 = k
    · refine .inr ⟨p.2.1, p.2.2, q.2.2, ?_, ?_, r.2.2⟩
      · unfold getT
        rw [List.find?_cons_of_pos (by simpa using e)]
        rfl
      · unfold atKey
        rw [List.map_cons, List.find?_cons_of_pos (by simp [kx, ← r.1, e])]
        show some (q.2.1, q.2.2) = _
        rw [← r.2.1]
    · have ne : ¬ (kx q).1 = tkN k := fun z => e (r.1.trans (tkN_inj z))
      rcases vp_get k t with ⟨h1, h2⟩ | ⟨b, v, d, h1, h2, h3⟩
      · refine .inl ⟨?_, ?_⟩
        · unfold getT at h1 ⊢
          rw [List.find?_cons_of_neg (by simpa using e)]
          exact h1
        · unfold atKey at h2 ⊢
          rw [List.map_cons, List.find?_cons_of_neg (by simpa using ne)]
          exact h2
      · refine .inr ⟨b, v, d, ?_, ?_, h3⟩
        · unfold getT at h1 ⊢
          rw [List.find?_cons_of_neg (by simpa using e)]
          exact h1
        · unfold atKey at h2 ⊢
          rw [List.map_cons, List.find?_cons_of_neg (by simpa using ne)]
          exact h2
theorem kx_putAt (k : TKey) (u : Value) (x : TKey × Addr × Value) : putAt (tkN k) u (kx x) = kx (putAt k u x) := by
  unfold putAt
  by_cases e : x.1 = k
  · have : (kx x).1 = tkN k := by unfold kx; rw [e]
    rw [if_pos e, if_pos this]; rfl
  · have : ¬ (kx x).1 = tkN k := fun z => e (tkN_inj z)
    rw [if_neg e, if_neg this]
theorem kx_at (xs : List (TKey × Addr × Value)) (k : TKey) : atKey (xs.map kx) (tkN k) = atKey xs k := by
  induction xs with
  | nil => rfl
  | cons x xs ih =>
    unfold atKey at ih ⊢
    by_cases e : x.1 = k
    · rw [List.map_cons, List.find?_cons_of_pos (by simp [kx, e]), List.find?_cons_of_pos (by simpa using e)]; rfl
    · have : ¬ (kx x).1 = tkN k := fun z => e (tkN_inj z)
      rw [List.map_cons, List.find?_cons_of_neg (by simpa using this), List.find?_cons_of_neg (by simpa using e)]
      exact ih
theorem kx_stored (xs : List (TKey × Addr × Value)) (k : TKey) (b : Addr) (u : Value) : storedH (xs.map kx) (tkN k) b u = (storedH xs k b u).map kx := by
  unfold storedH
  rw [kx_at]
  split
  · rw [List.map_map, List.map_map]
    exact List.map_congr_left fun x _ => kx_putAt k u x
  · rw [List.map_append]; rfl
theorem kx_without (xs : List (TKey × Addr × Value)) (k : TKey) : withoutH (xs.map kx) (tkN k) = (withoutH xs k).map kx := by
  unfold withoutH
  rw [List.filter_map]
  congr 1
  refine List.filter_congr fun x _ => ?_
  show decide ((kx x).1 ≠ tkN k) = decide (x.1 ≠ k)
  by_cases e : x.1 = k
  · have : (kx x).1 = tkN k := by unfold kx; rw [e]
    rw [decide_eq_false (fun z => z this), decide_eq_false (fun z => z e)]
  · have : ¬ (kx x).1 = tkN k := fun z => e (tkN_inj z)
    rw [decide_eq_true this, decide_eq_true e]
theorem any_at {α : Type} : ∀ (xs : List (TKey × Addr × α)) (k : TKey), (xs.any fun x => decide (x.1 = k)) = (getT xs k).isSome
  | [], _ => rfl
  | x :: xs, k => by
    unfold getT
    by_cases e : x.1 = k
    · rw [List.any_cons, decide_eq_true e, List.find?_cons_of_pos (by simpa using e)]; rfl
    · rw [List.any_cons, decide_eq_false e, List.find?_cons_of_neg (by simpa using e), Bool.false_or, any_at xs k]; rfl
theorem vp_put {k : TKey} {b : Addr} {v : V} {u : Value} (ru : RelV v u) {ys : List (TKey × Addr × V)} {xs : List (TKey × Addr × Value)} (r : ValP ys xs) : ValP (putY ys k b v) (storedH xs k b u) := by
  have e : (ys.any fun kv => decide (kv.1 = k)) = (atKey xs k).isSome := by
    rw [any_at, ← kx_at]
    rcases vp_get k r with ⟨h1, h2⟩ | ⟨_, _, _, h1, h2, _⟩ <;> rw [h1, h2] <;> rfl
  unfold putY storedH
  rw [e]
  split
  · rename_i hany
    clear hany e
    induction r with
    | nil => exact .nil
    | @cons p q ys kvs r t ih =>
      rw [List.map_cons, List.map_cons]
      refine .cons ?_ ih
      unfold putAt
      rw [r.1]
      split
      · exact ⟨rfl, r.2.1, ru⟩
      · exact ⟨r.1, r.2⟩
  · exact paired_app r (.cons ⟨rfl, rfl, ru⟩ .nil)
theorem vp_drop {k : TKey} {ys : List (TKey × Addr × V)} {xs : List (TKey × Addr × Value)} (r : ValP ys xs) : ValP (dropT ys k) (withoutH xs k) := by
  unfold dropT withoutH
  induction r with
  | nil => exact .nil
  | @cons p q ys kvs r t ih =>
    rw [List.filter_cons, List.filter_cons, r.1]
    split
    · exact .cons r ih
    · exact ih
theorem putY_len (ys : List (TKey × Addr × V)) (k : TKey) (b : Addr) (v : V) : (putY ys k b v).length ≤ ys.length + 1 := by
  unfold putY
  split
  · rw [List.length_map]; omega
  · rw [List.length_append]; exact Nat.le_refl _
def tabS : O → Option (List (TKey × D))
  | .dkt kvs => some kvs
  | .lkt kvs => some kvs
  | .dct [] => some []
  | .lck [] => some []
  | _ => none
/-- .. that may be written -/
def tabW : O → Option (List (TKey × D))
  | .dkt kvs => some kvs
  | .dct [] => some []
  | _ => none
def tabD (S : Store) (d : D) : Option (List (TKey × D)) := match d with
  | .obj n => match S[n]? with
    | some o => tabS o
    | none => none
  | _ => none
theorem tabW_S {o : O} {kvs : List (TKey × D)} (h : tabW o = some kvs) : tabS o = some kvs := by
  unfold tabW at h
  split at h
  · exact h
  · exact h
  · cases h
section
variable {nm : Nms} {X : Cx} {pins : List (Addr × Obj)} {σ : St} {H : Hp} {s : Shared} {μ : List Addr} {S : Store}
theorem empty_dtE {h : Heap} {a : Addr} {hs : TKey → Int} {P : Program} {w : World} {vs : List (Key × Value)} (hd : (a == sysModules) = false) (e : vs = []) (x : h.DictOf (mixKind P w) a vs) : DtE hs a [] h := by
  subst e
  obtain ⟨o, es, ep, h1, h2, h3, _, h5, _⟩ := x
  refine ⟨Nat.zero_le _, hd, [], o, es, ep, .nil, h1, h2, h3, ?_, List.nodup_nil⟩
  cases he : es.toList with
  | nil => rfl
  | cons z zs => rw [he] at h5; cases h5
theorem rd_obj {P : Program} {w : World} {h : Heap} {a : Addr} {u : HO} (ok : HOk P w H h) (r : Rd H a u) : ObjOk P w H h a u := r.ok ok
theorem tab_heap (I : Inv X pins σ H s) (sm : Sim nm X.K X.mg μ S H) {n : Nat} {a : Addr} {o : O} {kvs : List (TKey × D)} (en : μ[n]? = some a) (hS : S[n]? = some o) (ht : tabS o = some kvs) :
    ∃ ys, RT X.K H μ ys kvs ∧ DtE nm.hs a ys s.heap := by
  have ob := sm.ob _ _ _ en hS
  unfold tabS at ht
  split at ht
  · cases ht
    obtain ⟨ys, e, r⟩ := ob
    exact ⟨ys, r, (rd_obj I.hok (.inl e)).1⟩
  · cases ht
    obtain ⟨od, ys, e, r⟩ := ob
    exact ⟨ys, r, (rd_obj I.hok (.inr ⟨od, e⟩)).1⟩
  · cases ht
    obtain ⟨ys, e, r⟩ := ob
    cases r
    obtain ⟨_, hd, vs, rel, dd⟩ := rd_obj I.hok (.inl e)
    cases rel
    exact ⟨[], .nil, empty_dtE hd rfl dd⟩
  · cases ht
    obtain ⟨od, ys, e, r⟩ := ob
    cases r
    obtain ⟨_, hd, vs, rel, dd⟩ := rd_obj I.hok (.inr ⟨od, e⟩)
    cases rel
    exact ⟨[], .nil, empty_dtE hd rfl dd⟩
  · cases ht
theorem leaf_is {h : Heap} {v : V} {u : Value} {k : Option Key} (r : RV X.K H μ v (lfD k)) (ru : RelV v u) : NestedIs h (lfN k) u := by
  rcases k with _ | (i | x)
  · cases r; cases (show u = Value.none from ru); exact .none
  · cases r; obtain ⟨t, rfl⟩ := (show ∃ t, u = Value.int i t from ru); exact .int i t
  · cases r; obtain ⟨t, rfl⟩ := (show ∃ t, u = Value.str x t from ru); exact .text x t
theorem leaves_are {h : Heap} : ∀ {k : TKey} {xs : List V} {its : List Value}, RVs X.K H μ xs (k.map lfD) → Vals xs its → NestedAll h (k.map lfN) its
  | [], _, _, r, v => by cases r; cases v; exact .nil
  | a :: k, _, _, r, v => by
    cases r with | cons r t =>
    cases v with | cons ru tv =>
    exact .cons (leaf_is r ru) (leaves_are t tv)
theorem key_is (I : Inv X pins σ H s) {k : TKey} {b : Addr} (h : KeyAt X.K H μ k b) : (nestedKind X.prog X.w).is s.heap (tkN k) b := by
  obtain ⟨xs, ta, r⟩ := h
  obtain ⟨its, rv, ⟨o, ho, hc, n, hd⟩, _⟩ := I.tuple ta.sq
  refine ⟨.tup ho hc hd (by simpa using leaves_are r rv), ?_⟩
  show NestedKey.depth (.tup (k.map lfN)) ≤ 8
  rw [NestedKey.depth, depth_flat]; omega
theorem keys_are (I : Inv X pins σ H s) : ∀ {ys : List (TKey × Addr × V)} {kvs : List (TKey × D)} {xs : List (TKey × Addr × Value)}, RT X.K H μ ys kvs → ValP ys xs → ∀ x ∈ xs.map kx, (nestedKind X.prog X.w).is s.heap x.1 x.2.1
  | _, _, _, .nil, .nil => fun x hx => nomatch hx
  | p :: ys, q :: kvs, z :: xs, .cons r t, .cons rv tv => fun x hx => by
    rcases List.mem_cons.mp hx with e | e
    · subst e
      have := key_is I r.2.1
      rw [rv.1, rv.2.1] at this
      exact this
    · exact keys_are I t tv x e
theorem nodup_kx {xs : List (TKey × Addr × Value)} (h : (xs.map (·.1)).Nodup) : ((xs.map kx).map (·.1)).Nodup := by
  have e : (xs.map kx).map (·.1) = (xs.map (·.1)).map tkN := by rw [List.map_map, List.map_map]; rfl
  rw [e]
  exact List.Pairwise.map tkN (fun a b hab z => hab (tkN_inj z)) h
theorem nodup_xk {xs : List (TKey × Addr × Value)} (h : ((xs.map kx).map (·.1)).Nodup) : (xs.map (·.1)).Nodup := by
  have e : (xs.map kx).map (·.1) = (xs.map (·.1)).map tkN := by rw [List.map_map, List.map_map]; rfl
  rw [e] at h
  exact List.Pairwise.of_map tkN (fun a b hab z => hab (by rw [z])) h
theorem ent_kx (hh : nm.hs = tkHash X.w) (xs : List (TKey × Addr × Value)) : xs.map (fun x => (⟨nm.hs x.1, .ref x.2.1, x.2.2⟩ : DictEntry)) = (xs.map kx).map (entryOfKey (nestedKind X.prog X.w)) := by
  rw [hh, List.map_map]; rfl
theorem dt_heap (hh : nm.hs = tkHash X.w) (I : Inv X pins σ H s) {a : Addr} {ys : List (TKey × Addr × V)} {kvs : List (TKey × D)} (r : RT X.K H μ ys kvs) (e : DtE nm.hs a ys s.heap) :
    ys.length ≤ sizeLine ∧ (a == sysModules) = false ∧ ∃ xs, ValP ys xs ∧ s.heap.DictOfH (nestedKind X.prog X.w) a (xs.map kx) := by
  obtain ⟨z, hd, xs, o, es, ep, rv, h1, h2, h3, h4, h5⟩ := e
  exact ⟨z, hd, xs, rv, o, es, ep, h1, h2, h3, by rw [h4, ent_kx hh], keys_are I r rv, nodup_kx h5⟩
theorem dtE_of (hh : nm.hs = tkHash X.w) {h : Heap} {a : Addr} {ys : List (TKey × Addr × V)} {xs : List (TKey × Addr × Value)} (z : ys.length ≤ sizeLine) (hd : (a == sysModules) = false) (rv : ValP ys xs) (d : h.DictOfH (nestedKind X.prog X.w) a (xs.map kx)) : DtE nm.hs a ys h := by
  obtain ⟨o, es, ep, h1, h2, h3, h4, _, h5⟩ := d
  exact ⟨z, hd, xs, o, es, ep, rv, h1, h2, h3, by rw [h4, ent_kx hh], nodup_xk h5⟩
theorem dtO_ok {P : Program} {w : World} {h : Heap} {a : Addr} {hs : TKey → Int} {ys : List (TKey × Addr × V)} (d : DtE hs a ys h) : ObjOk P w H h a (DtO hs a ys) := by
  refine ⟨d, ?_, fun h1 h2 d k => ?_⟩
  · obtain ⟨_, _, _, o, _, _, _, h1, _⟩ := d
    exact ⟨o, h1⟩
  · obtain ⟨z, hd, xs, o, es, ep, rv, e1, e2⟩ := d
    exact ⟨z, hd, xs, o, es, ep, rv, k o e1, e2⟩
end
section
variable {nm : Nms} {X : Cx} {pins : List (Addr × Obj)} {σ : St} {H : Hp} {s : Shared} {μ : List Addr} {S : Store} {A : Around} {E : Value → Shared → Prop}
/-- what stands at a place of the store as a dict with tuple keys -/
theorem tab_at (sm : Sim nm X.K X.mg μ S H) {v : V} {d : D} {kvs : List (TKey × D)} (r : RV X.K H μ v d) (h : tabD S d = some kvs) : ∃ n a o, d = .obj n ∧ v = .ref a ∧ μ[n]? = some a ∧ S[n]? = some o ∧ tabS o = some kvs := by
  unfold tabD at h
  split at h
  · split at h
    · rename_i o hS
      cases r with | obj e => exact ⟨_, _, o, rfl, rfl, e, hS, h⟩
    · cases h
  · cases h
theorem tk_at {v : V} {d : D} {k : TKey} (r : RV X.K H μ v d) (h : tkOf d = some k) : ∃ b, v = .ref b ∧ KeyAt X.K H μ k b := by
  have e := tkOf_eq h
  subst e
  unfold tkD at r
  cases r with | tup t r => exact ⟨_, rfl, _, t, r⟩
theorem room_of {A : Around} {k : Nat} (hr : L2H.RoomH k A) : (nestedKind X.prog X.w).room A.in1 := by
  have := hr.un
  show A.in1.units + 8 < cLine
  show A.units + 1 + 8 < cLine
  omega
def inTS (S : Store) (x y : D) : Option Bool := match tkOf x with
  | some k => (tabD S y).map fun kvs => (getT kvs k).isSome
  | none => none
def fInT : Store → D → D → Option D := fun S x y => (inTS S x y).map .bl
def fNotInT : Store → D → D → Option D := fun S x y => (inTS S x y).map fun b => .bl (!b)
theorem inT_core {k : Nat} {neg : Bool} (hh : nm.hs = tkHash X.w) (hr : L2H.RoomH k X.A) {op : CmpOp} (hop : op = if neg = true then .NotIn else .In) : OpD nm X (compareOp op) (fun S x y => (inTS S x y).map fun b => .bl (if neg = true then !b else b)) := by
  intro pins s σ H x y v u Q I rv ru h0
  obtain ⟨S, μ, dx, dy, d, sm, rx, ry, e0, q⟩ := h0
  obtain ⟨b, e, e1⟩ := Option.map_eq_some_iff.mp e0
  clear e0
  subst e1
  have q : Q (.bl (if neg = true then !b else b)) H := q _ μ H .refl sm (.bl _)
  unfold inTS at e
  split at e
  · rename_i tk htk
    obtain ⟨kvs, hk, rfl⟩ := Option.map_eq_some_iff.mp e
    obtain ⟨n, a, o, rfl, rfl, en, hS, ht⟩ := tab_at sm ry hk
    obtain ⟨kb, rfl, ka⟩ := tk_at rx htk
    cases ru
    cases rv
    obtain ⟨ys, r, dte⟩ := tab_heap I sm en hS ht
    obtain ⟨z, hd, xs, vp, dd⟩ := dt_heap hh I r dte
    have es : (atKey (xs.map kx) (tkN tk)).isSome = (getT kvs tk).isSome := by
      rcases getT_val tk r with ⟨h1, h2⟩ | ⟨_, _, _, h1, h2, _⟩ <;> rcases vp_get tk vp with ⟨h3, h4⟩ | ⟨_, _, _, h3, h4, _⟩
      · rw [h2, h4]; rfl
      · rw [h1] at h3; cases h3
      · rw [h1] at h3; cases h3
      · rw [h2, h4]; rfl
    subst hop
    cases neg with
    | true =>
      exact wpAny_notIn_heap (room_of hr) (key_is I ka) hd dd ⟨.bl _, H, I.tok _, rfl, by rw [es]; exact q⟩
    | false => exact wpAny_in_heap (room_of hr) (key_is I ka) hd dd ⟨.bl _, H, I.tok _, rfl, by rw [es]; exact q⟩
  · cases e
theorem o_inT {k : Nat} (hr : L2H.RoomH k X.A) (hh : nm.hs = tkHash X.w := by rfl) : OpD nm X (compareOp .In) fInT := inT_core (neg := false) hh hr rfl
theorem o_notinT {k : Nat} (hr : L2H.RoomH k X.A) (hh : nm.hs = tkHash X.w := by rfl) : OpD nm X (compareOp .NotIn) fNotInT := inT_core (neg := true) hh hr rfl
def ixTS (S : Store) (x i : D) : Option D := match tkOf i with
  | some k => (tabD S x).bind fun kvs => getT kvs k
  | none => none
def mIxT (a b : EM) : EM := mBin ixTS a b
theorem me_ixT {k : Nat} (hr : L2H.RoomH k X.A) {a b : Expr} {ma mb : EM} {pos : Pos} (ha : ME nm X a ma) (hb : ME nm X b mb) (hs : PlainIx b := by exact fun _ _ => rfl) (hh : nm.hs = tkHash X.w := by rfl) : ME nm X (.Subscript a b pos) (mIxT ma mb) := by
  refine ⟨fun W tk => (⟨fun pins s σ H Q I h => ?_⟩ : PE X (.Subscript a b pos) (tOp (rOpD nm X ixTS) (rdE nm X W ma) (rdE nm X W mb))).imp fun _ _ _ h => bin_rd h⟩
  refine Subscript_ (thn ((ha.run W tk).run pins s σ H _ I h) fun v s1 ⟨x, H1, I1, r1, q1⟩ => thn ((hb.run W tk).run pins s1 σ H1 _ I1 q1) fun u s2 ⟨y, H2, I2, r2, q2⟩ => ?_)
  obtain ⟨S, μ, dx, dy, d, sm, rx, ry, e, q⟩ := q2
  unfold ixTS at e
  split at e
  · rename_i tk htk
    obtain ⟨kvs, hk, e2⟩ := Option.bind_eq_some_iff.mp e
    clear e
    obtain ⟨n, a', o, rfl, rfl, en, hS, ht⟩ := tab_at sm rx hk
    obtain ⟨kb, rfl, ka⟩ := tk_at ry htk
    cases r1
    cases r2
    obtain ⟨ys, r, dte⟩ := tab_heap I2 sm en hS ht
    obtain ⟨z, hd, xs, vp, dd⟩ := dt_heap hh I2 r dte
    refine dict_tail dd.typeIs (hs _ _) ?_
    rcases getT_val tk r with ⟨h1, h2⟩ | ⟨b1, v1, d1, h1, h2, h3⟩
    · rw [h2] at e2; cases e2
    · rw [h2] at e2; cases e2
      rcases vp_get tk vp with ⟨h4, h5⟩ | ⟨b2, v2, u2, h4, h5, h6⟩
      · rw [h1] at h4; cases h4
      · rw [h1] at h4; cases h4
        exact wpAny_getItem_heap (room_of hr) (key_is I2 ka) dd h5 ⟨v1, H2, I2.tok _, h6, q _ μ H2 .refl sm h3⟩
  · cases e
def setTS (S : Store) (o i v : D) : Option Store := match o with
  | .obj n => match S[n]? with
    | some ob => match tabW ob with
      | some kvs => match tkOf i with
        | some k => if kvs.length < sizeLine then some (S.set n (.dkt (putT kvs k v))) else none
        | none => none
      | none => none
    | none => none
  | _ => none
theorem nf_W (sm : Sim nm X.K X.mg μ S H) {n : Nat} {a : Addr} {o : O} {kvs : List (TKey × D)} (en : μ[n]? = some a) (hS : S[n]? = some o) (ht : tabW o = some kvs) : NF H a ∧ Mut (H a) := by
  have ob := sm.ob _ _ _ en hS
  unfold tabW at ht
  split at ht
  · obtain ⟨ys, e, _⟩ := ob
    exact ⟨NF.of e (fun _ _ z => nomatch z), by rw [e]; exact True.intro⟩
  · obtain ⟨ys, e, _⟩ := ob
    exact ⟨NF.of e, by rw [e]; exact True.intro⟩
  · cases ht
def rSetT (nm : Nms) (X : Cx) : TSet := fun o i v H Q => ∃ S μ ox ix vx S', Sim nm X.K X.mg μ S H ∧ RV X.K H μ o ox ∧ RV X.K H μ i ix ∧ RV X.K H μ v vx ∧ setTS S ox ix vx = some S' ∧ ∀ H', Ext μ H μ H' → Sim nm X.K X.mg μ S' H' → Q H'
theorem setT_D {k : Nat} (hr : L2H.RoomH k X.A) (hh : nm.hs = tkHash X.w) : PSet X (rSetT nm X) := by
  intro pins s σ H o i v ov iv u Q I ro ri rv h
  obtain ⟨S, μ, ox, ix, vx, S', sm, r1, r2, r3, e, q⟩ := h
  unfold setTS at e
  split at e
  · split at e
    · rename_i ob hS
      split at e
      · rename_i kvs hW
        split at e
        · rename_i tk htk
          split at e
          · rename_i hl
            cases e
            cases r1 with | @obj a n en =>
            obtain ⟨kb, rfl, ka⟩ := tk_at r2 htk
            cases ro
            cases ri
            obtain ⟨ys, r, dte⟩ := tab_heap I sm en hS (tabW_S hW)
            obtain ⟨z, hd, xs, vp, dd⟩ := dt_heap hh I r dte
            obtain ⟨nf, mu⟩ := nf_W sm en hS hW
            have hz : (xs.map kx).length ≤ sizeLine := by rw [List.length_map, ← vp_len vp]; exact z
            have hl2 : (putY ys tk kb v).length ≤ sizeLine := by
              have := putY_len ys tk kb v
              have := rt_len r
              omega
            refine wpAny_setItem_heap (hsz := hz) (room_of hr) (key_is I ka) dd fun h' dd' hs => ?_
            rw [kx_stored] at dd'
            have x := Ext.wrote (H := H) (u := DtO nm.hs a (putY ys tk kb v)) (List.mem_of_getElem? en) nf
            obtain ⟨o', es, ep, ho', _⟩ := id dd'
            refine ⟨_, d_write I mu hs ⟨o', ho'⟩ (dtO_ok (dtE_of hh hl2 hd (vp_put rv vp) dd')), q _ x (sm.wrote en ⟨_, upd_same, RT.ext x (put_rt ka r3 r)⟩)⟩
          · cases e
        · cases e
      · cases e
    · cases e
  · cases e
def gSbT (o i : EM) : GM := fun v e S => (o e S).toS e fun x S => (i e S).toS e fun y S => match setTS S x y v with
  | some S => .nx e S
  | none => .stuck
theorem mg_subT {k : Nat} (hr : L2H.RoomH k X.A) {o i : Expr} {mo mi : EM} {pos : Pos} (ho : ME nm X o mo) (hi : ME nm X i mi) (ha : ∀ v, assign (.Subscript o i pos) X.env v = (do
      let ov ← holding [v] (eval o X.env)
      let iv ← holding [v, ov] (eval i X.env)
      standAt pos
      holding [v, ov, iv] (setItem ov iv v)
      release [v, ov, iv] []) := by intro _; rfl) (hh : nm.hs = tkHash X.w := by rfl) : MG nm X (.Subscript o i pos) (gSbT mo mi) := ⟨fun W tk => (pg_sub (ho.run W tk) (hi.run W tk) (setT_D hr hh) ha).imp fun v σ H Q h => by
  obtain ⟨d, e, S, μ, r, E, s, p⟩ := h
  refine ⟨e, S, μ, E, s, (PostS.toS E p).mono fun ox S1 μ1 H1 x1 s1 p1 vo ro => ?_⟩
  refine ⟨e, S1, μ1, E.ext x1, s1, (PostS.toS (E.ext x1) p1).mono fun ix S2 μ2 H2 x2 s2 p2 vi ri => ?_⟩
  split at p2
  · rename_i S3 hS
    exact ⟨S2, μ2, ox, ix, d, S3, s2, ro.ext x2, ri, (r.ext x1).ext x2, hS, fun H3 x3 s3 => p2 σ μ2 H3 x3 s3 (((E.ext x1).ext x2).ext x3)⟩
  · exact False.elim p2⟩
theorem gok_sbT {o i : EM} : GOk (gSbT o i) := fun d e S d' S' => by
  unfold gSbT
  cases h1 : o e S with
  | ok x S1 =>
    rw [R.toS_ok]
    cases h2 : i e S1 with
    | ok y S2 =>
      rw [R.toS_ok]
      split <;> exact ⟨fun h => (nomatch h), fun e' => ⟨fun h => (nomatch h), fun h => (nomatch h)⟩⟩
    | exc c fs S2 => exact ⟨fun h => (nomatch h), fun e' => ⟨fun h => (nomatch h), fun h => (nomatch h)⟩⟩
    | stuck => exact ⟨fun h => (nomatch h), fun e' => ⟨fun h => (nomatch h), fun h => (nomatch h)⟩⟩
  | exc c fs S2 => exact ⟨fun h => (nomatch h), fun e' => ⟨fun h => (nomatch h), fun h => (nomatch h)⟩⟩
  | stuck => exact ⟨fun h => (nomatch h), fun e' => ⟨fun h => (nomatch h), fun h => (nomatch h)⟩⟩
def mSetIT (m o i : EM) : SM := mAsg m (gSbT o i)
theorem ms_setIT {k : Nat} (hr : L2H.RoomH k X.A) {o i e : Expr} {mo mi me : EM} {pos' pos : Pos} (ho : ME nm X o mo) (hi : ME nm X i mi) (he : ME nm X e me) (ha : ∀ v, assign (.Subscript o i pos') X.env v = (do
      let ov ← holding [v] (eval o X.env)
      let iv ← holding [v, ov] (eval i X.env)
      standAt pos'
      holding [v, ov, iv] (setItem ov iv v)
      release [v, ov, iv] []) := by intro _; rfl) (hs : swapsWithSole [.Subscript o i pos'] e pos.line X.env = pure false := by rfl) (hw : swappedStores [.Subscript o i pos'] e X.env = pure none := by rfl)
    (h1 : (assignEach [.Subscript o i pos'] X.env).map (·.2) = [assign (.Subscript o i pos') X.env] := by rfl) (hh : nm.hs = tkHash X.w := by rfl) : MS nm X (.Assign [.Subscript o i pos'] e pos) (mSetIT me mo mi) :=
  ms_asg he (mg_subT hr ho hi ha hh) gok_sbT hs hw h1
def delTS (S : Store) (o i : D) : Option Store := match o with
  | .obj n => match S[n]? with
    | some (.dkt kvs) => match tkOf i with
      | some k => if (getT kvs k).isSome = true then some (S.set n (.dkt (dropT kvs k))) else none
      | none => none
    | _ => none
  | _ => none
def mDelT (o i : EM) : SM := fun e S => (o e S).toS e fun x S => (i e S).toS e fun y S => match delTS S x y with
  | some S => .nx e S
  | none => .stuck
theorem ms_delT {k : Nat} (hr : L2H.RoomH k X.A) {o i : Expr} {mo mi : EM} {tpos pos : Pos} (ho : ME nm X o mo) (hi : ME nm X i mi) (hh : nm.hs = tkHash X.w := by rfl) : MS nm X (.Delete [.Subscript o i tpos] pos) (mDelT mo mi) := by
  refine ⟨fun W tk => ⟨fun pins s σ H D I h => ?_⟩⟩
  obtain ⟨e, S, μ, E, sm, p⟩ := h
  refine wpAny_Delete (wpAny_deleteEach_cons (wpAny_delete_Subscript (thn ((ho.run W tk).run pins s σ H (fun x H1 => ∃ S1 μ1 ox, Sim nm X.K X.mg μ1 S1 H1 ∧ EvR nm X H1 μ1 e σ ∧ RV X.K H1 μ1 x ox ∧ PostS nm X W μ1 H1 ((mi e S1).toS e fun y S => match delTS S ox y with
    | some S => .nx e S
    | none => .stuck) D) I ⟨e, S, μ, E, sm, (PostS.toS E p).mono fun ox S1 μ1 H1 x1 s1 p1 vo ro => ⟨S1, μ1, ox, s1, E.ext x1, ro, p1⟩⟩) fun u s1 ⟨x, H1, I1, rx, S1, μ1, ox, sm1, E1, ro, p1⟩ => thn ((hi.run W tk).run pins s1 σ H1 (fun y H2 => ∃ S2 μ2 iy, Sim nm X.K X.mg μ2 S2 H2 ∧ EvR nm X H2 μ2 e σ ∧ RV X.K H2 μ2 x ox ∧ RV X.K H2 μ2 y iy ∧ PostS nm X W μ2 H2 (match delTS S2 ox iy with
    | some S => RS.nx e S
    | none => .stuck) D) I1 ⟨e, S1, μ1, E1, sm1, (PostS.toS E1 p1).mono fun iy S2 μ2 H2 x2 s2 p2 vi ri => ⟨S2, μ2, iy, s2, E1.ext x2, ro.ext x2, ri, p2⟩⟩) fun iv s2 ⟨y, H2, I2, ry, S2, μ2, iy, sm2, E2, ro2, ri, p2⟩ => ?_)))
  split at p2
  · rename_i S3 hS3
    unfold delTS at hS3
    split at hS3
    · split at hS3
      · rename_i kvs hS
        split at hS3
        · rename_i tk htk
          split at hS3
          · rename_i hg
            cases hS3
            cases ro2 with | @obj a n en =>
            obtain ⟨kb, rfl, ka⟩ := tk_at ri htk
            cases rx
            cases ry
            obtain ⟨ys, r, dte⟩ := tab_heap I2 sm2 en hS (show tabS (.dkt kvs) = some kvs from rfl)
            obtain ⟨z, hd, xs, vp, dd⟩ := dt_heap hh I2 r dte
            obtain ⟨nf, mu⟩ := nf_W sm2 en hS (show tabW (.dkt kvs) = some kvs from rfl)
            have hz : (xs.map kx).length ≤ sizeLine := by rw [List.length_map, ← vp_len vp]; exact z
            rcases getT_val tk r with ⟨h1, h2⟩ | ⟨b1, v1, d1, h1, h2, h3⟩
            · rw [h2] at hg; cases hg
            · rcases vp_get tk vp with ⟨h4, h5⟩ | ⟨b2, v2, u2, h4, h5, h6⟩
              · rw [h1] at h4; cases h4
              · have hl2 : (dropT ys tk).length ≤ sizeLine := Nat.le_trans (List.length_filter_le _ _) z
                refine wpAny_delItem_heap (hsz := hz) (room_of hr) (key_is I2 ka) hd dd h5 fun h' dd' hs => ?_
                rw [kx_without] at dd'
                have x := Ext.wrote (H := H2) (u := DtO nm.hs a (dropT ys tk)) (List.mem_of_getElem? en) nf
                obtain ⟨o', es, ep, ho', _⟩ := id dd'
                exact wpAny_deleteEach_nil ⟨σ, _, d_write I2 mu hs ⟨o', ho'⟩ (dtO_ok (dtE_of hh hl2 hd (vp_drop vp) dd')), p2 σ μ2 _ x (sm2.wrote en ⟨_, upd_same, RT.ext x (drop_rt r)⟩) (E2.ext x)⟩
          · cases hS3
        · cases hS3
      · cases hS3
    · cases hS3
  · exact False.elim p2
end
end BS
namespace BS
open PySem PySem.Spec PyProof.Rows L2
section
variable {nm : Nms} {X : Cx} {pos : Pos} {e : Expr} {es : List Expr} {ma : AM}
theorem tab_type {pins : List (Addr × Obj)} {σ : L2.St} {H : Hp} {s : Shared} {μ : List Addr} {S : Store} (I : Inv X pins σ H s) (sm : Sim nm X.K X.mg μ S H) {x : V} {v : Value} {d : D} {kvs : List (TKey × D)} (r : RV X.K H μ x d) (rv : RelV x v) (h : tabD S d = some kvs) :
    s.TypeIs v "dict" ∧ ∀ a, v = .ref a → ∃ ob, s.heap.get? a = some ob ∧ ob.dict = none := by
  obtain ⟨n, a, o, rfl, rfl, en, hS, ht⟩ := tab_at sm r h
  cases rv
  obtain ⟨ys, _, _, _, xs, ob, es, ep, _, h1, h2, _⟩ := tab_heap I sm en hS ht
  exact ⟨⟨ob, h1, h2.1⟩, fun b e => by cases e; exact ⟨ob, h1, h2.2.1⟩⟩
def mBmT (F : FM) (o : EM) (as : AM) : EM := fun e S => (o e S).bind fun x S => match tabD S x with
  | some _ => (as e S).bind fun ds S => F (x :: ds) S
  | none => .stuck
theorem me_bmT {id : String} {name : Str} {F : FM} {o : Expr} {mo : EM} {apos : Pos} (slot : Slot "dict" name id) (hty : typeOf (.builtin id) = pure (.type "method_descriptor")) (hm : MtD nm X id F) (ho : ME nm X o mo) (ha : MA nm X (e :: es) ma)
    (hbase : attributeBase o name X.env (eval o X.env) = eval o X.env := by rfl)
    (hfew : ((backTo pos (starEach (e :: es) X.env)).all (fun x => !x.1) && (backToKw pos (keywordEach [] X.env)).all (fun x => x.1.isSome)
      && decide ((e :: es).length + ([] : List Keyword).length + (if ([] : List Keyword).isEmpty then 0 else 1) < 30)) = true := by rfl)
    (hline : (apos.endLine == pos.line) = true := by rfl) (hs : starEach (e :: es) X.env = (false, eval e X.env) :: starEach es X.env := by rfl) (hplain : (backTo pos (starEach es X.env)).any (·.1) = false := by rfl) :
    ME nm X (.Call (.Attribute o name apos) (e :: es) [] pos) (mBmT F mo ma) := by
  refine ⟨fun W tk => ⟨fun pins s σ H Q I h => ?_⟩⟩
  obtain ⟨ev, S, μ, E, sm, q⟩ := h
  refine wpAny_Call_method_late hbase hfew hline rfl (thn ((ho.run W tk).run pins s σ H (fun x H1 => ∃ S1 μ1 d kvs, EvR nm X H1 μ1 ev σ ∧ Sim nm X.K X.mg μ1 S1 H1 ∧ RV X.K H1 μ1 x d ∧ tabD S1 d = some kvs ∧ PostX nm X W μ1 H1 σ ((ma ev S1).bind fun ds S => F (d :: ds) S) fun d _ μ' H' => ∀ v, RV X.K H' μ' v d → Q v H') I
    ⟨ev, S, μ, E, sm, (Post.bind q).mono fun d S1 μ1 H1 x1 s1 q1 v rv => ?_⟩) fun v s1 ⟨x, H1, I1, r1, S1, μ1, d, kvs, E1, sm1, rd, ty, q1⟩ => ?_)
  · split at q1
    · rename_i kvs hk; exact ⟨S1, μ1, d, kvs, E.ext x1, s1, rv, hk, q1⟩
    · exact False.elim q1
  · obtain ⟨h1, h2⟩ := tab_type I1 sm1 rd r1 ty
    refine ⟨"dict", id, PySem.F.plainAttrs_dict, slot, hty, h1, h2, ?_⟩
    have hA := (ha.run W tk).run pos pins s1 σ H1 (fun vs H2 => ∃ ds S2 μ2, RVs X.K H2 μ2 (x :: vs) (d :: ds) ∧ Sim nm X.K X.mg μ2 S2 H2 ∧ PostX nm X W μ2 H2 σ (F (d :: ds) S2) fun d _ μ' H' => ∀ v, RV X.K H' μ' v d → Q v H') I1
      ⟨ev, S1, μ1, E1, sm1, (Post.bind q1).mono fun ds S2 μ2 H2 x2 s2 q2 vs rvs => ⟨ds, S2, μ2, .cons (rd.ext x2) rvs, s2, q2⟩⟩
    rw [hs] at hA ⊢
    refine Calls.callWith_builtin (by show (false || (backTo pos (starEach es X.env)).any (·.1)) = false; rw [hplain] <;> rfl) (Calls.evalArgs_plain ?_)
    exact thn hA fun us s2 ⟨vs, H2, I2, r2, ds, S2, μ2, rvs, sm2, q2⟩ => hm pins s2 σ H2 x vs v us Q I2 r1 r2 ⟨d :: ds, S2, μ2, _, rvs, sm2, q2⟩
def fnPopT : FM := fun ds S => match ds with
  | [.obj n, k] => match S[n]? with
    | some (.dkt kvs) => match tkOf k with
      | some key => match getT kvs key with
        | some d => .ok d (S.set n (.dkt (dropT kvs key)))
        | none => .stuck
      | none => .stuck
    | _ => .stuck
  | _ => .stuck
theorem t_popT {k : Nat} (hr : L2H.RoomH k X.A) (hh : nm.hs = tkHash X.w := by rfl) : MtD nm X "dict.pop" fnPopT := by
  intro pins s σ H x xs v us Q I rx r h
  obtain ⟨ds, S, μ, E, rv, sm, p⟩ := h
  unfold fnPopT at p
  split at p
  · rename_i n dk
    obtain ⟨r1, rt⟩ := rvs_cons rv
    obtain ⟨y, rfl, r2⟩ := one_rv rt
    obtain ⟨u, rfl, ru⟩ := vals1 r
    split at p
    · rename_i kvs hS
      split at p
      · rename_i tk htk
        cases r1 with | @obj a _ en =>
        obtain ⟨kb, rfl, ka⟩ := tk_at r2 htk
        cases rx
        cases ru
        obtain ⟨ys, rt', dte⟩ := tab_heap I sm en hS (show tabS (.dkt kvs) = some kvs from rfl)
        obtain ⟨z, hd, xs, vp, dd⟩ := dt_heap hh I rt' dte
        obtain ⟨nf, mu⟩ := nf_W sm en hS (show tabW (.dkt kvs) = some kvs from rfl)
        have hz : (xs.map kx).length ≤ sizeLine := by rw [List.length_map, ← vp_len vp]; exact z
        rcases getT_val tk rt' with ⟨h1, h2⟩ | ⟨b1, v1, d1, h1, h2, h3⟩
        · rw [h2] at p; exact False.elim p
        · rw [h2] at p
          rcases vp_get tk vp with ⟨h4, h5⟩ | ⟨b2, v2, u2, h4, h5, h6⟩
          · rw [h1] at h4; cases h4
          · rw [h1] at h4; cases h4
            have hl2 : (dropT ys tk).length ≤ sizeLine := Nat.le_trans (List.length_filter_le _ _) z
            refine call_pop_heap (hsz := hz) (.inl rfl) (PySem.F.args_dict_pop_2 _ _) (room_of hr) (key_is I ka) hd dd h5 fun h' dd' hs => ?_
            rw [kx_without] at dd'
            have x := Ext.wrote (H := H) (u := DtO nm.hs a (dropT ys tk)) (List.mem_of_getElem? en) nf
            obtain ⟨o', es, ep, ho', _⟩ := id dd'
            exact ⟨v1, _, d_write I mu hs ⟨o', ho'⟩ (dtO_ok (dtE_of hh hl2 hd (vp_drop vp) dd')), h6, p μ _ x (sm.wrote en ⟨_, upd_same, RT.ext x (drop_rt rt')⟩) v1 (h3.ext x)⟩
      · exact False.elim p
    · exact False.elim p
  · exact False.elim p
def fnGetT : FM := fun ds S => match ds with
  | [x, k] => match tabD S x with
    | some kvs => match tkOf k with
      | some key => .ok ((getT kvs key).getD .non) S
      | none => .stuck
    | none => .stuck
  | _ => .stuck
theorem t_getT {k : Nat} (hr : L2H.RoomH k X.A) (hh : nm.hs = tkHash X.w := by rfl) : MtD nm X "dict.get" fnGetT := by
  intro pins s σ H x xs v us Q I rx r h
  obtain ⟨ds, S, μ, E, rv, sm, p⟩ := h
  unfold fnGetT at p
  split at p
  · rename_i dx dk
    obtain ⟨r1, rt⟩ := rvs_cons rv
    obtain ⟨y, rfl, r2⟩ := one_rv rt
    obtain ⟨u, rfl, ru⟩ := vals1 r
    split at p
    · rename_i kvs hk
      split at p
      · rename_i tk htk
        obtain ⟨n, a, o, rfl, rfl, en, hS, ht⟩ := tab_at sm r1 hk
        obtain ⟨kb, rfl, ka⟩ := tk_at r2 htk
        cases rx
        cases ru
        obtain ⟨ys, rt', dte⟩ := tab_heap I sm en hS ht
        obtain ⟨z, hd, xs, vp, dd⟩ := dt_heap hh I rt' dte
        refine call_meetsIn PySem.F.slot_dict_get dd.typeIs PySem.F.entry_dict_get (PySem.F.args_dict_get_2 _ _) (meetsH_dict_get (nestedKind X.prog X.w) a kb hd) ⟨room_of hr, tkN tk, xs.map kx, key_is I ka, dd, ?_⟩
        rcases getT_val tk rt' with ⟨h1, h2⟩ | ⟨b1, v1, d1, h1, h2, h3⟩
        · rw [h2] at p
          rcases vp_get tk vp with ⟨h4, h5⟩ | ⟨b2, v2, u2, h4, h5, h6⟩
          · rw [h5]
            exact ⟨.non, H, I.tok _, rfl, p μ H .refl sm .non .non⟩
          · rw [h1] at h4; cases h4
        · rw [h2] at p
          rcases vp_get tk vp with ⟨h4, h5⟩ | ⟨b2, v2, u2, h4, h5, h6⟩
          · rw [h1] at h4; cases h4
          · rw [h1] at h4; cases h4
            rw [h5]
            exact ⟨v1, H, I.tok _, h6, p μ H .refl sm v1 h3⟩
      · exact False.elim p
    · exact False.elim p
  · exact False.elim p
def valsO : O → Option (List D)
  | .dct kvs => some (kvs.map (·.2))
  | .lck kvs => some (kvs.map (·.2))
  | .dkt kvs => some (kvs.map (·.2))
  | .lkt kvs => some (kvs.map (·.2))
  | _ => none
def valsD (S : Store) (d : D) : Option (List D) := match d with
  | .obj n => match S[n]? with
    | some o => valsO o
    | none => none
  | _ => none
/-- what stands in a dict, value by value -/
def RawV (K : PySem.W.Frag) (H : Hp) (μ : List Addr) (h : Heap) (a : Addr) (vs : List D) : Prop :=
  (a == sysModules) = false ∧ vs.length ≤ sizeLine ∧ ∃ es ep, h.DictRaw a es ep ∧ es.size = vs.length ∧ ∀ (i : Nat) (d : D), vs[i]? = some d → ∃ (en : DictEntry) (w : V), es[i]? = some en ∧ RelV w en.val ∧ RV K H μ w d
theorem dk_raw {P : Program} {w : World} {H : Hp} {h : Heap} {a : Addr} {μ : List Addr} {K : PySem.W.Frag} {ys : List (Key × V)} {kvs : List (Key × D)} (ok : ObjOk P w H h a (.dK ys)) (r : RK K H μ ys kvs) : RawV K H μ h a (kvs.map (·.2)) := by
  obtain ⟨z, hd, vs, rel, dd⟩ := ok
  refine ⟨hd, by rw [List.length_map, ← rk_len r]; exact z, ?_⟩
  have hl : ys.length = vs.length := Paired.length rel
  obtain ⟨es, ep, hr, hsz, he⟩ := dd.raw
  refine ⟨es, ep, hr, by rw [List.length_map, ← rk_len r, hl]; exact hsz, fun i d hi => ?_⟩
  rw [List.getElem?_map, Option.map_eq_some_iff] at hi
  obtain ⟨q, hq, rfl⟩ := hi
  have li : i < kvs.length := (List.getElem?_eq_some_iff.mp hq).1
  have ly : i < ys.length := by rw [rk_len r]; exact li
  have lv : i < vs.length := by omega
  have hy := List.getElem?_eq_getElem ly
  generalize ys[i] = y at hy
  have hv := List.getElem?_eq_getElem lv
  generalize vs[i] = v at hv
  have r1 : RV K H μ y.2 q.2 := by
    have := paired_get r hy
    obtain ⟨b, hb, hr⟩ := this
    rw [hq] at hb; cases hb; exact hr.2
  have r2 : RelV y.2 v.2 := by
    obtain ⟨b, hb, hr⟩ := paired_get rel hy
    rw [hv] at hb; cases hb; exact hr.2
  have ls : i < es.size := by rw [hsz]; exact lv
  obtain ⟨_, h2⟩ := he i ls v.1 v.2 hv
  exact ⟨es[i], y.2, Array.getElem?_eq_getElem ls, by rw [h2]; exact r2, r1⟩
theorem dt_raw {H : Hp} {h : Heap} {a : Addr} {μ : List Addr} {K : PySem.W.Frag} {hs : TKey → Int} {ys : List (TKey × Addr × V)} {kvs : List (TKey × D)} (dte : DtE hs a ys h) (r : RT K H μ ys kvs) : RawV K H μ h a (kvs.map (·.2)) := by
  obtain ⟨z, hd, xs, o, es, ep, vp, h1, h2, h3, h4, _⟩ := dte
  refine ⟨hd, by rw [List.length_map, ← rt_len r]; exact z, es, ep, ⟨o, h1, h2, h3⟩, ?_, fun i d hi => ?_⟩
  · rw [← Array.length_toList, h4, List.length_map, List.length_map, ← vp_len vp, rt_len r]
  · rw [List.getElem?_map, Option.map_eq_some_iff] at hi
    obtain ⟨q, hq, rfl⟩ := hi
    have li : i < kvs.length := (List.getElem?_eq_some_iff.mp hq).1
    have ly : i < ys.length := by rw [rt_len r]; exact li
    have hy := List.getElem?_eq_getElem ly
    generalize ys[i] = y at hy
    obtain ⟨b, hb, hr⟩ := paired_get r hy
    rw [hq] at hb; cases hb
    obtain ⟨x, hx, hv⟩ := paired_get vp hy
    refine ⟨⟨hs x.1, .ref x.2.1, x.2.2⟩, y.2.2, ?_, hv.2.2, hr.2.2⟩
    rw [← Array.getElem?_toList, h4, List.getElem?_map, hx]; rfl
theorem vals_at {pins : List (Addr × Obj)} {σ : L2.St} {H : Hp} {s : Shared} {μ : List Addr} {S : Store} (I : Inv X pins σ H s) (sm : Sim nm X.K X.mg μ S H) {v : V} {d : D} {vs : List D} (r : RV X.K H μ v d) (h : valsD S d = some vs) : ∃ a, v = .ref a ∧ RawV X.K H μ s.heap a vs := by
  unfold valsD at h
  split at h
  · cases r with | @obj a n en =>
    refine ⟨a, rfl, ?_⟩
    split at h
    · rename_i o hS
      have ob := sm.ob _ _ _ en hS
      unfold valsO at h
      split at h
      · cases h
        obtain ⟨ys, e, r⟩ := ob
        exact dk_raw (I.hok a _ e) r
      · cases h
        obtain ⟨od, ys, e, r⟩ := ob
        exact dk_raw (rd_obj I.hok (.inr ⟨od, e⟩)) r
      · cases h
        obtain ⟨ys, e, r⟩ := ob
        exact dt_raw (rd_obj I.hok (.inl e)).1 r
      · cases h
        obtain ⟨od, ys, e, r⟩ := ob
        exact dt_raw (rd_obj I.hok (.inr ⟨od, e⟩)).1 r
      · cases h
    · cases h
  · cases h
def viewP (p a : Addr) : HO := .ext fun h => h.IsValuesView p a
theorem view_ok {P : Program} {w : World} {H : Hp} {h : Heap} {p a : Addr} (x : h.IsValuesView p a) : ObjOk P w H h p (viewP p a) := by
  refine ⟨x, let ⟨o, e, _⟩ := x; ⟨o, e⟩, fun h1 h2 y k => ?_⟩
  obtain ⟨o, e, r⟩ := y
  exact ⟨o, k o e, r⟩
/-- o.values(): a view, no object of the store -/
def tView (nm : Nms) (X : Cx) (W : WX) (mo : EM) : TE := fun σ H Q => ∃ e S μ, EvR nm X H μ e σ ∧ Sim nm X.K X.mg μ S H ∧ PostX nm X W μ H σ (mo e S) fun d S1 μ1 H1 => ∃ vs, valsD S1 d = some vs ∧ ∀ (x : V) (a p : Addr), RV X.K H1 μ1 x d → x = .ref a → H1 p = none → Sim nm X.K X.mg μ1 S1 (upd H1 p (viewP p a)) → Ext μ1 H1 μ1 (upd H1 p (viewP p a)) → Q (.ref p) (upd H1 p (viewP p a))
theorem pe_view {o : Expr} {mo : EM} {apos cpos : Pos} {W : WX} (tk : Takes X W) (ho : ME nm X o mo) (hbase : attributeBase o "values" X.env (eval o X.env) = eval o X.env := by rfl) (hline : (apos.endLine == cpos.line) = true := by rfl) :
    PE X (.Call (.Attribute o "values" apos) [] [] cpos) (tView nm X W mo) := by
  refine ⟨fun pins s σ H Q I h => ?_⟩
  obtain ⟨ev, S, μ, E, sm, q⟩ := h
  refine wpAny_Call_method (T := "dict") (id := "dict.values") hbase rfl hline PySem.F.plainAttrs_dict PySem.F.slot_dict_values PySem.F.type_dict_values (thn ((ho.run W tk).run pins s σ H (fun x H1 => ∃ S1 μ1 d vs, Sim nm X.K X.mg μ1 S1 H1 ∧ RV X.K H1 μ1 x d ∧ valsD S1 d = some vs ∧ ∀ (a p : Addr), x = .ref a → H1 p = none → Sim nm X.K X.mg μ1 S1 (upd H1 p (viewP p a)) → Ext μ1 H1 μ1 (upd H1 p (viewP p a)) → Q (.ref p) (upd H1 p (viewP p a))) I
    ⟨ev, S, μ, E, sm, q.mono fun d S1 μ1 H1 x1 s1 q1 v rv => ?_⟩) fun u s1 ⟨x, H1, I1, rx, S1, μ1, d, vs, sm1, rd, hv, q1⟩ => ?_)
  · obtain ⟨vs, hv, f⟩ := q1
    exact ⟨S1, μ1, d, vs, s1, rv, hv, fun a p => f v a p rv⟩
  · obtain ⟨a, rfl, hd, _, es, ep, hr, _⟩ := vals_at I1 sm1 rd hv
    obtain rfl : u = Value.ref a := rx
    obtain ⟨ob, ho1, ho2, _⟩ := id hr
    refine ⟨hr.typeIs, fun b e => by cases e; exact ⟨ob, ho1, ho2.2.1⟩, ?_⟩
    have np := I1.hok.fresh (Nat.le_refl s1.heap.objs.size)
    have I2 : Inv X pins σ (upd H1 s1.heap.objs.size (viewP s1.heap.objs.size a)) { s1 with heap := s1.heap.push { cls := .type "dict_values", data := .fields #[.ref a] } } :=
      I1.laid (t' := s1.toks) (fun b ob q => Heap.get?_push_of_some _ q) (Nat.le_refl _) (view_ok ⟨_, Heap.get?_push_size _ rfl, rfl, rfl⟩)
    show wpAny _ _ (callWith cpos (.builtin "dict.values") [.ref a] [] []) _ X.xe s1
    exact method_meetsIn PySem.F.slot_dict_values PySem.F.entry_dict_values rfl (PySem.evalArgs_none ⟨rfl, hr.typeIs, PySem.F.args_dict_values_1 _, _, meets_dict_values_raw a hd, ⟨es, ep, hr⟩, ⟨.ref s1.heap.objs.size, _, I2, rfl, q1 a _ rfl np (sm1.laid np) (Ext.laid sm1 np)⟩⟩)
def mListVals (new : Bool) (m : EM) : EM := fun e S => (m e S).bind fun d S => match valsD S d with
  | some vs => fin new vs S
  | none => .stuck
theorem vals_upd {S : Store} {H : Hp} {d : D} {vs : List D} (h : valsD S d = some vs) : ∃ n, d = .obj n := by
  unfold valsD at h
  split at h
  · exact ⟨_, rfl⟩
  · cases h
theorem rvs_of {K : PySem.W.Frag} {H : Hp} {μ : List Addr} : ∀ (vs : List D) (us : List Value), us.length = vs.length → (∀ (i : Nat) (d : D) (u : Value), vs[i]? = some d → us[i]? = some u → ∃ w, RelV w u ∧ RV K H μ w d) → ∃ ws, Vals ws us ∧ RVs K H μ ws vs
  | [], [], _, _ => ⟨[], .nil, .nil⟩
  | [], _ :: _, h, _ => by cases h
  | _ :: _, [], h, _ => by cases h
  | d :: vs, u :: us, h, f => by
    obtain ⟨w, h1, h2⟩ := f 0 d u rfl rfl
    obtain ⟨ws, h3, h4⟩ := rvs_of vs us (by simpa using h) fun i d u e1 e2 => f (i + 1) d u (by simpa using e1) (by simpa using e2)
    exact ⟨w :: ws, .cons h1 h3, .cons h2 h4⟩
theorem me_listVals {o : Expr} {mo : EM} {p pos2 apos : Pos} {x : Str} (new : Bool) (hc : X.calm = true) (hg : GlN X x) (hm : X.mg x = none) (hv : bootBuiltins x = some (.type "list")) (ho : ME nm X o mo)
    (hbase : attributeBase o "values" X.env (eval o X.env) = eval o X.env := by rfl) (hline : (apos.endLine == pos2.line) = true := by rfl)
    (he : starEach [.Call (.Attribute o "values" apos) [] [] pos2] X.env = (false, eval (.Call (.Attribute o "values" apos) [] [] pos2) X.env) :: starEach [] X.env := by rfl) :
    ME nm X (.Call (.Name x p) [.Call (.Attribute o "values" apos) [] [] pos2] [] pos) (mListVals new mo) := by
  refine ⟨fun W tk => ⟨fun pins s σ H Q I h => ?_⟩⟩
  obtain ⟨ev, S, μ, E, sm, q⟩ := h
  refine wpAny_Call_Name_kw (ld_blt I hg.g hm hv ?_ hg.n hg.d)
  have ha := (pa_cons (pe_view tk ho hbase hline) pa_nil he).run pos pins s σ H (fun vs H1 => match vs with
    | [v] => ∃ (S1 : Store) (μ1 : List Addr) (d : D) (x : V) (a p : Addr) (ds : List D), v = .ref p ∧ x = .ref a ∧ H1 p = some (viewP p a) ∧ Sim nm X.K X.mg μ1 S1 H1 ∧ RV X.K H1 μ1 x d ∧ valsD S1 d = some ds ∧ PostX nm X W μ1 H1 σ (fin new ds S1) fun d _ μ' H' => ∀ v, RV X.K H' μ' v d → Q v H'
    | _ => False) I ⟨ev, S, μ, E, sm, (Post.bind q).mono fun d S1 μ1 H1 x1 s1 q1 => ?_⟩
  · refine PyProof.Rows.callWith_type1 (thn ha fun us s1 ⟨vs, H1, I1, r1, q1⟩ => ?_) he rfl
    cases vs with
    | nil => exact False.elim q1
    | cons v vs =>
      cases vs with
      | cons _ _ => exact False.elim q1
      | nil =>
        obtain ⟨S1, μ1, d, x, a, pv, ds, rfl, rfl, hp, sm1, rd, hvd, q1⟩ := q1
        obtain ⟨u, rfl, ru⟩ := r1.one
        cases ru
        obtain ⟨a', ea, hd, hz, es, ep, hr, hsz, hev⟩ := vals_at I1 sm1 rd hvd
        cases ea
        have hview : s1.heap.IsValuesView pv a := (rd_obj I1.hok (.inl hp)).1
        refine PySem.W.kdl_call (PySem.KdlSrc.rawValues (es := es) (ep := ep)) (I1.ok.hd hc) ⟨hview, hr⟩ (by rw [hsz]; exact hz) fun h' tk' acc' c' kp e2 it => ?_
        have hl : acc'.toList.length = ds.length := by rw [Array.length_toList, it.1, hsz]
        obtain ⟨ws, h1, h2⟩ := rvs_of (K := X.K) (H := H1) (μ := μ1) ds acc'.toList hl fun i d u e1 e3 => by
          obtain ⟨hi, hv⟩ := it.2 i u (by rw [← Array.getElem?_toList]; exact e3)
          obtain ⟨en, w, g1, g2, g3⟩ := hev i d e1
          rw [Array.getElem?_eq_getElem hi] at g1
          cases g1
          exact ⟨w, by rw [hv]; exact g2, g3⟩
        have np := I1.hok.fresh (Nat.le_refl s1.heap.objs.size)
        refine ⟨.ref s1.heap.objs.size, _, I1.laid (t' := tk') (o := .lst ws) kp (Nat.le_refl _) ?_, rfl, fin_post sm1 h2 np q1⟩
        exact ⟨by rw [h2.length]; exact hz, acc'.toList, c', h1, by rw [Array.toArray_toList]; exact e2⟩
  · split at q1
    · rename_i ds hvd
      refine ⟨ds, hvd, fun x a p rx ex np sm2 xx => ?_⟩
      exact ⟨S1, μ1, d, x, a, p, ds, rfl, ex, upd_same, sm2, rx.ext xx, hvd, Post.ext xx q1⟩
    · exact False.elim q1
end
end BS
namespace BS
open PySem PySem.Spec PyProof.Rows L2
def lockO : O → Option O
  | .dct kvs => some (.lck kvs)
  | .dkt kvs => some (.lkt kvs)
  | _ => none
def unlO : O → Option O
  | .lck kvs => some (.dct kvs)
  | .lkt kvs => some (.dkt kvs)
  | _ => none
def unlAt (n : Nat) (S : Store) : Option Store := match S[n]? with
  | some o => (unlO o).map fun o' => S.set n o'
  | none => none
def RS.unL (n : Nat) (r : RS) : RS := match r with
  | .nx e S => match unlAt n S with
    | some S' => .nx e S'
    | none => .stuck
  | .rt d S => match unlAt n S with
    | some S' => .rt d S'
    | none => .stuck
  | .bk e S => match unlAt n S with
    | some S' => .bk e S'
    | none => .stuck
  | .ct e S => match unlAt n S with
    | some S' => .ct e S'
    | none => .stuck
  | .exc c fs e S => .exc c fs e S
  | .stuck => .stuck
def R.unL {α : Type} (n : Nat) (r : R α) : R α := match r with
  | .ok a S => match unlAt n S with
    | some S' => .ok a S'
    | none => .stuck
  | .exc c fs S => .exc c fs S
  | .stuck => .stuck
/-- which object is locked is told by i -/
def lockS (i : EM) (b : SM) : SM := fun e S => match i e S with
  | .ok (.obj n) _ => match S[n]? with
    | some o => match lockO o with
      | some o' => RS.unL n (b e (S.set n o'))
      | none => .stuck
    | none => .stuck
  | _ => .stuck
def lockE (i : EM) (m : EM) : EM := fun e S => match i e S with
  | .ok (.obj n) _ => match S[n]? with
    | some o => match lockO o with
      | some o' => R.unL n (m e (S.set n o'))
      | none => .stuck
    | none => .stuck
  | _ => .stuck
section
variable {nm : Nms} {X : Cx}
theorem lock_ok {K : PySem.W.Frag} {mg : Str → Option Value} {H : Hp} {μ : List Addr} {a : Addr} {o o' : O} (hm : a ∈ μ) (h : OK nm K mg H μ a o) (e : lockO o = some o') : ∃ u, H a = some u ∧ Mut (some u) ∧ NF H a ∧ ∀ od, OK nm K mg (upd H a (.frz od u)) μ a o' := by
  unfold lockO at e
  split at e
  · cases e
    obtain ⟨ys, e1, r⟩ := h
    have nf : NF H a := NF.of e1
    exact ⟨_, e1, True.intro, nf, fun od => ⟨od, ys, upd_same, RK.ext (Ext.wrote hm nf) r⟩⟩
  · cases e
    obtain ⟨ys, e1, r⟩ := h
    have nf : NF H a := NF.of e1 (fun _ _ z => nomatch z)
    exact ⟨_, e1, True.intro, nf, fun od => ⟨od, ys, upd_same, RT.ext (Ext.wrote hm nf) r⟩⟩
  · cases e
theorem unl_ok {K : PySem.W.Frag} {mg : Str → Option Value} {H' : Hp} {μ' : List Addr} {a : Addr} {od : Obj} {u : HO} {o o' : O} (hm : a ∈ μ') (ha : H' a = some (.frz od u)) (h : OK nm K mg H' μ' a o) (e : unlO o = some o') : OK nm K mg (upd H' a u) μ' a o' := by
  unfold unlO at e
  split at e
  · cases e
    obtain ⟨od', ys, e1, r⟩ := h
    rw [ha] at e1
    cases e1
    exact ⟨ys, upd_same, RK.extW (ExtW.wrote hm) r⟩
  · cases e
    obtain ⟨od', ys, e1, r⟩ := h
    rw [ha] at e1
    injection e1 with e1
    injection e1 with e2 e3
    exact ⟨ys, by rw [upd_same, e3], RT.extW (ExtW.wrote hm) r⟩
  · cases e
theorem unL_sim {S' S'' : Store} {μ μ' : List Addr} {H H' : Hp} {n : Nat} {a : Addr} {od : Obj} {u : HO} (ea : μ[n]? = some a) (x : Ext μ (upd H a (.frz od u)) μ' H') (s : Sim nm X.K X.mg μ' S' H') (h : unlAt n S' = some S'') :
    H' a = some (.frz od u) ∧ Sim nm X.K X.mg μ' S'' (upd H' a u) ∧ ExtW μ' H' μ' (upd H' a u) := by
  unfold unlAt at h
  split at h
  · rename_i o hS
    obtain ⟨o', ho, rfl⟩ := Option.map_eq_some_iff.mp h
    have e1 := x.fz a od u upd_same
    have ea' := x.at ea
    have hm := List.mem_of_getElem? ea'
    exact ⟨e1, s.wrote ea' (unl_ok hm e1 (s.ob _ _ _ ea' hS) ho), ExtW.wrote hm⟩
  · cases h
theorem unL_post {W : WX} {D : Ends} {r : RS} {μ : List Addr} {H : Hp} {n : Nat} {a : Addr} {od : Obj} {u : HO} (ea : μ[n]? = some a) (nf : NF H a) (p : PostS nm X W μ H (r.unL n) D) : PostS nm X W μ (upd H a (.frz od u)) r (lkEnds D a od u) := by
  have hm := List.mem_of_getElem? ea
  have x0 : Ext μ H μ (upd H a (.frz od u)) := Ext.wrote hm nf
  cases r with
  | nx e S =>
    unfold RS.unL at p
    dsimp only at p
    split at p
    · rename_i S2 hk
      intro σ' μ' H' x s E
      obtain ⟨h1, h2, w⟩ := unL_sim ea x s hk
      exact ⟨h1, p σ' μ' _ (x.unlock hm nf) h2 (E.extW w)⟩
    · exact False.elim p
  | bk e S =>
    unfold RS.unL at p
    dsimp only at p
    split at p
    · rename_i S2 hk
      intro σ' μ' H' x s E
      obtain ⟨h1, h2, w⟩ := unL_sim ea x s hk
      exact ⟨h1, p σ' μ' _ (x.unlock hm nf) h2 (E.extW w)⟩
    · exact False.elim p
  | ct e S =>
    unfold RS.unL at p
    dsimp only at p
    split at p
    · rename_i S2 hk
      intro σ' μ' H' x s E
      obtain ⟨h1, h2, w⟩ := unL_sim ea x s hk
      exact ⟨h1, p σ' μ' _ (x.unlock hm nf) h2 (E.extW w)⟩
    · exact False.elim p
  | rt d S =>
    unfold RS.unL at p
    dsimp only at p
    split at p
    · rename_i S2 hk
      intro v μ' H' x s rv
      obtain ⟨h1, h2, w⟩ := unL_sim ea x s hk
      exact ⟨h1, p v μ' _ (x.unlock hm nf) h2 (rv.extW w)⟩
    · exact False.elim p
  | exc c fs e S => exact fun σ' μ' H' C d x s E ea => p σ' μ' H' C d (x0.trans x) s E ea
  | stuck => exact p
theorem ms_lock {st : Stmt} {b : SM} (i : EM) (h : MS nm X st b) : MS nm X st (lockS i b) := by
  refine ⟨fun W tk => (ps_lock (h.run W tk)).imp fun D σ H hh => ?_⟩
  obtain ⟨e, S, μ, E, s, p⟩ := hh
  unfold lockS at p
  split at p
  · rename_i n S0 hi0
    split at p
    · rename_i o hS
      split at p
      · rename_i o' ho
        have hn : n < μ.length := by rw [s.len]; exact (List.getElem?_eq_some_iff.mp hS).1
        have ea : μ[n]? = some μ[n] := List.getElem?_eq_getElem hn
        generalize μ[n] = a at ea
        have hm := List.mem_of_getElem? ea
        obtain ⟨u, e1, mu, nf, f⟩ := lock_ok hm (s.ob _ _ _ ea hS) ho
        refine ⟨a, u, e1, mu, fun od => ?_⟩
        have x0 : Ext μ H μ (upd H a (.frz od u)) := Ext.wrote hm nf
        exact ⟨e, S.set n o', μ, E.ext x0, s.wrote ea (f od), unL_post (od := od) (u := u) ea nf p⟩
      · exact False.elim p
    · exact False.elim p
  · exact False.elim p
theorem me_lock {ex : Expr} {m : EM} (i : EM) (h : ME nm X ex m) : ME nm X ex (lockE i m) := by
  refine ⟨fun W tk => (pe_lock (h.run W tk)).imp fun σ H Q hh => ?_⟩
  obtain ⟨e, S, μ, E, s, p⟩ := hh
  unfold lockE at p
  split at p
  · rename_i n S0 hi0
    split at p
    · rename_i o hS
      split at p
      · rename_i o' ho
        have hn : n < μ.length := by rw [s.len]; exact (List.getElem?_eq_some_iff.mp hS).1
        have ea : μ[n]? = some μ[n] := List.getElem?_eq_getElem hn
        generalize μ[n] = a at ea
        have hm := List.mem_of_getElem? ea
        obtain ⟨u, e1, mu, nf, f⟩ := lock_ok hm (s.ob _ _ _ ea hS) ho
        refine ⟨a, u, e1, mu, fun od => ?_⟩
        have x0 : Ext μ H μ (upd H a (.frz od u)) := Ext.wrote hm nf
        refine ⟨e, S.set n o', μ, E.ext x0, s.wrote ea (f od), ?_⟩
        generalize m e (S.set n o') = r at p
        cases r with
        | ok d S1 =>
          unfold R.unL at p
          dsimp only at p
          split at p
          · rename_i S2 hk
            intro μ' H' x s' v rv
            obtain ⟨h1, h2, w⟩ := unL_sim ea x s' hk
            exact ⟨h1, p μ' _ (x.unlock hm nf) h2 v (rv.extW w)⟩
          · exact False.elim p
        | exc c fs S1 => exact fun μ' H' C d x s' ea' => p μ' H' C d (x0.trans x) s' ea'
        | stuck => exact p
      · exact False.elim p
    · exact False.elim p
  · exact False.elim p
end
/-- the keys of a dict with tuple keys -/
def Itx (hs : TKey → Int) (d : Addr) (o : Obj) (ys : List (TKey × Addr × V)) : It :=
  ⟨fun i H => H d = some (.frz o (DtO hs d ys)) ∧ i < ys.length, fun i H x H' => H' = H ∧ ∃ y, ys[i]? = some y ∧ x = .ref y.2.1, fun i H => H d = some (.frz o (DtO hs d ys)) ∧ ys.length ≤ i⟩
theorem frz_dt {X : Cx} {pins : List (Addr × Obj)} {σ : L2.St} {H : Hp} {s : Shared} {hs : TKey → Int} {d : Addr} {o : Obj} {ys : List (TKey × Addr × V)} (I : Inv X pins σ H s) (h : H d = some (.frz o (DtO hs d ys))) :
    (d == sysModules) = false ∧ s.heap.get? d = some o ∧ o.ExactDict ∧ ∃ es ep, o.data = .dict es ep ∧ es.size = ys.length ∧ ∀ (i : Nat) (y : TKey × Addr × V), ys[i]? = some y → ∃ en : DictEntry, es[i]? = some en ∧ en.key = .ref y.2.1 := by
  obtain ⟨h1, ⟨z, hd, xs, o', es, ep, vp, e1, e2, e3, e4, _⟩, _⟩ := (show ObjOk X.prog X.w H s.heap d (.frz o (DtO hs d ys)) from I.hok d _ h)
  rw [h1] at e1
  cases e1
  refine ⟨hd, h1, e2, es, ep, e3, ?_, fun i y hy => ?_⟩
  · rw [← Array.length_toList, e4, List.length_map, ← vp_len vp]
  · obtain ⟨x, hx, hv⟩ := paired_get vp hy
    refine ⟨⟨hs x.1, .ref x.2.1, x.2.2⟩, ?_, by rw [hv.2.1]⟩
    rw [← Array.getElem?_toList, e4, List.getElem?_map, hx]; rfl
section
variable {P : Program} {w : World} {K : PySem.W.Frag} {tg : Expr} {d : Addr} {o : Obj} {es : Array DictEntry} {ep : Nat} {hs : TKey → Int}
theorem turn_keysX {ys : List (TKey × Addr × V)} (it : Addr) (hod : o.data = .dict es ep) : Turn P w K tg (Itx hs d o ys) [it] it (fun i h => h.IsKeyIter it d i ys.length ep) where
  mem := by simp
  obj := fun i h st b hb => by
    have e : b = it := by simpa using hb
    subst e
    obtain ⟨oi, e, c, dd⟩ := st
    exact ⟨oi, e, fun v z => by rw [dd] at z; cases z⟩
  keep := fun i h h' st k => st.at fun oi e => k it (by simp) oi e
  item := by
    intro X hP hw hK hc i pins s σ H E I hf st hg
    subst hP hw hK
    obtain ⟨hd, hi⟩ := hg
    obtain ⟨f0, f1, f2, f3, f4, f5⟩ := hf it (by simp)
    obtain ⟨hs', hgd, hx, es', ep', hdt, hsz, ent⟩ := frz_dt I hd
    obtain ⟨rfl, rfl⟩ := dict_ep hod hdt
    obtain ⟨y, hy⟩ : ∃ y, ys[i]? = some y := ⟨_, List.getElem?_eq_getElem hi⟩
    obtain ⟨en, hen, hkey⟩ := ent i y hy
    refine next_key_item st hgd hdt hsz hen fun h' st' sb => ?_
    have I1 : Inv X pins σ H { s with heap := h' } := I.turned (t' := s.toks) (fun b ob hb e => (sb.2 b hb).trans e) f0 f1 f3 f4 f5
    obtain ⟨oi, e, c, dd⟩ := id st'
    exact ⟨en.key, rfl, go_of (s := { s with heap := h' }) e c dd (by decide) ⟨.ref y.2.1, H, I1, hkey, ⟨rfl, y, hy, rfl⟩, st', fun b hb => (hf b hb).1⟩⟩
  done := by
    intro X hP hw hK hc i pins s σ H E I hf st hg
    subst hP hw hK
    obtain ⟨hd, hi⟩ := hg
    obtain ⟨f0, f1, f2, f3, f4, f5⟩ := hf it (by simp)
    obtain ⟨hs', hgd, hx, es', ep', hdt, hsz, ent⟩ := frz_dt I hd
    obtain ⟨rfl, rfl⟩ := dict_ep hod hdt
    exact next_key_end (I.ok.hd hc) st hgd hdt hsz hi fun h' eb => ⟨rfl, I.turned (t' := s.toks) (fun b ob hb e => eb b ob hb e) f0 f1 f3 f4 f5⟩
  self := fun A i s Q E st h => by
    refine wpAny_pyIter_slot st.typeIs PySem.F.slot_dict_keyiterator_iter (wpAny_call_entry PySem.F.slot_dict_keyiterator_iter st.typeIs PySem.F.entry_dict_keyiterator_iter ?_ (PySem.F.args_dict_keyiterator_iter_1 _))
    show wpAny _ _ (ret (.ref it)) _ _ s
    exact wpAny_pure ⟨_, rfl, "dict_keyiterator", _, st.typeIs, PySem.F.slot_dict_keyiterator_next.lookup, h⟩
end
def iKeysE (hs : TKey → Int) (td : TE) : TI := fun σ H R => td σ H fun x H1 => ∃ d o, x = .ref d ∧ ((∃ kvs, H1 d = some (.frz o (.dK kvs)) ∧ R (Itk d o kvs) H1) ∨ ∃ ys, H1 d = some (.frz o (DtO hs d ys)) ∧ R (Itx hs d o ys) H1)
section
variable {nm : Nms} {X : Cx} {tg e : Expr} {me : EM} {pos : Pos}
theorem pi_keysE {hs : TKey → Int} {td : TE} (he : PE X e td) : PI X tg e (iKeysE hs td) := by
  refine ⟨fun pins s σ H R I h => ?_⟩
  refine thn (he.run pins s σ H _ I h) fun u s1 ⟨x, H1, I1, rx, d, o, ex, q⟩ => ?_
  subst ex
  obtain rfl : u = Value.ref d := rx
  rcases q with ⟨kvs, hd, q⟩ | ⟨kvs, hd, q⟩
  · obtain ⟨hs, hgd, hx, es, ep, vs, hdt, hsz, kv, hm⟩ := I1.frzK hd
    refine iter_keys hs hgd hx hdt (pi_one (tk := s1.toks) I1 _ (turn_keys _ hdt) ⟨_, Heap.get?_push_size _ rfl, rfl, ?_⟩ q)
    rw [hsz] <;> rfl
  · obtain ⟨hs', hgd, hx, es, ep, hdt, hsz, ent⟩ := frz_dt I1 hd
    refine iter_keys hs' hgd hx hdt (pi_one (tk := s1.toks) I1 _ (turn_keysX _ hdt) ⟨_, Heap.get?_push_size _ rfl, rfl, ?_⟩ q)
    rw [hsz] <;> rfl
def keysO : O → Option (List D)
  | .lck kvs => some (kvs.map fun kv => dkey kv.1)
  | .lkt kvs => some (kvs.map fun kv => tkD kv.1)
  | _ => none
/-- the keys of a locked dict -/
def iKeysL (m : EM) : IM := fun e S => (m e S).bind fun x S => match x with
  | .obj n => match S[n]? with
    | some o => match keysO o with
      | some ds => .ok ⟨ds, fun _ => True⟩ S
      | none => .stuck
    | none => .stuck
  | _ => .stuck
theorem mi_keysL (h : ME nm X e me) : MI nm X tg e (iKeysL me) := by
  refine ⟨fun W tk => (pi_keysE (hs := nm.hs) (h.run W tk)).imp fun σ H R hh => ?_⟩
  obtain ⟨ev, S, μ, E, s, p⟩ := hh
  refine ⟨ev, S, μ, E, s, (Post.bind p).mono fun d S1 μ1 H1 x1 s1 p1 v rv => ?_⟩
  split at p1
  · rename_i n
    cases rv with | @obj a _ en =>
    split at p1
    · rename_i o hS
      have ob := s1.ob _ _ _ en hS
      split at p1
      · rename_i ds hds
        unfold keysO at hds
        split at hds
        · rename_i kvs
          cases hds
          obtain ⟨od, ys, e1, r⟩ := ob
          refine ⟨a, od, rfl, .inl ⟨ys, e1, p1 μ1 H1 .refl s1 (Itk a od ys) (fun H _ => H a = some (.frz od (.dK ys))) (fun μ H μ' H' x h => x.fz _ _ _ h) e1 ?_⟩⟩
          intro i S3 μ3 H3 s3 c3 _
          refine ⟨fun d hd => ⟨⟨c3, ?_⟩, ?_⟩, fun hl => ⟨c3, ?_⟩⟩
          · have := (List.getElem?_eq_some_iff.mp hd).1
            rw [List.length_map] at this
            rw [rk_len r]; exact this
          · rintro x H' ⟨rfl, k, v, hk1, rfl⟩
            obtain ⟨q, hq, hkq⟩ := rk_keys r hk1
            have hd' : (kvs.map fun kv => dkey kv.1)[i]? = some (dkey q.1) := by rw [List.getElem?_map, hq]; rfl
            have : some d = some (dkey q.1) := hd.symm.trans hd'
            cases this
            refine ⟨.refl, s3, ?_⟩
            rw [← hkq]
            exact dkey_rv k
          · rw [List.length_map] at hl
            rw [rk_len r]; exact hl
        · rename_i kvs
          cases hds
          obtain ⟨od, ys, e1, r⟩ := ob
          refine ⟨a, od, rfl, .inr ⟨ys, e1, p1 μ1 H1 .refl s1 (Itx nm.hs a od ys) (fun H μ => H a = some (.frz od (DtO nm.hs a ys)) ∧ RT X.K H μ ys kvs) (fun μ H μ' H' x h => ⟨x.fz _ _ _ h.1, RT.ext x h.2⟩) ⟨e1, r⟩ ?_⟩⟩
          intro i S3 μ3 H3 s3 c3 _
          refine ⟨fun d hd => ⟨⟨c3.1, ?_⟩, ?_⟩, fun hl => ⟨c3.1, ?_⟩⟩
          · have := (List.getElem?_eq_some_iff.mp hd).1
            rw [List.length_map] at this
            rw [rt_len r]; exact this
          · rintro x H' ⟨rfl, y, hy, rfl⟩
            obtain ⟨q, hq, hr⟩ := paired_get c3.2 hy
            have hd' : (kvs.map fun kv => tkD kv.1)[i]? = some (tkD q.1) := by rw [List.getElem?_map, hq]; rfl
            have : some d = some (tkD q.1) := hd.symm.trans hd'
            cases this
            refine ⟨.refl, s3, ?_⟩
            obtain ⟨xs, t, rr⟩ := hr.2.1
            rw [hr.1] at rr
            exact .tup t rr
          · rw [List.length_map] at hl
            rw [rt_len r]; exact hl
        · cases hds
      · exact False.elim p1
    · exact False.elim p1
  · exact False.elim p1
/-- the values of a locked dict -/
def iValsL (m : EM) : IM := fun e S => (m e S).bind fun x S => match x with
  | .obj n => match S[n]? with
    | some (.lck kvs) => .ok ⟨kvs.map (·.2), fun _ => True⟩ S
    | _ => .stuck
  | _ => .stuck
theorem mi_valsL {apos cpos : Pos} (h : ME nm X e me) (hbase : attributeBase e "values" X.env (eval e X.env) = eval e X.env := by rfl) (hline : (apos.endLine == cpos.line) = true := by rfl) : MI nm X tg (.Call (.Attribute e "values" apos) [] [] cpos) (iValsL me) := by
  refine ⟨fun W tk => (pi_values (h.run W tk) hbase hline).imp fun σ H R hh => ?_⟩
  obtain ⟨ev, S, μ, E, s, p⟩ := hh
  refine ⟨ev, S, μ, E, s, (Post.bind p).mono fun d S1 μ1 H1 x1 s1 p1 v rv => ?_⟩
  split at p1
  · rename_i n
    cases rv with | @obj a _ en =>
    split at p1
    · rename_i kvs hS
      obtain ⟨od, ys, e1, r⟩ := s1.ob _ _ _ en hS
      refine ⟨a, od, ys, rfl, e1, p1 μ1 H1 .refl s1 (Itd a od ys) (fun H μ => H a = some (.frz od (.dK ys)) ∧ RK X.K H μ ys kvs) (fun μ H μ' H' x h => ⟨x.fz _ _ _ h.1, RK.ext x h.2⟩) ⟨e1, r⟩ ?_⟩
      intro i S3 μ3 H3 s3 c3 _
      refine ⟨fun d hd => ⟨⟨c3.1, ?_⟩, ?_⟩, fun hl => ⟨c3.1, ?_⟩⟩
      · have := (List.getElem?_eq_some_iff.mp hd).1
        rw [List.length_map] at this
        rw [rk_len r]; exact this
      · rintro x H' ⟨rfl, k, hk⟩
        obtain ⟨q, hq, hr⟩ := paired_get c3.2 hk
        have hd' : (kvs.map (·.2))[i]? = some q.2 := by rw [List.getElem?_map, hq]; rfl
        have : some d = some q.2 := hd.symm.trans hd'
        cases this
        exact ⟨.refl, s3, hr.2⟩
      · rw [List.length_map] at hl
        rw [rk_len r]; exact hl
    · exact False.elim p1
  · exact False.elim p1
end
end BS
namespace BS
open PySem PySem.Spec PyProof.Rows L2
section
variable {nm : Nms} {X : Cx}
/-- list(d), d a dict: its keys -/
def fnListK (new : Bool) : FM := fun ds S => match ds with
  | [.obj n] => match S[n]? with
    | some (.dct kvs) => fin new (kvs.map fun kv => dkey kv.1) S
    | _ => .stuck
  | _ => .stuck
theorem keys_rvs {K : PySem.W.Frag} {H : Hp} {μ : List Addr} : ∀ {ys : List (Key × V)} {kvs : List (Key × D)}, RK K H μ ys kvs → RVs K H μ (ys.map fun kv => kV kv.1) (kvs.map fun kv => dkey kv.1)
  | _, _, .nil => .nil
  | p :: ys, q :: kvs, .cons r t => by
    rw [List.map_cons, List.map_cons]
    refine .cons ?_ (keys_rvs t)
    rw [r.1]
    exact dkey_rv q.1
theorem c_listK (new : Bool) (hc : X.calm = true) : CallD nm X (.type "list") (fnListK new) := by
  intro pins s σ H xs us Q I r h
  obtain ⟨ds, S, μ, E, rv, sm, p⟩ := h
  unfold fnListK at p
  split at p
  · rename_i n
    obtain ⟨v, rfl, r1⟩ := one_rv rv
    split at p
    · rename_i kvs hS
      cases r1 with | @obj a _ en =>
      obtain ⟨ys, e1, rk⟩ := sm.ob _ _ _ en hS
      exact call_list_dK hc pins s σ H _ us Q I r ⟨a, ys, rfl, e1, fun q hq => fin_post sm (keys_rvs rk) hq p⟩
    · exact False.elim p
  · exact False.elim p
end
end BS
namespace BS
open PySem PySem.Spec PyProof.Rows L2
section
variable {nm : Nms} {X : Cx}
def fnGetT2 : FM := fun ds S => match ds with
  | [x, k, y] => match tabD S x with
    | some kvs => match tkOf k with
      | some key => .ok ((getT kvs key).getD y) S
      | none => .stuck
    | none => .stuck
  | _ => .stuck
theorem t_getT2 {k : Nat} (hr : L2H.RoomH k X.A) (hh : nm.hs = tkHash X.w := by rfl) : MtD nm X "dict.get" fnGetT2 := by
  intro pins s σ H x xs v us Q I rx r h
  obtain ⟨ds, S, μ, E, rv, sm, p⟩ := h
  unfold fnGetT2 at p
  split at p
  · rename_i dx dk dy
    obtain ⟨r1, rt⟩ := rvs_cons rv
    obtain ⟨y, y2, rfl, r2, r3⟩ := two_rv rt
    obtain ⟨u, f, rfl, ru, rf⟩ := vals2 r
    split at p
    · rename_i kvs hk
      split at p
      · rename_i tk htk
        obtain ⟨n, a, o, rfl, rfl, en, hS, ht⟩ := tab_at sm r1 hk
        obtain ⟨kb, rfl, ka⟩ := tk_at r2 htk
        cases rx
        cases ru
        obtain ⟨ys, rt', dte⟩ := tab_heap I sm en hS ht
        obtain ⟨z, hd, xs, vp, dd⟩ := dt_heap hh I rt' dte
        refine call_meetsIn PySem.F.slot_dict_get dd.typeIs PySem.F.entry_dict_get (PySem.F.args_dict_get_3 _ _ _) (meetsH_dict_get_default (nestedKind X.prog X.w) a kb hd f) ⟨room_of hr, tkN tk, xs.map kx, key_is I ka, dd, ?_⟩
        rcases getT_val tk rt' with ⟨h1, h2⟩ | ⟨b1, v1, d1, h1, h2, h3⟩
        · rw [h2] at p
          rcases vp_get tk vp with ⟨h4, h5⟩ | ⟨b2, v2, u2, h4, h5, h6⟩
          · rw [h5]
            exact ⟨y2, H, I.tok _, rf, p μ H .refl sm y2 r3⟩
          · rw [h1] at h4; cases h4
        · rw [h2] at p
          rcases vp_get tk vp with ⟨h4, h5⟩ | ⟨b2, v2, u2, h4, h5, h6⟩
          · rw [h1] at h4; cases h4
          · rw [h1] at h4; cases h4
            rw [h5]
            exact ⟨v1, H, I.tok _, h6, p μ H .refl sm v1 h3⟩
      · exact False.elim p
    · exact False.elim p
  · exact False.elim p
end
end BS
namespace BS
open PySem PySem.Spec PyProof.Rows L2
@[simp] theorem mVar_ev (i : Nat) (e : Ev) (S : Store) : mVar i e S = match e.sl[i]? with
  | some (some d) => .ok d S
  | _ => .stuck := rfl
@[simp] theorem mC_ev (d : D) (z0 : Ev) (S : Store) : mC d z0 S = .ok d S := rfl
@[simp] theorem mBin_ev (f : Store → D → D → Option D) (a b : EM) (e : Ev) (S : Store) : mBin f a b e S = (a e S).bind fun x S => (b e S).bind fun y S => lift2 f S x y := rfl
@[simp] theorem mUn_ev (f : Store → D → Option D) (a : EM) (e : Ev) (S : Store) : mUn f a e S = (a e S).bind fun x S => match f S x with
  | some d => .ok d S
  | none => .stuck := rfl
@[simp] theorem mBl_ev (m : EM) (e : Ev) (S : Store) : mBl m e S = (m e S).bind fun d S => match asB d with
  | some b => .ok b S
  | none => .stuck := rfl
@[simp] theorem mChain_ev (f g : Store → D → D → Option D) (a b c : EM) (e : Ev) (S : Store) : mChain f g a b c e S = (a e S).bind fun x S => (b e S).bind fun y S => (lift2 f S x y).bind fun z S => match asB z with
  | some true => (c e S).bind fun w S => lift2 g S y w
  | some false => .ok (.bl false) S
  | none => .stuck := rfl
@[simp] theorem mAnd_ev (a b : TM) (e : Ev) (S : Store) : mAnd a b e S = (a e S).bind fun k S => if k = true then b e S else .ok false S := rfl
@[simp] theorem mOr_ev (a b : TM) (e : Ev) (S : Store) : mOr a b e S = (a e S).bind fun k S => if k = true then .ok true S else b e S := rfl
@[simp] theorem mNot_ev (a : TM) (e : Ev) (S : Store) : mNot a e S = (a e S).bind fun k S => .ok (!k) S := rfl
@[simp] theorem mAndV_ev (a b : EM) (e : Ev) (S : Store) : mAndV a b e S = (a e S).bind fun d S => match asB d with
  | some true => b e S
  | some false => .ok (.bl false) S
  | none => .stuck := rfl
@[simp] theorem mOrV_ev (a b : EM) (e : Ev) (S : Store) : mOrV a b e S = (a e S).bind fun d S => match asB d with
  | some false => b e S
  | some true => .ok (.bl true) S
  | none => .stuck := rfl
@[simp] theorem mNotV_ev (a : EM) (e : Ev) (S : Store) : mNotV a e S = (a e S).bind fun d S => match asB d with
  | some k => .ok (.bl (!k)) S
  | none => .stuck := rfl
@[simp] theorem mIf_ev (c : TM) (a b : EM) (e : Ev) (S : Store) : mIf c a b e S = (c e S).bind fun k S => if k = true then a e S else b e S := rfl
@[simp] theorem mNil_ev (z0 : Ev) (S : Store) : mNil z0 S = .ok [] S := rfl
@[simp] theorem mCons_ev (m : EM) (r : AM) (e : Ev) (S : Store) : mCons m r e S = (m e S).bind fun d S => (r e S).bind fun ds S => .ok (d :: ds) S := rfl
@[simp] theorem mTup_ev (m : AM) (e : Ev) (S : Store) : mTup m e S = (m e S).bind fun ds S => .ok (.tup ds) S := rfl
@[simp] theorem mLst_ev (new : Bool) (m : AM) (e : Ev) (S : Store) : mLst new m e S = (m e S).bind fun ds S => fin new ds S := rfl
@[simp] theorem mDct_ev (z0 : Ev) (S : Store) : mDct z0 S = .ok (.obj S.length) (S ++ [.dct []]) := rfl
@[simp] theorem oNo_ev (z0 : Ev) (S : Store) : oNo z0 S = .ok none S := rfl
@[simp] theorem oAt_ev (m : EM) (e : Ev) (S : Store) : oAt m e S = (m e S).bind fun d S => match d with
  | .int i => .ok (some i) S
  | _ => .stuck := rfl
@[simp] theorem mSl_ev (new : Bool) (a : EM) (lo hi : OM) (e : Ev) (S : Store) : mSl new a lo hi e S = (a e S).bind fun x S => (lo e S).bind fun l S => (hi e S).bind fun h S => slS new S x l h := rfl
@[simp] theorem mCall_ev (F : FM) (as : AM) (e : Ev) (S : Store) : mCall F as e S = (as e S).bind F := rfl
@[simp] theorem mMeth_ev (c : Nat) (F : FM) (o : EM) (as : AM) (e : Ev) (S : Store) : mMeth c F o as e S = (o e S).bind fun x S => if isIns c S x = true then (as e S).bind fun ds S => F (x :: ds) S else .stuck := rfl
@[simp] theorem mNew_ev (c : Nat) (F : FM) (as : AM) (e : Ev) (S : Store) : mNew c F as e S = (as e S).bind fun ds S => (F (.obj S.length :: ds) (S ++ [.ins c []])).bind fun d S' => if isNon d = true then .ok (.obj S.length) S' else .stuck := rfl
@[simp] theorem mSkip_ev (e : Ev) (S : Store) : mSkip e S = .nx e S := rfl
@[simp] theorem mSeq_ev (a b : SM) (e : Ev) (S : Store) : mSeq a b e S = (a e S).seq b := rfl
@[simp] theorem mBrk_ev (e : Ev) (S : Store) : mBrk e S = .bk e S := rfl
@[simp] theorem mCnt_ev (e : Ev) (S : Store) : mCnt e S = .ct e S := rfl
@[simp] theorem mExpr_ev (m : EM) (e : Ev) (S : Store) : mExpr m e S = (m e S).toS e fun _ S => .nx e S := rfl
@[simp] theorem mRet_ev (m : EM) (e : Ev) (S : Store) : mRet m e S = (m e S).toS e fun d S => .rt d S := rfl
@[simp] theorem mRetN_ev (z0 : Ev) (S : Store) : mRetN z0 S = .rt .non S := rfl
@[simp] theorem mIfS_ev (c : TM) (a b : SM) (e : Ev) (S : Store) : mIfS c a b e S = (c e S).toS e fun k S => if k = true then a e S else b e S := rfl
@[simp] theorem gNm_ev (i : Nat) (d : D) (e : Ev) (S : Store) : gNm i d e S = .nx (e.set i d) S := rfl
@[simp] theorem gTp_ev (n : Nat) (g : GsM) (d : D) (e : Ev) (S : Store) : gTp n g d e S = match tupOf d with
  | some ds => if ds.length = n then g ds e S else .stuck
  | none => .stuck := rfl
@[simp] theorem mAsg_ev (m : EM) (g : GM) (e : Ev) (S : Store) : mAsg m g e S = (m e S).toS e fun d S => g d e S := rfl
@[simp] theorem mPar_ev (i j : Nat) (m : AM) (e : Ev) (S : Store) : mPar i j m e S = (m e S).toS e fun ds S => match ds with
  | [a, b] => .nx ((e.set i a).set j b) S
  | _ => .stuck := rfl
@[simp] theorem mSetF_ev (cs : List Nat) (f : Nat) (o m : EM) (e : Ev) (S : Store) : mSetF cs f o m e S = (m e S).toS e fun y S => (o e S).toS e fun x S => match putF_ cs f S x y with
  | some S => .nx e S
  | none => .stuck := rfl
@[simp] theorem iLs_ev (m : EM) (e : Ev) (S : Store) : iLs m e S = (m e S).bind fun x S => wkS S x := rfl
@[simp] theorem iTp_ev (m : EM) (e : Ev) (S : Store) : iTp m e S = (m e S).bind fun x S => match tupOf x with
  | some ds => .ok ⟨ds, fun _ => True⟩ S
  | none => .stuck := rfl
@[simp] theorem iRng_ev (as : AM) (e : Ev) (S : Store) : iRng as e S = (as e S).bind fun ds S => match ds with
  | [.int j] => if rngOk j then .ok ⟨intsFrom 0 j.toNat, fun _ => True⟩ S else .stuck
  | [.int i, .int j] => if rngOk i ∧ rngOk j then .ok ⟨intsFrom i (j - i).toNat, fun _ => True⟩ S else .stuck
  | _ => .stuck := rfl
@[simp] theorem mFor_ev (it : IM) (g : GM) (b : SM) (e : Ev) (S : Store) : mFor it g b e S = (it e S).toS e fun w S => forL w.G g b w.ds e S := rfl
@[simp] theorem gSb_ev (o i : EM) (v : D) (e : Ev) (S : Store) : gSb o i v e S = (o e S).toS e fun x S => (i e S).toS e fun y S => match setS S x y v with
  | some S => .nx e S
  | none => .stuck := rfl
@[simp] theorem mAug_ev (i : Nat) (f : Store → D → D → Option D) (m : EM) (e : Ev) (S : Store) : mAug i f m e S = match e.sl[i]? with
  | some (some x) => (m e S).toS e fun y S => (lift2 f S x y).toS e fun z S => .nx (e.set i z) S
  | _ => .stuck := rfl
@[simp] theorem mAugF_ev (c : Nat) (f : Nat) (g : Store → D → D → Option D) (o m : EM) (e : Ev) (S : Store) : mAugF c f g o m e S = (o e S).toS e fun x S => match getF [c] f S x with
  | some y => (m e S).toS e fun z S => (lift2 g S y z).toS e fun w S => match putF_ [c] f S x w with
    | some S => .nx e S
    | none => .stuck
  | none => .stuck := rfl
@[simp] theorem mDel_ev (o i : EM) (e : Ev) (S : Store) : mDel o i e S = (o e S).toS e fun x S => (i e S).toS e fun y S => match delS S x y with
  | some S => .nx e S
  | none => .stuck := rfl
@[simp] theorem mRaise0_ev (c : Nat) (e : Ev) (S : Store) : mRaise0 c e S = .exc c [] e S := rfl
@[simp] theorem mNever_ev (z0 : Ev) (z1 : Store) : mNever z0 z1 = .stuck := rfl
@[simp] theorem mTry_ev (yes no : List Nat) (b s : SM) (e : Ev) (S : Store) : mTry yes no b s e S = (b e.clr S).caught yes no fun _ _ e S => (s e S).nox := rfl
@[simp] theorem mTryAs_ev (i : Nat) (yes no : List Nat) (b s : SM) (e : Ev) (S : Store) : mTryAs i yes no b s e S = (b e.clr S).caught yes no fun c fs e S => if i < e.sl.length then (s (e.exn i c fs) S).gone i else .stuck := rfl
@[simp] theorem fnInt_ev (ds : List D) (S : Store) : fnInt ds S = match ds with
  | [.int i] => .ok (.int i) S
  | [.bl b] => .ok (.int (if b = true then 1 else 0)) S
  | [.str a] => match PySem.intText? a with
    | some n => if a.length ≤ 640 then .ok (.int n) S else .stuck
    | none => .stuck
  | _ => .stuck := rfl
@[simp] theorem fnLen_ev (ds : List D) (S : Store) : fnLen ds S = match ds with
  | [d] => match lenS S d with
    | some n => .ok (.int n) S
    | none => .stuck
  | _ => .stuck := rfl
@[simp] theorem fnList_ev (new : Bool) (ds : List D) (S : Store) : fnList new ds S = match ds with
  | [d] => match seqOf S d with
    | some ds => fin new ds S
    | none => .stuck
  | _ => .stuck := rfl
@[simp] theorem fnTuple_ev (ds : List D) (S : Store) : fnTuple ds S = match ds with
  | [.tup ds] => .ok (.tup ds) S
  | [d] => match lstOf S d with
    | some ds => .ok (.tup ds) S
    | none => .stuck
  | _ => .stuck := rfl
@[simp] theorem fnAbs_ev (ds : List D) (S : Store) : fnAbs ds S = match ds with
  | [.int i] => .ok (.int (if i < 0 then -i else i)) S
  | _ => .stuck := rfl
@[simp] theorem fnStr_ev (ds : List D) (S : Store) : fnStr ds S = match ds with
  | [.int i] => if i.natAbs.log2 < 1920 then .ok (.str (Str.ofString (toString i))) S else .stuck
  | _ => .stuck := rfl
@[simp] theorem fnOrd_ev (ds : List D) (S : Store) : fnOrd ds S = match ds with
  | [.str z] => if z.length = 1 then .ok (.int (z.cps.getD 0 0 : Nat)) S else .stuck
  | _ => .stuck := rfl
@[simp] theorem mBm_ev (T : Ty) (F : FM) (o : EM) (as : AM) (e : Ev) (S : Store) : mBm T F o as e S = (o e S).bind fun x S => match tyS S x with
  | some t => if isTy t T = true then (as e S).bind fun ds S => F (x :: ds) S else .stuck
  | none => .stuck := rfl
@[simp] theorem fnAppend_ev (ds : List D) (S : Store) : fnAppend ds S = match ds with
  | [.obj n, d] => match S[n]? with
    | some (.lst ds) => if ds.length < sizeLine then .ok .non (S.set n (.lst (ds ++ [d]))) else .stuck
    | _ => .stuck
  | _ => .stuck := rfl
@[simp] theorem fnExtend_ev (ds : List D) (S : Store) : fnExtend ds S = match ds with
  | [.obj n, d] => match S[n]? with
    | some (.lst ds) => match d with
      | .scr _ => .stuck
      | _ => match lstOf S d with
        | some es => if ds.length + es.length ≤ sizeLine then .ok .non (S.set n (.lst (ds ++ es))) else .stuck
        | none => .stuck
    | _ => .stuck
  | _ => .stuck := rfl
@[simp] theorem fnPopL_ev (ds : List D) (S : Store) : fnPopL ds S = match ds with
  | [.obj n, .int i] => match S[n]? with
    | some (.lst ds) => match ixN ds.length i with
      | some k => match ds[k]? with
        | some d => if i < 2 ^ 62 then .ok d (S.set n (.lst (ds.eraseIdx k))) else .stuck
        | none => .stuck
      | none => .stuck
    | _ => .stuck
  | _ => .stuck := rfl
@[simp] theorem mXf_ev (i c f : Nat) (e : Ev) (S : Store) : mXf i c f e S = match getX e.ex i c f with
  | some d => .ok d S
  | none => .stuck := rfl
@[simp] theorem mRaise2_ev (c f1 f2 : Nat) (as : AM) (e : Ev) (S : Store) : mRaise2 c f1 f2 as e S = (as e S).toS e fun ds S => match ds with
  | [x, y] => .exc c [(f2, y), (f1, x)] e S
  | _ => .stuck := rfl
@[simp] theorem iAny_ev (m : EM) (e : Ev) (S : Store) : iAny m e S = (m e S).bind fun x S => wkA S x := rfl
@[simp] theorem fnMax2_ev (ds : List D) (S : Store) : fnMax2 ds S = match ds with
  | [.int i, .int j] => .ok (.int (if i < j then j else i)) S
  | [.str a, .str b] => .ok (.str (if ltS a b = true then b else a)) S
  | _ => .stuck := rfl
@[simp] theorem fnMin2_ev (ds : List D) (S : Store) : fnMin2 ds S = match ds with
  | [.int i, .int j] => .ok (.int (if j < i then j else i)) S
  | [.str a, .str b] => .ok (.str (if ltS b a = true then b else a)) S
  | _ => .stuck := rfl
@[simp] theorem mDisp_ev (ms : List (EM × EM)) (e : Ev) (S : Store) : mDisp ms e S = (evalPs ms e (S ++ [.dct []])).bind fun ps S2 => match keysOf ps with
  | some kvs => match S2[S.length]? with
    | some (.dct []) => if kvs.length ≤ 15 then .ok (.obj S.length) (S2.set S.length (.dct (mergeD kvs))) else .stuck
    | _ => .stuck
  | none => .stuck := rfl
@[simp] theorem fnGet2_ev (ds : List D) (S : Store) : fnGet2 ds S = match ds with
  | [x, k, d] => match dctOf S x with
    | some kvs => match keyOf k with
      | some key => .ok ((getK kvs key).getD d) S
      | none => .stuck
    | none => .stuck
  | _ => .stuck := rfl
@[simp] theorem mTru_ev (m : EM) (e : Ev) (S : Store) : mTru m e S = (m e S).bind fun d S => match truS S d with
  | some b => .ok b S
  | none => .stuck := rfl
@[simp] theorem mTabIn_ev (neg : Bool) (kvs : List (Key × D)) (m : EM) (e : Ev) (S : Store) : mTabIn neg kvs m e S = (m e S).bind fun d S => match keyOf d with
  | some k => .ok (if neg = true then !(getK kvs k).isSome else (getK kvs k).isSome) S
  | none => .stuck := rfl
@[simp] theorem mTabGet_ev (kvs : List (Key × D)) (m : EM) (e : Ev) (S : Store) : mTabGet kvs m e S = (m e S).bind fun d S => match keyOf d with
  | some k => match getK kvs k with
    | some d => .ok d S
    | none => .stuck
  | none => .stuck := rfl
@[simp] theorem mCat_ev (new : Bool) (a b : EM) (e : Ev) (S : Store) : mCat new a b e S = (a e S).bind fun x S => (b e S).bind fun y S => catS new S x y := rfl
@[simp] theorem mRep_ev (new : Bool) (a b : EM) (e : Ev) (S : Store) : mRep new a b e S = (a e S).bind fun x S => (b e S).bind fun y S => repS new S x y := rfl
@[simp] theorem mYes_ev (z0 : Ev) (S : Store) : mYes z0 S = .ok true S := rfl
@[simp] theorem mLc_ev (vs : List Nat) (t : LT) (it : IM) (tt : TM) (el : EM) (e : Ev) (S : Store) : mLc vs t it tt el e S = (it e S).bind fun w S1 => (lcL S1.length w.G t (e.wip vs) tt el w.ds (S1 ++ [.lst []])).bind fun _ S2 => .ok (.obj S1.length) S2 := rfl
@[simp] theorem fnAll_ev (ds : List D) (S : Store) : fnAll ds S = match ds with
  | [d] => match lstOf S d with
    | some xs => match blsOf xs with
      | some bs => .ok (.bl (bs.all id)) S
      | none => .stuck
    | none => .stuck
  | _ => .stuck := rfl
@[simp] theorem fnAny_ev (ds : List D) (S : Store) : fnAny ds S = match ds with
  | [d] => match lstOf S d with
    | some xs => match blsOf xs with
      | some bs => .ok (.bl (bs.any id)) S
      | none => .stuck
    | none => .stuck
  | _ => .stuck := rfl
@[simp] theorem mIsE_ev (i : Nat) (yes no : List Nat) (e : Ev) (S : Store) : mIsE i yes no e S = match isX e.ex i yes no with
  | some b => .ok (.bl b) S
  | none => .stuck := rfl
@[simp] theorem fnPopD_ev (ds : List D) (S : Store) : fnPopD ds S = match ds with
  | [.obj n, k] => popS S n k none
  | [.obj n, k, x] => popS S n k (some x)
  | _ => .stuck := rfl
@[simp] theorem fnDict_ev (ds : List D) (S : Store) : fnDict ds S = match ds with
  | [d] => match dctOf S d with
    | some kvs => .ok (.obj S.length) (S ++ [.dct kvs])
    | none => .stuck
  | _ => .stuck := rfl
@[simp] theorem fnSorted_ev (new : Bool) (ds : List D) (S : Store) : fnSorted new ds S = match ds with
  | [d] => match lstOf S d with
    | some xs => match BS.intsOf xs with
      | some ns => fin new ((sortI ns).map .int) S
      | none => match BS.strsOf xs with
        | some zs => if zs.length < 64 then fin new ((sortT zs).map .str) S else .stuck
        | none => .stuck
    | none => match dctOf S d with
      | some kvs => match keysI kvs with
        | some ns => if ns.length < 64 then fin new ((sortI ns).map .int) S else .stuck
        | none => match keysT kvs with
          | some zs => fin new ((sortT zs).map .str) S
          | none => .stuck
      | none => .stuck
  | _ => .stuck := rfl
@[simp] theorem mPar3_ev (i j l : Nat) (m : AM) (e : Ev) (S : Store) : mPar3 i j l m e S = (m e S).toS e fun ds S => match ds with
  | [a, b, c] => .nx (((e.set i a).set j b).set l c) S
  | _ => .stuck := rfl
@[simp] theorem mForK_ev (i : EM) (g : GM) (b : SM) (e : Ev) (S : Store) : mForK i g b e S = match i e S with
  | .ok (.obj n) _ => match S[n]? with
    | some (.dct kvs) => RS.unl n ((i e (S.set n (.lck kvs))).toS e fun x S1 => match x with
      | .obj m => if m = n then (match S1[n]? with
        | some (.lck ks) => forL (fun _ => True) g b (ks.map fun kv => dkey kv.1) e S1
        | _ => .stuck) else .stuck
      | _ => .stuck)
    | _ => .stuck
  | _ => .stuck := rfl
@[simp] theorem fnSortedR_ev (new : Bool) (ds : List D) (S : Store) : fnSortedR new ds S = match ds with
  | [d] => match dctOf S d with
    | some kvs => match keysT kvs with
      | some zs => fin new ((sortT zs).reverse.map .str) S
      | none => .stuck
    | none => .stuck
  | _ => .stuck := rfl
@[simp] theorem mRev_ev (new : Bool) (a : EM) (e : Ev) (S : Store) : mRev new a e S = (a e S).bind fun x S => slRev new S x := rfl
@[simp] theorem fnGet1_ev (ds : List D) (S : Store) : fnGet1 ds S = match ds with
  | [x, k] => match dctOf S x with
    | some kvs => match keyOf k with
      | some key => .ok ((getK kvs key).getD .non) S
      | none => .stuck
    | none => .stuck
  | _ => .stuck := rfl
@[simp] theorem fnFind1_ev (ds : List D) (S : Store) : fnFind1 ds S = match ds with
  | [.str a, .str b] => .ok (.int (Txt.find a b)) S
  | _ => .stuck := rfl
@[simp] theorem fnFind2_ev (ds : List D) (S : Store) : fnFind2 ds S = match ds with
  | [.str a, .str b, .int i] => .ok (.int (Txt.find3 a b i)) S
  | _ => .stuck := rfl
@[simp] theorem fnStartswith_ev (ds : List D) (S : Store) : fnStartswith ds S = match ds with
  | [.str a, .str b] => .ok (.bl (Txt.startswith a b)) S
  | _ => .stuck := rfl
@[simp] theorem fnJoin_ev (ds : List D) (S : Store) : fnJoin ds S = match ds with
  | [.str a, d] => match seqOf S d with
    | some ds => match txtsOf ds with
      | some ys => if (ys.map (·.length)).sum + ys.length * a.length ≤ 16777216 then .ok (.str (Str.join a ys)) S else .stuck
      | none => .stuck
    | none => .stuck
  | _ => .stuck := rfl
@[simp] theorem mRepl_ev (y z : Str) (mo : EM) (e : Ev) (S : Store) : mRepl y z mo e S = (mo e S).bind fun d S => match d with
  | .str x => if x.length + (x.length + 1) * z.length ≤ 16777216 then .ok (.str (Txt.replace x y z)) S else .stuck
  | _ => .stuck := rfl
@[simp] theorem mFmt_ev (m : EM) (e : Ev) (S : Store) : mFmt m e S = (m e S).bind fun d S => match d with
  | .str y => if y.length ≤ sizeLine then .ok (.str y) S else .stuck
  | .int i => if i.natAbs.log2 < 1920 then .ok (.str (Str.ofString (toString i))) S else .stuck
  | _ => .stuck := rfl
@[simp] theorem mJoined_ev (m : JM) (e : Ev) (S : Store) : mJoined m e S = m Str.empty e S := rfl
@[simp] theorem mTry2_ev (i : Nat) (y1 n1 y2 n2 : List Nat) (b s1 s2 : SM) (e : Ev) (S : Store) : mTry2 i y1 n1 y2 n2 b s1 s2 e S = (b e.clr S).caught (y1 ++ n1) [] fun c fs e S => if y1.contains c = true then (if i < e.sl.length then (s1 (e.exn i c fs) S).gone i else .stuck) else if y2.contains c = true then (s2 e S).nox else if n2.contains c = true then .exc c fs e S else .stuck := rfl
@[simp] theorem mAugI_ev (f : Store → D → D → Option D) (o i m : EM) (e : Ev) (S : Store) : mAugI f o i m e S = (o e S).toS e fun x S => (i e S).toS e fun y S => match fIxA S x y with
  | some z => (m e S).toS e fun u S => (lift2 f S z u).toS e fun v S => match setS S x y v with
    | some S => .nx e S
    | none => .stuck
  | none => .stuck := rfl
@[simp] theorem fnIndex_ev (ds : List D) (S : Store) : fnIndex ds S = match ds with
  | [x, .int k] => match lstOf S x with
    | some es => match BS.intsOf es with
      | some ns => match idxI ns k with
        | some j => .ok (.int j) S
        | none => .stuck
      | none => .stuck
    | none => .stuck
  | _ => .stuck := rfl
@[simp] theorem fnMM_ev (g : List Int → Int) (ds : List D) (S : Store) : fnMM g ds S = match ds with
  | [x] => match lstOf S x with
    | some es => match BS.intsOf es with
      | some ns => if 0 < ns.length then .ok (.int (g ns)) S else .stuck
      | none => .stuck
    | none => .stuck
  | _ => .stuck := rfl
@[simp] theorem mLcX_ev (vs : List Nat) (t : LT) (it : IM) (tt : TM) (el : EM) (e : Ev) (S : Store) : mLcX vs t it tt el e S = (it e S).bind fun w S1 => (lcLX S1.length w.G t (e.wip vs) tt el w.ds (S1 ++ [.lst []])).bind fun _ S2 => .ok (.obj S1.length) S2 := rfl
@[simp] theorem gFd_ev (cs : List Nat) (f : Nat) (o : EM) (d : D) (e : Ev) (S : Store) : gFd cs f o d e S = (o e S).toS e fun x S => match putF_ cs f S x d with
  | some S => .nx e S
  | none => .stuck := rfl
@[simp] theorem mSortSet_ev (new : Bool) (me : EM) (e : Ev) (S : Store) : mSortSet new me e S = (me e S).bind fun d S1 => match lstOf S1 d with
  | some xs => match BS.strsOf xs with
    | some zs => if zs.length < 1000 then fin new ((setSort zs).map .str) S1 else .stuck
    | none => .stuck
  | none => .stuck := rfl
@[simp] theorem fnInsert_ev (ds : List D) (S : Store) : fnInsert ds S = match ds with
  | [.obj n, .int i, d] => match S[n]? with
    | some (.lst ds) => if ds.length < sizeLine ∧ 0 ≤ i ∧ i < 4611686018427387904 then .ok .non (S.set n (.lst (ds.take i.toNat ++ [d] ++ ds.drop i.toNat))) else .stuck
    | _ => .stuck
  | _ => .stuck := rfl
@[simp] theorem gLs_ev (n : Nat) (g : GsM) (d : D) (e : Ev) (S : Store) : gLs n g d e S = match lstOf S d with
  | some ds => if ds.length = n then g ds e S else .stuck
  | none => .stuck := rfl
@[simp] theorem gSbT_ev (o i : EM) (v : D) (e : Ev) (S : Store) : gSbT o i v e S = (o e S).toS e fun x S => (i e S).toS e fun y S => match setTS S x y v with
  | some S => .nx e S
  | none => .stuck := rfl
@[simp] theorem mDelT_ev (o i : EM) (e : Ev) (S : Store) : mDelT o i e S = (o e S).toS e fun x S => (i e S).toS e fun y S => match delTS S x y with
  | some S => .nx e S
  | none => .stuck := rfl
@[simp] theorem mBmT_ev (F : FM) (o : EM) (as : AM) (e : Ev) (S : Store) : mBmT F o as e S = (o e S).bind fun x S => match tabD S x with
  | some _ => (as e S).bind fun ds S => F (x :: ds) S
  | none => .stuck := rfl
@[simp] theorem fnPopT_ev (ds : List D) (S : Store) : fnPopT ds S = match ds with
  | [.obj n, k] => match S[n]? with
    | some (.dkt kvs) => match tkOf k with
      | some key => match getT kvs key with
        | some d => .ok d (S.set n (.dkt (dropT kvs key)))
        | none => .stuck
      | none => .stuck
    | _ => .stuck
  | _ => .stuck := rfl
@[simp] theorem fnGetT_ev (ds : List D) (S : Store) : fnGetT ds S = match ds with
  | [x, k] => match tabD S x with
    | some kvs => match tkOf k with
      | some key => .ok ((getT kvs key).getD .non) S
      | none => .stuck
    | none => .stuck
  | _ => .stuck := rfl
@[simp] theorem mListVals_ev (new : Bool) (m : EM) (e : Ev) (S : Store) : mListVals new m e S = (m e S).bind fun d S => match valsD S d with
  | some vs => fin new vs S
  | none => .stuck := rfl
@[simp] theorem lockS_ev (i : EM) (b : SM) (e : Ev) (S : Store) : lockS i b e S = match i e S with
  | .ok (.obj n) _ => match S[n]? with
    | some o => match lockO o with
      | some o' => RS.unL n (b e (S.set n o'))
      | none => .stuck
    | none => .stuck
  | _ => .stuck := rfl
@[simp] theorem lockE_ev (i : EM) (m : EM) (e : Ev) (S : Store) : lockE i m e S = match i e S with
  | .ok (.obj n) _ => match S[n]? with
    | some o => match lockO o with
      | some o' => R.unL n (m e (S.set n o'))
      | none => .stuck
    | none => .stuck
  | _ => .stuck := rfl
@[simp] theorem iKeysL_ev (m : EM) (e : Ev) (S : Store) : iKeysL m e S = (m e S).bind fun x S => match x with
  | .obj n => match S[n]? with
    | some o => match keysO o with
      | some ds => .ok ⟨ds, fun _ => True⟩ S
      | none => .stuck
    | none => .stuck
  | _ => .stuck := rfl
@[simp] theorem iValsL_ev (m : EM) (e : Ev) (S : Store) : iValsL m e S = (m e S).bind fun x S => match x with
  | .obj n => match S[n]? with
    | some (.lck kvs) => .ok ⟨kvs.map (·.2), fun _ => True⟩ S
    | _ => .stuck
  | _ => .stuck := rfl
@[simp] theorem fnListK_ev (new : Bool) (ds : List D) (S : Store) : fnListK new ds S = match ds with
  | [.obj n] => match S[n]? with
    | some (.dct kvs) => fin new (kvs.map fun kv => dkey kv.1) S
    | _ => .stuck
  | _ => .stuck := rfl
@[simp] theorem fnGetT2_ev (ds : List D) (S : Store) : fnGetT2 ds S = match ds with
  | [x, k, y] => match tabD S x with
    | some kvs => match tkOf k with
      | some key => .ok ((getT kvs key).getD y) S
      | none => .stuck
    | none => .stuck
  | _ => .stuck := rfl
@[simp] theorem mSet_ev (i : Nat) (m : EM) (e : Ev) (S : Store) : mSet i m e S = (m e S).toS e fun d S => .nx (e.set i d) S := rfl
@[simp] theorem mSetI_ev (m o i : EM) (e : Ev) (S : Store) : mSetI m o i e S = (m e S).toS e fun d S => gSb o i d e S := rfl
@[simp] theorem mIxT_ev (a b : EM) (e : Ev) (S : Store) : mIxT a b e S = (a e S).bind fun x S => (b e S).bind fun y S => lift2 ixTS S x y := rfl
@[simp] theorem mSetIT_ev (m o i : EM) (e : Ev) (S : Store) : mSetIT m o i e S = (m e S).toS e fun d S => gSbT o i d e S := rfl
@[simp] theorem mIx_ev (a b : EM) (e : Ev) (S : Store) : mIx a b e S = (a e S).bind fun x S => (b e S).bind fun y S => lift2 fIx S x y := rfl
@[simp] theorem mFld_ev (cs : List Nat) (f : Nat) (o : EM) (e : Ev) (S : Store) : mFld cs f o e S = mUn (getF cs f) o e S := rfl
@[simp] theorem mIsi_ev (T : Ty) (a : EM) (e : Ev) (S : Store) : mIsi T a e S = mUn (fun S d => (tyS S d).map fun t => .bl (isTy t T)) a e S := rfl
@[simp] theorem den_app (n : Nat) (m : SM) (ds : List D) (S : Store) : den n m ds S = match m ⟨ds.map some ++ List.replicate (n - ds.length) none, []⟩ S with
  | .nx _ S => .ok .non S
  | .rt d S => .ok d S
  | .exc c fs _ S => .exc c fs S
  | _ => .stuck := rfl
@[simp] theorem mjNil_ev (acc : Str) (e : Ev) (S : Store) : mjNil acc e S = .ok (.str acc) S := rfl
@[simp] theorem mjCons_ev (m : EM) (r : JM) (acc : Str) (e : Ev) (S : Store) : mjCons m r acc e S = (m e S).bind fun d S => match d with
  | .str y => if (acc ++ y).length ≤ sizeLine then r (acc ++ y) e S else .stuck
  | _ => .stuck := rfl
open Classical in
@[simp] theorem mSortKey_ev (new : Bool) (k : Nat) (key : D → Option PyData) (me : EM) (e : Ev) (S : Store) : mSortKey new k key me e S = (me e S).bind fun d S1 => match lstOf S1 d with
  | some ds => if S1[k]? = some (.tab k) ∧ KeysOk key ds then fin new (sortK key ds) S1 else .stuck
  | none => .stuck := rfl
end BS
namespace BS
open PySem PySem.Spec PyProof.Rows L2
@[simp] theorem eqS_str (S : Store) (a b : Str) : eqS S (.str a) (.str b) = some (decide (a = b)) := by
  simp [eqS, small, py, pyF, PyData.plain, PyData.depth, PyData.eqv]; by_cases h : a = b <;> simp [h]
@[simp] theorem eqS_int (S : Store) (a b : Int) : eqS S (.int a) (.int b) = some (decide (a = b)) := by
  simp [eqS, small, py, pyF, PyData.plain, PyData.depth, PyData.eqv]; by_cases h : a = b <;> simp [h]
@[simp] theorem eqS_bl (S : Store) (a b : Bool) : eqS S (.bl a) (.bl b) = some (decide (a = b)) := by
  cases a <;> cases b <;> simp [eqS, small, py, pyF, PyData.plain, PyData.depth, PyData.eqv]
@[simp] theorem eqS_non (S : Store) : eqS S .non .non = some true := by
  simp [eqS, small, py, pyF, PyData.plain, PyData.depth, PyData.eqv]
/-- data with no object in it, at most n deep -/
structure Fl (n : Nat) (d : D) : Prop where
  pl : ∀ f, (pyF f d).plain = true
  dp : ∀ f, (pyF f d).depth ≤ n
  eq : ∀ f g, pyF f d = pyF g d
structure FlS (n : Nat) (ds : List D) : Prop where
  pl : ∀ f, PyData.plainAll (pyFs f ds) = true
  dp : ∀ f, PyData.depthAll (pyFs f ds) ≤ n
  eq : ∀ f g, pyFs f ds = pyFs g ds
theorem Fl.non {n : Nat} : Fl n .non := ⟨fun _ => rfl, fun _ => Nat.zero_le _, fun _ _ => rfl⟩
theorem Fl.bl {n : Nat} (b : Bool) : Fl n (.bl b) := ⟨fun _ => rfl, fun _ => by simp [pyF, PyData.depth], fun _ _ => rfl⟩
theorem Fl.int {n : Nat} (b : Int) : Fl n (.int b) := ⟨fun _ => rfl, fun _ => by simp [pyF, PyData.depth], fun _ _ => rfl⟩
theorem Fl.str {n : Nat} (b : Str) : Fl n (.str b) := ⟨fun _ => rfl, fun _ => by simp [pyF, PyData.depth], fun _ _ => rfl⟩
theorem FlS.nil {n : Nat} : FlS n [] := ⟨fun _ => rfl, fun _ => by simp [pyFs, PyData.depthAll], fun _ _ => rfl⟩
theorem FlS.cons {n : Nat} {d : D} {ds : List D} (h : Fl n d) (t : FlS n ds) : FlS n (d :: ds) :=
  ⟨fun f => by simp [pyFs, PyData.plainAll, h.pl f, t.pl f], fun f => by have := h.dp f; have := t.dp f; simp [pyFs, PyData.depthAll]; omega, fun f g => by simp only [pyFs]; rw [h.eq f g, t.eq f g]⟩
theorem Fl.tup {n : Nat} {ds : List D} (h : FlS n ds) : Fl (n + 1) (.tup ds) :=
  ⟨fun f => by simp [pyF, PyData.plain, h.pl f], fun f => by have := h.dp f; simp [pyF, PyData.depth]; omega, fun f g => by simp only [pyF]; rw [h.eq f g]⟩
theorem Fl.lst {n : Nat} {ds : List D} (h : FlS n ds) : Fl (n + 1) (.lst ds) :=
  ⟨fun f => by simp [pyF, PyData.plain, h.pl f], fun f => by have := h.dp f; simp [pyF, PyData.depth]; omega, fun f g => by simp only [pyF]; rw [h.eq f g]⟩
theorem FlS.of {n : Nat} : ∀ {ds : List D}, (∀ d ∈ ds, Fl n d) → FlS n ds
  | [], _ => .nil
  | d :: ds, h => .cons (h d (by simp)) (.of fun x hx => h x (by simp [hx]))
theorem FlS.all {n : Nat} : ∀ {ds : List D}, FlS n ds → ∀ d ∈ ds, Fl n d
  | [], _, _, h => by simp at h
  | d :: ds, t, x, h => by
    have t1 : Fl n d := ⟨fun f => by have := t.pl f; simp [pyFs, PyData.plainAll] at this; exact this.1, fun f => by have := t.dp f; simp [pyFs, PyData.depthAll] at this; omega, fun f g => by have := t.eq f g; simp [pyFs] at this; exact this.1⟩
    have t2 : FlS n ds := ⟨fun f => by have := t.pl f; simp [pyFs, PyData.plainAll] at this; exact this.2, fun f => by have := t.dp f; simp [pyFs, PyData.depthAll] at this; omega, fun f g => by have := t.eq f g; simp [pyFs] at this; exact this.2⟩
    rcases List.mem_cons.mp h with rfl | h
    · exact t1
    · exact t2.all x h
theorem eqS_same {S : Store} {x y : D} (h : py S x = py S y) (p : (py S x).plain = true) (d : (py S x).depth < 100) : eqS S x y = some true := by
  unfold eqS
  rw [← h]
  simp [small, p, d, PySem.SeqAt.eqv_refl_plain]
theorem eqS_refl {n : Nat} (S : Store) {x : D} (h : Fl n x) (hn : n < 100 := by decide) : eqS S x x = some true :=
  eqS_same rfl (h.pl _) (Nat.lt_of_le_of_lt (h.dp _) hn)
/-- two lists of the store with the same items -/
theorem eqS_objs {n : Nat} {S : Store} {i j : Nat} {ds : List D} (hi : S[i]? = some (.lst ds)) (hj : S[j]? = some (.lst ds)) (h : FlS n ds) (hn : n < 99 := by decide) : eqS S (.obj i) (.obj j) = some true := by
  have e : ∀ k, S[k]? = some (.lst ds) → py S (.obj k) = .list (pyFs (pyk 2 S) ds) := fun k hk => by simp [py, pyF, pyk, hk]
  refine eqS_same (by rw [e i hi, e j hj]) ?_ ?_
  · rw [e i hi]; simp [PyData.plain, h.pl]
  · rw [e i hi]; have := h.dp (pyk 2 S); simp [PyData.depth]; omega
theorem eqS_objl {n : Nat} {S : Store} {i : Nat} {ds : List D} (hi : S[i]? = some (.lst ds)) (h : FlS n ds) (hn : n < 99 := by decide) : eqS S (.obj i) (.lst ds) = some true := by
  have e : py S (.obj i) = .list (pyFs (pyk 2 S) ds) := by simp [py, pyF, pyk, hi]
  refine eqS_same ?_ ?_ ?_
  · rw [e]; simp only [py, pyF]; rw [h.eq (pyk 2 S) (pyk 3 S)]
  · rw [e]; simp [PyData.plain, h.pl]
  · rw [e]; have := h.dp (pyk 2 S); simp [PyData.depth]; omega
theorem rng_ok {n : Nat} (h : n ≤ 1000000000) : rngOk (n : Int) := by
  unfold rngOk
  have e : (2 : Int) ^ 62 = 4611686018427387904 := by decide
  rw [e]; omega
theorem iRng1 {as : AM} {e : Ev} {S S' : Store} {j : Int} (h : as e S = .ok [.int j] S') (r : rngOk j) : iRng as e S = .ok ⟨BS.intsFrom 0 j.toNat, fun _ => True⟩ S' := by
  rw [iRng_ev, h]
  exact if_pos r
theorem iRng2 {as : AM} {e : Ev} {S S' : Store} {i j : Int} (h : as e S = .ok [.int i, .int j] S') (r1 : rngOk i) (r : rngOk j) : iRng as e S = .ok ⟨BS.intsFrom i (j - i).toNat, fun _ => True⟩ S' := by
  rw [iRng_ev, h]
  exact if_pos ⟨r1, r⟩
end BS
namespace BS
open PySem PySem.Spec PyProof.Rows L2
@[simp] theorem lift2_ev (f : Store → D → D → Option D) (S : Store) (x y : D) : lift2 f S x y = match f S x y with
  | some d => .ok d S
  | none => .stuck := rfl
@[simp] theorem fI_int (g : Int → Int → Option D) (S : Store) (i j : Int) : fI g S (.int i) (.int j) = g i j := rfl
@[simp] theorem fAdd_int (S : Store) (i j : Int) : fAdd S (.int i) (.int j) = some (.int (i + j)) := rfl
@[simp] theorem fAdd_str (S : Store) (a b : Str) : fAdd S (.str a) (.str b) = if a.length + b.length ≤ sizeLine then some (.str (a ++ b)) else none := rfl
@[simp] theorem fAdd_tup (S : Store) (a b : List D) : fAdd S (.tup a) (.tup b) = if a.length + b.length ≤ sizeLine then some (.tup (a ++ b)) else none := rfl
@[simp] theorem iAdd_int (S : Store) (i j : Int) : iAdd S (.int i) (.int j) = some (.int (i + j)) := rfl
@[simp] theorem iAdd_str (S : Store) (a b : Str) : iAdd S (.str a) (.str b) = if a.length + b.length ≤ sizeLine then some (.str (a ++ b)) else none := rfl
@[simp] theorem fCmp_int (g h) (S : Store) (i j : Int) : fCmp g h S (.int i) (.int j) = some (.bl (g i j)) := rfl
@[simp] theorem fCmp_str (g h) (S : Store) (i j : Str) : fCmp g h S (.str i) (.str j) = some (.bl (h i j)) := rfl
@[simp] theorem fEq_ev (S : Store) (x y : D) : fEq S x y = (eqS S x y).map .bl := rfl
@[simp] theorem fNe_ev (S : Store) (x y : D) : fNe S x y = (eqS S x y).map fun b => .bl (!b) := rfl
@[simp] theorem fIs_ev (S : Store) (x y : D) : fIs S x y = if isNon y = true then some (.bl (isNon x)) else none := rfl
@[simp] theorem fIsNot_ev (S : Store) (x y : D) : fIsNot S x y = if isNon y = true then some (.bl (!isNon x)) else none := rfl
@[simp] theorem fIn_ev (S : Store) (x y : D) : fIn S x y = (inS S x y).map .bl := rfl
@[simp] theorem fNotIn_ev (S : Store) (x y : D) : fNotIn S x y = (inS S x y).map fun b => .bl (!b) := rfl
@[simp] theorem inS_str (S : Store) (a b : Str) : inS S (.str a) (.str b) = some (inStr a b) := rfl
@[simp] theorem fNeg_int (S : Store) (i : Int) : fNeg S (.int i) = some (.int (-i)) := rfl
@[simp] theorem tyS_non (S : Store) : tyS S .non = some .none := rfl
@[simp] theorem tyS_bl (S : Store) (b : Bool) : tyS S (.bl b) = some .bool := rfl
@[simp] theorem tyS_int (S : Store) (b : Int) : tyS S (.int b) = some .int := rfl
@[simp] theorem tyS_str (S : Store) (b : Str) : tyS S (.str b) = some .str := rfl
@[simp] theorem tyS_tup (S : Store) (b : List D) : tyS S (.tup b) = some .tuple := rfl
@[simp] theorem tyS_lst (S : Store) (b : List D) : tyS S (.lst b) = some .list := rfl
@[simp] theorem isTy_none (a : Ty) : isTy a .none = match a with | .none => true | _ => false := rfl
@[simp] theorem isTy_bool (a : Ty) : isTy a .bool = match a with | .bool => true | _ => false := rfl
@[simp] theorem isTy_int (a : Ty) : isTy a .int = match a with | .int => true | .bool => true | _ => false := rfl
@[simp] theorem isTy_str (a : Ty) : isTy a .str = match a with | .str => true | _ => false := rfl
@[simp] theorem isTy_tuple (a : Ty) : isTy a .tuple = match a with | .tuple => true | _ => false := rfl
@[simp] theorem isTy_list (a : Ty) : isTy a .list = match a with | .list => true | _ => false := rfl
@[simp] theorem isTy_dict (a : Ty) : isTy a .dict = match a with | .dict => true | _ => false := rfl
@[simp] theorem lenS_str (S : Store) (z : Str) : lenS S (.str z) = if z.length ≤ sizeLine then some z.length else none := rfl
@[simp] theorem lenS_tup (S : Store) (ds : List D) : lenS S (.tup ds) = some ds.length := rfl
@[simp] theorem lenS_lst (S : Store) (ds : List D) : lenS S (.lst ds) = some ds.length := rfl
@[simp] theorem lenS_scr (S : Store) (ds : List D) : lenS S (.scr ds) = some ds.length := rfl
@[simp] theorem tupOf_tup (ds : List D) : tupOf (.tup ds) = some ds := rfl
@[simp] theorem lstOf_lst (S : Store) (ds : List D) : lstOf S (.lst ds) = some ds := rfl
@[simp] theorem lstOf_scr (S : Store) (ds : List D) : lstOf S (.scr ds) = some ds := rfl
@[simp] theorem seqOf_tup (S : Store) (ds : List D) : seqOf S (.tup ds) = some ds := rfl
@[simp] theorem seqOf_lst (S : Store) (ds : List D) : seqOf S (.lst ds) = some ds := rfl
@[simp] theorem seqOf_scr (S : Store) (ds : List D) : seqOf S (.scr ds) = some ds := rfl
@[simp] theorem fIx_tup (S : Store) (ds : List D) (i : Int) : fIx S (.tup ds) (.int i) = atI ds i := rfl
@[simp] theorem fIx_lst (S : Store) (ds : List D) (i : Int) : fIx S (.lst ds) (.int i) = atI ds i := rfl
@[simp] theorem fIx_scr (S : Store) (ds : List D) (i : Int) : fIx S (.scr ds) (.int i) = atI ds i := rfl
@[simp] theorem keyOf_int (i : Int) : keyOf (.int i) = some (.inl i) := rfl
@[simp] theorem keyOf_str (i : Str) : keyOf (.str i) = some (.inr i) := rfl
@[simp] theorem truS_non (S : Store) : truS S .non = some false := rfl
@[simp] theorem truS_bl (S : Store) (b : Bool) : truS S (.bl b) = some b := rfl
@[simp] theorem truS_int (S : Store) (b : Int) : truS S (.int b) = some (b != 0) := rfl
@[simp] theorem truS_str (S : Store) (z : Str) : truS S (.str z) = if z.length ≤ sizeLine then some ((z.length : Int) != 0) else none := rfl
@[simp] theorem truS_tup (S : Store) (ds : List D) : truS S (.tup ds) = some (!ds.isEmpty) := rfl
@[simp] theorem truS_lst (S : Store) (ds : List D) : truS S (.lst ds) = some (!ds.isEmpty) := rfl
@[simp] theorem wkA_str (S : Store) (y : Str) : wkA S (.str y) = .ok ⟨signs y, fun _ => True⟩ S := rfl
@[simp] theorem wkA_tup (S : Store) (ds : List D) : wkA S (.tup ds) = .ok ⟨ds, fun _ => True⟩ S := rfl
@[simp] theorem wkA_lst (S : Store) (ds : List D) : wkA S (.lst ds) = .ok ⟨ds, fun _ => True⟩ S := rfl
@[simp] theorem wkA_scr (S : Store) (ds : List D) : wkA S (.scr ds) = .ok ⟨ds, fun _ => True⟩ S := rfl
@[simp] theorem slS_str (new : Bool) (S : Store) (z : Str) (lo hi : Option Int) : slS new S (.str z) lo hi = if z.length ≤ sizeLine then .ok (.str (cutS z lo hi)) S else .stuck := rfl
@[simp] theorem slS_lst (new : Bool) (S : Store) (ds : List D) (lo hi : Option Int) : slS new S (.lst ds) lo hi = fin new (cutD ds lo hi) S := rfl
@[simp] theorem LT_items_one (i : Nat) (d : D) : (LT.one i).items d = some [d] := rfl
@[simp] theorem LT_items_many (is : List Nat) (ds : List D) : (LT.many is).items (.tup ds) = if ds.length = is.length then some ds else none := rfl
@[simp] theorem catS_lst (new : Bool) (S : Store) (xs ys : List D) : catS new S (.lst xs) (.lst ys) = if xs.length + ys.length ≤ sizeLine then fin new (xs ++ ys) S else .stuck := rfl
@[simp] theorem blsOf_map (bs : List Bool) : blsOf (bs.map .bl) = some bs := by
  induction bs with
  | nil => rfl
  | cons b r ih => rw [List.map_cons, blsOf, ih]; rfl
@[simp] theorem tyS_obj (S : Store) (n : Nat) : tyS S (.obj n) = match S[n]? with
  | some (.lst _) => some .list
  | some (.dct _) => some .dict
  | _ => none := rfl
@[simp] theorem lstOf_obj (S : Store) (n : Nat) : lstOf S (.obj n) = match S[n]? with
  | some (.lst ds) => some ds
  | _ => none := rfl
@[simp] theorem lvOf_obj (S : Store) (n : Nat) : lvOf S (.obj n) = match S[n]? with
  | some (.lst ds) => some ds
  | _ => none := rfl
@[simp] theorem lvOf_lst (S : Store) (ds : List D) : lvOf S (.lst ds) = some ds := rfl
@[simp] theorem seqOf_obj (S : Store) (n : Nat) : seqOf S (.obj n) = match S[n]? with
  | some (.lst ds) => some ds
  | _ => none := rfl
@[simp] theorem dctOf_obj (S : Store) (n : Nat) : dctOf S (.obj n) = match S[n]? with
  | some (.dct ds) => some ds
  | _ => none := rfl
@[simp] theorem insOf_obj (S : Store) (n : Nat) : insOf S (.obj n) = match S[n]? with
  | some (.ins c fs) => some (c, fs)
  | _ => none := rfl
@[simp] theorem isIns_obj (c : Nat) (S : Store) (n : Nat) : isIns c S (.obj n) = match S[n]? with
  | some (.ins c' fs) => c' == c
  | _ => false := by
  simp only [isIns, insOf_obj]
  cases S[n]? with
  | none => rfl
  | some o => cases o <;> simp
@[simp] theorem getF_obj (cs : List Nat) (f : Nat) (S : Store) (n : Nat) : getF cs f S (.obj n) = match S[n]? with
  | some (.ins c fs) => if cs.contains c = true then getN fs f else none
  | _ => none := by
  simp only [getF, insOf_obj]
  cases S[n]? with
  | none => rfl
  | some o => cases o <;> simp
@[simp] theorem putF_obj (cs : List Nat) (f : Nat) (S : Store) (n : Nat) (y : D) : putF_ cs f S (.obj n) y = match S[n]? with
  | some (.ins c fs) => if cs.contains c = true ∧ fs.length < 1000 then some (S.set n (.ins c (setN f y fs))) else none
  | _ => none := rfl
@[simp] theorem getN_cons {α : Type} (k : Nat) (v : α) (r : List (Nat × α)) (i : Nat) : getN ((k, v) :: r) i = if k = i then some v else getN r i := rfl
@[simp] theorem getN_nil {α : Type} (i : Nat) : getN ([] : List (Nat × α)) i = none := rfl
@[simp] theorem setN_cons {α : Type} (k : Nat) (v : α) (r : List (Nat × α)) (i : Nat) (w : α) : setN i w ((k, v) :: r) = if k = i then (i, w) :: r else (k, v) :: setN i w r := rfl
@[simp] theorem setN_nil {α : Type} (i : Nat) (w : α) : setN i w ([] : List (Nat × α)) = [(i, w)] := rfl
@[simp] theorem setS_obj (S : Store) (n : Nat) (i v : D) : setS S (.obj n) i v = match S[n]? with
    | some (.lst ds) => match i with
      | .int k => (ixN ds.length k).map fun j => S.set n (.lst (ds.set j v))
      | _ => none
    | some (.dct kvs) => match keyOf i with
      | some k => if kvs.length < sizeLine then some (S.set n (.dct (putD kvs k v))) else none
      | none => none
    | _ => none := rfl
@[simp] theorem delS_obj (S : Store) (n : Nat) (i : D) : delS S (.obj n) i = match S[n]? with
    | some (.dct kvs) => match keyOf i with
      | some k => if (getK kvs k).isSome = true then some (S.set n (.dct (dropD kvs k))) else none
      | none => none
    | _ => none := rfl
@[simp] theorem dctR_obj (S : Store) (n : Nat) : dctR S (.obj n) = match S[n]? with
    | some (.dct kvs) => some kvs
    | some (.lck kvs) => some kvs
    | _ => none := rfl
@[simp] theorem fIx_objs (S : Store) (n : Nat) (z : Str) : fIx S (.obj n) (.str z) = match S[n]? with
    | some (.dct kvs) => getK kvs (.inr z)
    | some (.lck kvs) => getK kvs (.inr z)
    | _ => none := by
  simp only [fIx, dctR_obj]
  cases S[n]? with
  | none => rfl
  | some o => cases o <;> simp
@[simp] theorem fIx_obji (S : Store) (n : Nat) (z : Int) : fIx S (.obj n) (.int z) = match S[n]? with
    | some (.lst ds) => atI ds z
    | some (.dct kvs) => getK kvs (.inl z)
    | some (.lck kvs) => getK kvs (.inl z)
    | _ => none := by
  simp only [fIx, seqOf_obj, dctR_obj]
  cases S[n]? with
  | none => rfl
  | some o => cases o <;> rfl
@[simp] theorem lenS_obj (S : Store) (n : Nat) : lenS S (.obj n) = match S[n]? with
    | some (.lst ds) => some ds.length
    | some (.dct kvs) => some kvs.length
    | _ => none := by
  simp only [lenS, seqOf_obj, dctOf_obj]
  cases S[n]? with
  | none => rfl
  | some o => cases o <;> rfl
@[simp] theorem truS_obj (S : Store) (n : Nat) : truS S (.obj n) = match S[n]? with
    | some (.lst ds) => some (!ds.isEmpty)
    | some (.dct kvs) => some (!kvs.isEmpty)
    | _ => none := by
  simp only [truS, seqOf_obj, dctOf_obj]
  cases S[n]? with
  | none => rfl
  | some o => cases o <;> rfl
@[simp] theorem wkA_obj (S : Store) (n : Nat) : wkA S (.obj n) = match S[n]? with
    | some (.lst ds) => .ok ⟨ds, fun S => S[n]? = some (.lst ds)⟩ S
    | _ => .stuck := rfl
@[simp] theorem inS_obj (S : Store) (x : Str) (n : Nat) (kvs : List (Key × D)) (h : S[n]? = some (.dct kvs)) : inS S (.str x) (.obj n) = some (getK kvs (.inr x)).isSome := by
  simp [inS, dctOf, h, keyOf]
@[simp] theorem inS_obji (S : Store) (x : Int) (n : Nat) (kvs : List (Key × D)) (h : S[n]? = some (.dct kvs)) : inS S (.int x) (.obj n) = some (getK kvs (.inl x)).isSome := by
  simp [inS, dctOf, h, keyOf]
theorem ixN_in {n : Nat} {p : Int} (h0 : 0 ≤ p) (h1 : p < n) : ixN n p = some p.toNat := by
  simp [ixN, h0, h1]
@[simp] theorem atI_nat {α : Type} (xs : List α) (p : Nat) : atI xs (p : Int) = xs[p]? := by
  unfold atI
  by_cases h : p < xs.length
  · rw [ixN_in (Int.natCast_nonneg _) (by omega)]; simp
  · have e : xs[p]? = none := List.getElem?_eq_none (by omega)
    rw [e]
    have h1 : ¬ (p : Int) < xs.length := by omega
    have q : ixN xs.length (p : Int) = none := by unfold ixN; rw [if_pos (Int.natCast_nonneg _), if_neg h1]
    rw [q]; rfl
@[simp] theorem atI_zero {α : Type} (xs : List α) : atI xs (0 : Int) = xs[0]? := atI_nat xs 0
@[simp] theorem atI_one {α : Type} (xs : List α) : atI xs (1 : Int) = xs[1]? := atI_nat xs 1
@[simp] theorem atI_2 {α : Type} (xs : List α) : atI xs (2 : Int) = xs[2]? := atI_nat xs 2
@[simp] theorem atI_3 {α : Type} (xs : List α) : atI xs (3 : Int) = xs[3]? := atI_nat xs 3
@[simp] theorem atI_4 {α : Type} (xs : List α) : atI xs (4 : Int) = xs[4]? := atI_nat xs 4
@[simp] theorem atI_5 {α : Type} (xs : List α) : atI xs (5 : Int) = xs[5]? := atI_nat xs 5
@[simp] theorem atI_6 {α : Type} (xs : List α) : atI xs (6 : Int) = xs[6]? := atI_nat xs 6
@[simp] theorem atI_7 {α : Type} (xs : List α) : atI xs (7 : Int) = xs[7]? := atI_nat xs 7
@[simp] theorem atI_8 {α : Type} (xs : List α) : atI xs (8 : Int) = xs[8]? := atI_nat xs 8
@[simp] theorem atI_9 {α : Type} (xs : List α) : atI xs (9 : Int) = xs[9]? := atI_nat xs 9
@[simp] theorem atI_10 {α : Type} (xs : List α) : atI xs (10 : Int) = xs[10]? := atI_nat xs 10
@[simp] theorem atI_11 {α : Type} (xs : List α) : atI xs (11 : Int) = xs[11]? := atI_nat xs 11
@[simp] theorem atI_12 {α : Type} (xs : List α) : atI xs (12 : Int) = xs[12]? := atI_nat xs 12
@[simp] theorem atI_13 {α : Type} (xs : List α) : atI xs (13 : Int) = xs[13]? := atI_nat xs 13
@[simp] theorem atI_14 {α : Type} (xs : List α) : atI xs (14 : Int) = xs[14]? := atI_nat xs 14
@[simp] theorem atI_15 {α : Type} (xs : List α) : atI xs (15 : Int) = xs[15]? := atI_nat xs 15
@[simp] theorem atI_16 {α : Type} (xs : List α) : atI xs (16 : Int) = xs[16]? := atI_nat xs 16
@[simp] theorem atI_17 {α : Type} (xs : List α) : atI xs (17 : Int) = xs[17]? := atI_nat xs 17
@[simp] theorem atI_18 {α : Type} (xs : List α) : atI xs (18 : Int) = xs[18]? := atI_nat xs 18
@[simp] theorem atI_19 {α : Type} (xs : List α) : atI xs (19 : Int) = xs[19]? := atI_nat xs 19
@[simp] theorem atI_20 {α : Type} (xs : List α) : atI xs (20 : Int) = xs[20]? := atI_nat xs 20
theorem atI_in {α : Type} {xs : List α} {p : Int} (h0 : 0 ≤ p) (h1 : p < xs.length) : ∃ x, x ∈ xs ∧ atI xs p = some x := by
  have h3 : p.toNat < xs.length := by omega
  exact ⟨xs[p.toNat], List.getElem_mem h3, by unfold atI; rw [ixN_in h0 h1]; simp [List.getElem?_eq_getElem h3]⟩
theorem sz : (1000000 : Nat) ≤ sizeLine := by decide
theorem szL {n : Nat} (h : n ≤ 1000000) : n ≤ sizeLine := Nat.le_trans h sz
theorem ix_str (S : Store) {z : Str} {p : Int} (hz : z.length ≤ 1000000) (h0 : 0 ≤ p) (h1 : p < z.length) : ∃ c ∈ z.cps.toList, fIx S (.str z) (.int p) = some (.str ⟨#[c]⟩) := by
  obtain ⟨c, m, e⟩ := atI_in (xs := z.cps.toList) h0 (by simpa [Str.length] using h1)
  exact ⟨c, m, by simp [fIx, Nat.le_trans hz sz, e, BS.strAt]⟩
theorem cut_len (z : Str) (lo hi : Option Int) : (cutS z lo hi).length ≤ z.length := by
  simp [cutS, Str.length]; omega
@[simp] theorem one_len (c : Nat) : (⟨#[c]⟩ : Str).length = 1 := rfl
def RS.ends_ (r : RS) (N : Ev → Store → Prop) (T : D → Store → Prop) : Prop := match r with
  | .nx e S => N e S
  | .rt d S => T d S
  | _ => False
def RS.turns_ (r : RS) (I : Ev → Store → Prop) (N : Ev → Store → Prop) (T : D → Store → Prop) : Prop := match r with
  | .nx e S => I e S
  | .ct e S => I e S
  | .bk e S => N e S
  | .rt d S => T d S
  | _ => False
def R.gives_ {α : Type} (r : R α) (T : α → Store → Prop) : Prop := match r with
  | .ok d S => T d S
  | _ => False
/-- structures, so that nobody runs the program to see what is asked -/
structure RS.ends (r : RS) (N : Ev → Store → Prop) (T : D → Store → Prop) : Prop where
  run : r.ends_ N T
structure RS.turns (r : RS) (I : Ev → Store → Prop) (N : Ev → Store → Prop) (T : D → Store → Prop) : Prop where
  run : r.turns_ I N T
structure R.gives {α : Type} (r : R α) (T : α → Store → Prop) : Prop where
  run : r.gives_ T
section
variable {N I : Ev → Store → Prop} {T : D → Store → Prop}
@[simp] theorem ends_nx (e : Ev) (S : Store) : (RS.nx e S).ends N T = N e S := propext ⟨fun h => h.run, fun h => ⟨h⟩⟩
@[simp] theorem ends_rt (e : D) (S : Store) : (RS.rt e S).ends N T = T e S := propext ⟨fun h => h.run, fun h => ⟨h⟩⟩
@[simp] theorem ends_bk (e : Ev) (S : Store) : (RS.bk e S).ends N T = False := propext ⟨fun h => h.run, fun h => ⟨h⟩⟩
@[simp] theorem ends_ct (e : Ev) (S : Store) : (RS.ct e S).ends N T = False := propext ⟨fun h => h.run, fun h => ⟨h⟩⟩
@[simp] theorem ends_exc (c fs) (e : Ev) (S : Store) : (RS.exc c fs e S).ends N T = False := propext ⟨fun h => h.run, fun h => ⟨h⟩⟩
@[simp] theorem ends_stuck : RS.stuck.ends N T = False := propext ⟨fun h => h.run, fun h => ⟨h⟩⟩
@[simp] theorem turns_nx (e : Ev) (S : Store) : (RS.nx e S).turns I N T = I e S := propext ⟨fun h => h.run, fun h => ⟨h⟩⟩
@[simp] theorem turns_ct (e : Ev) (S : Store) : (RS.ct e S).turns I N T = I e S := propext ⟨fun h => h.run, fun h => ⟨h⟩⟩
@[simp] theorem turns_bk (e : Ev) (S : Store) : (RS.bk e S).turns I N T = N e S := propext ⟨fun h => h.run, fun h => ⟨h⟩⟩
@[simp] theorem turns_rt (e : D) (S : Store) : (RS.rt e S).turns I N T = T e S := propext ⟨fun h => h.run, fun h => ⟨h⟩⟩
@[simp] theorem turns_exc (c fs) (e : Ev) (S : Store) : (RS.exc c fs e S).turns I N T = False := propext ⟨fun h => h.run, fun h => ⟨h⟩⟩
@[simp] theorem turns_stuck : RS.stuck.turns I N T = False := propext ⟨fun h => h.run, fun h => ⟨h⟩⟩
@[simp] theorem gives_ok {α : Type} {T : α → Store → Prop} (d : α) (S : Store) : (R.ok d S).gives T = T d S := propext ⟨fun h => h.run, fun h => ⟨h⟩⟩
@[simp] theorem gives_exc {α : Type} {T : α → Store → Prop} (c fs) (S : Store) : (R.exc c fs S : R α).gives T = False := propext ⟨fun h => h.run, fun h => ⟨h⟩⟩
@[simp] theorem gives_stuck {α : Type} {T : α → Store → Prop} : (R.stuck : R α).gives T = False := propext ⟨fun h => h.run, fun h => ⟨h⟩⟩
theorem gives_iff {α : Type} {T : α → Store → Prop} {r : R α} : r.gives T ↔ ∃ d S, r = .ok d S ∧ T d S := by
  cases r with
  | ok a S => exact ⟨fun h => ⟨a, S, rfl, h.run⟩, fun ⟨_, _, e, h⟩ => by cases e; exact ⟨h⟩⟩
  | exc c fs S => exact ⟨fun h => False.elim h.run, fun ⟨_, _, e, _⟩ => nomatch e⟩
  | stuck => exact ⟨fun h => False.elim h.run, fun ⟨_, _, e, _⟩ => nomatch e⟩
theorem gives_bind {α β : Type} {T : β → Store → Prop} {r : R α} {k : α → Store → R β} (h : r.gives fun a S => (k a S).gives T) : (r.bind k).gives T := by
  cases r <;> simp_all
theorem ends_seq {r : RS} {b : SM} (h : r.ends (fun e S => (b e S).ends N T) T) : (r.seq b).ends N T := by
  cases r <;> simp_all
theorem turns_seq {r : RS} {b : SM} {I' : Ev → Store → Prop} (h : r.ends (fun e S => (b e S).turns I' N T) T) : (r.seq b).turns I' N T := by
  cases r <;> simp_all
theorem ends_mono {r : RS} {N' : Ev → Store → Prop} {T' : D → Store → Prop} (h : r.ends N T) (hn : ∀ e S, N e S → N' e S) (ht : ∀ d S, T d S → T' d S) : r.ends N' T' := by
  cases r <;> simp_all
/-- a def's run -/
theorem den_gives {n : Nat} {m : SM} {ds : List D} {S : Store} (h : (m ⟨ds.map some ++ List.replicate (n - ds.length) none, []⟩ S).ends (fun _ S => T .non S) T) : (den n m ds S).gives T := by
  rw [den_app]
  generalize m ⟨ds.map some ++ List.replicate (n - ds.length) none, []⟩ S = r at *
  cases r <;> simp_all
theorem law_of {n : Nat} {m : SM} {ds : List D} (h : (m ⟨ds.map some ++ List.replicate (n - ds.length) none, []⟩ []).ends (fun _ _ => False) (fun d _ => d = .bl true)) : ∃ S, den n m ds [] = .ok (.bl true) S := by
  rw [den_app]
  generalize m ⟨ds.map some ++ List.replicate (n - ds.length) none, []⟩ [] = r at *
  cases r <;> simp_all
end
/-- a loop: I k holds ahead of turn k -/
theorem forL_ends {G : Store → Prop} {g : GM} {b : SM} {N : Ev → Store → Prop} {T : D → Store → Prop} (I : Nat → Ev → Store → Prop) :
    ∀ {ds : List D} {e : Ev} {S : Store}, I 0 e S → (∀ k e S, I k e S → G S) → (∀ k d e S, ds[k]? = some d → I k e S → ((g d e S).seq b).turns (I (k + 1)) N T) → (∀ e S, I ds.length e S → N e S) → (forL G g b ds e S).ends N T
  | [], e, S, h0, hG, hs, hn => by
    unfold forL; rw [if_pos (hG _ _ _ h0), ends_nx]; exact hn _ _ h0
  | d :: ds, e, S, h0, hG, hs, hn => by
    unfold forL; rw [if_pos (hG _ _ _ h0)]
    have h1 := hs 0 d e S rfl h0
    have go : ∀ e S, I 1 e S → (forL G g b ds e S).ends N T := fun e S h =>
      forL_ends (fun k => I (k + 1)) h (fun k e S => hG (k + 1) e S) (fun k d e S hd => hs (k + 1) d e S (by simpa using hd)) hn
    generalize (g d e S).seq b = r at *
    cases r <;> simp_all
theorem ints_at {n k : Nat} {lo : Int} {d : D} (h : (BS.intsFrom lo n)[k]? = some d) : k < n ∧ d = .int (lo + k) := by
  have hk : k < n := by have := (List.getElem?_eq_some_iff.mp h).1; rwa [intsFrom_len] at this
  rw [intsFrom_get n k lo hk] at h
  exact ⟨hk, by cases h; rfl⟩
theorem signs_at {z : Str} {k : Nat} {d : D} (h : (signs z)[k]? = some d) : ∃ c ∈ z.cps.toList, z.cps.toList[k]? = some c ∧ d = .str ⟨#[c]⟩ := by
  unfold signs at h
  rw [List.getElem?_map, Option.map_eq_some_iff] at h
  obtain ⟨c, h, rfl⟩ := h
  exact ⟨c, List.mem_of_getElem? h, h, rfl⟩
/-- a while with a number that falls -/
theorem whileL_ends {c : TM} {b : SM} {N : Ev → Store → Prop} {T : D → Store → Prop} (I : Nat → Ev → Store → Prop)
    (hs : ∀ m e S, I m e S → ∃ k S', c e S = .ok k S' ∧ (k = true → (b e S').turns (fun e S => ∃ m' < m, I m' e S) N T) ∧ (k = false → N e S')) :
    ∀ {n m : Nat} {e : Ev} {S : Store}, I m e S → m < n → (whileL c b n e S).ends N T
  | 0, m, e, S, h, hl => absurd hl (Nat.not_lt_zero _)
  | n + 1, m, e, S, h, hl => by
    obtain ⟨k, S', e1, ht, hf⟩ := hs m e S h
    unfold whileL
    rw [e1, R.toS_ok]
    cases k with
    | false => rw [if_neg (by simp), ends_nx]; exact hf rfl
    | true =>
      have h1 := ht rfl
      rw [if_pos rfl]
      have go : ∀ e S, (∃ m' < m, I m' e S) → (whileL c b n e S).ends N T := fun e S ⟨m', l, h⟩ => whileL_ends I hs h (by omega)
      generalize b e S' = r at *
      cases r with
      | nx e S => rw [turns_nx] at h1; rw [RS.loop_nx]; exact go _ _ h1
      | ct e S => rw [turns_ct] at h1; rw [RS.loop_ct]; exact go _ _ h1
      | bk e S => rw [turns_bk] at h1; rw [RS.loop_bk, ends_nx]; exact h1
      | rt d S => rw [turns_rt] at h1; rw [RS.loop_rt, ends_rt]; exact h1
      | _ => simp at h1
theorem lcL_run {G : Store → Prop} {t : LT} {e0 : Ev} {tt : TM} {el : EM} (A : Store) (p : D → Bool) (f : D → D) :
    ∀ (ds : List D), (∀ acc B, G (A ++ .lst acc :: B)) →
    (∀ d ∈ ds, ∃ xs, t.items d = some xs ∧ ∀ acc B, (∃ B', tt ⟨setAll e0.sl t.ix xs, []⟩ (A ++ .lst acc :: B) = .ok (p d) (A ++ .lst acc :: B')) ∧ (p d = true → ∃ B', el ⟨setAll e0.sl t.ix xs, []⟩ (A ++ .lst acc :: B) = .ok (f d) (A ++ .lst acc :: B'))) →
    ∀ (acc : List D) (B : Store), acc.length + ds.length ≤ sizeLine → ∃ B', lcL A.length G t e0 tt el ds (A ++ .lst acc :: B) = .ok () (A ++ .lst (acc ++ (ds.filter p).map f) :: B')
  | [], hG, _, acc, B, _ => ⟨B, by unfold lcL; rw [if_pos (hG _ _)]; simp⟩
  | d :: ds, hG, h, acc, B, hl => by
    obtain ⟨xs, hx, hd⟩ := h d (by simp)
    have hl' : acc.length + ds.length + 1 ≤ sizeLine := by simpa [Nat.add_assoc] using hl
    obtain ⟨⟨B1, ht⟩, he⟩ := hd acc B
    unfold lcL
    rw [if_pos (hG _ _), hx]
    dsimp only
    rw [ht, R.nox_ok, R.bind_ok]
    cases hp : p d with
    | false =>
      rw [if_neg (by simp)]
      obtain ⟨B', r⟩ := lcL_run A p f ds hG (fun d hd => h d (by simp [hd])) acc B1 (by omega)
      exact ⟨B', by rw [r, List.filter_cons_of_neg (by simp [hp])]⟩
    | true =>
      rw [if_pos rfl]
      obtain ⟨B2, he⟩ := (hd acc B1).2 hp
      rw [he, R.nox_ok, R.bind_ok]
      have g : (A ++ O.lst acc :: B2)[A.length]? = some (.lst acc) := by simp
      rw [g]
      dsimp only
      rw [if_pos (by omega)]
      have s : (A ++ O.lst acc :: B2).set A.length (.lst (acc ++ [f d])) = A ++ .lst (acc ++ [f d]) :: B2 := by simp
      rw [s]
      obtain ⟨B', r⟩ := lcL_run A p f ds hG (fun d hd => h d (by simp [hd])) (acc ++ [f d]) B2 (by simp; omega)
      exact ⟨B', by rw [r, List.filter_cons_of_pos hp, List.map_cons, List.append_assoc]; rfl⟩
theorem lcL_all {G : Store → Prop} {t : LT} {e0 : Ev} {el : EM} (A : Store) (f : D → D) {ds : List D} (hG : ∀ acc B, G (A ++ .lst acc :: B))
    (h : ∀ d ∈ ds, ∃ xs, t.items d = some xs ∧ ∀ acc B, ∃ B', el ⟨setAll e0.sl t.ix xs, []⟩ (A ++ .lst acc :: B) = .ok (f d) (A ++ .lst acc :: B')) (hl : ds.length ≤ sizeLine) :
    ∃ B', lcL A.length G t e0 mYes el ds (A ++ [.lst []]) = .ok () (A ++ .lst (ds.map f) :: B') := by
  obtain ⟨B', r⟩ := lcL_run (G := G) (t := t) (e0 := e0) (tt := mYes) (el := el) A (fun _ => true) f ds hG (fun d hd => by
    obtain ⟨xs, hx, hd⟩ := h d hd
    exact ⟨xs, hx, fun acc B => ⟨⟨B, rfl⟩, fun _ => hd acc B⟩⟩) [] [] (by simpa using hl)
  exact ⟨B', by rw [r, List.filter_eq_self.mpr (fun _ _ => rfl)]; rfl⟩
theorem lcL_pure {G : Store → Prop} {t : LT} {e0 : Ev} {tt : TM} {el : EM} (A : Store) (p : D → Bool) (f : D → D) :
    ∀ (ds : List D), (∀ acc, G (A ++ [.lst acc])) →
    (∀ d ∈ ds, ∃ xs, t.items d = some xs ∧ ∀ acc, tt ⟨setAll e0.sl t.ix xs, []⟩ (A ++ [.lst acc]) = .ok (p d) (A ++ [.lst acc]) ∧ (p d = true → el ⟨setAll e0.sl t.ix xs, []⟩ (A ++ [.lst acc]) = .ok (f d) (A ++ [.lst acc]))) →
    ∀ (acc : List D), acc.length + ds.length ≤ sizeLine → lcL A.length G t e0 tt el ds (A ++ [.lst acc]) = .ok () (A ++ [.lst (acc ++ (ds.filter p).map f)])
  | [], hG, _, acc, _ => by unfold lcL; rw [if_pos (hG _)]; simp
  | d :: ds, hG, h, acc, hl => by
    obtain ⟨xs, hx, hd⟩ := h d (by simp)
    have hl' : acc.length + ds.length + 1 ≤ sizeLine := by simpa [Nat.add_assoc] using hl
    obtain ⟨ht, he⟩ := hd acc
    unfold lcL
    rw [if_pos (hG _), hx]
    dsimp only
    rw [ht, R.nox_ok, R.bind_ok]
    cases hp : p d with
    | false =>
      rw [if_neg (by simp), lcL_pure A p f ds hG (fun d hd => h d (by simp [hd])) acc (by omega), List.filter_cons_of_neg (by simp [hp])]
    | true =>
      rw [if_pos rfl, he hp, R.nox_ok, R.bind_ok]
      have g : (A ++ [O.lst acc])[A.length]? = some (.lst acc) := by simp
      rw [g]
      dsimp only
      rw [if_pos (by omega)]
      have s : (A ++ [O.lst acc]).set A.length (.lst (acc ++ [f d])) = A ++ [.lst (acc ++ [f d])] := by simp
      rw [s, lcL_pure A p f ds hG (fun d hd => h d (by simp [hd])) (acc ++ [f d]) (by simp; omega), List.filter_cons_of_pos hp, List.map_cons, List.append_assoc]
      rfl
/-- [f x for x in xs], f with no effect -/
theorem lcL_map {G : Store → Prop} {i : Nat} {e0 : Ev} {el : EM} (A : Store) (f : D → D) {ds : List D} (hG : ∀ acc, G (A ++ [.lst acc]))
    (h : ∀ d ∈ ds, ∀ acc, el ⟨e0.sl.set i (some d), []⟩ (A ++ [.lst acc]) = .ok (f d) (A ++ [.lst acc])) (hl : ds.length ≤ sizeLine) :
    lcL A.length G (.one i) e0 mYes el ds (A ++ [.lst []]) = .ok () (A ++ [.lst (ds.map f)]) := by
  have r := lcL_pure (G := G) (t := .one i) (e0 := e0) (tt := mYes) (el := el) A (fun _ => true) f ds hG (fun d hd => ⟨[d], rfl, fun acc => ⟨rfl, fun _ => h d hd acc⟩⟩) [] (by simpa using hl)
  rw [List.filter_eq_self.mpr (fun _ _ => rfl)] at r
  exact r
@[simp] theorem blsOf_mapf {α : Type} (f : α → Bool) (r : List α) : blsOf (r.map fun d => .bl (f d)) = some (r.map f) := by
  rw [← blsOf_map]; simp [Function.comp_def]
theorem sl_from {new : Bool} {S : Store} {ds : List D} (p : Nat) (_ : 0 < p) (hl : p ≤ ds.length) : slS new S (.tup ds) (some (p : Int)) none = .ok (.tup (ds.drop p)) S := by
  have e : HT.sIx ds.length 0 (some (p : Int)) = p := by
    have q : ¬ (p : Int) < 0 := by omega
    simp [HT.sIx, q]; omega
  have e2 : HT.sIx ds.length ds.length none = ds.length := rfl
  show BS.R.ok (D.tup (cutD ds _ _)) S = _
  unfold cutD
  rw [e, e2, List.take_of_length_le (by simp)]
theorem sl_to {new : Bool} {S : Store} {ds : List D} (p : Nat) (hl : p < ds.length) : slS new S (.tup ds) none (some (p : Int)) = .ok (.tup (ds.take p)) S := by
  have e : HT.sIx ds.length ds.length (some (p : Int)) = p := by
    have q : ¬ (p : Int) < 0 := by omega
    simp [HT.sIx, q]; omega
  have e2 : HT.sIx ds.length 0 none = 0 := rfl
  show BS.R.ok (D.tup (cutD ds _ _)) S = _
  unfold cutD
  rw [e, e2]; simp
@[simp] theorem sl_2 {new : Bool} {S : Store} (a b : D) (r : List D) : slS new S (.tup (a :: b :: r)) (some 2) none = .ok (.tup r) S := by
  have := sl_from (new := new) (S := S) (ds := a :: b :: r) 2 (by omega) (by simp)
  simpa using this
@[simp] theorem sl_1 {new : Bool} {S : Store} (a : D) (r : List D) : slS new S (.tup (a :: r)) (some 1) none = .ok (.tup r) S := by
  have := sl_from (new := new) (S := S) (ds := a :: r) 1 (by omega) (by simp)
  simpa using this
def Sm : Nat → D → Prop
  | _, .str z => z.length ≤ 1000000
  | 0, .tup ds => ds = []
  | n + 1, .tup ds => ds.length ≤ 1000000 ∧ ∀ d ∈ ds, Sm n d
  | 0, .lst ds => ds = []
  | n + 1, .lst ds => ds.length ≤ 1000000 ∧ ∀ d ∈ ds, Sm n d
  | _, .obj _ => False
  | _, .scr _ => False
  | _, _ => True
@[simp] theorem Sm_str (n : Nat) (z : Str) : Sm n (.str z) = (z.length ≤ 1000000) := by cases n <;> rfl
@[simp] theorem Sm_int (n : Nat) (z : Int) : Sm n (.int z) = True := by cases n <;> rfl
@[simp] theorem Sm_bl (n : Nat) (z : Bool) : Sm n (.bl z) = True := by cases n <;> rfl
@[simp] theorem Sm_non (n : Nat) : Sm n .non = True := by cases n <;> rfl
@[simp] theorem Sm_obj (n k : Nat) : Sm n (.obj k) = False := by cases n <;> rfl
@[simp] theorem Sm_scr (n : Nat) (k : List D) : Sm n (.scr k) = False := by cases n <;> rfl
@[simp] theorem Sm_tup (n : Nat) (ds : List D) : Sm (n + 1) (.tup ds) = (ds.length ≤ 1000000 ∧ ∀ d ∈ ds, Sm n d) := rfl
@[simp] theorem Sm_tup0 (ds : List D) : Sm 0 (.tup ds) = (ds = []) := rfl
@[simp] theorem Sm_lst (n : Nat) (ds : List D) : Sm (n + 1) (.lst ds) = (ds.length ≤ 1000000 ∧ ∀ d ∈ ds, Sm n d) := rfl
@[simp] theorem Sm_lst0 (ds : List D) : Sm 0 (.lst ds) = (ds = []) := rfl
theorem Sm.up : ∀ {n : Nat} {d : D}, Sm n d → Sm (n + 1) d
  | 0, d, h => by
    cases d <;> simp_all
  | n + 1, d, h => by
    cases d with
    | tup ds => exact ⟨h.1, fun x hx => (h.2 x hx).up⟩
    | lst ds => exact ⟨h.1, fun x hx => (h.2 x hx).up⟩
    | _ => simpa using h
theorem Sm.mono {n m : Nat} {d : D} (h : Sm n d) (l : n ≤ m) : Sm m d := by
  induction l with
  | refl => exact h
  | step _ ih => exact ih.up
theorem Sm.fl : ∀ {n : Nat} {d : D}, Sm n d → Fl (n + 1) d
  | n, .non, _ => .non
  | n, .bl b, _ => .bl b
  | n, .int i, _ => .int i
  | n, .str z, _ => .str z
  | 0, .tup ds, h => by simp at h; subst h; exact .tup .nil
  | 0, .lst ds, h => by simp at h; subst h; exact .lst .nil
  | n + 1, .tup ds, h => .tup (.of fun d hd => (h.2 d hd).fl)
  | n + 1, .lst ds, h => .lst (.of fun d hd => (h.2 d hd).fl)
  | n, .obj _, h => by simp at h
  | n, .scr _, h => by simp at h
def eqD (x y : D) : Bool := PyData.eqv (pyF (fun _ => .none) x) (pyF (fun _ => .none) y)
def eqDs (x y : List D) : Bool := PyData.eqvAll (pyFs (fun _ => .none) x) (pyFs (fun _ => .none) y)
theorem eqS_fl {n m : Nat} (S : Store) {x y : D} (hx : Fl n x) (hy : Fl m y) (hn : n < 100 := by decide) : eqS S x y = some (eqD x y) := by
  unfold eqS
  have h1 : (py S x).plain = true := hx.pl (pyk 3 S)
  have h2 := hy.pl (pyk 3 S)
  have h3 : (py S x).depth ≤ n := hx.dp (pyk 3 S)
  rw [if_pos (by simp [small, h1, h2]; omega)]
  unfold eqD
  rw [hx.eq (fun _ => .none) (pyk 3 S), hy.eq (fun _ => .none) (pyk 3 S)]
theorem eqS_sm {n m : Nat} (S : Store) {x y : D} (hx : Sm n x) (hy : Sm m y) (hn : n < 99 := by decide) : eqS S x y = some (eqD x y) := eqS_fl S hx.fl hy.fl (by omega)
theorem inS_fl {n m : Nat} (S : Store) {x : D} {ys : List D} (hx : Fl n x) (hy : FlS m ys) (hn : n < 100 := by decide) : inS S x (.lst ys) = some (ys.any fun z => eqD z x) := by
  have h1 : (py S x).plain = true := hx.pl (pyk 3 S)
  have h2 := hy.pl (pyk 3 S)
  have h3 : (py S x).depth ≤ n := hx.dp (pyk 3 S)
  have e : (pys S ys).any (fun z => PyData.eqv z (py S x)) = ys.any fun z => eqD z x := by
    have ex : py S x = pyF (fun _ => .none) x := hx.eq _ _
    have : ∀ (ys : List D), FlS m ys → (pys S ys).any (fun z => PyData.eqv z (py S x)) = ys.any fun z => eqD z x := by
      intro ys
      induction ys with
      | nil => intro _; rfl
      | cons y r ih =>
        intro hy
        have a := hy.all y (by simp)
        have ey : pyF (pyk 3 S) y = pyF (fun _ => .none) y := a.eq _ _
        have t : FlS m r := .of fun d hd => hy.all d (by simp [hd])
        have := ih t
        simp only [pys] at this ⊢
        simp only [pyFs, List.any_cons, this]
        rw [ey, ex]; rfl
    exact this ys hy
  simp only [inS, dctOf, seqOf, tupOf, lstOf]
  rw [if_pos (by simp [h1, h2]; omega), e]
@[simp] theorem eqD_non : eqD .non .non = true := by simp [eqD, pyF, PyData.eqv]
@[simp] theorem eqD_str (a b : Str) : eqD (.str a) (.str b) = decide (a = b) := by simp [eqD, pyF, PyData.eqv]; by_cases h : a = b <;> simp [h]
@[simp] theorem eqD_int (a b : Int) : eqD (.int a) (.int b) = decide (a = b) := by simp [eqD, pyF, PyData.eqv]; by_cases h : a = b <;> simp [h]
@[simp] theorem eqD_bl (a b : Bool) : eqD (.bl a) (.bl b) = decide (a = b) := by cases a <;> cases b <;> simp [eqD, pyF, PyData.eqv]
@[simp] theorem eqD_tup (a b : List D) : eqD (.tup a) (.tup b) = eqDs a b := by simp [eqD, eqDs, pyF, PyData.eqv]
@[simp] theorem eqD_lst (a b : List D) : eqD (.lst a) (.lst b) = eqDs a b := by simp [eqD, eqDs, pyF, PyData.eqv]
@[simp] theorem eqDs_nil : eqDs [] [] = true := by simp [eqDs, pyFs, PyData.eqvAll]
@[simp] theorem eqDs_cons (a b : D) (r s : List D) : eqDs (a :: r) (b :: s) = (eqD a b && eqDs r s) := by simp [eqDs, eqD, pyFs, PyData.eqvAll]
@[simp] theorem eqDs_nc (b : D) (s : List D) : eqDs [] (b :: s) = false := by simp [eqDs, eqD, pyFs, PyData.eqvAll]
@[simp] theorem eqDs_cn (b : D) (s : List D) : eqDs (b :: s) [] = false := by simp [eqDs, eqD, pyFs, PyData.eqvAll]
@[simp] theorem eqD_non_bl (b : Bool) : eqD .non (.bl b) = false := by simp [eqD, pyF, PyData.eqv]
@[simp] theorem eqD_non_int (b : Int) : eqD .non (.int b) = false := by simp [eqD, pyF, PyData.eqv]
@[simp] theorem eqD_non_str (b : Str) : eqD .non (.str b) = false := by simp [eqD, pyF, PyData.eqv]
@[simp] theorem eqD_non_tup (b : List D) : eqD .non (.tup b) = false := by simp [eqD, pyF, PyData.eqv]
@[simp] theorem eqD_non_lst (b : List D) : eqD .non (.lst b) = false := by simp [eqD, pyF, PyData.eqv]
@[simp] theorem eqD_bl_non (a : Bool) : eqD (.bl a) .non = false := by simp [eqD, pyF, PyData.eqv]
@[simp] theorem eqD_bl_str (a : Bool) (b : Str) : eqD (.bl a) (.str b) = false := by simp [eqD, pyF, PyData.eqv]
@[simp] theorem eqD_bl_tup (a : Bool) (b : List D) : eqD (.bl a) (.tup b) = false := by simp [eqD, pyF, PyData.eqv]
@[simp] theorem eqD_bl_lst (a : Bool) (b : List D) : eqD (.bl a) (.lst b) = false := by simp [eqD, pyF, PyData.eqv]
@[simp] theorem eqD_int_non (a : Int) : eqD (.int a) .non = false := by simp [eqD, pyF, PyData.eqv]
@[simp] theorem eqD_int_str (a : Int) (b : Str) : eqD (.int a) (.str b) = false := by simp [eqD, pyF, PyData.eqv]
@[simp] theorem eqD_int_tup (a : Int) (b : List D) : eqD (.int a) (.tup b) = false := by simp [eqD, pyF, PyData.eqv]
@[simp] theorem eqD_int_lst (a : Int) (b : List D) : eqD (.int a) (.lst b) = false := by simp [eqD, pyF, PyData.eqv]
@[simp] theorem eqD_str_non (a : Str) : eqD (.str a) .non = false := by simp [eqD, pyF, PyData.eqv]
@[simp] theorem eqD_str_bl (a : Str) (b : Bool) : eqD (.str a) (.bl b) = false := by simp [eqD, pyF, PyData.eqv]
@[simp] theorem eqD_str_int (a : Str) (b : Int) : eqD (.str a) (.int b) = false := by simp [eqD, pyF, PyData.eqv]
@[simp] theorem eqD_str_tup (a : Str) (b : List D) : eqD (.str a) (.tup b) = false := by simp [eqD, pyF, PyData.eqv]
@[simp] theorem eqD_str_lst (a : Str) (b : List D) : eqD (.str a) (.lst b) = false := by simp [eqD, pyF, PyData.eqv]
@[simp] theorem eqD_tup_non (a : List D) : eqD (.tup a) .non = false := by simp [eqD, pyF, PyData.eqv]
@[simp] theorem eqD_tup_bl (a : List D) (b : Bool) : eqD (.tup a) (.bl b) = false := by simp [eqD, pyF, PyData.eqv]
@[simp] theorem eqD_tup_int (a : List D) (b : Int) : eqD (.tup a) (.int b) = false := by simp [eqD, pyF, PyData.eqv]
@[simp] theorem eqD_tup_str (a : List D) (b : Str) : eqD (.tup a) (.str b) = false := by simp [eqD, pyF, PyData.eqv]
@[simp] theorem eqD_tup_lst (a : List D) (b : List D) : eqD (.tup a) (.lst b) = false := by simp [eqD, pyF, PyData.eqv]
@[simp] theorem eqD_lst_non (a : List D) : eqD (.lst a) .non = false := by simp [eqD, pyF, PyData.eqv]
@[simp] theorem eqD_lst_bl (a : List D) (b : Bool) : eqD (.lst a) (.bl b) = false := by simp [eqD, pyF, PyData.eqv]
@[simp] theorem eqD_lst_int (a : List D) (b : Int) : eqD (.lst a) (.int b) = false := by simp [eqD, pyF, PyData.eqv]
@[simp] theorem eqD_lst_str (a : List D) (b : Str) : eqD (.lst a) (.str b) = false := by simp [eqD, pyF, PyData.eqv]
@[simp] theorem eqD_lst_tup (a : List D) (b : List D) : eqD (.lst a) (.tup b) = false := by simp [eqD, pyF, PyData.eqv]
theorem eqD_refl {n : Nat} {d : D} (h : Fl n d) : eqD d d = true := SeqAt.eqv_refl_plain _ (h.pl _)
theorem ltS_irrefl (a : Str) : ltS a a = false := by unfold ltS; simp
theorem inStr_one (c : Nat) (x : Str) : inStr ⟨#[c]⟩ x = decide (c ∈ x.cps.toList) := StrLaws.found_one x c
theorem ltS_one (a b : Nat) : ltS ⟨#[a]⟩ ⟨#[b]⟩ = decide (a < b) := by
  unfold ltS; simp [List.cons_lt_cons_iff]
theorem len_cps (z : Str) : z.cps.toList.length = z.length := by simp [Str.length]
theorem cps_app (a b : Str) : (a ++ b).cps.toList = a.cps.toList ++ b.cps.toList := by
  show (Str.append a b).cps.toList = _
  simp [Str.append]
def wordF (L : Str) : Nat → Str → Int → Str
  | 0, z, _ => z
  | n + 1, z, r => wordF L n (z ++ ⟨#[L.cps.toList.getD (r % L.length).toNat 0]⟩) (r / L.length)
theorem wordF_len (L : Str) : ∀ (n : Nat) (z : Str) (r : Int), (wordF L n z r).length = z.length + n
  | 0, z, r => rfl
  | n + 1, z, r => by rw [wordF, wordF_len L n, Str.length_append, one_len]; omega
theorem wordF_in (L : Str) (hL : 0 < L.length) : ∀ (n : Nat) (z : Str) (r : Int), (∀ c ∈ z.cps.toList, c ∈ L.cps.toList) → ∀ c ∈ (wordF L n z r).cps.toList, c ∈ L.cps.toList
  | 0, z, r, h => h
  | n + 1, z, r, h => by
    rw [wordF]
    refine wordF_in L hL n _ _ fun c hc => ?_
    rw [cps_app] at hc
    rcases List.mem_append.mp hc with hc | hc
    · exact h c hc
    · have h2 : 0 ≤ r % (L.length : Int) := Int.emod_nonneg _ (by omega)
      have h3 : r % (L.length : Int) < L.length := Int.emod_lt_of_pos _ (by omega)
      have hl : (r % L.length).toNat < L.cps.toList.length := by rw [len_cps]; omega
      have e : L.cps.toList.getD (r % L.length).toNat 0 = L.cps.toList[(r % L.length).toNat] := by
        rw [List.getD_eq_getElem?_getD, List.getElem?_eq_getElem hl]; rfl
      have hc' : c = L.cps.toList.getD (r % L.length).toNat 0 := by simpa using hc
      rw [hc', e]
      exact List.getElem_mem hl
theorem ix_word (S : Store) {L : Str} (r : Int) (h0 : 0 < L.length) (h1 : L.length ≤ 1000000) : fIx S (.str L) (.int (r % L.length)) = some (.str ⟨#[L.cps.toList.getD (r % L.length).toNat 0]⟩) := by
  have h2 : 0 ≤ r % (L.length : Int) := Int.emod_nonneg _ (by omega)
  have h3 : r % (L.length : Int) < L.length := Int.emod_lt_of_pos _ (by omega)
  have h4 : (r % (L.length : Int)).toNat < L.cps.toList.length := by rw [len_cps]; omega
  have e : atI L.cps.toList (r % (L.length : Int)) = some (L.cps.toList.getD (r % L.length).toNat 0) := by
    unfold atI
    rw [ixN_in h2 (by rw [len_cps]; exact h3)]
    simp [List.getElem?_eq_getElem h4]
  simp [fIx, szL h1, e, BS.strAt]
def LL : Str := "abcdefghijklmnopqrstuvwxyz"
theorem LL_len : LL.length = 26 := by decide +kernel
def inL (c : Nat) : Bool := decide (c ∈ LL.cps.toList)
def isB (d : D) : Bool := match d with
  | .str z => decide (z.length ≤ 8) && z.cps.toList.all inL
  | _ => false
def isK (d : D) : Bool := match d with
  | .str z => isB (.str z) && decide (z ≠ Str.ofString "")
  | _ => false
def prC (c : Nat) : Bool := decide (32 ≤ c ∧ c ≤ 126 ∧ c ≠ 37)
def isPr (d : D) : Bool := match d with
  | .str z => z.cps.toList.all prC
  | _ => false
def isV (d : D) : Bool := match d with
  | .str z => isPr (.str z) && decide ((z.length : Int) ≤ 40)
  | _ => false
def isI (d : D) (lo hi : Int) : Bool := match d with
  | .int i => decide (lo ≤ i) && decide (i ≤ hi)
  | _ => false
theorem isB_str {d : D} (h : isB d = true) : ∃ z, d = .str z ∧ z.length ≤ 8 := by
  cases d <;> simp_all [isB]
theorem isK_str {d : D} (h : isK d = true) : ∃ z, d = .str z ∧ z.length ≤ 8 ∧ z ≠ Str.ofString "" := by
  cases d <;> simp_all [isK, isB]
theorem isV_str {d : D} (h : isV d = true) : ∃ z, d = .str z ∧ z.length ≤ 40 := by
  cases d <;> simp_all [isV]
  omega
theorem isK_isB {d : D} (h : isK d = true) : isB d = true := by
  cases d <;> simp_all [isB, isK]
end BS
namespace BS
open PySem PySem.Spec PyProof.Rows L2
@[simp] theorem pre_at {α : Type} (P l : List α) (k : Nat) : (P ++ l)[P.length + k]? = l[k]? := by
  rw [List.getElem?_append_right (by omega)]; congr 1; omega
@[simp] theorem pre_at0 {α : Type} (P l : List α) : (P ++ l)[P.length]? = l[0]? := pre_at P l 0
@[simp] theorem pre_set {α : Type} (P l : List α) (k : Nat) (x : α) : (P ++ l).set (P.length + k) x = P ++ l.set k x := by
  rw [List.set_append, if_neg (by omega)]; congr 2; omega
@[simp] theorem pre_set0 {α : Type} (P l : List α) (x : α) : (P ++ l).set P.length x = P ++ l.set 0 x := pre_set P l 0 x
theorem gives_eq {α : Type} {r : R α} {x : α} {S : Store} (h : r.gives fun d S' => d = x ∧ S' = S) : r = .ok x S := by
  obtain ⟨d, S', e, rfl, rfl⟩ := gives_iff.mp h
  exact e
/-- a loop that checks each item and leaves the store alone -/
theorem forL_check {g : GM} {b : SM} {N : Ev → Store → Prop} {T : D → Store → Prop} {ds : List D} {e : Ev} {S : Store} (J : Nat → Ev → Prop) (c : Nat → D → Bool) (h0 : J 0 e)
    (hs : ∀ k d e, ds[k]? = some d → J k e → (∀ i d, i < k → ds[i]? = some d → c i d = true) → if c k d = true then ∃ e', (g d e S).seq b = .nx e' S ∧ J (k + 1) e' else (g d e S).seq b = .rt (.bl false) S)
    (hn : ∀ e, J ds.length e → (∀ i d, ds[i]? = some d → c i d = true) → N e S)
    (ht : ∀ i d, ds[i]? = some d → c i d = false → T (.bl false) S) : (forL (fun _ => True) g b ds e S).ends N T := by
  refine forL_ends (fun k e S' => S' = S ∧ J k e ∧ ∀ i d, i < k → ds[i]? = some d → c i d = true) ⟨rfl, h0, fun i d h => absurd h (Nat.not_lt_zero _)⟩ (fun _ _ _ _ => True.intro) ?_ ?_
  · rintro k d e S' hd ⟨rfl, hj, ha⟩
    have := hs k d e hd hj ha
    cases hc : c k d with
    | true =>
      rw [if_pos hc] at this
      obtain ⟨e', q, j'⟩ := this
      rw [q, turns_nx]
      refine ⟨rfl, j', fun i d' hi hd' => ?_⟩
      by_cases hik : i = k
      · subst hik; rw [hd] at hd'; cases hd'; exact hc
      · exact ha i d' (by omega) hd'
    | false =>
      rw [hc, if_neg (by simp)] at this
      rw [this, turns_rt]
      exact ht k d hd hc
  · rintro e S' ⟨rfl, hj, ha⟩
    exact hn e hj fun i d hd => ha i d (List.getElem?_eq_some_iff.mp hd).1 hd
@[simp] theorem eqS_non_bl (S : Store) (b : Bool) : eqS S .non (.bl b) = some false := by rw [eqS_fl (n := 1) (m := 1) S .non (.bl _)]; simp
@[simp] theorem eqS_non_int (S : Store) (b : Int) : eqS S .non (.int b) = some false := by rw [eqS_fl (n := 1) (m := 1) S .non (.int _)]; simp
@[simp] theorem eqS_non_str (S : Store) (b : Str) : eqS S .non (.str b) = some false := by rw [eqS_fl (n := 1) (m := 1) S .non (.str _)]; simp
@[simp] theorem eqS_bl_non (S : Store) (a : Bool) : eqS S (.bl a) .non = some false := by rw [eqS_fl (n := 1) (m := 1) S (.bl _) .non]; simp
@[simp] theorem eqS_bl_str (S : Store) (a : Bool) (b : Str) : eqS S (.bl a) (.str b) = some false := by rw [eqS_fl (n := 1) (m := 1) S (.bl _) (.str _)]; simp
@[simp] theorem eqS_int_non (S : Store) (a : Int) : eqS S (.int a) .non = some false := by rw [eqS_fl (n := 1) (m := 1) S (.int _) .non]; simp
@[simp] theorem eqS_int_str (S : Store) (a : Int) (b : Str) : eqS S (.int a) (.str b) = some false := by rw [eqS_fl (n := 1) (m := 1) S (.int _) (.str _)]; simp
@[simp] theorem eqS_str_non (S : Store) (a : Str) : eqS S (.str a) .non = some false := by rw [eqS_fl (n := 1) (m := 1) S (.str _) .non]; simp
@[simp] theorem eqS_str_bl (S : Store) (a : Str) (b : Bool) : eqS S (.str a) (.bl b) = some false := by rw [eqS_fl (n := 1) (m := 1) S (.str _) (.bl _)]; simp
@[simp] theorem eqS_str_int (S : Store) (a : Str) (b : Int) : eqS S (.str a) (.int b) = some false := by rw [eqS_fl (n := 1) (m := 1) S (.str _) (.int _)]; simp
/-- a list of the store and one that stays as it is -/
theorem eqS_lobj {n : Nat} {S : Store} {i : Nat} {ds : List D} (hi : S[i]? = some (.lst ds)) (h : FlS n ds) (hn : n < 99 := by decide) : eqS S (.lst ds) (.obj i) = some true := by
  have e : py S (.obj i) = .list (pyFs (pyk 2 S) ds) := by simp [py, pyF, pyk, hi]
  refine eqS_same ?_ ?_ ?_
  · rw [e]; simp only [py, pyF]; rw [h.eq (pyk 2 S) (pyk 3 S)]
  · simp only [py, pyF]; simp [PyData.plain, h.pl]
  · simp only [py, pyF]; have := h.dp (pyk 3 S); simp [PyData.depth]; omega
theorem cut_to {ds : List D} {k : Nat} : cutD ds none (some (k : Int)) = ds.take k := by
  unfold cutD HT.sIx
  have : ¬ (k : Int) < 0 := by omega
  simp [this]
@[simp] theorem slS_obj (new : Bool) (S : Store) (n : Nat) (lo hi : Option Int) : slS new S (.obj n) lo hi = match S[n]? with
  | some (.lst ds) => fin new (cutD ds lo hi) S
  | _ => .stuck := by
  simp only [slS, lstOf_obj]
  cases S[n]? with
  | none => rfl
  | some o => cases o <;> rfl
@[simp] theorem catS_lobj (new : Bool) (S : Store) (xs : List D) (n : Nat) : catS new S (.lst xs) (.obj n) = match S[n]? with
  | some (.lst ys) => if xs.length + ys.length ≤ sizeLine then fin new (xs ++ ys) S else .stuck
  | _ => .stuck := by
  simp only [catS, lvOf_lst, lvOf_obj]
  cases S[n]? with
  | none => rfl
  | some o => cases o <;> rfl
@[simp] theorem fIsB_bl (S : Store) (a b : Bool) : fIsB S (.bl a) (.bl b) = some (.bl (decide (a = b))) := rfl
@[simp] theorem fIsNotB_bl (S : Store) (a b : Bool) : fIsNotB S (.bl a) (.bl b) = some (.bl (!decide (a = b))) := rfl
section
variable {α : Type} [DecidableEq α]
def getM (m : List (α × D)) (k : α) : Option D := (m.find? fun p => decide (p.1 = k)).map (·.2)
def putM (m : List (α × D)) (k : α) (v : D) : List (α × D) := if (m.any fun p => decide (p.1 = k)) = true then m.map (fun p => if p.1 = k then (p.1, v) else p) else m ++ [(k, v)]
def dropM (m : List (α × D)) (k : α) : List (α × D) := m.filter fun p => decide (p.1 ≠ k)
theorem getM_nil (k : α) : getM [] k = none := rfl
theorem getM_cons (p : α × D) (m : List (α × D)) (k : α) : getM (p :: m) k = if p.1 = k then some p.2 else getM m k := by
  unfold getM
  by_cases h : p.1 = k <;> simp [h]
theorem getM_app (m l : List (α × D)) (k : α) : getM (m ++ l) k = (getM m k).or (getM l k) := by
  induction m with
  | nil => simp [getM_nil]
  | cons p m ih => rw [List.cons_append, getM_cons, getM_cons, ih]; by_cases h : p.1 = k <;> simp [h]
theorem getM_none {m : List (α × D)} {k : α} : getM m k = none ↔ k ∉ m.map (·.1) := by
  induction m with
  | nil => simp [getM_nil]
  | cons p m ih =>
    rw [getM_cons]
    by_cases h : p.1 = k
    · simp [h]
    · rw [if_neg h, ih, List.map_cons, List.mem_cons]
      exact ⟨fun q z => z.elim (fun z => h z.symm) q, fun q z => q (.inr z)⟩
theorem getM_mem {m : List (α × D)} {k : α} {v : D} (h : getM m k = some v) : (k, v) ∈ m := by
  induction m with
  | nil => simp [getM_nil] at h
  | cons p m ih =>
    rw [getM_cons] at h
    by_cases q : p.1 = k
    · rw [if_pos q] at h; cases h; rw [← q]; simp
    · rw [if_neg q] at h; exact List.mem_cons_of_mem _ (ih h)
theorem mem_getM {m : List (α × D)} (hm : (m.map (·.1)).Nodup) {k : α} {v : D} (h : (k, v) ∈ m) : getM m k = some v := by
  induction m with
  | nil => simp at h
  | cons p m ih =>
    rw [List.map_cons, List.nodup_cons] at hm
    rw [getM_cons]
    rcases List.mem_cons.mp h with rfl | h
    · simp
    · by_cases q : p.1 = k
      · exact absurd (List.mem_map.mpr ⟨_, h, rfl⟩) (by rw [← q]; exact hm.1)
      · rw [if_neg q]; exact ih hm.2 h
theorem getM_some {m : List (α × D)} {k : α} (h : k ∈ m.map (·.1)) : ∃ v, getM m k = some v := by
  cases e : getM m k with
  | some v => exact ⟨v, rfl⟩
  | none => exact absurd h (getM_none.mp e)
theorem any_iff {m : List (α × D)} {k : α} : (m.any fun p => decide (p.1 = k)) = true ↔ k ∈ m.map (·.1) := by
  simp only [List.any_eq_true, decide_eq_true_eq, List.mem_map]
theorem putM_keys (m : List (α × D)) (k : α) (v : D) : (putM m k v).map (·.1) = if k ∈ m.map (·.1) then m.map (·.1) else m.map (·.1) ++ [k] := by
  unfold putM
  by_cases h : k ∈ m.map (·.1)
  · rw [if_pos (any_iff.mpr h), if_pos h, List.map_map]
    apply List.map_congr_left
    intro p _
    simp only [Function.comp]
    split <;> rfl
  · rw [if_neg (fun z => h (any_iff.mp z)), if_neg h, List.map_append]; rfl
theorem putM_nodup {m : List (α × D)} (hm : (m.map (·.1)).Nodup) (k : α) (v : D) : ((putM m k v).map (·.1)).Nodup := by
  rw [putM_keys]
  split
  · exact hm
  · rename_i h
    rw [List.nodup_append]
    refine ⟨hm, by simp, fun a ha b hb => ?_⟩
    rw [List.mem_singleton] at hb
    subst hb
    exact fun z => h (z ▸ ha)
theorem getM_map {m : List (α × D)} {k j : α} {v : D} : getM (m.map fun p => if p.1 = k then (p.1, v) else p) j = if j = k then (getM m j).map (fun _ => v) else getM m j := by
  induction m with
  | nil => simp [getM_nil]
  | cons p m ih =>
    rw [List.map_cons, getM_cons, getM_cons, ih]
    by_cases h1 : p.1 = k
    · by_cases h2 : p.1 = j
      · have : j = k := h2 ▸ h1
        simp [h1, this]
      · have : ¬ j = k := fun z => h2 (h1.trans z.symm)
        rw [if_pos h1]; simp [h2, this]
    · by_cases h2 : p.1 = j
      · have : ¬ j = k := fun z => h1 (h2.trans z)
        simp [h1, h2, this]
      · rw [if_neg h1]; simp [h2]
theorem getM_put (m : List (α × D)) (k : α) (v : D) (j : α) : getM (putM m k v) j = if j = k then some v else getM m j := by
  unfold putM
  by_cases h : k ∈ m.map (·.1)
  · rw [if_pos (any_iff.mpr h), getM_map]
    split
    · rename_i q; subst q
      obtain ⟨w, e⟩ := getM_some h
      rw [e]; rfl
    · rfl
  · rw [if_neg (fun z => h (any_iff.mp z)), getM_app, getM_cons, getM_nil]
    by_cases q : j = k
    · subst q; rw [getM_none.mpr h]; simp
    · have : ¬ k = j := fun z => q z.symm
      simp [q, this]
theorem dropM_keys (m : List (α × D)) (k : α) : (dropM m k).map (·.1) = (m.map (·.1)).filter fun x => decide (x ≠ k) := by
  unfold dropM
  induction m with
  | nil => rfl
  | cons p m ih =>
    rw [List.filter_cons, List.map_cons, List.filter_cons]
    by_cases h : p.1 = k
    · simp only [h]; simpa using ih
    · simp only [ne_eq, h, not_false_eq_true, decide_true, if_true, List.map_cons]; rw [← ih]
theorem dropM_nodup {m : List (α × D)} (hm : (m.map (·.1)).Nodup) (k : α) : ((dropM m k).map (·.1)).Nodup := by
  rw [dropM_keys]; exact hm.filter _
theorem getM_drop (m : List (α × D)) (k j : α) : getM (dropM m k) j = if j = k then none else getM m j := by
  unfold dropM
  induction m with
  | nil => simp [getM_nil]
  | cons p m ih =>
    rw [List.filter_cons, getM_cons]
    by_cases h1 : p.1 = k
    · simp only [h1, ne_eq, not_true, decide_false, Bool.false_eq_true, if_false]
      simp only [ne_eq] at ih
      rw [ih]
      by_cases q : j = k
      · simp [q]
      · have : ¬ k = j := fun z => q z.symm
        simp [q, this]
    · simp only [ne_eq, h1, not_false_eq_true, decide_true, if_true]
      rw [getM_cons]
      simp only [ne_eq] at ih
      rw [ih]
      by_cases q : j = k
      · have : ¬ p.1 = j := fun z => h1 (z.trans q)
        simp [q, h1]
      · simp [q]
theorem putM_mem {m : List (α × D)} {k : α} {v : D} {p : α × D} (h : p ∈ putM m k v) : p = (k, v) ∨ p ∈ m := by
  unfold putM at h
  split at h
  · obtain ⟨q, hq, rfl⟩ := List.mem_map.mp h
    split
    · rename_i e; left; rw [← e]
    · exact .inr hq
  · rcases List.mem_append.mp h with h | h
    · exact .inr h
    · exact .inl (List.mem_singleton.mp h)
theorem putM_len (m : List (α × D)) (k : α) (v : D) : (putM m k v).length ≤ m.length + 1 := by
  unfold putM
  split <;> simp
theorem dropM_len (m : List (α × D)) (k : α) : (dropM m k).length ≤ m.length := List.length_filter_le _ _
theorem dropM_mem {m : List (α × D)} {k : α} {p : α × D} (h : p ∈ dropM m k) : p ∈ m ∧ p.1 ≠ k := by
  have := List.mem_filter.mp h
  exact ⟨this.1, by simpa using this.2⟩
end
/-- a dict with texts as keys, with ints as keys -/
def toS (m : List (Str × D)) : List (Key × D) := m.map fun p => (.inr p.1, p.2)
def toI (m : List (Int × D)) : List (Key × D) := m.map fun p => (.inl p.1, p.2)
@[simp] theorem toS_len (m : List (Str × D)) : (toS m).length = m.length := by simp [toS]
@[simp] theorem toI_len (m : List (Int × D)) : (toI m).length = m.length := by simp [toI]
@[simp] theorem toS_nil : toS [] = [] := rfl
@[simp] theorem toI_nil : toI [] = [] := rfl
@[simp] theorem getK_toS (m : List (Str × D)) (k : Str) : getK (toS m) (.inr k) = getM m k := by
  induction m with
  | nil => rfl
  | cons p m ih =>
    rw [getM_cons]
    unfold getK toS at *
    rw [List.map_cons, List.find?_cons]
    by_cases h : p.1 = k
    · simp [h]
    · have : decide ((Sum.inr p.1 : Key) = Sum.inr k) = false := by simp [h]
      simp only [this]
      rw [if_neg h]; exact ih
@[simp] theorem getK_toI (m : List (Int × D)) (k : Int) : getK (toI m) (.inl k) = getM m k := by
  induction m with
  | nil => rfl
  | cons p m ih =>
    rw [getM_cons]
    unfold getK toI at *
    rw [List.map_cons, List.find?_cons]
    by_cases h : p.1 = k
    · simp [h]
    · have : decide ((Sum.inl p.1 : Key) = Sum.inl k) = false := by simp [h]
      simp only [this]
      rw [if_neg h]; exact ih
@[simp] theorem putD_toS (m : List (Str × D)) (k : Str) (v : D) : putD (toS m) (.inr k) v = toS (putM m k v) := by
  unfold putD putM
  have e : ((toS m).any fun kv => decide (kv.1 = (Sum.inr k : Key))) = m.any fun p => decide (p.1 = k) := by
    unfold toS; rw [List.any_map]; congr 1; funext p; simp
  rw [e]
  split
  · unfold toS
    rw [List.map_map, List.map_map]
    apply List.map_congr_left
    intro p _
    by_cases h : p.1 = k <;> simp [h]
  · simp [toS]
@[simp] theorem putD_toI (m : List (Int × D)) (k : Int) (v : D) : putD (toI m) (.inl k) v = toI (putM m k v) := by
  unfold putD putM
  have e : ((toI m).any fun kv => decide (kv.1 = (Sum.inl k : Key))) = m.any fun p => decide (p.1 = k) := by
    unfold toI; rw [List.any_map]; congr 1; funext p; simp
  rw [e]
  split
  · unfold toI
    rw [List.map_map, List.map_map]
    apply List.map_congr_left
    intro p _
    by_cases h : p.1 = k <;> simp [h]
  · simp [toI]
@[simp] theorem dropD_toS (m : List (Str × D)) (k : Str) : dropD (toS m) (.inr k) = toS (dropM m k) := by
  unfold dropD dropM toS
  rw [List.filter_map]
  congr 1
  apply List.filter_congr
  intro p _
  simp
@[simp] theorem dropD_toI (m : List (Int × D)) (k : Int) : dropD (toI m) (.inl k) = toI (dropM m k) := by
  unfold dropD dropM toI
  rw [List.filter_map]
  congr 1
  apply List.filter_congr
  intro p _
  simp
@[simp] theorem putD_nilS (k : Str) (v : D) : putD [] (.inr k) v = toS (putM [] k v) := putD_toS [] k v
@[simp] theorem putD_nilI (k : Int) (v : D) : putD [] (.inl k) v = toI (putM [] k v) := putD_toI [] k v
theorem keysT_toS (m : List (Str × D)) : keysT (toS m) = some (m.map (·.1)) := by
  induction m with
  | nil => rfl
  | cons p m ih => unfold toS at *; rw [List.map_cons, keysT, ih]; rfl
theorem keysI_toI (m : List (Int × D)) : keysI (toI m) = some (m.map (·.1)) := by
  induction m with
  | nil => rfl
  | cons p m ih => unfold toI at *; rw [List.map_cons, keysI, ih]; rfl
theorem keysI_toS (p : Str × D) (m : List (Str × D)) : keysI (toS (p :: m)) = none := rfl
/-- == of dicts -/
@[simp] theorem fEqD_obj (S : Store) (n m : Nat) : fEqD S (.obj n) (.obj m) = match S[n]? with
  | some (.dct ks) => match S[m]? with
    | some (.dct ls) => if eqK ks ls = true then some (.bl true) else none
    | _ => none
  | _ => none := by
  simp only [fEqD, dctOf_obj]
  cases S[n]? with
  | none => rfl
  | some o => cases o <;> first | rfl | (cases S[m]? with
    | none => rfl
    | some o => cases o <;> rfl)
@[simp] theorem fNeD_obj (S : Store) (n m : Nat) : fNeD S (.obj n) (.obj m) = match S[n]? with
  | some (.dct ks) => match S[m]? with
    | some (.dct ls) => if eqK ks ls = true then some (.bl false) else none
    | _ => none
  | _ => none := by
  simp only [fNeD, dctOf_obj]
  cases S[n]? with
  | none => rfl
  | some o => cases o <;> first | rfl | (cases S[m]? with
    | none => rfl
    | some o => cases o <;> rfl)
def flatD (d : D) : Bool := match d with
  | .non => true
  | .bl _ => true
  | .int _ => true
  | .str _ => true
  | _ => false
theorem sameF_refl {d : D} (h : flatD d = true) : sameF d d = true := by
  cases d <;> simp_all [flatD, sameF]
/-- the same pairs, in any order -/
theorem eqK_toS {m l : List (Str × D)} (hl : m.length = l.length) (h : ∀ p ∈ m, getM l p.1 = some p.2 ∧ flatD p.2 = true) : eqK (toS m) (toS l) = true := by
  unfold eqK
  rw [Bool.and_eq_true]
  refine ⟨by simp [hl], ?_⟩
  rw [List.all_eq_true]
  intro q hq
  obtain ⟨p, hp, rfl⟩ := List.mem_map.mp hq
  obtain ⟨h1, h2⟩ := h p hp
  simp only [getK_toS, h1, sameF_refl h2]
theorem eqK_refl {m : List (Str × D)} (hm : (m.map (·.1)).Nodup) (h : ∀ p ∈ m, flatD p.2 = true) : eqK (toS m) (toS m) = true :=
  eqK_toS rfl fun p hp => ⟨mem_getM hm hp, h p hp⟩
@[simp] theorem slRev_tup (new : Bool) (S : Store) (ds : List D) : slRev new S (.tup ds) = .ok (.tup ds.reverse) S := rfl
@[simp] theorem slRev_lst (new : Bool) (S : Store) (ds : List D) : slRev new S (.lst ds) = fin new ds.reverse S := rfl
theorem slRev_obj {new : Bool} {S : Store} {n : Nat} {ds : List D} (h : S[n]? = some (.lst ds)) : slRev new S (.obj n) = fin new ds.reverse S := by
  unfold slRev
  simp only [lstOf_obj, h]
/-- sorted(d) -/
theorem sorted_toS (new : Bool) (S : Store) (n : Nat) (m : List (Str × D)) (h : S[n]? = some (.dct (toS m))) (hl : m.length ≤ 1000000) : fnSorted new [.obj n] S = fin new ((sortT (m.map (·.1))).map .str) S := by
  rw [fnSorted_ev]
  simp only [lstOf_obj, dctOf_obj, h]
  cases m with
  | nil => simp [keysI, sortI, sortT]
  | cons p m =>
    rw [keysI_toS, keysT_toS]
theorem sorted_toI (new : Bool) (S : Store) (n : Nat) (m : List (Int × D)) (h : S[n]? = some (.dct (toI m))) (hl : m.length < 64) : fnSorted new [.obj n] S = fin new ((sortI (m.map (·.1))).map .int) S := by
  rw [fnSorted_ev]
  simp only [lstOf_obj, dctOf_obj, h, keysI_toI]
  simp only [List.length_map]
  rw [if_pos hl]
theorem sortedR_toS (new : Bool) (S : Store) (n : Nat) (m : List (Str × D)) (h : S[n]? = some (.dct (toS m))) : fnSortedR new [.obj n] S = fin new ((sortT (m.map (·.1))).reverse.map .str) S := by
  simp only [fnSortedR_ev, dctOf, h, keysT_toS]
theorem sortT_mem {zs : List Str} {z : Str} : z ∈ sortT zs ↔ z ∈ zs := (sortT_perm zs).mem_iff
theorem sortT_nodup {zs : List Str} (h : zs.Nodup) : (sortT zs).Nodup := (sortT_perm zs).nodup_iff.mpr h
theorem sortT_len (zs : List Str) : (sortT zs).length = zs.length := (sortT_perm zs).length_eq
theorem ltS_of_le_ne {a b : Str} (h : leS a b) (n : a ≠ b) : ltS a b = true := by
  cases e : ltS a b with
  | true => rfl
  | false => exact absurd (leS_anti h e) n
theorem sortT_lt {zs : List Str} (h : zs.Nodup) : (sortT zs).Pairwise fun a b => ltS a b = true := by
  have a := sortT_sorted zs
  have b := sortT_nodup h
  exact (a.and b).imp fun h => ltS_of_le_ne h.1 h.2
theorem ltS_trans {a b c : Str} (h1 : ltS a b = true) (h2 : ltS b c = true) : ltS a c = true := by
  unfold ltS at *
  simp only [decide_eq_true_eq] at *
  exact List.lt_trans h1 h2
theorem ltS_asymm {a b : Str} (h1 : ltS a b = true) : ltS b a = false := by
  cases e : ltS b a with
  | false => rfl
  | true => have := ltS_trans h1 e; rw [ltS_irrefl] at this; cases this
theorem ltS_emp {b : Str} (h : b ≠ Str.ofString "") : ltS "" b = true := by
  refine ltS_of_le_ne ?_ (fun z => h z.symm)
  unfold leS ltS
  have e : (Str.ofString "").cps.toList = [] := by decide +kernel
  simp [e]
theorem ltS_tri (a b : Str) : ltS a b = true ∨ a = b ∨ ltS b a = true := by
  by_cases h : a = b
  · exact .inr (.inl h)
  · rcases leS_total a b with q | q
    · exact .inl (ltS_of_le_ne q h)
    · exact .inr (.inr (ltS_of_le_ne q fun z => h z.symm))
theorem filter_ge {ks : List Str} (h : ks.Pairwise fun a b => ltS a b = true) {j : Nat} {l : Str} (hj : ks[j]? = some l) : ks.filter (fun z => !ltS z l) = ks.drop j := by
  have hl : j < ks.length := (List.getElem?_eq_some_iff.mp hj).1
  have e1 : ks.drop j = l :: ks.drop (j + 1) := by
    rw [List.drop_eq_getElem_cons hl]
    rw [List.getElem?_eq_getElem hl] at hj
    cases hj; rfl
  have e2 : ks = ks.take j ++ l :: ks.drop (j + 1) := by rw [← e1, List.take_append_drop]
  rw [e1]
  conv => lhs; rw [e2]
  rw [e2] at h
  obtain ⟨_, h2, h3⟩ := List.pairwise_append.mp h
  rw [List.filter_append]
  have a1 : (ks.take j).filter (fun z => !ltS z l) = [] := by
    rw [List.filter_eq_nil_iff]
    intro z hz
    simp [h3 z hz l (by simp)]
  have a2 : (l :: ks.drop (j + 1)).filter (fun z => !ltS z l) = l :: ks.drop (j + 1) := by
    rw [List.filter_eq_self]
    intro z hz
    rcases List.mem_cons.mp hz with rfl | hz
    · simp [ltS_irrefl]
    · simp [ltS_asymm ((List.pairwise_cons.mp h2).1 z hz)]
  rw [a1, a2]; rfl
theorem emp_cps : (Str.ofString "").cps.toList = [] := by decide +kernel
theorem inS_tup {n m : Nat} (S : Store) {x : D} {ys : List D} (hx : Fl n x) (hy : FlS m ys) (hn : n < 100 := by decide) : inS S x (.tup ys) = some (ys.any fun z => eqD z x) := by
  have := inS_fl S hx hy hn
  rw [← this]; rfl
def isPair (d : D) : Bool := match d with
  | .tup [k, v] => isK k && isV v
  | _ => false
def keyD (d : D) : Str := match d with
  | .tup (.str k :: _) => k
  | _ => ""
def adj : List D → Bool
  | x :: y :: r => ltS (keyD x) (keyD y) && adj (y :: r)
  | _ => true
theorem isPair_form {d : D} (h : isPair d = true) : ∃ k v, d = .tup [.str k, .str v] ∧ isK (.str k) = true ∧ isV (.str v) = true := by
  unfold isPair at h
  split at h
  · rename_i k v
    simp only [Bool.and_eq_true] at h
    obtain ⟨z, rfl, _⟩ := isK_str h.1
    obtain ⟨w, rfl, _⟩ := isV_str h.2
    exact ⟨z, w, rfl, h.1, h.2⟩
  · simp at h
theorem adj_iff : ∀ {ds : List D}, adj ds = true ↔ ∀ k x y, ds[k]? = some x → ds[k + 1]? = some y → ltS (keyD x) (keyD y) = true
  | [] => by simp [adj]
  | [x] => by simp [adj]
  | x :: y :: r => by
    unfold adj
    rw [Bool.and_eq_true, adj_iff]
    constructor
    · rintro ⟨h1, h2⟩ k a b ha hb
      cases k with
      | zero => simp at ha hb; subst ha hb; exact h1
      | succ k => exact h2 k a b (by simpa using ha) (by simpa using hb)
    · intro h
      exact ⟨h 0 x y rfl rfl, fun k a b ha hb => h (k + 1) a b (by simpa using ha) (by simpa using hb)⟩
def isPairs (d : D) : Bool := match d with
  | .tup ds => ds.all isPair && adj ds
  | _ => false
/-- below(one, other) -/
def blw (a b : D) : Bool := match a, b with
  | .str a, .str b => ltS a b
  | .str _, .non => true
  | _, _ => false
def isPage (p nx : D) : Bool := match p with
  | .tup ds => isPairs p && decide (ds.length ≤ 50) && (isNon nx || isK nx) && (match ds.getLast? with
    | some x => blw (.str (keyD x)) nx
    | none => true)
  | _ => false
def isAns (d : D) : Bool := match d with
  | .tup (.str k :: r) =>
    if k = "page" then (match r with
      | [p, nx] => isPage p nx
      | _ => false)
    else if k = "value" ∨ k = "other" then (match r with
      | [v] => isV v
      | _ => false)
    else if k = "none" ∨ k = "done" then r.isEmpty
    else false
  | _ => false
theorem forK_run {im : EM} {g : GM} {b : SM} {e : Ev} {S : Store} {n : Nat} {kvs : List (Key × D)} {N : Ev → Store → Prop} {T : D → Store → Prop} (h1 : im e S = .ok (.obj n) S) (h2 : S[n]? = some (.dct kvs)) (h3 : im e (S.set n (.lck kvs)) = .ok (.obj n) (S.set n (.lck kvs)))
    (body : (forL (fun _ => True) g b (kvs.map fun kv => dkey kv.1) e (S.set n (.lck kvs))).ends (fun e S' => ∃ ks, S'[n]? = some (.lck ks) ∧ N e (S'.set n (.dct ks))) (fun d S' => ∃ ks, S'[n]? = some (.lck ks) ∧ T d (S'.set n (.dct ks)))) : (mForK im g b e S).ends N T := by
  have hn := (List.getElem?_eq_some_iff.mp h2).1
  have h4 : (S.set n (.lck kvs))[n]? = some (.lck kvs) := List.getElem?_set_self hn
  unfold mForK
  rw [h1]
  dsimp only
  rw [h2]
  dsimp only
  rw [h3, R.toS_ok]
  dsimp only
  rw [if_pos rfl, h4]
  dsimp only
  generalize forL (fun _ => True) g b (kvs.map fun kv => dkey kv.1) e (S.set n (.lck kvs)) = r at *
  cases r with
  | nx e' S' =>
    rw [ends_nx] at body
    obtain ⟨ks, h5, h6⟩ := body
    unfold RS.unl
    dsimp only
    rw [h5]
    exact (ends_nx ..).mpr h6
  | rt d S' =>
    rw [ends_rt] at body
    obtain ⟨ks, h5, h6⟩ := body
    unfold RS.unl
    dsimp only
    rw [h5]
    exact (ends_rt ..).mpr h6
  | _ => simp at body
theorem toS_keys (m : List (Str × D)) : ((toS m).map fun kv => dkey kv.1) = m.map fun p => .str p.1 := by simp [toS, dkey, Function.comp_def]
theorem toI_keys (m : List (Int × D)) : ((toI m).map fun kv => dkey kv.1) = m.map fun p => .int p.1 := by simp [toI, dkey, Function.comp_def]
@[simp] theorem fIxA_os (S : Store) (n : Nat) (z : Str) : fIxA S (.obj n) (.str z) = match S[n]? with
  | some (.dct kvs) => getK kvs (.inr z)
  | _ => none := by
  cases h : S[n]? with
  | none => simp [fIxA, h]
  | some o => cases o <;> simp [fIxA, h, keyOf]
@[simp] theorem fIxA_oi (S : Store) (n : Nat) (k : Int) : fIxA S (.obj n) (.int k) = match S[n]? with
  | some (.lst ds) => atI ds k
  | some (.dct kvs) => getK kvs (.inl k)
  | _ => none := by
  cases h : S[n]? with
  | none => simp [fIxA, h]
  | some o => cases o <;> simp [fIxA, h, keyOf]
end BS
namespace L_k70
open PySem PySem.Spec PyProof.Rows L2 BS
def topS (i : Nat) : Stmt := PySem.Challenge.pw_boundstone_k70_requests_and_answers.main.body.getD i (.Pass ⟨0, 0, 0, 0⟩)
def nmB : Nms := mkNms ["Net", "History", "Sessions", "Shard", "Epochs", "Holdings", "Server", "Routes", "Directory", "Client", "World", "Disk", "Log", "TableError", "BadText", "BadOperation", "BadLetter", "BadShard", "BadRecord", "BadServer", "DiskError", "DiskCrashed", "BadSchedule"] [] (by decide +kernel)
def nm (hs : TKey → Int) : Nms := { nmB with hs := hs }
theorem bb_dict : bootBuiltins "dict" = some (.type "dict") := by decide +kernel
theorem bb_int : bootBuiltins "int" = some (.type "int") := by decide +kernel
theorem bb_isinstance : bootBuiltins "isinstance" = some (.builtin "isinstance") := by decide +kernel
theorem bb_len : bootBuiltins "len" = some (.builtin "len") := by decide +kernel
theorem bb_list : bootBuiltins "list" = some (.type "list") := by decide +kernel
theorem bb_max : bootBuiltins "max" = some (.builtin "max") := by decide +kernel
theorem bb_sorted : bootBuiltins "sorted" = some (.builtin "sorted") := by decide +kernel
theorem bb_str : bootBuiltins "str" = some (.type "str") := by decide +kernel
theorem bb_tuple : bootBuiltins "tuple" = some (.type "tuple") := by decide +kernel
section
variable {P : Program} {w : World} {K : PySem.W.Frag} {mg : Str → Option Value} {base : Heap}
abbrev s__page : Stmt := (topS 1)
theorem sc__page : FnScope ["items", "low", "limit", "high", "found", "key", "following"] ["items", "low", "limit", "high"] (defScope s__page) := ⟨rfl, rfl, rfl, by decide +kernel, rfl, by decide +kernel, by decide +kernel⟩
abbrev lcx__page_0 : Scope := (lcOf (kid (kid (skid (stm (defBody s__page) 3) 0) 1) 1))
theorem lcb__page_0 : blkC ["items", "low", "limit", "high", "found", "key", "following"] (defScope s__page) lcx__page_0 [("key", 5)] = true := by decide +kernel
theorem lcv__page_0 : visAll [0, 5] ["items", "low", "limit", "high", "found", "key", "following"] (relS lcx__page_0 (defScope s__page)) = true := by decide +kernel
theorem lcg__page_0 : glAll [] (relS lcx__page_0 (defScope s__page)) = true := by decide +kernel
theorem lcl__page_0_0 : (relS lcx__page_0 (defScope s__page)).names.lookup ("key" : Str) = some NameKind.local := by decide +kernel
abbrev lcx__page_1 : Scope := (lcOf (skid (stm (defBody s__page) 0) 0))
theorem lcb__page_1 : blkC ["items", "low", "limit", "high", "found", "key", "following"] (defScope s__page) lcx__page_1 [("key", 5)] = true := by decide +kernel
theorem lcv__page_1 : visAll [1, 5] ["items", "low", "limit", "high", "found", "key", "following"] (relS lcx__page_1 (defScope s__page)) = true := by decide +kernel
theorem lcg__page_1 : glAll [] (relS lcx__page_1 (defScope s__page)) = true := by decide +kernel
theorem lcl__page_1_0 : (relS lcx__page_1 (defScope s__page)).names.lookup ("key" : Str) = some NameKind.local := by decide +kernel
theorem lca__page_1 : (lcx__page_1.names.any fun (n, k) => n == ("found" : Str) && (k == .local || k == .cell)) = false := by decide +kernel
theorem va__page : locAll [0, 1, 2, 3, 4, 6] ["items", "low", "limit", "high", "found", "key", "following"] (defScope s__page) = true := by decide +kernel
theorem ga__page : glAll ["tuple", "len", "sorted"] (defScope s__page) = true := by decide +kernel
theorem ln__page_4 : (defScope s__page).names.lookup ("found" : Str) = some NameKind.local := by decide +kernel
noncomputable def m__page : SM :=
  (mSeq (mSet 4 (mLc [5] (LT.one 5) (iAny (mCall (fnSorted false) (mCons (mVar 0) mNil))) (mBl (mBin fLe (mVar 1) (mVar 5))) (mVar 5)))
    (mSeq (mSet 6 (mVar 3))
    (mSeq (mIfS (mBl (mBin fGt (mCall fnLen (mCons (mVar 4) mNil)) (mVar 2))) (mSet 6 (mIx (mVar 4) (mVar 2))) mSkip)
    (mRet (mTup (mCons (mC (.str "page")) (mCons (mCall fnTuple (mCons (mLc [5] (LT.one 5) (iAny (mSl false (mVar 4) oNo (oAt (mVar 2)))) mYes (mTup (mCons (mVar 5) (mCons (mIx (mVar 0) (mVar 5)) mNil)))) mNil)) (mCons (mVar 6) mNil))))))))
noncomputable def V__page : FM := den 7 m__page
theorem ok__page {f : Addr} {fd : FuncData} (F : Fun K "_page" "_page" s__page f fd)
    (n_tuple : mg "tuple" = none)
    (n_len : mg "len" = none)
    (n_sorted : mg "sorted" = none) :
    FnOk P w K mg base (L2.CX P w) 1 f fd ["items", "low", "limit", "high"] (spD (nm (tkHash w)) K mg 4 V__page) :=
  den_ok (m := m__page) F sc__page (fun cdv A outer s H E hr => by
  have nd := sc__page.nd
  have hh := L2H.roomH_of hr
  have hl : locAll [0, 1, 2, 3, 4, 6] (cxOf (L2.CX P w) P w K mg base ["items", "low", "limit", "high", "found", "key", "following"] "_page" (defScope s__page) f cdv A outer s H E).N (cxOf (L2.CX P w) P w K mg base ["items", "low", "limit", "high", "found", "key", "following"] "_page" (defScope s__page) f cdv A outer s H E).env.scope = true := va__page
  have hv := locVis hl
  have hg : glAll ["tuple", "len", "sorted"] (cxOf (L2.CX P w) P w K mg base ["items", "low", "limit", "high", "found", "key", "following"] "_page" (defScope s__page) f cdv A outer s H E).env.scope = true := ga__page
  have hc : (cxOf (L2.CX P w) P w K mg base ["items", "low", "limit", "high", "found", "key", "following"] "_page" (defScope s__page) f cdv A outer s H E).calm = true := rfl
  have hp : PassesOwn (model P w) (cxOf (L2.CX P w) P w K mg base ["items", "low", "limit", "high", "found", "key", "following"] "_page" (defScope s__page) f cdv A outer s H E).A (cxOf (L2.CX P w) P w K mg base ["items", "low", "limit", "high", "found", "key", "following"] "_page" (defScope s__page) f cdv A outer s H E).env (cxOf (L2.CX P w) P w K mg base ["items", "low", "limit", "high", "found", "key", "following"] "_page" (defScope s__page) f cdv A outer s H E).xe := passes_of rfl
  exact (mb_cons (ms_setLc 4 (LT.one 5) hc nd rfl ln__page_4 rfl rfl lca__page_1 (mi_any (me_callB (c_sorted false hc) (gl_at hg 2) n_sorted bb_sorted (ma_cons (me_var 0 hv) ma_nil))) (blkOk_by lcb__page_1) rfl (by simp) (fun s1 H1 C cl fp => (pg_one 5 nd rfl (.inl lcl__page_1_0) (.inr lcl__page_1_0))) (fun s1 H1 C cl fp => by
    have hvb : visAll [1, 5] (Cx.blk (cxOf (L2.CX P w) P w K mg base ["items", "low", "limit", "high", "found", "key", "following"] "_page" (defScope s__page) f cdv A outer s H E) s1 H1 lcx__page_1 (compEnvC lcx__page_1 cl C (cxOf (L2.CX P w) P w K mg base ["items", "low", "limit", "high", "found", "key", "following"] "_page" (defScope s__page) f cdv A outer s H E).env) fp).N (Cx.blk (cxOf (L2.CX P w) P w K mg base ["items", "low", "limit", "high", "found", "key", "following"] "_page" (defScope s__page) f cdv A outer s H E) s1 H1 lcx__page_1 (compEnvC lcx__page_1 cl C (cxOf (L2.CX P w) P w K mg base ["items", "low", "limit", "high", "found", "key", "following"] "_page" (defScope s__page) f cdv A outer s H E).env) fp).env.scope = true := lcv__page_1
    have hgb : glAll [] (Cx.blk (cxOf (L2.CX P w) P w K mg base ["items", "low", "limit", "high", "found", "key", "following"] "_page" (defScope s__page) f cdv A outer s H E) s1 H1 lcx__page_1 (compEnvC lcx__page_1 cl C (cxOf (L2.CX P w) P w K mg base ["items", "low", "limit", "high", "found", "key", "following"] "_page" (defScope s__page) f cdv A outer s H E).env) fp).env.scope = true := lcg__page_1
    exact (mts_one (mt_cmp o_le (me_var 1 hvb) (me_var 5 hvb) (nomark _)))) (fun s1 H1 C cl fp => by
    have hvb : visAll [1, 5] (Cx.blk (cxOf (L2.CX P w) P w K mg base ["items", "low", "limit", "high", "found", "key", "following"] "_page" (defScope s__page) f cdv A outer s H E) s1 H1 lcx__page_1 (compEnvC lcx__page_1 cl C (cxOf (L2.CX P w) P w K mg base ["items", "low", "limit", "high", "found", "key", "following"] "_page" (defScope s__page) f cdv A outer s H E).env) fp).N (Cx.blk (cxOf (L2.CX P w) P w K mg base ["items", "low", "limit", "high", "found", "key", "following"] "_page" (defScope s__page) f cdv A outer s H E) s1 H1 lcx__page_1 (compEnvC lcx__page_1 cl C (cxOf (L2.CX P w) P w K mg base ["items", "low", "limit", "high", "found", "key", "following"] "_page" (defScope s__page) f cdv A outer s H E).env) fp).env.scope = true := lcv__page_1
    have hgb : glAll [] (Cx.blk (cxOf (L2.CX P w) P w K mg base ["items", "low", "limit", "high", "found", "key", "following"] "_page" (defScope s__page) f cdv A outer s H E) s1 H1 lcx__page_1 (compEnvC lcx__page_1 cl C (cxOf (L2.CX P w) P w K mg base ["items", "low", "limit", "high", "found", "key", "following"] "_page" (defScope s__page) f cdv A outer s H E).env) fp).env.scope = true := lcg__page_1
    exact (me_var 5 hvb)))
    (mb_cons (ms_set 6 nd hl (me_var 3 hv))
    (mb_cons (ms_if (mt_cmp o_gt (me_callB c_len (gl_at hg 1) n_len bb_len (ma_cons (me_var 4 hv) ma_nil)) (me_var 2 hv) (nomark _)) (mb_one (ms_set 6 nd hl (me_ix hh (me_var 4 hv) (me_var 2 hv)))) mb_nil)
    (mb_one (ms_ret (me_tup (ma_cons me_str (ma_cons (me_callT c_tuple (gl_at hg 0) n_tuple bb_tuple (ma_cons (me_lc (LT.one 5) hc nd (mi_any (me_sl false (me_var 4 hv) mo_no (mo_at (me_var 2 hv)))) (blkOk_by lcb__page_0) rfl (by simp) (fun s1 H1 C cl fp => (pg_one 5 nd rfl (.inl lcl__page_0_0) (.inr lcl__page_0_0))) (fun s1 H1 C cl fp => by
    have hvb : visAll [0, 5] (Cx.blk (cxOf (L2.CX P w) P w K mg base ["items", "low", "limit", "high", "found", "key", "following"] "_page" (defScope s__page) f cdv A outer s H E) s1 H1 lcx__page_0 (compEnvC lcx__page_0 cl C (cxOf (L2.CX P w) P w K mg base ["items", "low", "limit", "high", "found", "key", "following"] "_page" (defScope s__page) f cdv A outer s H E).env) fp).N (Cx.blk (cxOf (L2.CX P w) P w K mg base ["items", "low", "limit", "high", "found", "key", "following"] "_page" (defScope s__page) f cdv A outer s H E) s1 H1 lcx__page_0 (compEnvC lcx__page_0 cl C (cxOf (L2.CX P w) P w K mg base ["items", "low", "limit", "high", "found", "key", "following"] "_page" (defScope s__page) f cdv A outer s H E).env) fp).env.scope = true := lcv__page_0
    have hgb : glAll [] (Cx.blk (cxOf (L2.CX P w) P w K mg base ["items", "low", "limit", "high", "found", "key", "following"] "_page" (defScope s__page) f cdv A outer s H E) s1 H1 lcx__page_0 (compEnvC lcx__page_0 cl C (cxOf (L2.CX P w) P w K mg base ["items", "low", "limit", "high", "found", "key", "following"] "_page" (defScope s__page) f cdv A outer s H E).env) fp).env.scope = true := lcg__page_0
    exact mts_nil) (fun s1 H1 C cl fp => by
    have hvb : visAll [0, 5] (Cx.blk (cxOf (L2.CX P w) P w K mg base ["items", "low", "limit", "high", "found", "key", "following"] "_page" (defScope s__page) f cdv A outer s H E) s1 H1 lcx__page_0 (compEnvC lcx__page_0 cl C (cxOf (L2.CX P w) P w K mg base ["items", "low", "limit", "high", "found", "key", "following"] "_page" (defScope s__page) f cdv A outer s H E).env) fp).N (Cx.blk (cxOf (L2.CX P w) P w K mg base ["items", "low", "limit", "high", "found", "key", "following"] "_page" (defScope s__page) f cdv A outer s H E) s1 H1 lcx__page_0 (compEnvC lcx__page_0 cl C (cxOf (L2.CX P w) P w K mg base ["items", "low", "limit", "high", "found", "key", "following"] "_page" (defScope s__page) f cdv A outer s H E).env) fp).env.scope = true := lcv__page_0
    have hgb : glAll [] (Cx.blk (cxOf (L2.CX P w) P w K mg base ["items", "low", "limit", "high", "found", "key", "following"] "_page" (defScope s__page) f cdv A outer s H E) s1 H1 lcx__page_0 (compEnvC lcx__page_0 cl C (cxOf (L2.CX P w) P w K mg base ["items", "low", "limit", "high", "found", "key", "following"] "_page" (defScope s__page) f cdv A outer s H E).env) fp).env.scope = true := lcg__page_0
    exact (me_tup (ma_cons (me_var 5 hvb) (ma_cons (me_ix hh (me_var 0 hvb) (me_var 5 hvb)) ma_nil))))) ma_nil)) (ma_cons (me_var 6 hv) ma_nil)))))))))) rfl rfl
abbrev s_apply : Stmt := (topS 2)
theorem sc_apply : FnScope ["items", "op", "high", "kind", "key"] ["items", "op", "high"] (defScope s_apply) := ⟨rfl, rfl, rfl, by decide +kernel, rfl, by decide +kernel, by decide +kernel⟩
theorem va_apply : locAll [0, 1, 2, 3, 4] ["items", "op", "high", "kind", "key"] (defScope s_apply) = true := by decide +kernel
theorem ga_apply : glAll ["_page"] (defScope s_apply) = true := by decide +kernel
noncomputable def m_apply : SM :=
  (mSeq (mPar 3 4 (mCons (mIx (mVar 1) (mC (.int 0))) (mCons (mIx (mVar 1) (mC (.int 1))) mNil)))
    (mSeq (mIfS (mBl (mBin fEq (mVar 3) (mC (.str "page")))) (mRet (mCall V__page (mCons (mVar 0) (mCons (mVar 4) (mCons (mIx (mVar 1) (mC (.int 2))) (mCons (mVar 2) mNil)))))) mSkip)
    (mSeq (mIfS (mBl (mBin fEq (mVar 3) (mC (.str "put")))) (mSeq (mSetI (mIx (mVar 1) (mC (.int 2))) (mVar 0) (mVar 4))
    (mRet (mTup (mCons (mC (.str "done")) mNil)))) mSkip)
    (mSeq (mIfS (mBl (mBin fNotIn (mVar 4) (mVar 0))) (mRet (mTup (mCons (mC (.str "none")) mNil))) mSkip)
    (mSeq (mIfS (mBl (mBin fEq (mVar 3) (mC (.str "get")))) (mRet (mTup (mCons (mC (.str "value")) (mCons (mIx (mVar 0) (mVar 4)) mNil)))) mSkip)
    (mSeq (mIfS (mBl (mBin fEq (mVar 3) (mC (.str "drop")))) (mSeq (mDel (mVar 0) (mVar 4))
    (mRet (mTup (mCons (mC (.str "done")) mNil)))) mSkip)
    (mSeq (mIfS (mBl (mBin fNe (mIx (mVar 0) (mVar 4)) (mIx (mVar 1) (mC (.int 2))))) (mRet (mTup (mCons (mC (.str "other")) (mCons (mIx (mVar 0) (mVar 4)) mNil)))) mSkip)
    (mSeq (mSetI (mIx (mVar 1) (mC (.int 3))) (mVar 0) (mVar 4))
    (mRet (mTup (mCons (mC (.str "done")) mNil)))))))))))
noncomputable def V_apply : FM := den 5 m_apply
theorem ok_apply {f : Addr} {fd : FuncData} (F : Fun K "apply" "apply" s_apply f fd)
    (d__page : DefOk P w K mg base (nm (tkHash w)) 1 "_page" 4 V__page) :
    FnOk P w K mg base (L2.CX P w) 2 f fd ["items", "op", "high"] (spD (nm (tkHash w)) K mg 3 V_apply) :=
  den_ok (m := m_apply) F sc_apply (fun cdv A outer s H E hr => by
  have nd := sc_apply.nd
  have hh := L2H.roomH_of hr
  have hl : locAll [0, 1, 2, 3, 4] (cxOf (L2.CX P w) P w K mg base ["items", "op", "high", "kind", "key"] "apply" (defScope s_apply) f cdv A outer s H E).N (cxOf (L2.CX P w) P w K mg base ["items", "op", "high", "kind", "key"] "apply" (defScope s_apply) f cdv A outer s H E).env.scope = true := va_apply
  have hv := locVis hl
  have hg : glAll ["_page"] (cxOf (L2.CX P w) P w K mg base ["items", "op", "high", "kind", "key"] "apply" (defScope s_apply) f cdv A outer s H E).env.scope = true := ga_apply
  have hc : (cxOf (L2.CX P w) P w K mg base ["items", "op", "high", "kind", "key"] "apply" (defScope s_apply) f cdv A outer s H E).calm = true := rfl
  have hp : PassesOwn (model P w) (cxOf (L2.CX P w) P w K mg base ["items", "op", "high", "kind", "key"] "apply" (defScope s_apply) f cdv A outer s H E).A (cxOf (L2.CX P w) P w K mg base ["items", "op", "high", "kind", "key"] "apply" (defScope s_apply) f cdv A outer s H E).env (cxOf (L2.CX P w) P w K mg base ["items", "op", "high", "kind", "key"] "apply" (defScope s_apply) f cdv A outer s H E).xe := passes_of rfl
  exact (mb_cons (ms_par 3 4 hc nd (ma_cons (me_ix hh (me_var 1 hv) me_int) (ma_cons (me_ix hh (me_var 1 hv) me_int) ma_nil)))
    (mb_cons (ms_if (mt_cmp (o_eq hh) (me_var 3 hv) me_str (nomark _)) (mb_one (ms_ret (me_call d__page (hr.mono (by decide)) (gl_at hg 0) (ma_cons (me_var 0 hv) (ma_cons (me_var 4 hv) (ma_cons (me_ix hh (me_var 1 hv) me_int) (ma_cons (me_var 2 hv) ma_nil))))))) mb_nil)
    (mb_cons (ms_if (mt_cmp (o_eq hh) (me_var 3 hv) me_str (nomark _)) (mb_cons (ms_setI hh (me_var 0 hv) (me_var 4 hv) (me_ix hh (me_var 1 hv) me_int))
    (mb_one (ms_ret (me_tup (ma_cons me_str ma_nil))))) mb_nil)
    (mb_cons (ms_if (mt_cmp (o_notin hh) (me_var 4 hv) (me_var 0 hv) (by rfl)) (mb_one (ms_ret (me_tup (ma_cons me_str ma_nil)))) mb_nil)
    (mb_cons (ms_if (mt_cmp (o_eq hh) (me_var 3 hv) me_str (nomark _)) (mb_one (ms_ret (me_tup (ma_cons me_str (ma_cons (me_ix hh (me_var 0 hv) (me_var 4 hv)) ma_nil))))) mb_nil)
    (mb_cons (ms_if (mt_cmp (o_eq hh) (me_var 3 hv) me_str (nomark _)) (mb_cons (ms_del (me_var 0 hv) (me_var 4 hv))
    (mb_one (ms_ret (me_tup (ma_cons me_str ma_nil))))) mb_nil)
    (mb_cons (ms_if (mt_cmp (o_ne hh) (me_ix hh (me_var 0 hv) (me_var 4 hv)) (me_ix hh (me_var 1 hv) me_int) (nomark _)) (mb_one (ms_ret (me_tup (ma_cons me_str (ma_cons (me_ix hh (me_var 0 hv) (me_var 4 hv)) ma_nil))))) mb_nil)
    (mb_cons (ms_setI hh (me_var 0 hv) (me_var 4 hv) (me_ix hh (me_var 1 hv) me_int))
    (mb_one (ms_ret (me_tup (ma_cons me_str ma_nil))))))))))))) rfl rfl
abbrev s_does_request : Stmt := (topS 4)
theorem sc_does_request : FnScope ["event"] ["event"] (defScope s_does_request) := ⟨rfl, rfl, rfl, by decide +kernel, rfl, by decide +kernel, by decide +kernel⟩
theorem va_does_request : locAll [0] ["event"] (defScope s_does_request) = true := by decide +kernel
theorem ga_does_request : glAll [] (defScope s_does_request) = true := by decide +kernel
noncomputable def m_does_request : SM :=
  (mRet (mAndV (mBin fEq (mIx (mVar 0) (mC (.int 0))) (mC (.str "done"))) (mBin fEq (mIx (mIx (mVar 0) (mC (.int 3))) (mC (.int 0))) (mC (.str "did")))))
noncomputable def V_does_request : FM := den 1 m_does_request
theorem ok_does_request {f : Addr} {fd : FuncData} (F : Fun K "does_request" "does_request" s_does_request f fd) :
    FnOk P w K mg base (L2.CX P w) 1 f fd ["event"] (spD (nm (tkHash w)) K mg 1 V_does_request) :=
  den_ok (m := m_does_request) F sc_does_request (fun cdv A outer s H E hr => by
  have nd := sc_does_request.nd
  have hh := L2H.roomH_of hr
  have hl : locAll [0] (cxOf (L2.CX P w) P w K mg base ["event"] "does_request" (defScope s_does_request) f cdv A outer s H E).N (cxOf (L2.CX P w) P w K mg base ["event"] "does_request" (defScope s_does_request) f cdv A outer s H E).env.scope = true := va_does_request
  have hv := locVis hl
  have hg : glAll [] (cxOf (L2.CX P w) P w K mg base ["event"] "does_request" (defScope s_does_request) f cdv A outer s H E).env.scope = true := ga_does_request
  have hc : (cxOf (L2.CX P w) P w K mg base ["event"] "does_request" (defScope s_does_request) f cdv A outer s H E).calm = true := rfl
  have hp : PassesOwn (model P w) (cxOf (L2.CX P w) P w K mg base ["event"] "does_request" (defScope s_does_request) f cdv A outer s H E).A (cxOf (L2.CX P w) P w K mg base ["event"] "does_request" (defScope s_does_request) f cdv A outer s H E).env (cxOf (L2.CX P w) P w K mg base ["event"] "does_request" (defScope s_does_request) f cdv A outer s H E).xe := passes_of rfl
  exact (mb_one (ms_ret (me_and (me_cmp (o_eq hh) (me_ix hh (me_var 0 hv) me_int) me_str (nomark _)) (me_one (me_cmp (o_eq hh) (me_ix hh (me_ix hh (me_var 0 hv) me_int) me_int) me_str (nomark _))))))) rfl rfl
abbrev s_request_fault : Stmt := (topS 5)
theorem sc_request_fault : FnScope ["events", "called", "done", "event", "client", "number", "operation"] ["events"] (defScope s_request_fault) := ⟨rfl, rfl, rfl, by decide +kernel, rfl, by decide +kernel, by decide +kernel⟩
theorem va_request_fault : locAll [0, 1, 2, 3, 4, 5, 6] ["events", "called", "done", "event", "client", "number", "operation"] (defScope s_request_fault) = true := by decide +kernel
theorem ga_request_fault : glAll ["does_request"] (defScope s_request_fault) = true := by decide +kernel
noncomputable def lb_request_fault_0 : SM :=
  (mSeq (mIfS (mBl (mBin fEq (mIx (mVar 3) (mC (.int 0))) (mC (.str "call")))) (mSetIT (mIx (mVar 3) (mC (.int 4))) (mVar 1) (mTup (mCons (mIx (mVar 3) (mC (.int 2))) (mCons (mIx (mVar 3) (mC (.int 3))) mNil)))) mSkip)
    (mIfS (mBl (mCall V_does_request (mCons (mVar 3) mNil))) (mSeq (mPar3 4 5 6 (mCons (mIx (mIx (mVar 3) (mC (.int 3))) (mC (.int 3))) (mCons (mIx (mIx (mVar 3) (mC (.int 3))) (mC (.int 4))) (mCons (mIx (mIx (mVar 3) (mC (.int 3))) (mC (.int 5))) mNil))))
    (mSeq (mIfS (mOr (mBl (mBin fNotInT (mTup (mCons (mVar 4) (mCons (mVar 5) mNil))) (mVar 1))) (mBl (mBin fNe (mIxT (mVar 1) (mTup (mCons (mVar 4) (mCons (mVar 5) mNil)))) (mVar 6)))) (mRet (mTup (mCons (mC (.str "uncalled")) (mCons (mVar 4) (mCons (mVar 5) mNil))))) mSkip)
    (mSeq (mIfS (mBl (mBin fInT (mTup (mCons (mVar 4) (mCons (mVar 5) mNil))) (mVar 2))) (mRet (mTup (mCons (mC (.str "repeated")) (mCons (mVar 4) (mCons (mVar 5) mNil))))) mSkip)
    (mSetIT (mC (.bl true)) (mVar 2) (mTup (mCons (mVar 4) (mCons (mVar 5) mNil))))))) mSkip))
noncomputable def m_request_fault : SM :=
  (mSeq (mSet 1 mDct)
    (mSeq (mSet 2 mDct)
    (mSeq (mFor (iAny (mVar 0)) (gNm 3) lb_request_fault_0)
    (mRet (mC .non)))))
noncomputable def V_request_fault : FM := den 7 m_request_fault
theorem ok_request_fault {f : Addr} {fd : FuncData} (F : Fun K "request_fault" "request_fault" s_request_fault f fd)
    (d_does_request : DefOk P w K mg base (nm (tkHash w)) 1 "does_request" 1 V_does_request) :
    FnOk P w K mg base (L2.CX P w) 2 f fd ["events"] (spD (nm (tkHash w)) K mg 1 V_request_fault) :=
  den_ok (m := m_request_fault) F sc_request_fault (fun cdv A outer s H E hr => by
  have nd := sc_request_fault.nd
  have hh := L2H.roomH_of hr
  have hl : locAll [0, 1, 2, 3, 4, 5, 6] (cxOf (L2.CX P w) P w K mg base ["events", "called", "done", "event", "client", "number", "operation"] "request_fault" (defScope s_request_fault) f cdv A outer s H E).N (cxOf (L2.CX P w) P w K mg base ["events", "called", "done", "event", "client", "number", "operation"] "request_fault" (defScope s_request_fault) f cdv A outer s H E).env.scope = true := va_request_fault
  have hv := locVis hl
  have hg : glAll ["does_request"] (cxOf (L2.CX P w) P w K mg base ["events", "called", "done", "event", "client", "number", "operation"] "request_fault" (defScope s_request_fault) f cdv A outer s H E).env.scope = true := ga_request_fault
  have hc : (cxOf (L2.CX P w) P w K mg base ["events", "called", "done", "event", "client", "number", "operation"] "request_fault" (defScope s_request_fault) f cdv A outer s H E).calm = true := rfl
  have hp : PassesOwn (model P w) (cxOf (L2.CX P w) P w K mg base ["events", "called", "done", "event", "client", "number", "operation"] "request_fault" (defScope s_request_fault) f cdv A outer s H E).A (cxOf (L2.CX P w) P w K mg base ["events", "called", "done", "event", "client", "number", "operation"] "request_fault" (defScope s_request_fault) f cdv A outer s H E).env (cxOf (L2.CX P w) P w K mg base ["events", "called", "done", "event", "client", "number", "operation"] "request_fault" (defScope s_request_fault) f cdv A outer s H E).xe := passes_of rfl
  exact (mb_cons (ms_set 1 nd hl me_dct)
    (mb_cons (ms_set 2 nd hl me_dct)
    (mb_cons (ms_for hp hc (mi_any (me_var 0 hv)) (mg_name 3 nd hl) (gok_nm 3) (mb_cons (ms_if (mt_cmp (o_eq hh) (me_ix hh (me_var 3 hv) me_int) me_str (nomark _)) (mb_one (ms_setIT hh (me_var 1 hv) (me_tup (ma_cons (me_ix hh (me_var 3 hv) me_int) (ma_cons (me_ix hh (me_var 3 hv) me_int) ma_nil))) (me_ix hh (me_var 3 hv) me_int))) mb_nil)
    (mb_one (ms_if (mt_val (me_call d_does_request (hr.mono (by decide)) (gl_at hg 0) (ma_cons (me_var 3 hv) ma_nil))) (mb_cons (ms_par3 4 5 6 hc nd (ma_cons (me_ix hh (me_ix hh (me_var 3 hv) me_int) me_int) (ma_cons (me_ix hh (me_ix hh (me_var 3 hv) me_int) me_int) (ma_cons (me_ix hh (me_ix hh (me_var 3 hv) me_int) me_int) ma_nil))))
    (mb_cons (ms_if (MW.mt (mw_or (mt_cmp (o_notinT hh) (me_tup (ma_cons (me_var 4 hv) (ma_cons (me_var 5 hv) ma_nil))) (me_var 1 hv) (by rfl)) (mw_or1 (mt_cmp (o_ne hh) (me_ixT hh (me_var 1 hv) (me_tup (ma_cons (me_var 4 hv) (ma_cons (me_var 5 hv) ma_nil)))) (me_var 6 hv) (nomark _))))) (mb_one (ms_ret (me_tup (ma_cons me_str (ma_cons (me_var 4 hv) (ma_cons (me_var 5 hv) ma_nil)))))) mb_nil)
    (mb_cons (ms_if (mt_cmp (o_inT hh) (me_tup (ma_cons (me_var 4 hv) (ma_cons (me_var 5 hv) ma_nil))) (me_var 2 hv) (by rfl)) (mb_one (ms_ret (me_tup (ma_cons me_str (ma_cons (me_var 4 hv) (ma_cons (me_var 5 hv) ma_nil)))))) mb_nil)
    (mb_one (ms_setIT hh (me_var 2 hv) (me_tup (ma_cons (me_var 4 hv) (ma_cons (me_var 5 hv) ma_nil))) me_bl))))) mb_nil))))
    (mb_one (ms_ret me_non)))))) rfl rfl
abbrev s_page_fits : Stmt := (topS 6)
theorem sc_page_fits : FnScope ["items", "operation", "answer", "_", "low", "limit", "pairs", "after", "due", "key"] ["items", "operation", "answer"] (defScope s_page_fits) := ⟨rfl, rfl, rfl, by decide +kernel, rfl, by decide +kernel, by decide +kernel⟩
abbrev lcx_page_fits_0 : Scope := (lcOf (skid (stm (defBody s_page_fits) 4) 0))
theorem lcb_page_fits_0 : blkC ["items", "operation", "answer", "_", "low", "limit", "pairs", "after", "due", "key"] (defScope s_page_fits) lcx_page_fits_0 [("key", 9)] = true := by decide +kernel
theorem lcv_page_fits_0 : visAll [0, 4, 7, 9] ["items", "operation", "answer", "_", "low", "limit", "pairs", "after", "due", "key"] (relS lcx_page_fits_0 (defScope s_page_fits)) = true := by decide +kernel
theorem lcg_page_fits_0 : glAll [] (relS lcx_page_fits_0 (defScope s_page_fits)) = true := by decide +kernel
theorem lcl_page_fits_0_0 : (relS lcx_page_fits_0 (defScope s_page_fits)).names.lookup ("key" : Str) = some NameKind.local := by decide +kernel
theorem lca_page_fits_0 : (lcx_page_fits_0.names.any fun (n, k) => n == ("due" : Str) && (k == .local || k == .cell)) = false := by decide +kernel
theorem va_page_fits : locAll [0, 1, 2, 3, 4, 5, 6, 7, 8] ["items", "operation", "answer", "_", "low", "limit", "pairs", "after", "due", "key"] (defScope s_page_fits) = true := by decide +kernel
theorem ga_page_fits : glAll ["len", "tuple", "sorted", "isinstance", "str"] (defScope s_page_fits) = true := by decide +kernel
theorem ln_page_fits_8 : (defScope s_page_fits).names.lookup ("due" : Str) = some NameKind.local := by decide +kernel
noncomputable def m_page_fits : SM :=
  (mSeq (mAsg (mVar 1) (gTp 3 (gsCons (gNm 3) (gsCons (gNm 4) (gsCons (gNm 5) gsNil)))))
    (mSeq (mIfS (mOr (mNot (mBl (mIsi .tuple (mVar 2)))) (mOr (mBl (mBin fNe (mCall fnLen (mCons (mVar 2) mNil)) (mC (.int 3)))) (mBl (mBin fNe (mIx (mVar 2) (mC (.int 0))) (mC (.str "page")))))) (mRet (mC (.bl false))) mSkip)
    (mSeq (mAsg (mVar 2) (gTp 3 (gsCons (gNm 3) (gsCons (gNm 6) (gsCons (gNm 7) gsNil)))))
    (mSeq (mIfS (mAnd (mBl (mBin fIsNot (mVar 7) (mC .non))) (mOr (mNot (mBl (mIsi .str (mVar 7)))) (mBl (mBin fLe (mVar 7) (mVar 4))))) (mRet (mC (.bl false))) mSkip)
    (mSeq (mSet 8 (mLc [9] (LT.one 9) (iAny (mCall (fnSorted false) (mCons (mVar 0) mNil))) (mAnd (mBl (mBin fGe (mVar 9) (mVar 4))) (mOr (mBl (mBin fIs (mVar 7) (mC .non))) (mBl (mBin fLt (mVar 9) (mVar 7))))) (mTup (mCons (mVar 9) (mCons (mIx (mVar 0) (mVar 9)) mNil)))))
    (mRet (mAndV (mBin fLe (mCall fnLen (mCons (mVar 8) mNil)) (mVar 5)) (mBin fEq (mVar 6) (mCall fnTuple (mCons (mVar 8) mNil))))))))))
noncomputable def V_page_fits : FM := den 10 m_page_fits
theorem ok_page_fits {f : Addr} {fd : FuncData} (F : Fun K "page_fits" "page_fits" s_page_fits f fd)
    (n_len : mg "len" = none)
    (n_tuple : mg "tuple" = none)
    (n_sorted : mg "sorted" = none)
    (n_isinstance : mg "isinstance" = none)
    (n_str : mg "str" = none) :
    FnOk P w K mg base (L2.CX P w) 1 f fd ["items", "operation", "answer"] (spD (nm (tkHash w)) K mg 3 V_page_fits) :=
  den_ok (m := m_page_fits) F sc_page_fits (fun cdv A outer s H E hr => by
  have nd := sc_page_fits.nd
  have hh := L2H.roomH_of hr
  have hl : locAll [0, 1, 2, 3, 4, 5, 6, 7, 8] (cxOf (L2.CX P w) P w K mg base ["items", "operation", "answer", "_", "low", "limit", "pairs", "after", "due", "key"] "page_fits" (defScope s_page_fits) f cdv A outer s H E).N (cxOf (L2.CX P w) P w K mg base ["items", "operation", "answer", "_", "low", "limit", "pairs", "after", "due", "key"] "page_fits" (defScope s_page_fits) f cdv A outer s H E).env.scope = true := va_page_fits
  have hv := locVis hl
  have hg : glAll ["len", "tuple", "sorted", "isinstance", "str"] (cxOf (L2.CX P w) P w K mg base ["items", "operation", "answer", "_", "low", "limit", "pairs", "after", "due", "key"] "page_fits" (defScope s_page_fits) f cdv A outer s H E).env.scope = true := ga_page_fits
  have hc : (cxOf (L2.CX P w) P w K mg base ["items", "operation", "answer", "_", "low", "limit", "pairs", "after", "due", "key"] "page_fits" (defScope s_page_fits) f cdv A outer s H E).calm = true := rfl
  have hp : PassesOwn (model P w) (cxOf (L2.CX P w) P w K mg base ["items", "operation", "answer", "_", "low", "limit", "pairs", "after", "due", "key"] "page_fits" (defScope s_page_fits) f cdv A outer s H E).A (cxOf (L2.CX P w) P w K mg base ["items", "operation", "answer", "_", "low", "limit", "pairs", "after", "due", "key"] "page_fits" (defScope s_page_fits) f cdv A outer s H E).env (cxOf (L2.CX P w) P w K mg base ["items", "operation", "answer", "_", "low", "limit", "pairs", "after", "due", "key"] "page_fits" (defScope s_page_fits) f cdv A outer s H E).xe := passes_of rfl
  exact (mb_cons (ms_asg (me_var 1 hv) (mg_tup hc 3 (mgs_cons (mg_name 3 nd hl) (mgs_cons (mg_name 4 nd hl) (mgs_cons (mg_name 5 nd hl) mgs_nil)))) (gok_tp (gsok_cons (gok_nm 3) (gsok_cons (gok_nm 4) (gsok_cons (gok_nm 5) gsok_nil)))))
    (mb_cons (ms_if (MW.mt (mw_or (mt_not (mt_val (me_isi .tuple (me_var 2 hv) (gl_at hg 3) n_isinstance (gl_at hg 1) n_tuple bb_isinstance bb_tuple))) (mw_or (mt_cmp (o_ne hh) (me_callB c_len (gl_at hg 0) n_len bb_len (ma_cons (me_var 2 hv) ma_nil)) me_int (nomark _)) (mw_or1 (mt_cmp (o_ne hh) (me_ix hh (me_var 2 hv) me_int) me_str (nomark _)))))) (mb_one (ms_ret me_bl)) mb_nil)
    (mb_cons (ms_asg (me_var 2 hv) (mg_tup hc 3 (mgs_cons (mg_name 3 nd hl) (mgs_cons (mg_name 6 nd hl) (mgs_cons (mg_name 7 nd hl) mgs_nil)))) (gok_tp (gsok_cons (gok_nm 3) (gsok_cons (gok_nm 6) (gsok_cons (gok_nm 7) gsok_nil)))))
    (mb_cons (ms_if (MW.mt (mw_and (mt_cmp o_isnot (me_var 7 hv) me_non (nomark _)) (mw_and1 (MW.mt (mw_or (mt_not (mt_val (me_isi .str (me_var 7 hv) (gl_at hg 3) n_isinstance (gl_at hg 4) n_str bb_isinstance bb_str))) (mw_or1 (mt_cmp o_le (me_var 7 hv) (me_var 4 hv) (nomark _)))))))) (mb_one (ms_ret me_bl)) mb_nil)
    (mb_cons (ms_setLc 8 (LT.one 9) hc nd rfl ln_page_fits_8 rfl rfl lca_page_fits_0 (mi_any (me_callB (c_sorted false hc) (gl_at hg 2) n_sorted bb_sorted (ma_cons (me_var 0 hv) ma_nil))) (blkOk_by lcb_page_fits_0) rfl (by simp) (fun s1 H1 C cl fp => (pg_one 9 nd rfl (.inl lcl_page_fits_0_0) (.inr lcl_page_fits_0_0))) (fun s1 H1 C cl fp => by
    have hvb : visAll [0, 4, 7, 9] (Cx.blk (cxOf (L2.CX P w) P w K mg base ["items", "operation", "answer", "_", "low", "limit", "pairs", "after", "due", "key"] "page_fits" (defScope s_page_fits) f cdv A outer s H E) s1 H1 lcx_page_fits_0 (compEnvC lcx_page_fits_0 cl C (cxOf (L2.CX P w) P w K mg base ["items", "operation", "answer", "_", "low", "limit", "pairs", "after", "due", "key"] "page_fits" (defScope s_page_fits) f cdv A outer s H E).env) fp).N (Cx.blk (cxOf (L2.CX P w) P w K mg base ["items", "operation", "answer", "_", "low", "limit", "pairs", "after", "due", "key"] "page_fits" (defScope s_page_fits) f cdv A outer s H E) s1 H1 lcx_page_fits_0 (compEnvC lcx_page_fits_0 cl C (cxOf (L2.CX P w) P w K mg base ["items", "operation", "answer", "_", "low", "limit", "pairs", "after", "due", "key"] "page_fits" (defScope s_page_fits) f cdv A outer s H E).env) fp).env.scope = true := lcv_page_fits_0
    have hgb : glAll [] (Cx.blk (cxOf (L2.CX P w) P w K mg base ["items", "operation", "answer", "_", "low", "limit", "pairs", "after", "due", "key"] "page_fits" (defScope s_page_fits) f cdv A outer s H E) s1 H1 lcx_page_fits_0 (compEnvC lcx_page_fits_0 cl C (cxOf (L2.CX P w) P w K mg base ["items", "operation", "answer", "_", "low", "limit", "pairs", "after", "due", "key"] "page_fits" (defScope s_page_fits) f cdv A outer s H E).env) fp).env.scope = true := lcg_page_fits_0
    exact (mts_one (MW.mt (mw_and (mt_cmp o_ge (me_var 9 hvb) (me_var 4 hvb) (nomark _)) (mw_and1 (MW.mt (mw_or (mt_cmp o_is (me_var 7 hvb) me_non (nomark _)) (mw_or1 (mt_cmp o_lt (me_var 9 hvb) (me_var 7 hvb) (nomark _)))))))))) (fun s1 H1 C cl fp => by
    have hvb : visAll [0, 4, 7, 9] (Cx.blk (cxOf (L2.CX P w) P w K mg base ["items", "operation", "answer", "_", "low", "limit", "pairs", "after", "due", "key"] "page_fits" (defScope s_page_fits) f cdv A outer s H E) s1 H1 lcx_page_fits_0 (compEnvC lcx_page_fits_0 cl C (cxOf (L2.CX P w) P w K mg base ["items", "operation", "answer", "_", "low", "limit", "pairs", "after", "due", "key"] "page_fits" (defScope s_page_fits) f cdv A outer s H E).env) fp).N (Cx.blk (cxOf (L2.CX P w) P w K mg base ["items", "operation", "answer", "_", "low", "limit", "pairs", "after", "due", "key"] "page_fits" (defScope s_page_fits) f cdv A outer s H E) s1 H1 lcx_page_fits_0 (compEnvC lcx_page_fits_0 cl C (cxOf (L2.CX P w) P w K mg base ["items", "operation", "answer", "_", "low", "limit", "pairs", "after", "due", "key"] "page_fits" (defScope s_page_fits) f cdv A outer s H E).env) fp).env.scope = true := lcv_page_fits_0
    have hgb : glAll [] (Cx.blk (cxOf (L2.CX P w) P w K mg base ["items", "operation", "answer", "_", "low", "limit", "pairs", "after", "due", "key"] "page_fits" (defScope s_page_fits) f cdv A outer s H E) s1 H1 lcx_page_fits_0 (compEnvC lcx_page_fits_0 cl C (cxOf (L2.CX P w) P w K mg base ["items", "operation", "answer", "_", "low", "limit", "pairs", "after", "due", "key"] "page_fits" (defScope s_page_fits) f cdv A outer s H E).env) fp).env.scope = true := lcg_page_fits_0
    exact (me_tup (ma_cons (me_var 9 hvb) (ma_cons (me_ix hh (me_var 0 hvb) (me_var 9 hvb)) ma_nil)))))
    (mb_one (ms_ret (me_and (me_cmp o_le (me_callB c_len (gl_at hg 0) n_len bb_len (ma_cons (me_var 8 hv) ma_nil)) (me_var 5 hv) (nomark _)) (me_one (me_cmp (o_eq hh) (me_var 6 hv) (me_callT c_tuple (gl_at hg 1) n_tuple bb_tuple (ma_cons (me_var 8 hv) ma_nil)) (nomark _)))))))))))) rfl rfl
abbrev s_answer_fault : Stmt := (topS 7)
theorem sc_answer_fault : FnScope ["events", "items", "done", "event", "key", "operation", "before", "answer"] ["events"] (defScope s_answer_fault) := ⟨rfl, rfl, rfl, by decide +kernel, rfl, by decide +kernel, by decide +kernel⟩
theorem va_answer_fault : locAll [0, 1, 2, 3, 4, 5, 6, 7] ["events", "items", "done", "event", "key", "operation", "before", "answer"] (defScope s_answer_fault) = true := by decide +kernel
theorem ga_answer_fault : glAll ["page_fits", "does_request", "apply", "dict"] (defScope s_answer_fault) = true := by decide +kernel
noncomputable def lb_answer_fault_0 : SM :=
  (mSeq (mIfS (mBl (mCall V_does_request (mCons (mVar 3) mNil))) (mSeq (mSet 4 (mTup (mCons (mIx (mIx (mVar 3) (mC (.int 3))) (mC (.int 3))) (mCons (mIx (mIx (mVar 3) (mC (.int 3))) (mC (.int 4))) mNil))))
    (mSeq (mSet 5 (mIx (mIx (mVar 3) (mC (.int 3))) (mC (.int 5))))
    (mSeq (mSet 6 (mCall fnDict (mCons (mVar 1) mNil)))
    (mSeq (mSet 7 (mCall V_apply (mCons (mVar 1) (mCons (mVar 5) (mCons (mC .non) mNil)))))
    (mIfS (mBl (mBin fNotInT (mVar 4) (mVar 2))) (mSetIT (mTup (mCons (mVar 5) (mCons (mVar 7) (mCons (mVar 6) mNil)))) (mVar 2) (mVar 4)) mSkip))))) mSkip)
    (mIfS (mBl (mBin fEq (mIx (mVar 3) (mC (.int 0))) (mC (.str "accept")))) (mSeq (mSet 4 (mTup (mCons (mIx (mVar 3) (mC (.int 2))) (mCons (mIx (mVar 3) (mC (.int 3))) mNil))))
    (mSeq (mIfS (mBl (mBin fNotInT (mVar 4) (mVar 2))) (mRet (mTup (mCons (mC (.str "missing")) (mCons (mIx (mVar 3) (mC (.int 2))) (mCons (mIx (mVar 3) (mC (.int 3))) mNil))))) mSkip)
    (mSeq (mAsg (mIxT (mVar 2) (mVar 4)) (gTp 3 (gsCons (gNm 5) (gsCons (gNm 7) (gsCons (gNm 6) gsNil)))))
    (mIfS (mBl (mBin fEq (mIx (mVar 5) (mC (.int 0))) (mC (.str "page")))) (mIfS (mNot (mBl (mCall V_page_fits (mCons (mVar 6) (mCons (mVar 5) (mCons (mIx (mVar 3) (mC (.int 4))) mNil)))))) (mRet (mTup (mCons (mC (.str "answer")) (mCons (mIx (mVar 3) (mC (.int 2))) (mCons (mIx (mVar 3) (mC (.int 3))) mNil))))) mSkip) (mIfS (mBl (mBin fNe (mIx (mVar 3) (mC (.int 4))) (mVar 7))) (mRet (mTup (mCons (mC (.str "answer")) (mCons (mIx (mVar 3) (mC (.int 2))) (mCons (mIx (mVar 3) (mC (.int 3))) mNil))))) mSkip))))) mSkip))
noncomputable def m_answer_fault : SM :=
  (mSeq (mSet 1 mDct)
    (mSeq (mSet 2 mDct)
    (mSeq (mFor (iAny (mVar 0)) (gNm 3) lb_answer_fault_0)
    (mRet (mC .non)))))
noncomputable def V_answer_fault : FM := den 8 m_answer_fault
theorem ok_answer_fault {f : Addr} {fd : FuncData} (F : Fun K "answer_fault" "answer_fault" s_answer_fault f fd)
    (d_page_fits : DefOk P w K mg base (nm (tkHash w)) 1 "page_fits" 3 V_page_fits)
    (d_does_request : DefOk P w K mg base (nm (tkHash w)) 1 "does_request" 1 V_does_request)
    (d_apply : DefOk P w K mg base (nm (tkHash w)) 2 "apply" 3 V_apply)
    (n_dict : mg "dict" = none) :
    FnOk P w K mg base (L2.CX P w) 3 f fd ["events"] (spD (nm (tkHash w)) K mg 1 V_answer_fault) :=
  den_ok (m := m_answer_fault) F sc_answer_fault (fun cdv A outer s H E hr => by
  have nd := sc_answer_fault.nd
  have hh := L2H.roomH_of hr
  have hl : locAll [0, 1, 2, 3, 4, 5, 6, 7] (cxOf (L2.CX P w) P w K mg base ["events", "items", "done", "event", "key", "operation", "before", "answer"] "answer_fault" (defScope s_answer_fault) f cdv A outer s H E).N (cxOf (L2.CX P w) P w K mg base ["events", "items", "done", "event", "key", "operation", "before", "answer"] "answer_fault" (defScope s_answer_fault) f cdv A outer s H E).env.scope = true := va_answer_fault
  have hv := locVis hl
  have hg : glAll ["page_fits", "does_request", "apply", "dict"] (cxOf (L2.CX P w) P w K mg base ["events", "items", "done", "event", "key", "operation", "before", "answer"] "answer_fault" (defScope s_answer_fault) f cdv A outer s H E).env.scope = true := ga_answer_fault
  have hc : (cxOf (L2.CX P w) P w K mg base ["events", "items", "done", "event", "key", "operation", "before", "answer"] "answer_fault" (defScope s_answer_fault) f cdv A outer s H E).calm = true := rfl
  have hp : PassesOwn (model P w) (cxOf (L2.CX P w) P w K mg base ["events", "items", "done", "event", "key", "operation", "before", "answer"] "answer_fault" (defScope s_answer_fault) f cdv A outer s H E).A (cxOf (L2.CX P w) P w K mg base ["events", "items", "done", "event", "key", "operation", "before", "answer"] "answer_fault" (defScope s_answer_fault) f cdv A outer s H E).env (cxOf (L2.CX P w) P w K mg base ["events", "items", "done", "event", "key", "operation", "before", "answer"] "answer_fault" (defScope s_answer_fault) f cdv A outer s H E).xe := passes_of rfl
  exact (mb_cons (ms_set 1 nd hl me_dct)
    (mb_cons (ms_set 2 nd hl me_dct)
    (mb_cons (ms_for hp hc (mi_any (me_var 0 hv)) (mg_name 3 nd hl) (gok_nm 3) (mb_cons (ms_if (mt_val (me_call d_does_request (hr.mono (by decide)) (gl_at hg 1) (ma_cons (me_var 3 hv) ma_nil))) (mb_cons (ms_set 4 nd hl (me_tup (ma_cons (me_ix hh (me_ix hh (me_var 3 hv) me_int) me_int) (ma_cons (me_ix hh (me_ix hh (me_var 3 hv) me_int) me_int) ma_nil))))
    (mb_cons (ms_set 5 nd hl (me_ix hh (me_ix hh (me_var 3 hv) me_int) me_int))
    (mb_cons (ms_set 6 nd hl (me_callT c_dict (gl_at hg 3) n_dict bb_dict (ma_cons (me_var 1 hv) ma_nil)))
    (mb_cons (ms_set 7 nd hl (me_call d_apply (hr.mono (by decide)) (gl_at hg 2) (ma_cons (me_var 1 hv) (ma_cons (me_var 5 hv) (ma_cons me_non ma_nil)))))
    (mb_one (ms_if (mt_cmp (o_notinT hh) (me_var 4 hv) (me_var 2 hv) (by rfl)) (mb_one (ms_setIT hh (me_var 2 hv) (me_var 4 hv) (me_tup (ma_cons (me_var 5 hv) (ma_cons (me_var 7 hv) (ma_cons (me_var 6 hv) ma_nil)))))) mb_nil)))))) mb_nil)
    (mb_one (ms_if (mt_cmp (o_eq hh) (me_ix hh (me_var 3 hv) me_int) me_str (nomark _)) (mb_cons (ms_set 4 nd hl (me_tup (ma_cons (me_ix hh (me_var 3 hv) me_int) (ma_cons (me_ix hh (me_var 3 hv) me_int) ma_nil))))
    (mb_cons (ms_if (mt_cmp (o_notinT hh) (me_var 4 hv) (me_var 2 hv) (by rfl)) (mb_one (ms_ret (me_tup (ma_cons me_str (ma_cons (me_ix hh (me_var 3 hv) me_int) (ma_cons (me_ix hh (me_var 3 hv) me_int) ma_nil)))))) mb_nil)
    (mb_cons (ms_asg (me_ixT hh (me_var 2 hv) (me_var 4 hv)) (mg_tup hc 3 (mgs_cons (mg_name 5 nd hl) (mgs_cons (mg_name 7 nd hl) (mgs_cons (mg_name 6 nd hl) mgs_nil)))) (gok_tp (gsok_cons (gok_nm 5) (gsok_cons (gok_nm 7) (gsok_cons (gok_nm 6) gsok_nil)))))
    (mb_one (ms_if (mt_cmp (o_eq hh) (me_ix hh (me_var 5 hv) me_int) me_str (nomark _)) (mb_one (ms_if (mt_not (mt_val (me_call d_page_fits (hr.mono (by decide)) (gl_at hg 0) (ma_cons (me_var 6 hv) (ma_cons (me_var 5 hv) (ma_cons (me_ix hh (me_var 3 hv) me_int) ma_nil)))))) (mb_one (ms_ret (me_tup (ma_cons me_str (ma_cons (me_ix hh (me_var 3 hv) me_int) (ma_cons (me_ix hh (me_var 3 hv) me_int) ma_nil)))))) mb_nil)) (mb_one (ms_if (mt_cmp (o_ne hh) (me_ix hh (me_var 3 hv) me_int) (me_var 7 hv) (nomark _)) (mb_one (ms_ret (me_tup (ma_cons me_str (ma_cons (me_ix hh (me_var 3 hv) me_int) (ma_cons (me_ix hh (me_var 3 hv) me_int) ma_nil)))))) mb_nil))))))) mb_nil))))
    (mb_one (ms_ret me_non)))))) rfl rfl
abbrev s__law_op : Stmt := (topS 10)
theorem sc__law_op : FnScope ["_law_cell_here", "_law_key", "_law_value", "_law_kinds"] ["_law_cell_here"] (defScope s__law_op) := ⟨rfl, rfl, rfl, by decide +kernel, rfl, by decide +kernel, by decide +kernel⟩
theorem va__law_op : locAll [0, 1, 2, 3] ["_law_cell_here", "_law_key", "_law_value", "_law_kinds"] (defScope s__law_op) = true := by decide +kernel
theorem ga__law_op : glAll ["int"] (defScope s__law_op) = true := by decide +kernel
noncomputable def m__law_op : SM :=
  (mSeq (mSet 1 (mIx (mLst false (mCons (mC (.str "a")) (mCons (mC (.str "b")) (mCons (mC (.str "ba")) (mCons (mC (.str "c")) mNil))))) (mBin fMod (mCall fnInt (mCons (mVar 0) mNil)) (mC (.int 4)))))
    (mSeq (mSet 2 (mIx (mLst false (mCons (mC (.str "x")) (mCons (mC (.str "y")) (mCons (mC (.str "")) mNil)))) (mBin fMod (mCall fnInt (mCons (mBin fDiv (mVar 0) (mC (.int 4))) mNil)) (mC (.int 3)))))
    (mSeq (mSet 3 (mLst false (mCons (mTup (mCons (mC (.str "put")) (mCons (mVar 1) (mCons (mVar 2) mNil)))) (mCons (mTup (mCons (mC (.str "put")) (mCons (mVar 1) (mCons (mBin fAdd (mVar 2) (mC (.str "z"))) mNil)))) (mCons (mTup (mCons (mC (.str "get")) (mCons (mVar 1) mNil))) (mCons (mTup (mCons (mC (.str "drop")) (mCons (mVar 1) mNil))) (mCons (mTup (mCons (mC (.str "swap")) (mCons (mVar 1) (mCons (mVar 2) (mCons (mC (.str "w")) mNil))))) mNil)))))))
    (mSeq (mSet 3 (mCat false (mVar 3) (mLst false (mCons (mTup (mCons (mC (.str "page")) (mCons (mIx (mLst false (mCons (mC (.str "")) (mCons (mC (.str "a")) (mCons (mC (.str "bb")) mNil)))) (mBin fMod (mCall fnInt (mCons (mBin fDiv (mVar 0) (mC (.int 4))) mNil)) (mC (.int 3)))) (mCons (mBin fAdd (mC (.int 1)) (mBin fMod (mCall fnInt (mCons (mBin fDiv (mVar 0) (mC (.int 12))) mNil)) (mC (.int 4)))) mNil)))) mNil))))
    (mRet (mIx (mVar 3) (mBin fMod (mCall fnInt (mCons (mBin fDiv (mVar 0) (mC (.int 60))) mNil)) (mC (.int 6)))))))))
noncomputable def V__law_op : FM := den 4 m__law_op
theorem ok__law_op {f : Addr} {fd : FuncData} (F : Fun K "_law_op" "_law_op" s__law_op f fd)
    (n_int : mg "int" = none) :
    FnOk P w K mg base (L2.CX P w) 1 f fd ["_law_cell_here"] (spD (nm (tkHash w)) K mg 1 V__law_op) :=
  den_ok (m := m__law_op) F sc__law_op (fun cdv A outer s H E hr => by
  have nd := sc__law_op.nd
  have hh := L2H.roomH_of hr
  have hl : locAll [0, 1, 2, 3] (cxOf (L2.CX P w) P w K mg base ["_law_cell_here", "_law_key", "_law_value", "_law_kinds"] "_law_op" (defScope s__law_op) f cdv A outer s H E).N (cxOf (L2.CX P w) P w K mg base ["_law_cell_here", "_law_key", "_law_value", "_law_kinds"] "_law_op" (defScope s__law_op) f cdv A outer s H E).env.scope = true := va__law_op
  have hv := locVis hl
  have hg : glAll ["int"] (cxOf (L2.CX P w) P w K mg base ["_law_cell_here", "_law_key", "_law_value", "_law_kinds"] "_law_op" (defScope s__law_op) f cdv A outer s H E).env.scope = true := ga__law_op
  have hc : (cxOf (L2.CX P w) P w K mg base ["_law_cell_here", "_law_key", "_law_value", "_law_kinds"] "_law_op" (defScope s__law_op) f cdv A outer s H E).calm = true := rfl
  have hp : PassesOwn (model P w) (cxOf (L2.CX P w) P w K mg base ["_law_cell_here", "_law_key", "_law_value", "_law_kinds"] "_law_op" (defScope s__law_op) f cdv A outer s H E).A (cxOf (L2.CX P w) P w K mg base ["_law_cell_here", "_law_key", "_law_value", "_law_kinds"] "_law_op" (defScope s__law_op) f cdv A outer s H E).env (cxOf (L2.CX P w) P w K mg base ["_law_cell_here", "_law_key", "_law_value", "_law_kinds"] "_law_op" (defScope s__law_op) f cdv A outer s H E).xe := passes_of rfl
  exact (mb_cons (ms_set 1 nd hl (me_ix hh (me_lst false (ma_cons me_str (ma_cons me_str (ma_cons me_str (ma_cons me_str ma_nil))))) (me_bin o_mod (me_callT c_int (gl_at hg 0) n_int bb_int (ma_cons (me_var 0 hv) ma_nil)) me_int)))
    (mb_cons (ms_set 2 nd hl (me_ix hh (me_lst false (ma_cons me_str (ma_cons me_str (ma_cons me_str ma_nil)))) (me_bin o_mod (me_callT c_int (gl_at hg 0) n_int bb_int (ma_cons (me_bin o_div (me_var 0 hv) me_int) ma_nil)) me_int)))
    (mb_cons (ms_set 3 nd hl (me_lst false (ma_cons (me_tup (ma_cons me_str (ma_cons (me_var 1 hv) (ma_cons (me_var 2 hv) ma_nil)))) (ma_cons (me_tup (ma_cons me_str (ma_cons (me_var 1 hv) (ma_cons (me_bin o_add (me_var 2 hv) me_str) ma_nil)))) (ma_cons (me_tup (ma_cons me_str (ma_cons (me_var 1 hv) ma_nil))) (ma_cons (me_tup (ma_cons me_str (ma_cons (me_var 1 hv) ma_nil))) (ma_cons (me_tup (ma_cons me_str (ma_cons (me_var 1 hv) (ma_cons (me_var 2 hv) (ma_cons me_str ma_nil))))) ma_nil)))))))
    (mb_cons (ms_set 3 nd hl (me_cat false (me_var 3 hv) (me_lst false (ma_cons (me_tup (ma_cons me_str (ma_cons (me_ix hh (me_lst false (ma_cons me_str (ma_cons me_str (ma_cons me_str ma_nil)))) (me_bin o_mod (me_callT c_int (gl_at hg 0) n_int bb_int (ma_cons (me_bin o_div (me_var 0 hv) me_int) ma_nil)) me_int)) (ma_cons (me_bin o_add me_int (me_bin o_mod (me_callT c_int (gl_at hg 0) n_int bb_int (ma_cons (me_bin o_div (me_var 0 hv) me_int) ma_nil)) me_int)) ma_nil)))) ma_nil))))
    (mb_one (ms_ret (me_ix hh (me_var 3 hv) (me_bin o_mod (me_callT c_int (gl_at hg 0) n_int bb_int (ma_cons (me_bin o_div (me_var 0 hv) me_int) ma_nil)) me_int))))))))) rfl rfl
abbrev s__law_answer : Stmt := (topS 11)
theorem sc__law_answer : FnScope ["_law_items", "_law_op_here", "_law_cell_here", "_law_key", "_law_found", "_law_one", "_law_many"] ["_law_items", "_law_op_here", "_law_cell_here"] (defScope s__law_answer) := ⟨rfl, rfl, rfl, by decide +kernel, rfl, by decide +kernel, by decide +kernel⟩
abbrev lcx__law_answer_0 : Scope := (lcOf (skid (stm (subs (stm (defBody s__law_answer) 1)) 0) 0))
theorem lcb__law_answer_0 : blkC ["_law_items", "_law_op_here", "_law_cell_here", "_law_key", "_law_found", "_law_one", "_law_many"] (defScope s__law_answer) lcx__law_answer_0 [("_law_one", 5)] = true := by decide +kernel
theorem lcv__law_answer_0 : visAll [0, 3, 5] ["_law_items", "_law_op_here", "_law_cell_here", "_law_key", "_law_found", "_law_one", "_law_many"] (relS lcx__law_answer_0 (defScope s__law_answer)) = true := by decide +kernel
theorem lcg__law_answer_0 : glAll [] (relS lcx__law_answer_0 (defScope s__law_answer)) = true := by decide +kernel
theorem lcl__law_answer_0_0 : (relS lcx__law_answer_0 (defScope s__law_answer)).names.lookup ("_law_one" : Str) = some NameKind.local := by decide +kernel
theorem lca__law_answer_0 : (lcx__law_answer_0.names.any fun (n, k) => n == ("_law_found" : Str) && (k == .local || k == .cell)) = false := by decide +kernel
theorem va__law_answer : locAll [0, 1, 2, 3, 4, 6] ["_law_items", "_law_op_here", "_law_cell_here", "_law_key", "_law_found", "_law_one", "_law_many"] (defScope s__law_answer) = true := by decide +kernel
theorem ga__law_answer : glAll ["tuple", "len", "int", "sorted"] (defScope s__law_answer) = true := by decide +kernel
theorem ln__law_answer_4 : (defScope s__law_answer).names.lookup ("_law_found" : Str) = some NameKind.local := by decide +kernel
noncomputable def m__law_answer : SM :=
  (mSeq (mSet 3 (mIx (mVar 1) (mC (.int 1))))
    (mSeq (mIfS (mBl (mBin fEq (mIx (mVar 1) (mC (.int 0))) (mC (.str "page")))) (mSeq (mSet 4 (mLc [5] (LT.one 5) (iAny (mCall (fnSorted false) (mCons (mVar 0) mNil))) (mBl (mBin fGe (mVar 5) (mVar 3))) (mTup (mCons (mVar 5) (mCons (mIx (mVar 0) (mVar 5)) mNil)))))
    (mSeq (mSet 6 (mIx (mVar 1) (mC (.int 2))))
    (mSeq (mIfS (mBl (mBin fEq (mBin fMod (mCall fnInt (mCons (mVar 2) mNil)) (mC (.int 3))) (mC (.int 0)))) (mSet 6 (mBin fMod (mCall fnInt (mCons (mBin fDiv (mVar 2) (mC (.int 3))) mNil)) (mBin fAdd (mIx (mVar 1) (mC (.int 2))) (mC (.int 1))))) mSkip)
    (mSeq (mIfS (mBl (mBin fGe (mVar 6) (mCall fnLen (mCons (mVar 4) mNil)))) (mRet (mTup (mCons (mC (.str "page")) (mCons (mCall fnTuple (mCons (mVar 4) mNil)) (mCons (mIx (mLst false (mCons (mC .non) (mCons (mC (.str "zz")) mNil))) (mBin fMod (mCall fnInt (mCons (mVar 2) mNil)) (mC (.int 2)))) mNil))))) mSkip)
    (mSeq (mIfS (mBl (mBin fEq (mIx (mIx (mVar 4) (mVar 6)) (mC (.int 0))) (mVar 3))) (mRet (mTup (mCons (mC (.str "page")) (mCons (mCall fnTuple (mCons (mSl false (mVar 4) oNo (oAt (mC (.int 1)))) mNil)) (mCons (mBin fAdd (mVar 3) (mC (.str "a"))) mNil))))) mSkip)
    (mRet (mTup (mCons (mC (.str "page")) (mCons (mCall fnTuple (mCons (mSl false (mVar 4) oNo (oAt (mVar 6))) mNil)) (mCons (mIx (mIx (mVar 4) (mVar 6)) (mC (.int 0))) mNil)))))))))) mSkip)
    (mSeq (mIfS (mBl (mBin fEq (mIx (mVar 1) (mC (.int 0))) (mC (.str "put")))) (mRet (mTup (mCons (mC (.str "done")) mNil))) mSkip)
    (mSeq (mIfS (mBl (mBin fNotIn (mVar 3) (mVar 0))) (mRet (mTup (mCons (mC (.str "none")) mNil))) mSkip)
    (mSeq (mIfS (mBl (mBin fEq (mIx (mVar 1) (mC (.int 0))) (mC (.str "get")))) (mRet (mTup (mCons (mC (.str "value")) (mCons (mIx (mVar 0) (mVar 3)) mNil)))) mSkip)
    (mSeq (mIfS (mAnd (mBl (mBin fEq (mIx (mVar 1) (mC (.int 0))) (mC (.str "swap")))) (mBl (mBin fNe (mIx (mVar 0) (mVar 3)) (mIx (mVar 1) (mC (.int 2)))))) (mRet (mTup (mCons (mC (.str "other")) (mCons (mIx (mVar 0) (mVar 3)) mNil)))) mSkip)
    (mRet (mTup (mCons (mC (.str "done")) mNil)))))))))
noncomputable def V__law_answer : FM := den 7 m__law_answer
theorem ok__law_answer {f : Addr} {fd : FuncData} (F : Fun K "_law_answer" "_law_answer" s__law_answer f fd)
    (n_tuple : mg "tuple" = none)
    (n_len : mg "len" = none)
    (n_int : mg "int" = none)
    (n_sorted : mg "sorted" = none) :
    FnOk P w K mg base (L2.CX P w) 1 f fd ["_law_items", "_law_op_here", "_law_cell_here"] (spD (nm (tkHash w)) K mg 3 V__law_answer) :=
  den_ok (m := m__law_answer) F sc__law_answer (fun cdv A outer s H E hr => by
  have nd := sc__law_answer.nd
  have hh := L2H.roomH_of hr
  have hl : locAll [0, 1, 2, 3, 4, 6] (cxOf (L2.CX P w) P w K mg base ["_law_items", "_law_op_here", "_law_cell_here", "_law_key", "_law_found", "_law_one", "_law_many"] "_law_answer" (defScope s__law_answer) f cdv A outer s H E).N (cxOf (L2.CX P w) P w K mg base ["_law_items", "_law_op_here", "_law_cell_here", "_law_key", "_law_found", "_law_one", "_law_many"] "_law_answer" (defScope s__law_answer) f cdv A outer s H E).env.scope = true := va__law_answer
  have hv := locVis hl
  have hg : glAll ["tuple", "len", "int", "sorted"] (cxOf (L2.CX P w) P w K mg base ["_law_items", "_law_op_here", "_law_cell_here", "_law_key", "_law_found", "_law_one", "_law_many"] "_law_answer" (defScope s__law_answer) f cdv A outer s H E).env.scope = true := ga__law_answer
  have hc : (cxOf (L2.CX P w) P w K mg base ["_law_items", "_law_op_here", "_law_cell_here", "_law_key", "_law_found", "_law_one", "_law_many"] "_law_answer" (defScope s__law_answer) f cdv A outer s H E).calm = true := rfl
  have hp : PassesOwn (model P w) (cxOf (L2.CX P w) P w K mg base ["_law_items", "_law_op_here", "_law_cell_here", "_law_key", "_law_found", "_law_one", "_law_many"] "_law_answer" (defScope s__law_answer) f cdv A outer s H E).A (cxOf (L2.CX P w) P w K mg base ["_law_items", "_law_op_here", "_law_cell_here", "_law_key", "_law_found", "_law_one", "_law_many"] "_law_answer" (defScope s__law_answer) f cdv A outer s H E).env (cxOf (L2.CX P w) P w K mg base ["_law_items", "_law_op_here", "_law_cell_here", "_law_key", "_law_found", "_law_one", "_law_many"] "_law_answer" (defScope s__law_answer) f cdv A outer s H E).xe := passes_of rfl
  exact (mb_cons (ms_set 3 nd hl (me_ix hh (me_var 1 hv) me_int))
    (mb_cons (ms_if (mt_cmp (o_eq hh) (me_ix hh (me_var 1 hv) me_int) me_str (nomark _)) (mb_cons (ms_setLc 4 (LT.one 5) hc nd rfl ln__law_answer_4 rfl rfl lca__law_answer_0 (mi_any (me_callB (c_sorted false hc) (gl_at hg 3) n_sorted bb_sorted (ma_cons (me_var 0 hv) ma_nil))) (blkOk_by lcb__law_answer_0) rfl (by simp) (fun s1 H1 C cl fp => (pg_one 5 nd rfl (.inl lcl__law_answer_0_0) (.inr lcl__law_answer_0_0))) (fun s1 H1 C cl fp => by
    have hvb : visAll [0, 3, 5] (Cx.blk (cxOf (L2.CX P w) P w K mg base ["_law_items", "_law_op_here", "_law_cell_here", "_law_key", "_law_found", "_law_one", "_law_many"] "_law_answer" (defScope s__law_answer) f cdv A outer s H E) s1 H1 lcx__law_answer_0 (compEnvC lcx__law_answer_0 cl C (cxOf (L2.CX P w) P w K mg base ["_law_items", "_law_op_here", "_law_cell_here", "_law_key", "_law_found", "_law_one", "_law_many"] "_law_answer" (defScope s__law_answer) f cdv A outer s H E).env) fp).N (Cx.blk (cxOf (L2.CX P w) P w K mg base ["_law_items", "_law_op_here", "_law_cell_here", "_law_key", "_law_found", "_law_one", "_law_many"] "_law_answer" (defScope s__law_answer) f cdv A outer s H E) s1 H1 lcx__law_answer_0 (compEnvC lcx__law_answer_0 cl C (cxOf (L2.CX P w) P w K mg base ["_law_items", "_law_op_here", "_law_cell_here", "_law_key", "_law_found", "_law_one", "_law_many"] "_law_answer" (defScope s__law_answer) f cdv A outer s H E).env) fp).env.scope = true := lcv__law_answer_0
    have hgb : glAll [] (Cx.blk (cxOf (L2.CX P w) P w K mg base ["_law_items", "_law_op_here", "_law_cell_here", "_law_key", "_law_found", "_law_one", "_law_many"] "_law_answer" (defScope s__law_answer) f cdv A outer s H E) s1 H1 lcx__law_answer_0 (compEnvC lcx__law_answer_0 cl C (cxOf (L2.CX P w) P w K mg base ["_law_items", "_law_op_here", "_law_cell_here", "_law_key", "_law_found", "_law_one", "_law_many"] "_law_answer" (defScope s__law_answer) f cdv A outer s H E).env) fp).env.scope = true := lcg__law_answer_0
    exact (mts_one (mt_cmp o_ge (me_var 5 hvb) (me_var 3 hvb) (nomark _)))) (fun s1 H1 C cl fp => by
    have hvb : visAll [0, 3, 5] (Cx.blk (cxOf (L2.CX P w) P w K mg base ["_law_items", "_law_op_here", "_law_cell_here", "_law_key", "_law_found", "_law_one", "_law_many"] "_law_answer" (defScope s__law_answer) f cdv A outer s H E) s1 H1 lcx__law_answer_0 (compEnvC lcx__law_answer_0 cl C (cxOf (L2.CX P w) P w K mg base ["_law_items", "_law_op_here", "_law_cell_here", "_law_key", "_law_found", "_law_one", "_law_many"] "_law_answer" (defScope s__law_answer) f cdv A outer s H E).env) fp).N (Cx.blk (cxOf (L2.CX P w) P w K mg base ["_law_items", "_law_op_here", "_law_cell_here", "_law_key", "_law_found", "_law_one", "_law_many"] "_law_answer" (defScope s__law_answer) f cdv A outer s H E) s1 H1 lcx__law_answer_0 (compEnvC lcx__law_answer_0 cl C (cxOf (L2.CX P w) P w K mg base ["_law_items", "_law_op_here", "_law_cell_here", "_law_key", "_law_found", "_law_one", "_law_many"] "_law_answer" (defScope s__law_answer) f cdv A outer s H E).env) fp).env.scope = true := lcv__law_answer_0
    have hgb : glAll [] (Cx.blk (cxOf (L2.CX P w) P w K mg base ["_law_items", "_law_op_here", "_law_cell_here", "_law_key", "_law_found", "_law_one", "_law_many"] "_law_answer" (defScope s__law_answer) f cdv A outer s H E) s1 H1 lcx__law_answer_0 (compEnvC lcx__law_answer_0 cl C (cxOf (L2.CX P w) P w K mg base ["_law_items", "_law_op_here", "_law_cell_here", "_law_key", "_law_found", "_law_one", "_law_many"] "_law_answer" (defScope s__law_answer) f cdv A outer s H E).env) fp).env.scope = true := lcg__law_answer_0
    exact (me_tup (ma_cons (me_var 5 hvb) (ma_cons (me_ix hh (me_var 0 hvb) (me_var 5 hvb)) ma_nil)))))
    (mb_cons (ms_set 6 nd hl (me_ix hh (me_var 1 hv) me_int))
    (mb_cons (ms_if (mt_cmp (o_eq hh) (me_bin o_mod (me_callT c_int (gl_at hg 2) n_int bb_int (ma_cons (me_var 2 hv) ma_nil)) me_int) me_int (nomark _)) (mb_one (ms_set 6 nd hl (me_bin o_mod (me_callT c_int (gl_at hg 2) n_int bb_int (ma_cons (me_bin o_div (me_var 2 hv) me_int) ma_nil)) (me_bin o_add (me_ix hh (me_var 1 hv) me_int) me_int)))) mb_nil)
    (mb_cons (ms_if (mt_cmp o_ge (me_var 6 hv) (me_callB c_len (gl_at hg 1) n_len bb_len (ma_cons (me_var 4 hv) ma_nil)) (nomark _)) (mb_one (ms_ret (me_tup (ma_cons me_str (ma_cons (me_callT c_tuple (gl_at hg 0) n_tuple bb_tuple (ma_cons (me_var 4 hv) ma_nil)) (ma_cons (me_ix hh (me_lst false (ma_cons me_non (ma_cons me_str ma_nil))) (me_bin o_mod (me_callT c_int (gl_at hg 2) n_int bb_int (ma_cons (me_var 2 hv) ma_nil)) me_int)) ma_nil)))))) mb_nil)
    (mb_cons (ms_if (mt_cmp (o_eq hh) (me_ix hh (me_ix hh (me_var 4 hv) (me_var 6 hv)) me_int) (me_var 3 hv) (nomark _)) (mb_one (ms_ret (me_tup (ma_cons me_str (ma_cons (me_callT c_tuple (gl_at hg 0) n_tuple bb_tuple (ma_cons (me_sl false (me_var 4 hv) mo_no (mo_at me_int)) ma_nil)) (ma_cons (me_bin o_add (me_var 3 hv) me_str) ma_nil)))))) mb_nil)
    (mb_one (ms_ret (me_tup (ma_cons me_str (ma_cons (me_callT c_tuple (gl_at hg 0) n_tuple bb_tuple (ma_cons (me_sl false (me_var 4 hv) mo_no (mo_at (me_var 6 hv))) ma_nil)) (ma_cons (me_ix hh (me_ix hh (me_var 4 hv) (me_var 6 hv)) me_int) ma_nil))))))))))) mb_nil)
    (mb_cons (ms_if (mt_cmp (o_eq hh) (me_ix hh (me_var 1 hv) me_int) me_str (nomark _)) (mb_one (ms_ret (me_tup (ma_cons me_str ma_nil)))) mb_nil)
    (mb_cons (ms_if (mt_cmp (o_notin hh) (me_var 3 hv) (me_var 0 hv) (by rfl)) (mb_one (ms_ret (me_tup (ma_cons me_str ma_nil)))) mb_nil)
    (mb_cons (ms_if (mt_cmp (o_eq hh) (me_ix hh (me_var 1 hv) me_int) me_str (nomark _)) (mb_one (ms_ret (me_tup (ma_cons me_str (ma_cons (me_ix hh (me_var 0 hv) (me_var 3 hv)) ma_nil))))) mb_nil)
    (mb_cons (ms_if (MW.mt (mw_and (mt_cmp (o_eq hh) (me_ix hh (me_var 1 hv) me_int) me_str (nomark _)) (mw_and1 (mt_cmp (o_ne hh) (me_ix hh (me_var 0 hv) (me_var 3 hv)) (me_ix hh (me_var 1 hv) me_int) (nomark _))))) (mb_one (ms_ret (me_tup (ma_cons me_str (ma_cons (me_ix hh (me_var 0 hv) (me_var 3 hv)) ma_nil))))) mb_nil)
    (mb_one (ms_ret (me_tup (ma_cons me_str ma_nil))))))))))) rfl rfl
abbrev s__law_change : Stmt := (topS 12)
theorem sc__law_change : FnScope ["_law_items", "_law_op_here"] ["_law_items", "_law_op_here"] (defScope s__law_change) := ⟨rfl, rfl, rfl, by decide +kernel, rfl, by decide +kernel, by decide +kernel⟩
theorem va__law_change : locAll [0, 1] ["_law_items", "_law_op_here"] (defScope s__law_change) = true := by decide +kernel
theorem ga__law_change : glAll [] (defScope s__law_change) = true := by decide +kernel
noncomputable def m__law_change : SM :=
  (mSeq (mIfS (mOr (mBl (mBin fEq (mIx (mVar 1) (mC (.int 0))) (mC (.str "put")))) (mAnd (mBl (mBin fEq (mIx (mVar 1) (mC (.int 0))) (mC (.str "swap")))) (mBl (mBin fEq (mBm .dict fnGet1 (mVar 0) (mCons (mIx (mVar 1) (mC (.int 1))) mNil)) (mIx (mVar 1) (mC (.int 2))))))) (mSetI (mIx (mVar 1) (mUn fNeg (mC (.int 1)))) (mVar 0) (mIx (mVar 1) (mC (.int 1)))) mSkip)
    (mIfS (mBl (mBin fEq (mIx (mVar 1) (mC (.int 0))) (mC (.str "drop")))) (mExpr (mBm .dict fnPopD (mVar 0) (mCons (mIx (mVar 1) (mC (.int 1))) (mCons (mC .non) mNil)))) mSkip))
noncomputable def V__law_change : FM := den 2 m__law_change
theorem ok__law_change {f : Addr} {fd : FuncData} (F : Fun K "_law_change" "_law_change" s__law_change f fd) :
    FnOk P w K mg base (L2.CX P w) 1 f fd ["_law_items", "_law_op_here"] (spD (nm (tkHash w)) K mg 2 V__law_change) :=
  den_ok (m := m__law_change) F sc__law_change (fun cdv A outer s H E hr => by
  have nd := sc__law_change.nd
  have hh := L2H.roomH_of hr
  have hl : locAll [0, 1] (cxOf (L2.CX P w) P w K mg base ["_law_items", "_law_op_here"] "_law_change" (defScope s__law_change) f cdv A outer s H E).N (cxOf (L2.CX P w) P w K mg base ["_law_items", "_law_op_here"] "_law_change" (defScope s__law_change) f cdv A outer s H E).env.scope = true := va__law_change
  have hv := locVis hl
  have hg : glAll [] (cxOf (L2.CX P w) P w K mg base ["_law_items", "_law_op_here"] "_law_change" (defScope s__law_change) f cdv A outer s H E).env.scope = true := ga__law_change
  have hc : (cxOf (L2.CX P w) P w K mg base ["_law_items", "_law_op_here"] "_law_change" (defScope s__law_change) f cdv A outer s H E).calm = true := rfl
  have hp : PassesOwn (model P w) (cxOf (L2.CX P w) P w K mg base ["_law_items", "_law_op_here"] "_law_change" (defScope s__law_change) f cdv A outer s H E).A (cxOf (L2.CX P w) P w K mg base ["_law_items", "_law_op_here"] "_law_change" (defScope s__law_change) f cdv A outer s H E).env (cxOf (L2.CX P w) P w K mg base ["_law_items", "_law_op_here"] "_law_change" (defScope s__law_change) f cdv A outer s H E).xe := passes_of rfl
  exact (mb_cons (ms_if (MW.mt (mw_or (mt_cmp (o_eq hh) (me_ix hh (me_var 1 hv) me_int) me_str (nomark _)) (mw_or1 (MW.mt (mw_and (mt_cmp (o_eq hh) (me_ix hh (me_var 1 hv) me_int) me_str (nomark _)) (mw_and1 (mt_cmp (o_eq hh) (me_bm (T := .dict) PySem.F.plainAttrs_dict PySem.F.slot_dict_get PySem.F.type_dict_get (t_get1 hh) (me_var 0 hv) (ma_cons (me_ix hh (me_var 1 hv) me_int) ma_nil)) (me_ix hh (me_var 1 hv) me_int) (nomark _)))))))) (mb_one (ms_setI hh (me_var 0 hv) (me_ix hh (me_var 1 hv) me_int) (me_ix hh (me_var 1 hv) (me_neg me_int)))) mb_nil)
    (mb_one (ms_if (mt_cmp (o_eq hh) (me_ix hh (me_var 1 hv) me_int) me_str (nomark _)) (mb_one (ms_expr (me_bm (T := .dict) PySem.F.plainAttrs_dict PySem.F.slot_dict_pop PySem.F.type_dict_pop t_popD (me_var 0 hv) (ma_cons (me_ix hh (me_var 1 hv) me_int) (ma_cons me_non ma_nil))))) mb_nil)))) rfl rfl
abbrev s__law_event : Stmt := (topS 13)
theorem sc__law_event : FnScope ["_law_state", "_law_cell_here", "_law_time", "_law_client", "_law_number", "_law_op_here", "_law_step", "_law_luck"] ["_law_state", "_law_cell_here", "_law_time"] (defScope s__law_event) := ⟨rfl, rfl, rfl, by decide +kernel, rfl, by decide +kernel, by decide +kernel⟩
theorem va__law_event : locAll [0, 1, 2, 3, 4, 5, 6, 7] ["_law_state", "_law_cell_here", "_law_time", "_law_client", "_law_number", "_law_op_here", "_law_step", "_law_luck"] (defScope s__law_event) = true := by decide +kernel
theorem ga__law_event : glAll ["int", "_law_op", "max"] (defScope s__law_event) = true := by decide +kernel
noncomputable def m__law_event : SM :=
  (mSeq (mSet 3 (mBin fSub (mUn fNeg (mC (.int 1))) (mBin fMod (mCall fnInt (mCons (mVar 1) mNil)) (mC (.int 3)))))
    (mSeq (mAsg (mIx (mVar 0) (mVar 3)) (gTp 3 (gsCons (gNm 4) (gsCons (gNm 5) (gsCons (gNm 6) gsNil)))))
    (mSeq (mSet 7 (mBin fMod (mCall fnInt (mCons (mBin fDiv (mVar 1) (mC (.int 3))) mNil)) (mC (.int 12))))
    (mSeq (mSet 1 (mBin fDiv (mVar 1) (mC (.int 36))))
    (mSeq (mIfS (mBl (mBin fEq (mVar 7) (mC (.int 0)))) (mRet (mTup (mCons (mC (.str "done")) (mCons (mVar 2) (mCons (mC (.int 0)) (mCons (mTup (mCons (mC (.str "did")) (mCons (mC (.str "")) (mCons (mC (.int 1)) (mCons (mVar 3) (mCons (mCall fnMax2 (mCons (mC (.int 1)) (mCons (mBin fSub (mVar 4) (mBin fMod (mCall fnInt (mCons (mVar 1) mNil)) (mC (.int 2)))) mNil))) (mCons (mCall V__law_op (mCons (mBin fDiv (mVar 1) (mC (.int 2))) mNil)) mNil))))))) mNil)))))) mSkip)
    (mSeq (mIfS (mBl (mBin fEq (mVar 7) (mC (.int 1)))) (mRet (mTup (mCons (mC (.str "done")) (mCons (mVar 2) (mCons (mC (.int 1)) (mCons (mTup (mCons (mC (.str "gone")) (mCons (mC (.str "")) (mCons (mC .non) (mCons (mC (.int 2)) mNil))))) mNil)))))) mSkip)
    (mSeq (mIfS (mBl (mBin fEq (mVar 7) (mC (.int 2)))) (mRet (mTup (mCons (mC (.str "accept")) (mCons (mVar 2) (mCons (mVar 3) (mCons (mVar 4) (mCons (mIx (mLst false (mCons (mTup (mCons (mC (.str "none")) mNil)) (mCons (mTup (mCons (mC (.str "done")) mNil)) (mCons (mTup (mCons (mC (.str "value")) (mCons (mC (.str "x")) mNil))) (mCons (mTup (mCons (mC (.str "page")) (mCons (mTup mNil) (mCons (mC .non) mNil)))) mNil))))) (mBin fMod (mCall fnInt (mCons (mVar 1) mNil)) (mC (.int 4)))) mNil))))))) mSkip)
    (mSeq (mIfS (mBl (mBin fEq (mVar 6) (mC (.int 0)))) (mSeq (mSetI (mTup (mCons (mBin fAdd (mVar 4) (mC (.int 1))) (mCons (mCall V__law_op (mCons (mVar 1) mNil)) (mCons (mC (.int 1)) mNil)))) (mVar 0) (mVar 3))
    (mRet (mTup (mCons (mC (.str "call")) (mCons (mVar 2) (mCons (mVar 3) (mCons (mBin fAdd (mVar 4) (mC (.int 1))) (mCons (mIx (mIx (mVar 0) (mVar 3)) (mC (.int 1))) mNil)))))))) mSkip)
    (mSeq (mIfS (mBl (mBin fEq (mVar 6) (mC (.int 1)))) (mSeq (mSetI (mTup (mCons (mVar 4) (mCons (mVar 5) (mCons (mC (.int 2)) mNil)))) (mVar 0) (mVar 3))
    (mRet (mTup (mCons (mC (.str "done")) (mCons (mVar 2) (mCons (mBin fMod (mCall fnInt (mCons (mVar 1) mNil)) (mC (.int 3))) (mCons (mTup (mCons (mC (.str "did")) (mCons (mC (.str "")) (mCons (mC (.int 1)) (mCons (mVar 3) (mCons (mVar 4) (mCons (mVar 5) mNil))))))) mNil))))))) mSkip)
    (mSeq (mSetI (mTup (mCons (mVar 4) (mCons (mVar 5) (mCons (mC (.int 0)) mNil)))) (mVar 0) (mVar 3))
    (mRet (mTup (mCons (mC (.str "accept")) (mCons (mVar 2) (mCons (mVar 3) (mCons (mVar 4) (mCons (mC .non) mNil)))))))))))))))))
noncomputable def V__law_event : FM := den 8 m__law_event
theorem ok__law_event {f : Addr} {fd : FuncData} (F : Fun K "_law_event" "_law_event" s__law_event f fd)
    (n_int : mg "int" = none)
    (d__law_op : DefOk P w K mg base (nm (tkHash w)) 1 "_law_op" 1 V__law_op)
    (n_max : mg "max" = none) :
    FnOk P w K mg base (L2.CX P w) 2 f fd ["_law_state", "_law_cell_here", "_law_time"] (spD (nm (tkHash w)) K mg 3 V__law_event) :=
  den_ok (m := m__law_event) F sc__law_event (fun cdv A outer s H E hr => by
  have nd := sc__law_event.nd
  have hh := L2H.roomH_of hr
  have hl : locAll [0, 1, 2, 3, 4, 5, 6, 7] (cxOf (L2.CX P w) P w K mg base ["_law_state", "_law_cell_here", "_law_time", "_law_client", "_law_number", "_law_op_here", "_law_step", "_law_luck"] "_law_event" (defScope s__law_event) f cdv A outer s H E).N (cxOf (L2.CX P w) P w K mg base ["_law_state", "_law_cell_here", "_law_time", "_law_client", "_law_number", "_law_op_here", "_law_step", "_law_luck"] "_law_event" (defScope s__law_event) f cdv A outer s H E).env.scope = true := va__law_event
  have hv := locVis hl
  have hg : glAll ["int", "_law_op", "max"] (cxOf (L2.CX P w) P w K mg base ["_law_state", "_law_cell_here", "_law_time", "_law_client", "_law_number", "_law_op_here", "_law_step", "_law_luck"] "_law_event" (defScope s__law_event) f cdv A outer s H E).env.scope = true := ga__law_event
  have hc : (cxOf (L2.CX P w) P w K mg base ["_law_state", "_law_cell_here", "_law_time", "_law_client", "_law_number", "_law_op_here", "_law_step", "_law_luck"] "_law_event" (defScope s__law_event) f cdv A outer s H E).calm = true := rfl
  have hp : PassesOwn (model P w) (cxOf (L2.CX P w) P w K mg base ["_law_state", "_law_cell_here", "_law_time", "_law_client", "_law_number", "_law_op_here", "_law_step", "_law_luck"] "_law_event" (defScope s__law_event) f cdv A outer s H E).A (cxOf (L2.CX P w) P w K mg base ["_law_state", "_law_cell_here", "_law_time", "_law_client", "_law_number", "_law_op_here", "_law_step", "_law_luck"] "_law_event" (defScope s__law_event) f cdv A outer s H E).env (cxOf (L2.CX P w) P w K mg base ["_law_state", "_law_cell_here", "_law_time", "_law_client", "_law_number", "_law_op_here", "_law_step", "_law_luck"] "_law_event" (defScope s__law_event) f cdv A outer s H E).xe := passes_of rfl
  exact (mb_cons (ms_set 3 nd hl (me_bin o_sub (me_neg me_int) (me_bin o_mod (me_callT c_int (gl_at hg 0) n_int bb_int (ma_cons (me_var 1 hv) ma_nil)) me_int)))
    (mb_cons (ms_asg (me_ix hh (me_var 0 hv) (me_var 3 hv)) (mg_tup hc 3 (mgs_cons (mg_name 4 nd hl) (mgs_cons (mg_name 5 nd hl) (mgs_cons (mg_name 6 nd hl) mgs_nil)))) (gok_tp (gsok_cons (gok_nm 4) (gsok_cons (gok_nm 5) (gsok_cons (gok_nm 6) gsok_nil)))))
    (mb_cons (ms_set 7 nd hl (me_bin o_mod (me_callT c_int (gl_at hg 0) n_int bb_int (ma_cons (me_bin o_div (me_var 1 hv) me_int) ma_nil)) me_int))
    (mb_cons (ms_set 1 nd hl (me_bin o_div (me_var 1 hv) me_int))
    (mb_cons (ms_if (mt_cmp (o_eq hh) (me_var 7 hv) me_int (nomark _)) (mb_one (ms_ret (me_tup (ma_cons me_str (ma_cons (me_var 2 hv) (ma_cons me_int (ma_cons (me_tup (ma_cons me_str (ma_cons me_str (ma_cons me_int (ma_cons (me_var 3 hv) (ma_cons (me_callB (c_max2 hc) (gl_at hg 2) n_max bb_max (ma_cons me_int (ma_cons (me_bin o_sub (me_var 4 hv) (me_bin o_mod (me_callT c_int (gl_at hg 0) n_int bb_int (ma_cons (me_var 1 hv) ma_nil)) me_int)) ma_nil))) (ma_cons (me_call d__law_op (hr.mono (by decide)) (gl_at hg 1) (ma_cons (me_bin o_div (me_var 1 hv) me_int) ma_nil)) ma_nil))))))) ma_nil))))))) mb_nil)
    (mb_cons (ms_if (mt_cmp (o_eq hh) (me_var 7 hv) me_int (nomark _)) (mb_one (ms_ret (me_tup (ma_cons me_str (ma_cons (me_var 2 hv) (ma_cons me_int (ma_cons (me_tup (ma_cons me_str (ma_cons me_str (ma_cons me_non (ma_cons me_int ma_nil))))) ma_nil))))))) mb_nil)
    (mb_cons (ms_if (mt_cmp (o_eq hh) (me_var 7 hv) me_int (nomark _)) (mb_one (ms_ret (me_tup (ma_cons me_str (ma_cons (me_var 2 hv) (ma_cons (me_var 3 hv) (ma_cons (me_var 4 hv) (ma_cons (me_ix hh (me_lst false (ma_cons (me_tup (ma_cons me_str ma_nil)) (ma_cons (me_tup (ma_cons me_str ma_nil)) (ma_cons (me_tup (ma_cons me_str (ma_cons me_str ma_nil))) (ma_cons (me_tup (ma_cons me_str (ma_cons (me_tup ma_nil) (ma_cons me_non ma_nil)))) ma_nil))))) (me_bin o_mod (me_callT c_int (gl_at hg 0) n_int bb_int (ma_cons (me_var 1 hv) ma_nil)) me_int)) ma_nil)))))))) mb_nil)
    (mb_cons (ms_if (mt_cmp (o_eq hh) (me_var 6 hv) me_int (nomark _)) (mb_cons (ms_setI hh (me_var 0 hv) (me_var 3 hv) (me_tup (ma_cons (me_bin o_add (me_var 4 hv) me_int) (ma_cons (me_call d__law_op (hr.mono (by decide)) (gl_at hg 1) (ma_cons (me_var 1 hv) ma_nil)) (ma_cons me_int ma_nil)))))
    (mb_one (ms_ret (me_tup (ma_cons me_str (ma_cons (me_var 2 hv) (ma_cons (me_var 3 hv) (ma_cons (me_bin o_add (me_var 4 hv) me_int) (ma_cons (me_ix hh (me_ix hh (me_var 0 hv) (me_var 3 hv)) me_int) ma_nil))))))))) mb_nil)
    (mb_cons (ms_if (mt_cmp (o_eq hh) (me_var 6 hv) me_int (nomark _)) (mb_cons (ms_setI hh (me_var 0 hv) (me_var 3 hv) (me_tup (ma_cons (me_var 4 hv) (ma_cons (me_var 5 hv) (ma_cons me_int ma_nil)))))
    (mb_one (ms_ret (me_tup (ma_cons me_str (ma_cons (me_var 2 hv) (ma_cons (me_bin o_mod (me_callT c_int (gl_at hg 0) n_int bb_int (ma_cons (me_var 1 hv) ma_nil)) me_int) (ma_cons (me_tup (ma_cons me_str (ma_cons me_str (ma_cons me_int (ma_cons (me_var 3 hv) (ma_cons (me_var 4 hv) (ma_cons (me_var 5 hv) ma_nil))))))) ma_nil)))))))) mb_nil)
    (mb_cons (ms_setI hh (me_var 0 hv) (me_var 3 hv) (me_tup (ma_cons (me_var 4 hv) (ma_cons (me_var 5 hv) (ma_cons me_int ma_nil)))))
    (mb_one (ms_ret (me_tup (ma_cons me_str (ma_cons (me_var 2 hv) (ma_cons (me_var 3 hv) (ma_cons (me_var 4 hv) (ma_cons me_non ma_nil))))))))))))))))))) rfl rfl
abbrev s__law_fits : Stmt := (topS 14)
theorem sc__law_fits : FnScope ["_law_op_here", "_law_answer_here", "_law_items", "_law_after", "_law_due", "_law_key"] ["_law_op_here", "_law_answer_here", "_law_items"] (defScope s__law_fits) := ⟨rfl, rfl, rfl, by decide +kernel, rfl, by decide +kernel, by decide +kernel⟩
abbrev lcx__law_fits_0 : Scope := (lcOf (skid (stm (defBody s__law_fits) 4) 0))
theorem lcb__law_fits_0 : blkC ["_law_op_here", "_law_answer_here", "_law_items", "_law_after", "_law_due", "_law_key"] (defScope s__law_fits) lcx__law_fits_0 [("_law_key", 5)] = true := by decide +kernel
theorem lcv__law_fits_0 : visAll [0, 2, 3, 5] ["_law_op_here", "_law_answer_here", "_law_items", "_law_after", "_law_due", "_law_key"] (relS lcx__law_fits_0 (defScope s__law_fits)) = true := by decide +kernel
theorem lcg__law_fits_0 : glAll [] (relS lcx__law_fits_0 (defScope s__law_fits)) = true := by decide +kernel
theorem lcl__law_fits_0_0 : (relS lcx__law_fits_0 (defScope s__law_fits)).names.lookup ("_law_key" : Str) = some NameKind.local := by decide +kernel
theorem lca__law_fits_0 : (lcx__law_fits_0.names.any fun (n, k) => n == ("_law_due" : Str) && (k == .local || k == .cell)) = false := by decide +kernel
theorem va__law_fits : locAll [0, 1, 2, 3, 4] ["_law_op_here", "_law_answer_here", "_law_items", "_law_after", "_law_due", "_law_key"] (defScope s__law_fits) = true := by decide +kernel
theorem ga__law_fits : glAll ["len", "tuple", "sorted", "isinstance", "str", "_law_answer"] (defScope s__law_fits) = true := by decide +kernel
theorem ln__law_fits_4 : (defScope s__law_fits).names.lookup ("_law_due" : Str) = some NameKind.local := by decide +kernel
noncomputable def m__law_fits : SM :=
  (mSeq (mIfS (mBl (mBin fNe (mIx (mVar 0) (mC (.int 0))) (mC (.str "page")))) (mRet (mBin fEq (mVar 1) (mCall V__law_answer (mCons (mVar 2) (mCons (mVar 0) (mCons (mC (.int 1)) mNil)))))) mSkip)
    (mSeq (mIfS (mOr (mNot (mBl (mIsi .tuple (mVar 1)))) (mOr (mBl (mBin fNe (mCall fnLen (mCons (mVar 1) mNil)) (mC (.int 3)))) (mBl (mBin fNe (mIx (mVar 1) (mC (.int 0))) (mC (.str "page")))))) (mRet (mC (.bl false))) mSkip)
    (mSeq (mSet 3 (mIx (mVar 1) (mC (.int 2))))
    (mSeq (mIfS (mAnd (mBl (mBin fIsNot (mVar 3) (mC .non))) (mOr (mNot (mBl (mIsi .str (mVar 3)))) (mBl (mBin fLe (mVar 3) (mIx (mVar 0) (mC (.int 1))))))) (mRet (mC (.bl false))) mSkip)
    (mSeq (mSet 4 (mLc [5] (LT.one 5) (iAny (mCall (fnSorted false) (mCons (mVar 2) mNil))) (mAnd (mBl (mBin fGe (mVar 5) (mIx (mVar 0) (mC (.int 1))))) (mOr (mBl (mBin fIs (mVar 3) (mC .non))) (mBl (mBin fLt (mVar 5) (mVar 3))))) (mTup (mCons (mVar 5) (mCons (mIx (mVar 2) (mVar 5)) mNil)))))
    (mRet (mAndV (mBin fLe (mCall fnLen (mCons (mVar 4) mNil)) (mIx (mVar 0) (mC (.int 2)))) (mBin fEq (mIx (mVar 1) (mC (.int 1))) (mCall fnTuple (mCons (mVar 4) mNil))))))))))
noncomputable def V__law_fits : FM := den 6 m__law_fits
theorem ok__law_fits {f : Addr} {fd : FuncData} (F : Fun K "_law_fits" "_law_fits" s__law_fits f fd)
    (n_len : mg "len" = none)
    (n_tuple : mg "tuple" = none)
    (n_sorted : mg "sorted" = none)
    (n_isinstance : mg "isinstance" = none)
    (n_str : mg "str" = none)
    (d__law_answer : DefOk P w K mg base (nm (tkHash w)) 1 "_law_answer" 3 V__law_answer) :
    FnOk P w K mg base (L2.CX P w) 2 f fd ["_law_op_here", "_law_answer_here", "_law_items"] (spD (nm (tkHash w)) K mg 3 V__law_fits) :=
  den_ok (m := m__law_fits) F sc__law_fits (fun cdv A outer s H E hr => by
  have nd := sc__law_fits.nd
  have hh := L2H.roomH_of hr
  have hl : locAll [0, 1, 2, 3, 4] (cxOf (L2.CX P w) P w K mg base ["_law_op_here", "_law_answer_here", "_law_items", "_law_after", "_law_due", "_law_key"] "_law_fits" (defScope s__law_fits) f cdv A outer s H E).N (cxOf (L2.CX P w) P w K mg base ["_law_op_here", "_law_answer_here", "_law_items", "_law_after", "_law_due", "_law_key"] "_law_fits" (defScope s__law_fits) f cdv A outer s H E).env.scope = true := va__law_fits
  have hv := locVis hl
  have hg : glAll ["len", "tuple", "sorted", "isinstance", "str", "_law_answer"] (cxOf (L2.CX P w) P w K mg base ["_law_op_here", "_law_answer_here", "_law_items", "_law_after", "_law_due", "_law_key"] "_law_fits" (defScope s__law_fits) f cdv A outer s H E).env.scope = true := ga__law_fits
  have hc : (cxOf (L2.CX P w) P w K mg base ["_law_op_here", "_law_answer_here", "_law_items", "_law_after", "_law_due", "_law_key"] "_law_fits" (defScope s__law_fits) f cdv A outer s H E).calm = true := rfl
  have hp : PassesOwn (model P w) (cxOf (L2.CX P w) P w K mg base ["_law_op_here", "_law_answer_here", "_law_items", "_law_after", "_law_due", "_law_key"] "_law_fits" (defScope s__law_fits) f cdv A outer s H E).A (cxOf (L2.CX P w) P w K mg base ["_law_op_here", "_law_answer_here", "_law_items", "_law_after", "_law_due", "_law_key"] "_law_fits" (defScope s__law_fits) f cdv A outer s H E).env (cxOf (L2.CX P w) P w K mg base ["_law_op_here", "_law_answer_here", "_law_items", "_law_after", "_law_due", "_law_key"] "_law_fits" (defScope s__law_fits) f cdv A outer s H E).xe := passes_of rfl
  exact (mb_cons (ms_if (mt_cmp (o_ne hh) (me_ix hh (me_var 0 hv) me_int) me_str (nomark _)) (mb_one (ms_ret (me_cmp (o_eq hh) (me_var 1 hv) (me_call d__law_answer (hr.mono (by decide)) (gl_at hg 5) (ma_cons (me_var 2 hv) (ma_cons (me_var 0 hv) (ma_cons me_int ma_nil)))) (nomark _)))) mb_nil)
    (mb_cons (ms_if (MW.mt (mw_or (mt_not (mt_val (me_isi .tuple (me_var 1 hv) (gl_at hg 3) n_isinstance (gl_at hg 1) n_tuple bb_isinstance bb_tuple))) (mw_or (mt_cmp (o_ne hh) (me_callB c_len (gl_at hg 0) n_len bb_len (ma_cons (me_var 1 hv) ma_nil)) me_int (nomark _)) (mw_or1 (mt_cmp (o_ne hh) (me_ix hh (me_var 1 hv) me_int) me_str (nomark _)))))) (mb_one (ms_ret me_bl)) mb_nil)
    (mb_cons (ms_set 3 nd hl (me_ix hh (me_var 1 hv) me_int))
    (mb_cons (ms_if (MW.mt (mw_and (mt_cmp o_isnot (me_var 3 hv) me_non (nomark _)) (mw_and1 (MW.mt (mw_or (mt_not (mt_val (me_isi .str (me_var 3 hv) (gl_at hg 3) n_isinstance (gl_at hg 4) n_str bb_isinstance bb_str))) (mw_or1 (mt_cmp o_le (me_var 3 hv) (me_ix hh (me_var 0 hv) me_int) (nomark _)))))))) (mb_one (ms_ret me_bl)) mb_nil)
    (mb_cons (ms_setLc 4 (LT.one 5) hc nd rfl ln__law_fits_4 rfl rfl lca__law_fits_0 (mi_any (me_callB (c_sorted false hc) (gl_at hg 2) n_sorted bb_sorted (ma_cons (me_var 2 hv) ma_nil))) (blkOk_by lcb__law_fits_0) rfl (by simp) (fun s1 H1 C cl fp => (pg_one 5 nd rfl (.inl lcl__law_fits_0_0) (.inr lcl__law_fits_0_0))) (fun s1 H1 C cl fp => by
    have hvb : visAll [0, 2, 3, 5] (Cx.blk (cxOf (L2.CX P w) P w K mg base ["_law_op_here", "_law_answer_here", "_law_items", "_law_after", "_law_due", "_law_key"] "_law_fits" (defScope s__law_fits) f cdv A outer s H E) s1 H1 lcx__law_fits_0 (compEnvC lcx__law_fits_0 cl C (cxOf (L2.CX P w) P w K mg base ["_law_op_here", "_law_answer_here", "_law_items", "_law_after", "_law_due", "_law_key"] "_law_fits" (defScope s__law_fits) f cdv A outer s H E).env) fp).N (Cx.blk (cxOf (L2.CX P w) P w K mg base ["_law_op_here", "_law_answer_here", "_law_items", "_law_after", "_law_due", "_law_key"] "_law_fits" (defScope s__law_fits) f cdv A outer s H E) s1 H1 lcx__law_fits_0 (compEnvC lcx__law_fits_0 cl C (cxOf (L2.CX P w) P w K mg base ["_law_op_here", "_law_answer_here", "_law_items", "_law_after", "_law_due", "_law_key"] "_law_fits" (defScope s__law_fits) f cdv A outer s H E).env) fp).env.scope = true := lcv__law_fits_0
    have hgb : glAll [] (Cx.blk (cxOf (L2.CX P w) P w K mg base ["_law_op_here", "_law_answer_here", "_law_items", "_law_after", "_law_due", "_law_key"] "_law_fits" (defScope s__law_fits) f cdv A outer s H E) s1 H1 lcx__law_fits_0 (compEnvC lcx__law_fits_0 cl C (cxOf (L2.CX P w) P w K mg base ["_law_op_here", "_law_answer_here", "_law_items", "_law_after", "_law_due", "_law_key"] "_law_fits" (defScope s__law_fits) f cdv A outer s H E).env) fp).env.scope = true := lcg__law_fits_0
    exact (mts_one (MW.mt (mw_and (mt_cmp o_ge (me_var 5 hvb) (me_ix hh (me_var 0 hvb) me_int) (nomark _)) (mw_and1 (MW.mt (mw_or (mt_cmp o_is (me_var 3 hvb) me_non (nomark _)) (mw_or1 (mt_cmp o_lt (me_var 5 hvb) (me_var 3 hvb) (nomark _)))))))))) (fun s1 H1 C cl fp => by
    have hvb : visAll [0, 2, 3, 5] (Cx.blk (cxOf (L2.CX P w) P w K mg base ["_law_op_here", "_law_answer_here", "_law_items", "_law_after", "_law_due", "_law_key"] "_law_fits" (defScope s__law_fits) f cdv A outer s H E) s1 H1 lcx__law_fits_0 (compEnvC lcx__law_fits_0 cl C (cxOf (L2.CX P w) P w K mg base ["_law_op_here", "_law_answer_here", "_law_items", "_law_after", "_law_due", "_law_key"] "_law_fits" (defScope s__law_fits) f cdv A outer s H E).env) fp).N (Cx.blk (cxOf (L2.CX P w) P w K mg base ["_law_op_here", "_law_answer_here", "_law_items", "_law_after", "_law_due", "_law_key"] "_law_fits" (defScope s__law_fits) f cdv A outer s H E) s1 H1 lcx__law_fits_0 (compEnvC lcx__law_fits_0 cl C (cxOf (L2.CX P w) P w K mg base ["_law_op_here", "_law_answer_here", "_law_items", "_law_after", "_law_due", "_law_key"] "_law_fits" (defScope s__law_fits) f cdv A outer s H E).env) fp).env.scope = true := lcv__law_fits_0
    have hgb : glAll [] (Cx.blk (cxOf (L2.CX P w) P w K mg base ["_law_op_here", "_law_answer_here", "_law_items", "_law_after", "_law_due", "_law_key"] "_law_fits" (defScope s__law_fits) f cdv A outer s H E) s1 H1 lcx__law_fits_0 (compEnvC lcx__law_fits_0 cl C (cxOf (L2.CX P w) P w K mg base ["_law_op_here", "_law_answer_here", "_law_items", "_law_after", "_law_due", "_law_key"] "_law_fits" (defScope s__law_fits) f cdv A outer s H E).env) fp).env.scope = true := lcg__law_fits_0
    exact (me_tup (ma_cons (me_var 5 hvb) (ma_cons (me_ix hh (me_var 2 hvb) (me_var 5 hvb)) ma_nil)))))
    (mb_one (ms_ret (me_and (me_cmp o_le (me_callB c_len (gl_at hg 0) n_len bb_len (ma_cons (me_var 4 hv) ma_nil)) (me_ix hh (me_var 0 hv) me_int) (nomark _)) (me_one (me_cmp (o_eq hh) (me_ix hh (me_var 1 hv) me_int) (me_callT c_tuple (gl_at hg 1) n_tuple bb_tuple (ma_cons (me_var 4 hv) ma_nil)) (nomark _)))))))))))) rfl rfl
abbrev s__law_requests : Stmt := (topS 15)
theorem sc__law_requests : FnScope ["_law_events", "_law_k", "_law_record", "_law_called", "_law_again", "_law_other"] ["_law_events"] (defScope s__law_requests) := ⟨rfl, rfl, rfl, by decide +kernel, rfl, by decide +kernel, by decide +kernel⟩
theorem va__law_requests : locAll [0, 1, 2, 3, 4, 5] ["_law_events", "_law_k", "_law_record", "_law_called", "_law_again", "_law_other"] (defScope s__law_requests) = true := by decide +kernel
theorem ga__law_requests : glAll ["len", "range"] (defScope s__law_requests) = true := by decide +kernel
noncomputable def lb__law_requests_0 : SM :=
  (mSeq (mIfS (mAnd (mBl (mBin fEq (mIx (mVar 5) (mC (.int 0))) (mC (.str "call")))) (mAnd (mBl (mBin fEq (mIx (mVar 5) (mC (.int 2))) (mIx (mVar 2) (mC (.int 3))))) (mAnd (mBl (mBin fEq (mIx (mVar 5) (mC (.int 3))) (mIx (mVar 2) (mC (.int 4))))) (mBl (mBin fEq (mIx (mVar 5) (mC (.int 4))) (mIx (mVar 2) (mC (.int 5)))))))) (mSet 3 (mC (.bl true))) mSkip)
    (mIfS (mAnd (mBl (mBin fEq (mIx (mVar 5) (mC (.int 0))) (mC (.str "done")))) (mAnd (mBl (mBin fEq (mIx (mIx (mVar 5) (mC (.int 3))) (mC (.int 0))) (mC (.str "did")))) (mBl (mBin fEq (mSl false (mIx (mVar 5) (mC (.int 3))) (oAt (mC (.int 3))) (oAt (mC (.int 5)))) (mSl false (mVar 2) (oAt (mC (.int 3))) (oAt (mC (.int 5)))))))) (mSet 4 (mC (.bl true))) mSkip))
noncomputable def lb__law_requests_1 : SM :=
  (mSeq (mIfS (mOr (mBl (mBin fNe (mIx (mIx (mVar 0) (mVar 1)) (mC (.int 0))) (mC (.str "done")))) (mBl (mBin fNe (mIx (mIx (mIx (mVar 0) (mVar 1)) (mC (.int 3))) (mC (.int 0))) (mC (.str "did"))))) mCnt mSkip)
    (mSeq (mSet 2 (mIx (mIx (mVar 0) (mVar 1)) (mC (.int 3))))
    (mSeq (mSet 3 (mC (.bl false)))
    (mSeq (mSet 4 (mC (.bl false)))
    (mSeq (mFor (iAny (mSl false (mVar 0) oNo (oAt (mVar 1)))) (gNm 5) lb__law_requests_0)
    (mSeq (mIfS (mNot (mTru (mVar 3))) (mRet (mTup (mCons (mC (.str "uncalled")) (mCons (mIx (mVar 2) (mC (.int 3))) (mCons (mIx (mVar 2) (mC (.int 4))) mNil))))) mSkip)
    (mIfS (mTru (mVar 4)) (mRet (mTup (mCons (mC (.str "repeated")) (mCons (mIx (mVar 2) (mC (.int 3))) (mCons (mIx (mVar 2) (mC (.int 4))) mNil))))) mSkip)))))))
noncomputable def m__law_requests : SM :=
  (mSeq (mFor (iRng (mCons (mCall fnLen (mCons (mVar 0) mNil)) mNil)) (gNm 1) lb__law_requests_1)
    (mRet (mC .non)))
noncomputable def V__law_requests : FM := den 6 m__law_requests
theorem ok__law_requests {f : Addr} {fd : FuncData} (F : Fun K "_law_requests" "_law_requests" s__law_requests f fd)
    (n_range : mg "range" = none)
    (n_len : mg "len" = none) :
    FnOk P w K mg base (L2.CX P w) 1 f fd ["_law_events"] (spD (nm (tkHash w)) K mg 1 V__law_requests) :=
  den_ok (m := m__law_requests) F sc__law_requests (fun cdv A outer s H E hr => by
  have nd := sc__law_requests.nd
  have hh := L2H.roomH_of hr
  have hl : locAll [0, 1, 2, 3, 4, 5] (cxOf (L2.CX P w) P w K mg base ["_law_events", "_law_k", "_law_record", "_law_called", "_law_again", "_law_other"] "_law_requests" (defScope s__law_requests) f cdv A outer s H E).N (cxOf (L2.CX P w) P w K mg base ["_law_events", "_law_k", "_law_record", "_law_called", "_law_again", "_law_other"] "_law_requests" (defScope s__law_requests) f cdv A outer s H E).env.scope = true := va__law_requests
  have hv := locVis hl
  have hg : glAll ["len", "range"] (cxOf (L2.CX P w) P w K mg base ["_law_events", "_law_k", "_law_record", "_law_called", "_law_again", "_law_other"] "_law_requests" (defScope s__law_requests) f cdv A outer s H E).env.scope = true := ga__law_requests
  have hc : (cxOf (L2.CX P w) P w K mg base ["_law_events", "_law_k", "_law_record", "_law_called", "_law_again", "_law_other"] "_law_requests" (defScope s__law_requests) f cdv A outer s H E).calm = true := rfl
  have hp : PassesOwn (model P w) (cxOf (L2.CX P w) P w K mg base ["_law_events", "_law_k", "_law_record", "_law_called", "_law_again", "_law_other"] "_law_requests" (defScope s__law_requests) f cdv A outer s H E).A (cxOf (L2.CX P w) P w K mg base ["_law_events", "_law_k", "_law_record", "_law_called", "_law_again", "_law_other"] "_law_requests" (defScope s__law_requests) f cdv A outer s H E).env (cxOf (L2.CX P w) P w K mg base ["_law_events", "_law_k", "_law_record", "_law_called", "_law_again", "_law_other"] "_law_requests" (defScope s__law_requests) f cdv A outer s H E).xe := passes_of rfl
  exact (mb_cons (ms_for hp hc (mi_range1 (gl_at hg 1) n_range (ma_cons (me_callB c_len (gl_at hg 0) n_len bb_len (ma_cons (me_var 0 hv) ma_nil)) ma_nil)) (mg_name 1 nd hl) (gok_nm 1) (mb_cons (ms_if (MW.mt (mw_or (mt_cmp (o_ne hh) (me_ix hh (me_ix hh (me_var 0 hv) (me_var 1 hv)) me_int) me_str (nomark _)) (mw_or1 (mt_cmp (o_ne hh) (me_ix hh (me_ix hh (me_ix hh (me_var 0 hv) (me_var 1 hv)) me_int) me_int) me_str (nomark _))))) (mb_one ms_cnt) mb_nil)
    (mb_cons (ms_set 2 nd hl (me_ix hh (me_ix hh (me_var 0 hv) (me_var 1 hv)) me_int))
    (mb_cons (ms_set 3 nd hl me_bl)
    (mb_cons (ms_set 4 nd hl me_bl)
    (mb_cons (ms_for hp hc (mi_any (me_sl false (me_var 0 hv) mo_no (mo_at (me_var 1 hv)))) (mg_name 5 nd hl) (gok_nm 5) (mb_cons (ms_if (MW.mt (mw_and (mt_cmp (o_eq hh) (me_ix hh (me_var 5 hv) me_int) me_str (nomark _)) (mw_and (mt_cmp (o_eq hh) (me_ix hh (me_var 5 hv) me_int) (me_ix hh (me_var 2 hv) me_int) (nomark _)) (mw_and (mt_cmp (o_eq hh) (me_ix hh (me_var 5 hv) me_int) (me_ix hh (me_var 2 hv) me_int) (nomark _)) (mw_and1 (mt_cmp (o_eq hh) (me_ix hh (me_var 5 hv) me_int) (me_ix hh (me_var 2 hv) me_int) (nomark _))))))) (mb_one (ms_set 3 nd hl me_bl)) mb_nil)
    (mb_one (ms_if (MW.mt (mw_and (mt_cmp (o_eq hh) (me_ix hh (me_var 5 hv) me_int) me_str (nomark _)) (mw_and (mt_cmp (o_eq hh) (me_ix hh (me_ix hh (me_var 5 hv) me_int) me_int) me_str (nomark _)) (mw_and1 (mt_cmp (o_eq hh) (me_sl false (me_ix hh (me_var 5 hv) me_int) (mo_at me_int) (mo_at me_int)) (me_sl false (me_var 2 hv) (mo_at me_int) (mo_at me_int)) (nomark _)))))) (mb_one (ms_set 4 nd hl me_bl)) mb_nil))))
    (mb_cons (ms_if (mt_not (mt_tru (me_var 3 hv))) (mb_one (ms_ret (me_tup (ma_cons me_str (ma_cons (me_ix hh (me_var 2 hv) me_int) (ma_cons (me_ix hh (me_var 2 hv) me_int) ma_nil)))))) mb_nil)
    (mb_one (ms_if (mt_tru (me_var 4 hv)) (mb_one (ms_ret (me_tup (ma_cons me_str (ma_cons (me_ix hh (me_var 2 hv) me_int) (ma_cons (me_ix hh (me_var 2 hv) me_int) ma_nil)))))) mb_nil)))))))))
    (mb_one (ms_ret me_non)))) rfl rfl
abbrev s__law_answers : Stmt := (topS 16)
theorem sc__law_answers : FnScope ["_law_events", "_law_befores", "_law_k", "_law_found", "_law_j"] ["_law_events", "_law_befores"] (defScope s__law_answers) := ⟨rfl, rfl, rfl, by decide +kernel, rfl, by decide +kernel, by decide +kernel⟩
theorem va__law_answers : locAll [0, 1, 2, 3, 4] ["_law_events", "_law_befores", "_law_k", "_law_found", "_law_j"] (defScope s__law_answers) = true := by decide +kernel
theorem ga__law_answers : glAll ["len", "range", "_law_fits"] (defScope s__law_answers) = true := by decide +kernel
noncomputable def lb__law_answers_0 : SM :=
  (mIfS (mAnd (mBl (mBin fIs (mVar 3) (mC .non))) (mAnd (mBl (mBin fEq (mIx (mIx (mVar 0) (mVar 4)) (mC (.int 0))) (mC (.str "done")))) (mBl (mBin fEq (mIx (mIx (mIx (mVar 0) (mVar 4)) (mC (.int 3))) (mC (.int 0))) (mC (.str "did")))))) (mIfS (mAnd (mBl (mBin fEq (mIx (mIx (mIx (mVar 0) (mVar 4)) (mC (.int 3))) (mC (.int 3))) (mIx (mIx (mVar 0) (mVar 2)) (mC (.int 2))))) (mBl (mBin fEq (mIx (mIx (mIx (mVar 0) (mVar 4)) (mC (.int 3))) (mC (.int 4))) (mIx (mIx (mVar 0) (mVar 2)) (mC (.int 3)))))) (mSet 3 (mVar 4)) mSkip) mSkip)
noncomputable def lb__law_answers_1 : SM :=
  (mSeq (mIfS (mBl (mBin fNe (mIx (mIx (mVar 0) (mVar 2)) (mC (.int 0))) (mC (.str "accept")))) mCnt mSkip)
    (mSeq (mSet 3 (mC .non))
    (mSeq (mFor (iRng (mCons (mVar 2) mNil)) (gNm 4) lb__law_answers_0)
    (mSeq (mIfS (mBl (mBin fIs (mVar 3) (mC .non))) (mRet (mTup (mCons (mC (.str "missing")) (mCons (mIx (mIx (mVar 0) (mVar 2)) (mC (.int 2))) (mCons (mIx (mIx (mVar 0) (mVar 2)) (mC (.int 3))) mNil))))) mSkip)
    (mIfS (mNot (mBl (mCall V__law_fits (mCons (mIx (mIx (mIx (mVar 0) (mVar 3)) (mC (.int 3))) (mC (.int 5))) (mCons (mIx (mIx (mVar 0) (mVar 2)) (mC (.int 4))) (mCons (mIx (mVar 1) (mVar 3)) mNil)))))) (mRet (mTup (mCons (mC (.str "answer")) (mCons (mIx (mIx (mVar 0) (mVar 2)) (mC (.int 2))) (mCons (mIx (mIx (mVar 0) (mVar 2)) (mC (.int 3))) mNil))))) mSkip)))))
noncomputable def m__law_answers : SM :=
  (mSeq (mFor (iRng (mCons (mCall fnLen (mCons (mVar 0) mNil)) mNil)) (gNm 2) lb__law_answers_1)
    (mRet (mC .non)))
noncomputable def V__law_answers : FM := den 5 m__law_answers
theorem ok__law_answers {f : Addr} {fd : FuncData} (F : Fun K "_law_answers" "_law_answers" s__law_answers f fd)
    (n_range : mg "range" = none)
    (n_len : mg "len" = none)
    (d__law_fits : DefOk P w K mg base (nm (tkHash w)) 2 "_law_fits" 3 V__law_fits) :
    FnOk P w K mg base (L2.CX P w) 3 f fd ["_law_events", "_law_befores"] (spD (nm (tkHash w)) K mg 2 V__law_answers) :=
  den_ok (m := m__law_answers) F sc__law_answers (fun cdv A outer s H E hr => by
  have nd := sc__law_answers.nd
  have hh := L2H.roomH_of hr
  have hl : locAll [0, 1, 2, 3, 4] (cxOf (L2.CX P w) P w K mg base ["_law_events", "_law_befores", "_law_k", "_law_found", "_law_j"] "_law_answers" (defScope s__law_answers) f cdv A outer s H E).N (cxOf (L2.CX P w) P w K mg base ["_law_events", "_law_befores", "_law_k", "_law_found", "_law_j"] "_law_answers" (defScope s__law_answers) f cdv A outer s H E).env.scope = true := va__law_answers
  have hv := locVis hl
  have hg : glAll ["len", "range", "_law_fits"] (cxOf (L2.CX P w) P w K mg base ["_law_events", "_law_befores", "_law_k", "_law_found", "_law_j"] "_law_answers" (defScope s__law_answers) f cdv A outer s H E).env.scope = true := ga__law_answers
  have hc : (cxOf (L2.CX P w) P w K mg base ["_law_events", "_law_befores", "_law_k", "_law_found", "_law_j"] "_law_answers" (defScope s__law_answers) f cdv A outer s H E).calm = true := rfl
  have hp : PassesOwn (model P w) (cxOf (L2.CX P w) P w K mg base ["_law_events", "_law_befores", "_law_k", "_law_found", "_law_j"] "_law_answers" (defScope s__law_answers) f cdv A outer s H E).A (cxOf (L2.CX P w) P w K mg base ["_law_events", "_law_befores", "_law_k", "_law_found", "_law_j"] "_law_answers" (defScope s__law_answers) f cdv A outer s H E).env (cxOf (L2.CX P w) P w K mg base ["_law_events", "_law_befores", "_law_k", "_law_found", "_law_j"] "_law_answers" (defScope s__law_answers) f cdv A outer s H E).xe := passes_of rfl
  exact (mb_cons (ms_for hp hc (mi_range1 (gl_at hg 1) n_range (ma_cons (me_callB c_len (gl_at hg 0) n_len bb_len (ma_cons (me_var 0 hv) ma_nil)) ma_nil)) (mg_name 2 nd hl) (gok_nm 2) (mb_cons (ms_if (mt_cmp (o_ne hh) (me_ix hh (me_ix hh (me_var 0 hv) (me_var 2 hv)) me_int) me_str (nomark _)) (mb_one ms_cnt) mb_nil)
    (mb_cons (ms_set 3 nd hl me_non)
    (mb_cons (ms_for hp hc (mi_range1 (gl_at hg 1) n_range (ma_cons (me_var 2 hv) ma_nil)) (mg_name 4 nd hl) (gok_nm 4) (mb_one (ms_if (MW.mt (mw_and (mt_cmp o_is (me_var 3 hv) me_non (nomark _)) (mw_and (mt_cmp (o_eq hh) (me_ix hh (me_ix hh (me_var 0 hv) (me_var 4 hv)) me_int) me_str (nomark _)) (mw_and1 (mt_cmp (o_eq hh) (me_ix hh (me_ix hh (me_ix hh (me_var 0 hv) (me_var 4 hv)) me_int) me_int) me_str (nomark _)))))) (mb_one (ms_if (MW.mt (mw_and (mt_cmp (o_eq hh) (me_ix hh (me_ix hh (me_ix hh (me_var 0 hv) (me_var 4 hv)) me_int) me_int) (me_ix hh (me_ix hh (me_var 0 hv) (me_var 2 hv)) me_int) (nomark _)) (mw_and1 (mt_cmp (o_eq hh) (me_ix hh (me_ix hh (me_ix hh (me_var 0 hv) (me_var 4 hv)) me_int) me_int) (me_ix hh (me_ix hh (me_var 0 hv) (me_var 2 hv)) me_int) (nomark _))))) (mb_one (ms_set 3 nd hl (me_var 4 hv))) mb_nil)) mb_nil)))
    (mb_cons (ms_if (mt_cmp o_is (me_var 3 hv) me_non (nomark _)) (mb_one (ms_ret (me_tup (ma_cons me_str (ma_cons (me_ix hh (me_ix hh (me_var 0 hv) (me_var 2 hv)) me_int) (ma_cons (me_ix hh (me_ix hh (me_var 0 hv) (me_var 2 hv)) me_int) ma_nil)))))) mb_nil)
    (mb_one (ms_if (mt_not (mt_val (me_call d__law_fits (hr.mono (by decide)) (gl_at hg 2) (ma_cons (me_ix hh (me_ix hh (me_ix hh (me_var 0 hv) (me_var 3 hv)) me_int) me_int) (ma_cons (me_ix hh (me_ix hh (me_var 0 hv) (me_var 2 hv)) me_int) (ma_cons (me_ix hh (me_var 1 hv) (me_var 3 hv)) ma_nil)))))) (mb_one (ms_ret (me_tup (ma_cons me_str (ma_cons (me_ix hh (me_ix hh (me_var 0 hv) (me_var 2 hv)) me_int) (ma_cons (me_ix hh (me_ix hh (me_var 0 hv) (me_var 2 hv)) me_int) ma_nil)))))) mb_nil)))))))
    (mb_one (ms_ret me_non)))) rfl rfl
abbrev s_law : Stmt := (topS 17)
theorem sc_law : FnScope ["_law_script", "_law_state", "_law_items", "_law_events", "_law_befores", "_law_told", "_law_cell_here", "_law_event_here", "_law_key", "_law_handed"] ["_law_script"] (defScope s_law) := ⟨rfl, rfl, rfl, by decide +kernel, rfl, by decide +kernel, by decide +kernel⟩
theorem va_law : locAll [0, 1, 2, 3, 4, 5, 6, 7, 8, 9] ["_law_script", "_law_state", "_law_items", "_law_events", "_law_befores", "_law_told", "_law_cell_here", "_law_event_here", "_law_key", "_law_handed"] (defScope s_law) = true := by decide +kernel
theorem ga_law : glAll ["request_fault", "answer_fault", "_law_requests", "_law_answers", "list", "_law_change", "_law_answer", "dict", "len", "_law_event"] (defScope s_law) = true := by decide +kernel
noncomputable def lb_law_0 : SM :=
  (mSeq (mSet 7 (mCall V__law_event (mCons (mVar 1) (mCons (mVar 6) (mCons (mCall fnLen (mCons (mVar 3) mNil)) mNil)))))
    (mSeq (mExpr (mBm .list fnAppend (mVar 4) (mCons (mCall fnDict (mCons (mVar 2) mNil)) mNil)))
    (mSeq (mIfS (mAnd (mBl (mBin fEq (mIx (mVar 7) (mC (.int 0))) (mC (.str "done")))) (mBl (mBin fEq (mIx (mIx (mVar 7) (mC (.int 3))) (mC (.int 0))) (mC (.str "did"))))) (mSeq (mSet 8 (mTup (mCons (mIx (mIx (mVar 7) (mC (.int 3))) (mC (.int 3))) (mCons (mIx (mIx (mVar 7) (mC (.int 3))) (mC (.int 4))) mNil))))
    (mSeq (mIfS (mBl (mBin fNotInT (mVar 8) (mVar 5))) (mSetIT (mCall V__law_answer (mCons (mVar 2) (mCons (mIx (mIx (mVar 7) (mC (.int 3))) (mC (.int 5))) (mCons (mBin fDiv (mVar 6) (mC (.int 7))) mNil)))) (mVar 5) (mVar 8)) mSkip)
    (mExpr (mCall V__law_change (mCons (mVar 2) (mCons (mIx (mIx (mVar 7) (mC (.int 3))) (mC (.int 5))) mNil)))))) mSkip)
    (mSeq (mIfS (mAnd (mBl (mBin fEq (mIx (mVar 7) (mC (.int 0))) (mC (.str "accept")))) (mBl (mBin fIs (mIx (mVar 7) (mC (.int 4))) (mC .non)))) (mSet 7 (mBin fAdd (mSl false (mVar 7) oNo (oAt (mC (.int 4)))) (mTup (mCons (mBmT fnGetT2 (mVar 5) (mCons (mTup (mCons (mIx (mVar 7) (mC (.int 2))) (mCons (mIx (mVar 7) (mC (.int 3))) mNil))) (mCons (mTup (mCons (mC (.str "none")) mNil)) mNil))) mNil)))) mSkip)
    (mExpr (mBm .list fnAppend (mVar 3) (mCons (mVar 7) mNil)))))))
noncomputable def m_law : SM :=
  (mSeq (mSet 1 (mDisp (psCons (mUn fNeg (mC (.int 1))) (mTup (mCons (mC (.int 0)) (mCons (mTup (mCons (mC (.str "get")) (mCons (mC (.str "a")) mNil))) (mCons (mC (.int 0)) mNil)))) (psCons (mUn fNeg (mC (.int 2))) (mTup (mCons (mC (.int 0)) (mCons (mTup (mCons (mC (.str "get")) (mCons (mC (.str "a")) mNil))) (mCons (mC (.int 0)) mNil)))) (psCons (mUn fNeg (mC (.int 3))) (mTup (mCons (mC (.int 0)) (mCons (mTup (mCons (mC (.str "get")) (mCons (mC (.str "a")) mNil))) (mCons (mC (.int 0)) mNil)))) psNil)))))
    (mSeq (mSet 2 mDct)
    (mSeq (mSet 3 (mLst true mNil))
    (mSeq (mSet 4 (mLst true mNil))
    (mSeq (mSet 5 mDct)
    (mSeq (mFor (iAny (mSl false (mVar 0) oNo (oAt (mC (.int 30))))) (gNm 6) lb_law_0)
    (mSeq (mSet 9 (mCall (fnList false) (mCons (mVar 3) mNil)))
    (mSeq (mIfS (mOr (mBl (mBin fNe (mCall V_request_fault (mCons (mVar 9) mNil)) (mCall V__law_requests (mCons (mVar 3) mNil)))) (mBl (mBin fNe (mCall V_answer_fault (mCons (mVar 9) mNil)) (mCall V__law_answers (mCons (mVar 3) (mCons (mVar 4) mNil)))))) (mRet (mC (.bl false))) mSkip)
    (mRet (mAndV (mBin fEq (mVar 9) (mVar 3)) (mAndV (mBin fIs (mCall V_request_fault (mCons (mLst false mNil) mNil)) (mC .non)) (mBin fIs (mCall V_answer_fault (mCons (mLst false mNil) mNil)) (mC .non)))))))))))))
noncomputable def V_law : FM := den 10 m_law
theorem ok_law {f : Addr} {fd : FuncData} (F : Fun K "law" "law" s_law f fd)
    (d_request_fault : DefOk P w K mg base (nm (tkHash w)) 2 "request_fault" 1 V_request_fault)
    (d_answer_fault : DefOk P w K mg base (nm (tkHash w)) 3 "answer_fault" 1 V_answer_fault)
    (d__law_requests : DefOk P w K mg base (nm (tkHash w)) 1 "_law_requests" 1 V__law_requests)
    (d__law_answers : DefOk P w K mg base (nm (tkHash w)) 3 "_law_answers" 2 V__law_answers)
    (n_list : mg "list" = none)
    (d__law_change : DefOk P w K mg base (nm (tkHash w)) 1 "_law_change" 2 V__law_change)
    (d__law_answer : DefOk P w K mg base (nm (tkHash w)) 1 "_law_answer" 3 V__law_answer)
    (n_dict : mg "dict" = none)
    (d__law_event : DefOk P w K mg base (nm (tkHash w)) 2 "_law_event" 3 V__law_event)
    (n_len : mg "len" = none) :
    FnOk P w K mg base (L2.CX P w) 4 f fd ["_law_script"] (spD (nm (tkHash w)) K mg 1 V_law) :=
  den_ok (m := m_law) F sc_law (fun cdv A outer s H E hr => by
  have nd := sc_law.nd
  have hh := L2H.roomH_of hr
  have hl : locAll [0, 1, 2, 3, 4, 5, 6, 7, 8, 9] (cxOf (L2.CX P w) P w K mg base ["_law_script", "_law_state", "_law_items", "_law_events", "_law_befores", "_law_told", "_law_cell_here", "_law_event_here", "_law_key", "_law_handed"] "law" (defScope s_law) f cdv A outer s H E).N (cxOf (L2.CX P w) P w K mg base ["_law_script", "_law_state", "_law_items", "_law_events", "_law_befores", "_law_told", "_law_cell_here", "_law_event_here", "_law_key", "_law_handed"] "law" (defScope s_law) f cdv A outer s H E).env.scope = true := va_law
  have hv := locVis hl
  have hg : glAll ["request_fault", "answer_fault", "_law_requests", "_law_answers", "list", "_law_change", "_law_answer", "dict", "len", "_law_event"] (cxOf (L2.CX P w) P w K mg base ["_law_script", "_law_state", "_law_items", "_law_events", "_law_befores", "_law_told", "_law_cell_here", "_law_event_here", "_law_key", "_law_handed"] "law" (defScope s_law) f cdv A outer s H E).env.scope = true := ga_law
  have hc : (cxOf (L2.CX P w) P w K mg base ["_law_script", "_law_state", "_law_items", "_law_events", "_law_befores", "_law_told", "_law_cell_here", "_law_event_here", "_law_key", "_law_handed"] "law" (defScope s_law) f cdv A outer s H E).calm = true := rfl
  have hp : PassesOwn (model P w) (cxOf (L2.CX P w) P w K mg base ["_law_script", "_law_state", "_law_items", "_law_events", "_law_befores", "_law_told", "_law_cell_here", "_law_event_here", "_law_key", "_law_handed"] "law" (defScope s_law) f cdv A outer s H E).A (cxOf (L2.CX P w) P w K mg base ["_law_script", "_law_state", "_law_items", "_law_events", "_law_befores", "_law_told", "_law_cell_here", "_law_event_here", "_law_key", "_law_handed"] "law" (defScope s_law) f cdv A outer s H E).env (cxOf (L2.CX P w) P w K mg base ["_law_script", "_law_state", "_law_items", "_law_events", "_law_befores", "_law_told", "_law_cell_here", "_law_event_here", "_law_key", "_law_handed"] "law" (defScope s_law) f cdv A outer s H E).xe := passes_of rfl
  exact (mb_cons (ms_set 1 nd hl (me_disp (mps_cons (me_neg me_int) (me_tup (ma_cons me_int (ma_cons (me_tup (ma_cons me_str (ma_cons me_str ma_nil))) (ma_cons me_int ma_nil)))) (mps_cons (me_neg me_int) (me_tup (ma_cons me_int (ma_cons (me_tup (ma_cons me_str (ma_cons me_str ma_nil))) (ma_cons me_int ma_nil)))) (mps_cons (me_neg me_int) (me_tup (ma_cons me_int (ma_cons (me_tup (ma_cons me_str (ma_cons me_str ma_nil))) (ma_cons me_int ma_nil)))) mps_nil)))))
    (mb_cons (ms_set 2 nd hl me_dct)
    (mb_cons (ms_set 3 nd hl (me_lst true ma_nil))
    (mb_cons (ms_set 4 nd hl (me_lst true ma_nil))
    (mb_cons (ms_set 5 nd hl me_dct)
    (mb_cons (ms_for hp hc (mi_any (me_sl false (me_var 0 hv) mo_no (mo_at me_int))) (mg_name 6 nd hl) (gok_nm 6) (mb_cons (ms_set 7 nd hl (me_call d__law_event (hr.mono (by decide)) (gl_at hg 9) (ma_cons (me_var 1 hv) (ma_cons (me_var 6 hv) (ma_cons (me_callB c_len (gl_at hg 8) n_len bb_len (ma_cons (me_var 3 hv) ma_nil)) ma_nil)))))
    (mb_cons (ms_expr (me_bm (T := .list) PySem.F.plainAttrs_list PySem.F.slot_list_append PySem.F.type_list_append t_append (me_var 4 hv) (ma_cons (me_callT c_dict (gl_at hg 7) n_dict bb_dict (ma_cons (me_var 2 hv) ma_nil)) ma_nil)))
    (mb_cons (ms_if (MW.mt (mw_and (mt_cmp (o_eq hh) (me_ix hh (me_var 7 hv) me_int) me_str (nomark _)) (mw_and1 (mt_cmp (o_eq hh) (me_ix hh (me_ix hh (me_var 7 hv) me_int) me_int) me_str (nomark _))))) (mb_cons (ms_set 8 nd hl (me_tup (ma_cons (me_ix hh (me_ix hh (me_var 7 hv) me_int) me_int) (ma_cons (me_ix hh (me_ix hh (me_var 7 hv) me_int) me_int) ma_nil))))
    (mb_cons (ms_if (mt_cmp (o_notinT hh) (me_var 8 hv) (me_var 5 hv) (by rfl)) (mb_one (ms_setIT hh (me_var 5 hv) (me_var 8 hv) (me_call d__law_answer (hr.mono (by decide)) (gl_at hg 6) (ma_cons (me_var 2 hv) (ma_cons (me_ix hh (me_ix hh (me_var 7 hv) me_int) me_int) (ma_cons (me_bin o_div (me_var 6 hv) me_int) ma_nil)))))) mb_nil)
    (mb_one (ms_expr (me_call d__law_change (hr.mono (by decide)) (gl_at hg 5) (ma_cons (me_var 2 hv) (ma_cons (me_ix hh (me_ix hh (me_var 7 hv) me_int) me_int) ma_nil))))))) mb_nil)
    (mb_cons (ms_if (MW.mt (mw_and (mt_cmp (o_eq hh) (me_ix hh (me_var 7 hv) me_int) me_str (nomark _)) (mw_and1 (mt_cmp o_is (me_ix hh (me_var 7 hv) me_int) me_non (nomark _))))) (mb_one (ms_set 7 nd hl (me_bin o_add (me_sl false (me_var 7 hv) mo_no (mo_at me_int)) (me_tup (ma_cons (me_bmT PySem.F.slot_dict_get PySem.F.type_dict_get (t_getT2 hh) (me_var 5 hv) (ma_cons (me_tup (ma_cons (me_ix hh (me_var 7 hv) me_int) (ma_cons (me_ix hh (me_var 7 hv) me_int) ma_nil))) (ma_cons (me_tup (ma_cons me_str ma_nil)) ma_nil))) ma_nil))))) mb_nil)
    (mb_one (ms_expr (me_bm (T := .list) PySem.F.plainAttrs_list PySem.F.slot_list_append PySem.F.type_list_append t_append (me_var 3 hv) (ma_cons (me_var 7 hv) ma_nil)))))))))
    (mb_cons (ms_set 9 nd hl (me_callT (c_list false) (gl_at hg 4) n_list bb_list (ma_cons (me_var 3 hv) ma_nil)))
    (mb_cons (ms_if (MW.mt (mw_or (mt_cmp (o_ne hh) (me_call d_request_fault (hr.mono (by decide)) (gl_at hg 0) (ma_cons (me_var 9 hv) ma_nil)) (me_call d__law_requests (hr.mono (by decide)) (gl_at hg 2) (ma_cons (me_var 3 hv) ma_nil)) (nomark _)) (mw_or1 (mt_cmp (o_ne hh) (me_call d_answer_fault (hr.mono (by decide)) (gl_at hg 1) (ma_cons (me_var 9 hv) ma_nil)) (me_call d__law_answers (hr.mono (by decide)) (gl_at hg 3) (ma_cons (me_var 3 hv) (ma_cons (me_var 4 hv) ma_nil))) (nomark _))))) (mb_one (ms_ret me_bl)) mb_nil)
    (mb_one (ms_ret (me_and (me_cmp (o_eq hh) (me_var 9 hv) (me_var 3 hv) (nomark _)) (me_and (me_cmp o_is (me_call d_request_fault (hr.mono (by decide)) (gl_at hg 0) (ma_cons (me_lst false ma_nil) ma_nil)) me_non (nomark _)) (me_one (me_cmp o_is (me_call d_answer_fault (hr.mono (by decide)) (gl_at hg 1) (ma_cons (me_lst false ma_nil) ma_nil)) me_non (nomark _)))))))))))))))) rfl rfl
end
end L_k70
namespace L_k70
open PySem PySem.Spec PyProof.Rows L2 BS
theorem m6 (r : Int) : r % 6 = 0 ∨ r % 6 = 1 ∨ r % 6 = 2 ∨ r % 6 = 3 ∨ r % 6 = 4 ∨ r % 6 = 5 := by omega
theorem sm_key {z : Str} (h : isK (.str z) = true) (n : Nat) : z.length ≤ 1000000 := by
  obtain ⟨y, e, h, _⟩ := isK_str h; cases e; omega
theorem sm_bnd {z : Str} (h : isB (.str z) = true) (n : Nat) : z.length ≤ 1000000 := by
  obtain ⟨y, e, h⟩ := isB_str h; cases e; omega
theorem sm_val {z : Str} (h : isV (.str z) = true) (n : Nat) : z.length ≤ 1000000 := by
  obtain ⟨y, e, h⟩ := isV_str h; cases e; omega
def goodM (m : List (Str × D)) : Prop := (m.map (·.1)).Nodup ∧ ∀ p ∈ m, isK (.str p.1) = true ∧ ∃ v, p.2 = .str v ∧ isV (.str v) = true
theorem goodM.put {m : List (Str × D)} (h : goodM m) {z v : Str} (hz : isK (.str z) = true) (hv : isV (.str v) = true) : goodM (putM m z (.str v)) :=
  ⟨putM_nodup h.1 _ _, fun p hp => (putM_mem hp).elim (fun e => by subst e; exact ⟨hz, v, rfl, hv⟩) (h.2 p)⟩
theorem goodM.drop {m : List (Str × D)} (h : goodM m) (z : Str) : goodM (dropM m z) :=
  ⟨dropM_nodup h.1 _, fun p hp => h.2 p (dropM_mem hp).1⟩
def prsOf (m : List (Str × D)) : List D := (sortT (m.map (·.1))).map fun z => .tup [.str z, (getM m z).getD .non]
theorem goodM.at {m : List (Str × D)} (h : goodM m) {z : Str} (hz : z ∈ m.map (·.1)) : ∃ v, getM m z = some (.str v) ∧ isK (.str z) = true ∧ isV (.str v) = true := by
  obtain ⟨d, e⟩ := getM_some hz
  obtain ⟨h1, v, h2, h3⟩ := h.2 _ (getM_mem e)
  exact ⟨v, by rw [e, ← h2], h1, h3⟩
theorem prsOf_sm {m : List (Str × D)} (h : goodM m) (hl : m.length ≤ 1000000) : Sm 2 (.tup (prsOf m)) := by
  refine ⟨by simp [prsOf, sortT_len, hl], fun d hd => ?_⟩
  obtain ⟨z, hz, rfl⟩ := List.mem_map.mp hd
  obtain ⟨v, e, hk, hv⟩ := h.at (sortT_mem.mp hz)
  have a := sm_key hk 0
  have b := sm_val hv 0
  rw [e]; simp [a, b]
@[simp] theorem sl_get_put : (Str.ofString "get" = Str.ofString "put") = False := by simp; decide +kernel
@[simp] theorem sl_get_drop : (Str.ofString "get" = Str.ofString "drop") = False := by simp; decide +kernel
@[simp] theorem sl_get_swap : (Str.ofString "get" = Str.ofString "swap") = False := by simp; decide +kernel
@[simp] theorem sl_get_page : (Str.ofString "get" = Str.ofString "page") = False := by simp; decide +kernel
@[simp] theorem sl_put_get : (Str.ofString "put" = Str.ofString "get") = False := by simp; decide +kernel
@[simp] theorem sl_put_drop : (Str.ofString "put" = Str.ofString "drop") = False := by simp; decide +kernel
@[simp] theorem sl_put_swap : (Str.ofString "put" = Str.ofString "swap") = False := by simp; decide +kernel
@[simp] theorem sl_put_page : (Str.ofString "put" = Str.ofString "page") = False := by simp; decide +kernel
@[simp] theorem sl_drop_get : (Str.ofString "drop" = Str.ofString "get") = False := by simp; decide +kernel
@[simp] theorem sl_drop_put : (Str.ofString "drop" = Str.ofString "put") = False := by simp; decide +kernel
@[simp] theorem sl_drop_swap : (Str.ofString "drop" = Str.ofString "swap") = False := by simp; decide +kernel
@[simp] theorem sl_drop_page : (Str.ofString "drop" = Str.ofString "page") = False := by simp; decide +kernel
@[simp] theorem sl_swap_get : (Str.ofString "swap" = Str.ofString "get") = False := by simp; decide +kernel
@[simp] theorem sl_swap_put : (Str.ofString "swap" = Str.ofString "put") = False := by simp; decide +kernel
@[simp] theorem sl_swap_drop : (Str.ofString "swap" = Str.ofString "drop") = False := by simp; decide +kernel
@[simp] theorem sl_swap_page : (Str.ofString "swap" = Str.ofString "page") = False := by simp; decide +kernel
@[simp] theorem sl_page_get : (Str.ofString "page" = Str.ofString "get") = False := by simp; decide +kernel
@[simp] theorem sl_page_put : (Str.ofString "page" = Str.ofString "put") = False := by simp; decide +kernel
@[simp] theorem sl_page_drop : (Str.ofString "page" = Str.ofString "drop") = False := by simp; decide +kernel
@[simp] theorem sl_page_swap : (Str.ofString "page" = Str.ofString "swap") = False := by simp; decide +kernel
def isOp (d : D) : Bool := match d with
  | .tup (.str k :: a :: r) =>
    if k = "get" ∨ k = "drop" then r.isEmpty && isK a
    else if k = "put" then decide (r.length = 1) && isK a && r.all isV
    else if k = "swap" then decide (r.length = 2) && isK a && r.all isV
    else if k = "page" then (match r with
      | [l] => isB a && isI l 1 50
      | _ => false)
    else false
  | _ => false
theorem isOp_form {d : D} (h : isOp d = true) : ∃ k a r, d = .tup (.str k :: a :: r) ∧ isB a = true := by
  unfold isOp at h
  split at h
  · rename_i k a r
    refine ⟨k, a, r, rfl, ?_⟩
    split at h
    · simp at h; exact isK_isB h.2
    split at h
    · simp at h; exact isK_isB h.1.2
    split at h
    · simp at h; exact isK_isB h.1.2
    split at h
    · split at h
      · simp at h; exact h.1
      · simp at h
    · simp at h
  · simp at h
def fnd (m : List (Str × D)) (low : Str) : List Str := (sortT (m.map (·.1))).filter fun z => !ltS z low
def pr1 (m : List (Str × D)) (z : Str) : D := .tup [.str z, (getM m z).getD .non]
def pageD (m : List (Str × D)) (low : Str) (k : Nat) (high : D) : D := .tup [.str "page", .tup (((fnd m low).take k).map (pr1 m)), match (fnd m low)[k]? with
  | some z => .str z
  | none => high]
def pageT (m : List (Str × D)) (low : Str) (k : Nat) : Store := [.lst ((fnd m low).map .str), .lst (((fnd m low).take k).map (pr1 m))]
theorem fnd_mem {m : List (Str × D)} {low z : Str} (h : z ∈ fnd m low) : z ∈ m.map (·.1) := sortT_mem.mp (List.mem_filter.mp h).1
theorem fnd_len (m : List (Str × D)) (low : Str) : (fnd m low).length ≤ m.length := by
  have := List.length_filter_le (fun z => !ltS z low) (sortT (m.map (·.1)))
  rw [sortT_len, List.length_map] at this
  exact this
theorem page_run {S : Store} {n : Nat} {m : List (Str × D)} (hS : S[n]? = some (.dct (toS m))) (hl : m.length ≤ 1000) (low : Str) (k : Nat) (high : D) :
    V__page [.obj n, .str low, .int k, high] S = .ok (pageD m low k high) (S ++ pageT m low k) := by
  have hn : n < S.length := (List.getElem?_eq_some_iff.mp hS).1
  have hST : ∀ T : Store, (S ++ T)[n]? = some (.dct (toS m)) := fun T => by rw [List.getElem?_append_left hn]; exact hS
  have so := sorted_toS false S n m hS (by omega)
  have hL := fnd_len m low
  have lc1 := lcL_pure (G := fun _ => True) (t := LT.one 5) (e0 := ⟨[some (.obj n), some (.str low), some (.int k), some high, none, none, none], []⟩) (tt := mBl (mBin fLe (mVar 1) (mVar 5))) (el := mVar 5) S (fun d => match d with
      | .str z => !ltS z low
      | _ => false) id ((sortT (m.map (·.1))).map .str) (fun _ => True.intro) (fun d hd => by
        obtain ⟨z, hz, rfl⟩ := List.mem_map.mp hd
        exact ⟨[.str z], rfl, fun acc => ⟨by simp (config := { implicitDefEqProofs := false }), fun _ => by simp (config := { implicitDefEqProofs := false })⟩⟩) [] (by simp [sortT_len]; exact szL (by omega))
  have e1 : (((sortT (m.map (·.1))).map D.str).filter (fun d => match d with
      | .str z => !ltS z low
      | _ => false)).map id = (fnd m low).map .str := by
    rw [List.map_id, List.filter_map]; rfl
  rw [e1, List.nil_append] at lc1
  have lc2 : ∀ x6 : D, _ := fun x6 => lcL_map (G := fun _ => True) (i := 5) (e0 := ⟨[some (.obj n), some (.str low), some (.int k), some high, some (.obj S.length), none, some x6], []⟩) (el := mTup (mCons (mVar 5) (mCons (mIx (mVar 0) (mVar 5)) mNil))) (S ++ [.lst ((fnd m low).map .str)]) (fun d => match d with
      | .str z => pr1 m z
      | _ => .non) (ds := ((fnd m low).take k).map .str) (fun _ => True.intro) (fun d hd acc => by
        obtain ⟨z, hz, rfl⟩ := List.mem_map.mp hd
        obtain ⟨v, e⟩ := getM_some (fnd_mem (List.mem_of_mem_take hz))
        simp (config := { implicitDefEqProofs := false }) [hST, e, pr1]) (by simp; exact szL (by omega))
  have e2 : (((fnd m low).take k).map D.str).map (fun d => match d with
      | .str z => pr1 m z
      | _ => .non) = ((fnd m low).take k).map (pr1 m) := by rw [List.map_map]; rfl
  simp only [e2] at lc2
  have ct := cut_to (ds := (fnd m low).map .str) (k := k)
  rw [← List.map_take] at ct
  have eg : ((fnd m low).map D.str)[k]? = ((fnd m low)[k]?).map .str := List.getElem?_map ..
  unfold pageD pageT
  generalize fnd m low = f at *
  cases hg : f[k]? with
  | some z =>
    have h1 : (k : Int) < f.length := by have := (List.getElem?_eq_some_iff.mp hg).1; omega
    have lc2 := lc2 (.str z)
    rw [hg] at eg
    generalize (f.take k).map (pr1 m) = ps at *
    simp (config := { implicitDefEqProofs := false }) at lc1 lc2 eg
    simp (config := { implicitDefEqProofs := false }) [V__page, m__page, -fnSorted_ev, so, lc1, h1, hg, ct, lc2, eg]
  | none =>
    have h1 : ¬ (k : Int) < f.length := by have := List.getElem?_eq_none_iff.mp hg; omega
    have lc2 := lc2 high
    rw [hg] at eg
    generalize (f.take k).map (pr1 m) = ps at *
    simp (config := { implicitDefEqProofs := false }) at lc1 lc2 eg
    simp (config := { implicitDefEqProofs := false }) [V__page, m__page, -fnSorted_ev, so, lc1, h1, hg, ct, lc2, eg]
theorem isI_int {d : D} {a b : Int} (h : isI d a b = true) : ∃ i, d = .int i ∧ a ≤ i ∧ i ≤ b := by
  cases d <;> simp_all [isI]
inductive Op where
  | get (k : Str) | put (k v : Str) | drop (k : Str) | swap (k o n : Str) | page (l : Str) (n : Nat)
def Op.d : Op → D
  | .get k => .tup [.str "get", .str k]
  | .put k v => .tup [.str "put", .str k, .str v]
  | .drop k => .tup [.str "drop", .str k]
  | .swap k o n => .tup [.str "swap", .str k, .str o, .str n]
  | .page l n => .tup [.str "page", .str l, .int n]
def Op.at : Op → Str
  | .get k => k | .put k _ => k | .drop k => k | .swap k _ _ => k | .page l _ => l
def Op.ok : Op → Prop
  | .get k => isK (.str k) = true
  | .put k v => isK (.str k) = true ∧ isV (.str v) = true
  | .drop k => isK (.str k) = true
  | .swap k o n => isK (.str k) = true ∧ isV (.str o) = true ∧ isV (.str n) = true
  | .page l n => isB (.str l) = true ∧ 1 ≤ n ∧ n ≤ 50
theorem isOp_op {d : D} (h : isOp d = true) : ∃ o : Op, d = o.d ∧ o.ok := by
  unfold isOp at h
  split at h
  · rename_i k a r
    split at h
    · rename_i hk
      simp only [Bool.and_eq_true, List.isEmpty_iff] at h
      obtain ⟨rfl, h⟩ := h
      obtain ⟨z, rfl, _⟩ := isK_str h
      rcases hk with rfl | rfl
      · exact ⟨.get z, rfl, h⟩
      · exact ⟨.drop z, rfl, h⟩
    split at h
    · rename_i _ hk
      subst hk
      simp only [Bool.and_eq_true, decide_eq_true_eq] at h
      obtain ⟨⟨hl, hk⟩, hv⟩ := h
      obtain ⟨z, rfl, _⟩ := isK_str hk
      match r, hl, hv with
      | [v], _, hv =>
        have hv : isV v = true := by simpa using hv
        obtain ⟨w, rfl, _⟩ := isV_str hv
        exact ⟨.put z w, rfl, hk, hv⟩
    split at h
    · rename_i _ _ hk
      subst hk
      simp only [Bool.and_eq_true, decide_eq_true_eq] at h
      obtain ⟨⟨hl, hk⟩, hv⟩ := h
      obtain ⟨z, rfl, _⟩ := isK_str hk
      match r, hl, hv with
      | [v, w], _, hv =>
        have hv : isV v = true ∧ isV w = true := by simpa using hv
        obtain ⟨a, rfl, _⟩ := isV_str hv.1
        obtain ⟨b, rfl, _⟩ := isV_str hv.2
        exact ⟨.swap z a b, rfl, hk, hv.1, hv.2⟩
    split at h
    · rename_i _ _ _ hk
      subst hk
      match r, h with
      | [], h => simp at h
      | _ :: _ :: _, h => simp at h
      | [l], h =>
        simp only [Bool.and_eq_true] at h
        obtain ⟨z, rfl, _⟩ := isB_str h.1
        have h2 := h.2
        obtain ⟨i, rfl, h3, h4⟩ := isI_int h2
        exact ⟨.page z i.toNat, by show _ = D.tup [_, _, .int (i.toNat : Int)]; rw [Int.toNat_of_nonneg (by omega)], h.1, by omega, by omega⟩
    · simp at h
  · simp at h
def ansOf (m : List (Str × D)) (high : D) : Op → D
  | .get k => match getM m k with
    | some v => .tup [.str "value", v]
    | none => .tup [.str "none"]
  | .put _ _ => .tup [.str "done"]
  | .drop k => match getM m k with
    | some _ => .tup [.str "done"]
    | none => .tup [.str "none"]
  | .swap k o _ => match getM m k with
    | some v => if eqD v (.str o) = true then .tup [.str "done"] else .tup [.str "other", v]
    | none => .tup [.str "none"]
  | .page l n => pageD m l n high
def newM (m : List (Str × D)) : Op → List (Str × D)
  | .get _ => m
  | .put k v => putM m k (.str v)
  | .drop k => match getM m k with
    | some _ => dropM m k
    | none => m
  | .swap k o n => match getM m k with
    | some v => if eqD v (.str o) = true then putM m k (.str n) else m
    | none => m
  | .page _ _ => m
def jnkA (m : List (Str × D)) : Op → Store
  | .page l n => pageT m l n
  | _ => []
theorem set_same {α : Type} {S : List α} {n : Nat} {x : α} (h : S[n]? = some x) : S.set n x = S := by
  apply List.ext_getElem?
  intro i
  rw [List.getElem?_set]
  split
  · rename_i e; subst e
    split
    · exact h.symm
    · rename_i q; exact absurd (List.getElem?_eq_some_iff.mp h).1 q
  · rfl
theorem apply_run {S : Store} {n : Nat} {m : List (Str × D)} (hS : S[n]? = some (.dct (toS m))) (hm : goodM m) (hl : m.length ≤ 1000) (o : Op) (high : D) :
    V_apply [.obj n, o.d, high] S = .ok (ansOf m high o) (S.set n (.dct (toS (newM m o))) ++ jnkA m o) := by
  have hn : n < S.length := (List.getElem?_eq_some_iff.mp hS).1
  have ss := set_same hS
  have hs : m.length < sizeLine := by have := sz; omega
  cases o with
  | page l k =>
    have pg := page_run hS hl l k high
    simp (config := { implicitDefEqProofs := false }) [Op.d, V_apply, m_apply, pg, ansOf, newM, jnkA, ss]
  | put k v => simp (config := { implicitDefEqProofs := false }) [Op.d, V_apply, m_apply, hS, hs, ansOf, newM, jnkA]
  | get k =>
    cases hg : getM m k with
    | none => simp (config := { implicitDefEqProofs := false }) [Op.d, V_apply, m_apply, inS_obj _ _ _ _ hS, hg, ansOf, newM, jnkA, ss]
    | some v => simp (config := { implicitDefEqProofs := false }) [Op.d, V_apply, m_apply, hS, inS_obj _ _ _ _ hS, hg, ansOf, newM, jnkA, ss]
  | drop k =>
    cases hg : getM m k with
    | none => simp (config := { implicitDefEqProofs := false }) [Op.d, V_apply, m_apply, inS_obj _ _ _ _ hS, hg, ansOf, newM, jnkA, ss]
    | some v => simp (config := { implicitDefEqProofs := false }) [Op.d, V_apply, m_apply, hS, inS_obj _ _ _ _ hS, hg, ansOf, newM, jnkA]
  | swap k o v =>
    cases hg : getM m k with
    | none => simp (config := { implicitDefEqProofs := false }) [Op.d, V_apply, m_apply, inS_obj _ _ _ _ hS, hg, ansOf, newM, jnkA, ss]
    | some d =>
      obtain ⟨w, e, _⟩ := hm.at (z := k) (List.mem_map.mpr ⟨_, getM_mem hg, rfl⟩)
      rw [hg] at e; cases e
      by_cases q : w = o
      · subst q; simp (config := { implicitDefEqProofs := false }) [Op.d, V_apply, m_apply, hS, hs, inS_obj _ _ _ _ hS, hg, ansOf, newM, jnkA]
      · simp (config := { implicitDefEqProofs := false }) [Op.d, V_apply, m_apply, hS, inS_obj _ _ _ _ hS, hg, ansOf, newM, jnkA, q, ss]
theorem newM_good {m : List (Str × D)} (hm : goodM m) {o : Op} (ho : o.ok) : goodM (newM m o) := by
  cases o with
  | get k => exact hm
  | put k v => exact hm.put ho.1 ho.2
  | drop k =>
    show goodM (match getM m k with
      | some _ => dropM m k
      | none => m)
    cases getM m k with
    | some v => exact hm.drop _
    | none => exact hm
  | swap k o v =>
    unfold newM
    dsimp only
    split
    · split
      · exact hm.put ho.1 ho.2.2
      · exact hm
    · exact hm
  | page l n => exact hm
theorem newM_len (m : List (Str × D)) (o : Op) : (newM m o).length ≤ m.length + 1 := by
  cases o with
  | get k => exact Nat.le_succ _
  | put k v => exact putM_len _ _ _
  | drop k =>
    show (match getM m k with
      | some _ => dropM m k
      | none => m).length ≤ _
    cases getM m k with
    | some v => exact Nat.le_trans (dropM_len _ _) (Nat.le_succ _)
    | none => exact Nat.le_succ _
  | swap k o v =>
    unfold newM
    dsimp only
    split
    · split
      · exact putM_len _ _ _
      · exact Nat.le_succ _
    · exact Nat.le_succ _
  | page l n => exact Nat.le_succ _
theorem newM_keys {m : List (Str × D)} {o : Op} {z : Str} (h : z ∈ (newM m o).map (·.1)) : z ∈ m.map (·.1) ∨ z = o.at := by
  have put : ∀ {k : Str} {v : D}, z ∈ (putM m k v).map (·.1) → z ∈ m.map (·.1) ∨ z = k := fun {k v} h => by
    rw [putM_keys] at h
    split at h
    · exact .inl h
    · rcases List.mem_append.mp h with h | h
      · exact .inl h
      · exact .inr (List.mem_singleton.mp h)
  cases o with
  | get k => exact .inl h
  | put k v => exact put h
  | drop k =>
    cases hg : getM m k with
    | some v =>
      simp only [newM, hg] at h
      left
      obtain ⟨p, hp, rfl⟩ := List.mem_map.mp h
      exact List.mem_map.mpr ⟨p, (dropM_mem hp).1, rfl⟩
    | none => simp only [newM, hg] at h; exact .inl h
  | swap k o v =>
    unfold newM at h
    dsimp only at h
    split at h
    · split at h
      · exact put h
      · exact .inl h
    · exact .inl h
  | page l n => exact .inl h
theorem at_ext {S : Store} {n : Nat} {x : O} (h : S[n]? = some x) (T : Store) : (S ++ T)[n]? = some x := by
  rw [List.getElem?_append_left (List.getElem?_eq_some_iff.mp h).1]; exact h
theorem at_mod {α : Type} (xs : List α) (r : Int) (n : Int) (hn : (xs.length : Int) = n) (h0 : 0 < n) : ∃ x ∈ xs, atI xs (r % n) = some x :=
  atI_in (Int.emod_nonneg _ (by omega)) (by rw [hn]; exact Int.emod_lt_of_pos _ h0)
theorem mod_in (d : Int) {n : Nat} (h : 0 < n) : ∃ s : Nat, d % (n : Int) = s ∧ s < n := ⟨(d % (n : Int)).toNat, by
  have h1 := Int.emod_nonneg d (show (n : Int) ≠ 0 by omega)
  omega, by
  have h1 := Int.emod_nonneg d (show (n : Int) ≠ 0 by omega)
  have h2 := Int.emod_lt_of_pos d (show (0 : Int) < n by omega)
  omega⟩
theorem mod_up (d : Int) {n s : Nat} (h : s < n) : ∃ t : Nat, (s : Int) + 1 + d % ((n : Int) - s) = t ∧ s < t ∧ t ≤ n := by
  obtain ⟨u, h1, h2⟩ := mod_in d (n := n - s) (by omega)
  have e : ((n - s : Nat) : Int) = (n : Int) - s := by omega
  rw [e] at h1
  exact ⟨s + 1 + u, by rw [h1]; omega, by omega, by omega⟩
theorem turns_of_nx {r : RS} {e' : Ev} {S' : Store} {I N : Ev → Store → Prop} {T : D → Store → Prop} (h : r = .nx e' S') (hI : I e' S') : r.turns I N T := by rw [h, turns_nx]; exact hI
theorem getT_eq (m : List (TKey × D)) (k : TKey) : getT m k = getM m k := rfl
theorem putT_eq (m : List (TKey × D)) (k : TKey) (v : D) : putT m k v = putM m k v := rfl
theorem dropT_eq (m : List (TKey × D)) (k : TKey) : dropT m k = dropM m k := rfl
/-- a dict with tuple keys stands at n -/
def TabAt (S : Store) (n : Nat) (m : List (TKey × D)) : Prop := ∃ o, S[n]? = some o ∧ tabW o = some m
theorem TabAt.ext {S : Store} {n : Nat} {m : List (TKey × D)} (h : TabAt S n m) (T : Store) : TabAt (S ++ T) n m := let ⟨o, h1, h2⟩ := h; ⟨o, at_ext h1 T, h2⟩
theorem TabAt.ne {S : Store} {n j : Nat} {m : List (TKey × D)} (h : TabAt S n m) (e : j ≠ n) (x : O) : TabAt (S.set j x) n m := let ⟨o, h1, h2⟩ := h; ⟨o, by rw [List.getElem?_set_ne e]; exact h1, h2⟩
theorem TabAt.lt {S : Store} {n : Nat} {m : List (TKey × D)} (h : TabAt S n m) : n < S.length := let ⟨o, h1, _⟩ := h; (List.getElem?_eq_some_iff.mp h1).1
theorem TabAt.tabD {S : Store} {n : Nat} {m : List (TKey × D)} (h : TabAt S n m) : BS.tabD S (.obj n) = some m := by
  obtain ⟨o, h1, h2⟩ := h
  unfold BS.tabD
  dsimp only
  rw [h1]
  exact tabW_S h2
theorem TabAt.inS {S : Store} {n : Nat} {m : List (TKey × D)} (h : TabAt S n m) {x : D} {k : TKey} (hk : tkOf x = some k) : inTS S x (.obj n) = some (getM m k).isSome := by
  unfold inTS
  rw [hk]
  dsimp only
  rw [h.tabD]; rfl
theorem TabAt.ix {S : Store} {n : Nat} {m : List (TKey × D)} (h : TabAt S n m) {x : D} {k : TKey} (hk : tkOf x = some k) : ixTS S (.obj n) x = getM m k := by
  unfold ixTS
  rw [hk]
  dsimp only
  rw [h.tabD]; rfl
theorem TabAt.setS {S : Store} {n : Nat} {m : List (TKey × D)} (h : TabAt S n m) {x : D} {k : TKey} (hk : tkOf x = some k) (hl : m.length < sizeLine) (v : D) : setTS S (.obj n) x v = some (S.set n (.dkt (putM m k v))) := by
  obtain ⟨o, h1, h2⟩ := h
  unfold setTS
  dsimp only
  rw [h1]
  dsimp only
  rw [h2]
  dsimp only
  rw [hk]
  dsimp only
  rw [if_pos hl]; rfl
theorem TabAt.put {S : Store} {n : Nat} {m : List (TKey × D)} (h : TabAt S n m) (m' : List (TKey × D)) : TabAt (S.set n (.dkt m')) n m' := ⟨.dkt m', List.getElem?_set_self h.lt, rfl⟩
theorem TabAt.nil {S : Store} {n : Nat} (h : S[n]? = some (.dct [])) : TabAt S n [] := ⟨.dct [], h, rfl⟩
theorem TabAt.fIn {S : Store} {n : Nat} {m : List (TKey × D)} (h : TabAt S n m) {x : D} {k : TKey} (hk : tkOf x = some k) : fInT S x (.obj n) = some (.bl (getM m k).isSome) := by unfold fInT; rw [h.inS hk]; rfl
theorem TabAt.fNotIn {S : Store} {n : Nat} {m : List (TKey × D)} (h : TabAt S n m) {x : D} {k : TKey} (hk : tkOf x = some k) : fNotInT S x (.obj n) = some (.bl (!(getM m k).isSome)) := by unfold fNotInT; rw [h.inS hk]; rfl
inductive Evt where
  | call (t c n : Int) (o : Op)
  | did (t s c n : Int) (o : Op)
  | gone (t : Int)
  | acc (t c n : Int) (a : D)
def Evt.d : Evt → D
  | .call t c n o => .tup [.str "call", .int t, .int c, .int n, o.d]
  | .did t s c n o => .tup [.str "done", .int t, .int s, .tup [.str "did", .str "", .int 1, .int c, .int n, o.d]]
  | .gone t => .tup [.str "done", .int t, .int 1, .tup [.str "gone", .str "", .non, .int 2]]
  | .acc t c n a => .tup [.str "accept", .int t, .int c, .int n, a]
def tk2 (c n : Int) : TKey := [some (.inl c), some (.inl n)]
theorem tk2_inj {c n c' n' : Int} : tk2 c n = tk2 c' n' ↔ c = c' ∧ n = n' := by unfold tk2; simp
theorem tkOf2 (c n : Int) : tkOf (.tup [.int c, .int n]) = some (tk2 c n) := rfl
@[simp] theorem sl_call_done : (Str.ofString "call" = Str.ofString "done") = False := by simp; decide +kernel
@[simp] theorem sl_call_accept : (Str.ofString "call" = Str.ofString "accept") = False := by simp; decide +kernel
@[simp] theorem sl_call_did : (Str.ofString "call" = Str.ofString "did") = False := by simp; decide +kernel
@[simp] theorem sl_call_gone : (Str.ofString "call" = Str.ofString "gone") = False := by simp; decide +kernel
@[simp] theorem sl_call_uncalled : (Str.ofString "call" = Str.ofString "uncalled") = False := by simp; decide +kernel
@[simp] theorem sl_call_repeated : (Str.ofString "call" = Str.ofString "repeated") = False := by simp; decide +kernel
@[simp] theorem sl_call_missing : (Str.ofString "call" = Str.ofString "missing") = False := by simp; decide +kernel
@[simp] theorem sl_call_answer : (Str.ofString "call" = Str.ofString "answer") = False := by simp; decide +kernel
@[simp] theorem sl_call_page : (Str.ofString "call" = Str.ofString "page") = False := by simp; decide +kernel
@[simp] theorem sl_call_get : (Str.ofString "call" = Str.ofString "get") = False := by simp; decide +kernel
@[simp] theorem sl_call_put : (Str.ofString "call" = Str.ofString "put") = False := by simp; decide +kernel
@[simp] theorem sl_call_drop : (Str.ofString "call" = Str.ofString "drop") = False := by simp; decide +kernel
@[simp] theorem sl_call_swap : (Str.ofString "call" = Str.ofString "swap") = False := by simp; decide +kernel
@[simp] theorem sl_call_none : (Str.ofString "call" = Str.ofString "none") = False := by simp; decide +kernel
@[simp] theorem sl_call_value : (Str.ofString "call" = Str.ofString "value") = False := by simp; decide +kernel
@[simp] theorem sl_call_other : (Str.ofString "call" = Str.ofString "other") = False := by simp; decide +kernel
@[simp] theorem sl_done_call : (Str.ofString "done" = Str.ofString "call") = False := by simp; decide +kernel
@[simp] theorem sl_done_accept : (Str.ofString "done" = Str.ofString "accept") = False := by simp; decide +kernel
@[simp] theorem sl_done_did : (Str.ofString "done" = Str.ofString "did") = False := by simp; decide +kernel
@[simp] theorem sl_done_gone : (Str.ofString "done" = Str.ofString "gone") = False := by simp; decide +kernel
@[simp] theorem sl_done_uncalled : (Str.ofString "done" = Str.ofString "uncalled") = False := by simp; decide +kernel
@[simp] theorem sl_done_repeated : (Str.ofString "done" = Str.ofString "repeated") = False := by simp; decide +kernel
@[simp] theorem sl_done_missing : (Str.ofString "done" = Str.ofString "missing") = False := by simp; decide +kernel
@[simp] theorem sl_done_answer : (Str.ofString "done" = Str.ofString "answer") = False := by simp; decide +kernel
@[simp] theorem sl_done_page : (Str.ofString "done" = Str.ofString "page") = False := by simp; decide +kernel
@[simp] theorem sl_done_get : (Str.ofString "done" = Str.ofString "get") = False := by simp; decide +kernel
@[simp] theorem sl_done_put : (Str.ofString "done" = Str.ofString "put") = False := by simp; decide +kernel
@[simp] theorem sl_done_drop : (Str.ofString "done" = Str.ofString "drop") = False := by simp; decide +kernel
@[simp] theorem sl_done_swap : (Str.ofString "done" = Str.ofString "swap") = False := by simp; decide +kernel
@[simp] theorem sl_done_none : (Str.ofString "done" = Str.ofString "none") = False := by simp; decide +kernel
@[simp] theorem sl_done_value : (Str.ofString "done" = Str.ofString "value") = False := by simp; decide +kernel
@[simp] theorem sl_done_other : (Str.ofString "done" = Str.ofString "other") = False := by simp; decide +kernel
@[simp] theorem sl_accept_call : (Str.ofString "accept" = Str.ofString "call") = False := by simp; decide +kernel
@[simp] theorem sl_accept_done : (Str.ofString "accept" = Str.ofString "done") = False := by simp; decide +kernel
@[simp] theorem sl_accept_did : (Str.ofString "accept" = Str.ofString "did") = False := by simp; decide +kernel
@[simp] theorem sl_accept_gone : (Str.ofString "accept" = Str.ofString "gone") = False := by simp; decide +kernel
@[simp] theorem sl_accept_uncalled : (Str.ofString "accept" = Str.ofString "uncalled") = False := by simp; decide +kernel
@[simp] theorem sl_accept_repeated : (Str.ofString "accept" = Str.ofString "repeated") = False := by simp; decide +kernel
@[simp] theorem sl_accept_missing : (Str.ofString "accept" = Str.ofString "missing") = False := by simp; decide +kernel
@[simp] theorem sl_accept_answer : (Str.ofString "accept" = Str.ofString "answer") = False := by simp; decide +kernel
@[simp] theorem sl_accept_page : (Str.ofString "accept" = Str.ofString "page") = False := by simp; decide +kernel
@[simp] theorem sl_accept_get : (Str.ofString "accept" = Str.ofString "get") = False := by simp; decide +kernel
@[simp] theorem sl_accept_put : (Str.ofString "accept" = Str.ofString "put") = False := by simp; decide +kernel
@[simp] theorem sl_accept_drop : (Str.ofString "accept" = Str.ofString "drop") = False := by simp; decide +kernel
@[simp] theorem sl_accept_swap : (Str.ofString "accept" = Str.ofString "swap") = False := by simp; decide +kernel
@[simp] theorem sl_accept_none : (Str.ofString "accept" = Str.ofString "none") = False := by simp; decide +kernel
@[simp] theorem sl_accept_value : (Str.ofString "accept" = Str.ofString "value") = False := by simp; decide +kernel
@[simp] theorem sl_accept_other : (Str.ofString "accept" = Str.ofString "other") = False := by simp; decide +kernel
@[simp] theorem sl_did_call : (Str.ofString "did" = Str.ofString "call") = False := by simp; decide +kernel
@[simp] theorem sl_did_done : (Str.ofString "did" = Str.ofString "done") = False := by simp; decide +kernel
@[simp] theorem sl_did_accept : (Str.ofString "did" = Str.ofString "accept") = False := by simp; decide +kernel
@[simp] theorem sl_did_gone : (Str.ofString "did" = Str.ofString "gone") = False := by simp; decide +kernel
@[simp] theorem sl_did_uncalled : (Str.ofString "did" = Str.ofString "uncalled") = False := by simp; decide +kernel
@[simp] theorem sl_did_repeated : (Str.ofString "did" = Str.ofString "repeated") = False := by simp; decide +kernel
@[simp] theorem sl_did_missing : (Str.ofString "did" = Str.ofString "missing") = False := by simp; decide +kernel
@[simp] theorem sl_did_answer : (Str.ofString "did" = Str.ofString "answer") = False := by simp; decide +kernel
@[simp] theorem sl_did_page : (Str.ofString "did" = Str.ofString "page") = False := by simp; decide +kernel
@[simp] theorem sl_did_get : (Str.ofString "did" = Str.ofString "get") = False := by simp; decide +kernel
@[simp] theorem sl_did_put : (Str.ofString "did" = Str.ofString "put") = False := by simp; decide +kernel
@[simp] theorem sl_did_drop : (Str.ofString "did" = Str.ofString "drop") = False := by simp; decide +kernel
@[simp] theorem sl_did_swap : (Str.ofString "did" = Str.ofString "swap") = False := by simp; decide +kernel
@[simp] theorem sl_did_none : (Str.ofString "did" = Str.ofString "none") = False := by simp; decide +kernel
@[simp] theorem sl_did_value : (Str.ofString "did" = Str.ofString "value") = False := by simp; decide +kernel
@[simp] theorem sl_did_other : (Str.ofString "did" = Str.ofString "other") = False := by simp; decide +kernel
@[simp] theorem sl_gone_call : (Str.ofString "gone" = Str.ofString "call") = False := by simp; decide +kernel
@[simp] theorem sl_gone_done : (Str.ofString "gone" = Str.ofString "done") = False := by simp; decide +kernel
@[simp] theorem sl_gone_accept : (Str.ofString "gone" = Str.ofString "accept") = False := by simp; decide +kernel
@[simp] theorem sl_gone_did : (Str.ofString "gone" = Str.ofString "did") = False := by simp; decide +kernel
@[simp] theorem sl_gone_uncalled : (Str.ofString "gone" = Str.ofString "uncalled") = False := by simp; decide +kernel
@[simp] theorem sl_gone_repeated : (Str.ofString "gone" = Str.ofString "repeated") = False := by simp; decide +kernel
@[simp] theorem sl_gone_missing : (Str.ofString "gone" = Str.ofString "missing") = False := by simp; decide +kernel
@[simp] theorem sl_gone_answer : (Str.ofString "gone" = Str.ofString "answer") = False := by simp; decide +kernel
@[simp] theorem sl_gone_page : (Str.ofString "gone" = Str.ofString "page") = False := by simp; decide +kernel
@[simp] theorem sl_gone_get : (Str.ofString "gone" = Str.ofString "get") = False := by simp; decide +kernel
@[simp] theorem sl_gone_put : (Str.ofString "gone" = Str.ofString "put") = False := by simp; decide +kernel
@[simp] theorem sl_gone_drop : (Str.ofString "gone" = Str.ofString "drop") = False := by simp; decide +kernel
@[simp] theorem sl_gone_swap : (Str.ofString "gone" = Str.ofString "swap") = False := by simp; decide +kernel
@[simp] theorem sl_gone_none : (Str.ofString "gone" = Str.ofString "none") = False := by simp; decide +kernel
@[simp] theorem sl_gone_value : (Str.ofString "gone" = Str.ofString "value") = False := by simp; decide +kernel
@[simp] theorem sl_gone_other : (Str.ofString "gone" = Str.ofString "other") = False := by simp; decide +kernel
@[simp] theorem sl_uncalled_call : (Str.ofString "uncalled" = Str.ofString "call") = False := by simp; decide +kernel
@[simp] theorem sl_uncalled_done : (Str.ofString "uncalled" = Str.ofString "done") = False := by simp; decide +kernel
@[simp] theorem sl_uncalled_accept : (Str.ofString "uncalled" = Str.ofString "accept") = False := by simp; decide +kernel
@[simp] theorem sl_uncalled_did : (Str.ofString "uncalled" = Str.ofString "did") = False := by simp; decide +kernel
@[simp] theorem sl_uncalled_gone : (Str.ofString "uncalled" = Str.ofString "gone") = False := by simp; decide +kernel
@[simp] theorem sl_uncalled_repeated : (Str.ofString "uncalled" = Str.ofString "repeated") = False := by simp; decide +kernel
@[simp] theorem sl_uncalled_missing : (Str.ofString "uncalled" = Str.ofString "missing") = False := by simp; decide +kernel
@[simp] theorem sl_uncalled_answer : (Str.ofString "uncalled" = Str.ofString "answer") = False := by simp; decide +kernel
@[simp] theorem sl_uncalled_page : (Str.ofString "uncalled" = Str.ofString "page") = False := by simp; decide +kernel
@[simp] theorem sl_uncalled_get : (Str.ofString "uncalled" = Str.ofString "get") = False := by simp; decide +kernel
@[simp] theorem sl_uncalled_put : (Str.ofString "uncalled" = Str.ofString "put") = False := by simp; decide +kernel
@[simp] theorem sl_uncalled_drop : (Str.ofString "uncalled" = Str.ofString "drop") = False := by simp; decide +kernel
@[simp] theorem sl_uncalled_swap : (Str.ofString "uncalled" = Str.ofString "swap") = False := by simp; decide +kernel
@[simp] theorem sl_uncalled_none : (Str.ofString "uncalled" = Str.ofString "none") = False := by simp; decide +kernel
@[simp] theorem sl_uncalled_value : (Str.ofString "uncalled" = Str.ofString "value") = False := by simp; decide +kernel
@[simp] theorem sl_uncalled_other : (Str.ofString "uncalled" = Str.ofString "other") = False := by simp; decide +kernel
@[simp] theorem sl_repeated_call : (Str.ofString "repeated" = Str.ofString "call") = False := by simp; decide +kernel
@[simp] theorem sl_repeated_done : (Str.ofString "repeated" = Str.ofString "done") = False := by simp; decide +kernel
@[simp] theorem sl_repeated_accept : (Str.ofString "repeated" = Str.ofString "accept") = False := by simp; decide +kernel
@[simp] theorem sl_repeated_did : (Str.ofString "repeated" = Str.ofString "did") = False := by simp; decide +kernel
@[simp] theorem sl_repeated_gone : (Str.ofString "repeated" = Str.ofString "gone") = False := by simp; decide +kernel
@[simp] theorem sl_repeated_uncalled : (Str.ofString "repeated" = Str.ofString "uncalled") = False := by simp; decide +kernel
@[simp] theorem sl_repeated_missing : (Str.ofString "repeated" = Str.ofString "missing") = False := by simp; decide +kernel
@[simp] theorem sl_repeated_answer : (Str.ofString "repeated" = Str.ofString "answer") = False := by simp; decide +kernel
@[simp] theorem sl_repeated_page : (Str.ofString "repeated" = Str.ofString "page") = False := by simp; decide +kernel
@[simp] theorem sl_repeated_get : (Str.ofString "repeated" = Str.ofString "get") = False := by simp; decide +kernel
@[simp] theorem sl_repeated_put : (Str.ofString "repeated" = Str.ofString "put") = False := by simp; decide +kernel
@[simp] theorem sl_repeated_drop : (Str.ofString "repeated" = Str.ofString "drop") = False := by simp; decide +kernel
@[simp] theorem sl_repeated_swap : (Str.ofString "repeated" = Str.ofString "swap") = False := by simp; decide +kernel
@[simp] theorem sl_repeated_none : (Str.ofString "repeated" = Str.ofString "none") = False := by simp; decide +kernel
@[simp] theorem sl_repeated_value : (Str.ofString "repeated" = Str.ofString "value") = False := by simp; decide +kernel
@[simp] theorem sl_repeated_other : (Str.ofString "repeated" = Str.ofString "other") = False := by simp; decide +kernel
@[simp] theorem sl_missing_call : (Str.ofString "missing" = Str.ofString "call") = False := by simp; decide +kernel
@[simp] theorem sl_missing_done : (Str.ofString "missing" = Str.ofString "done") = False := by simp; decide +kernel
@[simp] theorem sl_missing_accept : (Str.ofString "missing" = Str.ofString "accept") = False := by simp; decide +kernel
@[simp] theorem sl_missing_did : (Str.ofString "missing" = Str.ofString "did") = False := by simp; decide +kernel
@[simp] theorem sl_missing_gone : (Str.ofString "missing" = Str.ofString "gone") = False := by simp; decide +kernel
@[simp] theorem sl_missing_uncalled : (Str.ofString "missing" = Str.ofString "uncalled") = False := by simp; decide +kernel
@[simp] theorem sl_missing_repeated : (Str.ofString "missing" = Str.ofString "repeated") = False := by simp; decide +kernel
@[simp] theorem sl_missing_answer : (Str.ofString "missing" = Str.ofString "answer") = False := by simp; decide +kernel
@[simp] theorem sl_missing_page : (Str.ofString "missing" = Str.ofString "page") = False := by simp; decide +kernel
@[simp] theorem sl_missing_get : (Str.ofString "missing" = Str.ofString "get") = False := by simp; decide +kernel
@[simp] theorem sl_missing_put : (Str.ofString "missing" = Str.ofString "put") = False := by simp; decide +kernel
@[simp] theorem sl_missing_drop : (Str.ofString "missing" = Str.ofString "drop") = False := by simp; decide +kernel
@[simp] theorem sl_missing_swap : (Str.ofString "missing" = Str.ofString "swap") = False := by simp; decide +kernel
@[simp] theorem sl_missing_none : (Str.ofString "missing" = Str.ofString "none") = False := by simp; decide +kernel
@[simp] theorem sl_missing_value : (Str.ofString "missing" = Str.ofString "value") = False := by simp; decide +kernel
@[simp] theorem sl_missing_other : (Str.ofString "missing" = Str.ofString "other") = False := by simp; decide +kernel
@[simp] theorem sl_answer_call : (Str.ofString "answer" = Str.ofString "call") = False := by simp; decide +kernel
@[simp] theorem sl_answer_done : (Str.ofString "answer" = Str.ofString "done") = False := by simp; decide +kernel
@[simp] theorem sl_answer_accept : (Str.ofString "answer" = Str.ofString "accept") = False := by simp; decide +kernel
@[simp] theorem sl_answer_did : (Str.ofString "answer" = Str.ofString "did") = False := by simp; decide +kernel
@[simp] theorem sl_answer_gone : (Str.ofString "answer" = Str.ofString "gone") = False := by simp; decide +kernel
@[simp] theorem sl_answer_uncalled : (Str.ofString "answer" = Str.ofString "uncalled") = False := by simp; decide +kernel
@[simp] theorem sl_answer_repeated : (Str.ofString "answer" = Str.ofString "repeated") = False := by simp; decide +kernel
@[simp] theorem sl_answer_missing : (Str.ofString "answer" = Str.ofString "missing") = False := by simp; decide +kernel
@[simp] theorem sl_answer_page : (Str.ofString "answer" = Str.ofString "page") = False := by simp; decide +kernel
@[simp] theorem sl_answer_get : (Str.ofString "answer" = Str.ofString "get") = False := by simp; decide +kernel
@[simp] theorem sl_answer_put : (Str.ofString "answer" = Str.ofString "put") = False := by simp; decide +kernel
@[simp] theorem sl_answer_drop : (Str.ofString "answer" = Str.ofString "drop") = False := by simp; decide +kernel
@[simp] theorem sl_answer_swap : (Str.ofString "answer" = Str.ofString "swap") = False := by simp; decide +kernel
@[simp] theorem sl_answer_none : (Str.ofString "answer" = Str.ofString "none") = False := by simp; decide +kernel
@[simp] theorem sl_answer_value : (Str.ofString "answer" = Str.ofString "value") = False := by simp; decide +kernel
@[simp] theorem sl_answer_other : (Str.ofString "answer" = Str.ofString "other") = False := by simp; decide +kernel
@[simp] theorem sl_page_call : (Str.ofString "page" = Str.ofString "call") = False := by simp; decide +kernel
@[simp] theorem sl_page_done : (Str.ofString "page" = Str.ofString "done") = False := by simp; decide +kernel
@[simp] theorem sl_page_accept : (Str.ofString "page" = Str.ofString "accept") = False := by simp; decide +kernel
@[simp] theorem sl_page_did : (Str.ofString "page" = Str.ofString "did") = False := by simp; decide +kernel
@[simp] theorem sl_page_gone : (Str.ofString "page" = Str.ofString "gone") = False := by simp; decide +kernel
@[simp] theorem sl_page_uncalled : (Str.ofString "page" = Str.ofString "uncalled") = False := by simp; decide +kernel
@[simp] theorem sl_page_repeated : (Str.ofString "page" = Str.ofString "repeated") = False := by simp; decide +kernel
@[simp] theorem sl_page_missing : (Str.ofString "page" = Str.ofString "missing") = False := by simp; decide +kernel
@[simp] theorem sl_page_answer : (Str.ofString "page" = Str.ofString "answer") = False := by simp; decide +kernel
@[simp] theorem sl_page_none : (Str.ofString "page" = Str.ofString "none") = False := by simp; decide +kernel
@[simp] theorem sl_page_value : (Str.ofString "page" = Str.ofString "value") = False := by simp; decide +kernel
@[simp] theorem sl_page_other : (Str.ofString "page" = Str.ofString "other") = False := by simp; decide +kernel
@[simp] theorem sl_get_call : (Str.ofString "get" = Str.ofString "call") = False := by simp; decide +kernel
@[simp] theorem sl_get_done : (Str.ofString "get" = Str.ofString "done") = False := by simp; decide +kernel
@[simp] theorem sl_get_accept : (Str.ofString "get" = Str.ofString "accept") = False := by simp; decide +kernel
@[simp] theorem sl_get_did : (Str.ofString "get" = Str.ofString "did") = False := by simp; decide +kernel
@[simp] theorem sl_get_gone : (Str.ofString "get" = Str.ofString "gone") = False := by simp; decide +kernel
@[simp] theorem sl_get_uncalled : (Str.ofString "get" = Str.ofString "uncalled") = False := by simp; decide +kernel
@[simp] theorem sl_get_repeated : (Str.ofString "get" = Str.ofString "repeated") = False := by simp; decide +kernel
@[simp] theorem sl_get_missing : (Str.ofString "get" = Str.ofString "missing") = False := by simp; decide +kernel
@[simp] theorem sl_get_answer : (Str.ofString "get" = Str.ofString "answer") = False := by simp; decide +kernel
@[simp] theorem sl_get_none : (Str.ofString "get" = Str.ofString "none") = False := by simp; decide +kernel
@[simp] theorem sl_get_value : (Str.ofString "get" = Str.ofString "value") = False := by simp; decide +kernel
@[simp] theorem sl_get_other : (Str.ofString "get" = Str.ofString "other") = False := by simp; decide +kernel
@[simp] theorem sl_put_call : (Str.ofString "put" = Str.ofString "call") = False := by simp; decide +kernel
@[simp] theorem sl_put_done : (Str.ofString "put" = Str.ofString "done") = False := by simp; decide +kernel
@[simp] theorem sl_put_accept : (Str.ofString "put" = Str.ofString "accept") = False := by simp; decide +kernel
@[simp] theorem sl_put_did : (Str.ofString "put" = Str.ofString "did") = False := by simp; decide +kernel
@[simp] theorem sl_put_gone : (Str.ofString "put" = Str.ofString "gone") = False := by simp; decide +kernel
@[simp] theorem sl_put_uncalled : (Str.ofString "put" = Str.ofString "uncalled") = False := by simp; decide +kernel
@[simp] theorem sl_put_repeated : (Str.ofString "put" = Str.ofString "repeated") = False := by simp; decide +kernel
@[simp] theorem sl_put_missing : (Str.ofString "put" = Str.ofString "missing") = False := by simp; decide +kernel
@[simp] theorem sl_put_answer : (Str.ofString "put" = Str.ofString "answer") = False := by simp; decide +kernel
@[simp] theorem sl_put_none : (Str.ofString "put" = Str.ofString "none") = False := by simp; decide +kernel
@[simp] theorem sl_put_value : (Str.ofString "put" = Str.ofString "value") = False := by simp; decide +kernel
@[simp] theorem sl_put_other : (Str.ofString "put" = Str.ofString "other") = False := by simp; decide +kernel
@[simp] theorem sl_drop_call : (Str.ofString "drop" = Str.ofString "call") = False := by simp; decide +kernel
@[simp] theorem sl_drop_done : (Str.ofString "drop" = Str.ofString "done") = False := by simp; decide +kernel
@[simp] theorem sl_drop_accept : (Str.ofString "drop" = Str.ofString "accept") = False := by simp; decide +kernel
@[simp] theorem sl_drop_did : (Str.ofString "drop" = Str.ofString "did") = False := by simp; decide +kernel
@[simp] theorem sl_drop_gone : (Str.ofString "drop" = Str.ofString "gone") = False := by simp; decide +kernel
@[simp] theorem sl_drop_uncalled : (Str.ofString "drop" = Str.ofString "uncalled") = False := by simp; decide +kernel
@[simp] theorem sl_drop_repeated : (Str.ofString "drop" = Str.ofString "repeated") = False := by simp; decide +kernel
@[simp] theorem sl_drop_missing : (Str.ofString "drop" = Str.ofString "missing") = False := by simp; decide +kernel
@[simp] theorem sl_drop_answer : (Str.ofString "drop" = Str.ofString "answer") = False := by simp; decide +kernel
@[simp] theorem sl_drop_none : (Str.ofString "drop" = Str.ofString "none") = False := by simp; decide +kernel
@[simp] theorem sl_drop_value : (Str.ofString "drop" = Str.ofString "value") = False := by simp; decide +kernel
@[simp] theorem sl_drop_other : (Str.ofString "drop" = Str.ofString "other") = False := by simp; decide +kernel
@[simp] theorem sl_swap_call : (Str.ofString "swap" = Str.ofString "call") = False := by simp; decide +kernel
@[simp] theorem sl_swap_done : (Str.ofString "swap" = Str.ofString "done") = False := by simp; decide +kernel
@[simp] theorem sl_swap_accept : (Str.ofString "swap" = Str.ofString "accept") = False := by simp; decide +kernel
@[simp] theorem sl_swap_did : (Str.ofString "swap" = Str.ofString "did") = False := by simp; decide +kernel
@[simp] theorem sl_swap_gone : (Str.ofString "swap" = Str.ofString "gone") = False := by simp; decide +kernel
@[simp] theorem sl_swap_uncalled : (Str.ofString "swap" = Str.ofString "uncalled") = False := by simp; decide +kernel
@[simp] theorem sl_swap_repeated : (Str.ofString "swap" = Str.ofString "repeated") = False := by simp; decide +kernel
@[simp] theorem sl_swap_missing : (Str.ofString "swap" = Str.ofString "missing") = False := by simp; decide +kernel
@[simp] theorem sl_swap_answer : (Str.ofString "swap" = Str.ofString "answer") = False := by simp; decide +kernel
@[simp] theorem sl_swap_none : (Str.ofString "swap" = Str.ofString "none") = False := by simp; decide +kernel
@[simp] theorem sl_swap_value : (Str.ofString "swap" = Str.ofString "value") = False := by simp; decide +kernel
@[simp] theorem sl_swap_other : (Str.ofString "swap" = Str.ofString "other") = False := by simp; decide +kernel
@[simp] theorem sl_none_call : (Str.ofString "none" = Str.ofString "call") = False := by simp; decide +kernel
@[simp] theorem sl_none_done : (Str.ofString "none" = Str.ofString "done") = False := by simp; decide +kernel
@[simp] theorem sl_none_accept : (Str.ofString "none" = Str.ofString "accept") = False := by simp; decide +kernel
@[simp] theorem sl_none_did : (Str.ofString "none" = Str.ofString "did") = False := by simp; decide +kernel
@[simp] theorem sl_none_gone : (Str.ofString "none" = Str.ofString "gone") = False := by simp; decide +kernel
@[simp] theorem sl_none_uncalled : (Str.ofString "none" = Str.ofString "uncalled") = False := by simp; decide +kernel
@[simp] theorem sl_none_repeated : (Str.ofString "none" = Str.ofString "repeated") = False := by simp; decide +kernel
@[simp] theorem sl_none_missing : (Str.ofString "none" = Str.ofString "missing") = False := by simp; decide +kernel
@[simp] theorem sl_none_answer : (Str.ofString "none" = Str.ofString "answer") = False := by simp; decide +kernel
@[simp] theorem sl_none_page : (Str.ofString "none" = Str.ofString "page") = False := by simp; decide +kernel
@[simp] theorem sl_none_get : (Str.ofString "none" = Str.ofString "get") = False := by simp; decide +kernel
@[simp] theorem sl_none_put : (Str.ofString "none" = Str.ofString "put") = False := by simp; decide +kernel
@[simp] theorem sl_none_drop : (Str.ofString "none" = Str.ofString "drop") = False := by simp; decide +kernel
@[simp] theorem sl_none_swap : (Str.ofString "none" = Str.ofString "swap") = False := by simp; decide +kernel
@[simp] theorem sl_none_value : (Str.ofString "none" = Str.ofString "value") = False := by simp; decide +kernel
@[simp] theorem sl_none_other : (Str.ofString "none" = Str.ofString "other") = False := by simp; decide +kernel
@[simp] theorem sl_value_call : (Str.ofString "value" = Str.ofString "call") = False := by simp; decide +kernel
@[simp] theorem sl_value_done : (Str.ofString "value" = Str.ofString "done") = False := by simp; decide +kernel
@[simp] theorem sl_value_accept : (Str.ofString "value" = Str.ofString "accept") = False := by simp; decide +kernel
@[simp] theorem sl_value_did : (Str.ofString "value" = Str.ofString "did") = False := by simp; decide +kernel
@[simp] theorem sl_value_gone : (Str.ofString "value" = Str.ofString "gone") = False := by simp; decide +kernel
@[simp] theorem sl_value_uncalled : (Str.ofString "value" = Str.ofString "uncalled") = False := by simp; decide +kernel
@[simp] theorem sl_value_repeated : (Str.ofString "value" = Str.ofString "repeated") = False := by simp; decide +kernel
@[simp] theorem sl_value_missing : (Str.ofString "value" = Str.ofString "missing") = False := by simp; decide +kernel
@[simp] theorem sl_value_answer : (Str.ofString "value" = Str.ofString "answer") = False := by simp; decide +kernel
@[simp] theorem sl_value_page : (Str.ofString "value" = Str.ofString "page") = False := by simp; decide +kernel
@[simp] theorem sl_value_get : (Str.ofString "value" = Str.ofString "get") = False := by simp; decide +kernel
@[simp] theorem sl_value_put : (Str.ofString "value" = Str.ofString "put") = False := by simp; decide +kernel
@[simp] theorem sl_value_drop : (Str.ofString "value" = Str.ofString "drop") = False := by simp; decide +kernel
@[simp] theorem sl_value_swap : (Str.ofString "value" = Str.ofString "swap") = False := by simp; decide +kernel
@[simp] theorem sl_value_none : (Str.ofString "value" = Str.ofString "none") = False := by simp; decide +kernel
@[simp] theorem sl_value_other : (Str.ofString "value" = Str.ofString "other") = False := by simp; decide +kernel
@[simp] theorem sl_other_call : (Str.ofString "other" = Str.ofString "call") = False := by simp; decide +kernel
@[simp] theorem sl_other_done : (Str.ofString "other" = Str.ofString "done") = False := by simp; decide +kernel
@[simp] theorem sl_other_accept : (Str.ofString "other" = Str.ofString "accept") = False := by simp; decide +kernel
@[simp] theorem sl_other_did : (Str.ofString "other" = Str.ofString "did") = False := by simp; decide +kernel
@[simp] theorem sl_other_gone : (Str.ofString "other" = Str.ofString "gone") = False := by simp; decide +kernel
@[simp] theorem sl_other_uncalled : (Str.ofString "other" = Str.ofString "uncalled") = False := by simp; decide +kernel
@[simp] theorem sl_other_repeated : (Str.ofString "other" = Str.ofString "repeated") = False := by simp; decide +kernel
@[simp] theorem sl_other_missing : (Str.ofString "other" = Str.ofString "missing") = False := by simp; decide +kernel
@[simp] theorem sl_other_answer : (Str.ofString "other" = Str.ofString "answer") = False := by simp; decide +kernel
@[simp] theorem sl_other_page : (Str.ofString "other" = Str.ofString "page") = False := by simp; decide +kernel
@[simp] theorem sl_other_get : (Str.ofString "other" = Str.ofString "get") = False := by simp; decide +kernel
@[simp] theorem sl_other_put : (Str.ofString "other" = Str.ofString "put") = False := by simp; decide +kernel
@[simp] theorem sl_other_drop : (Str.ofString "other" = Str.ofString "drop") = False := by simp; decide +kernel
@[simp] theorem sl_other_swap : (Str.ofString "other" = Str.ofString "swap") = False := by simp; decide +kernel
@[simp] theorem sl_other_none : (Str.ofString "other" = Str.ofString "none") = False := by simp; decide +kernel
@[simp] theorem sl_other_value : (Str.ofString "other" = Str.ofString "value") = False := by simp; decide +kernel
theorem op_sm {o : Op} (h : o.ok) : Sm 1 o.d := by
  have kl : ∀ s ∈ ["get", "put", "drop", "swap", "page"], (Str.ofString s).length ≤ 1000000 := by decide +kernel
  have g1 := kl "get" (by simp); have g2 := kl "put" (by simp); have g3 := kl "drop" (by simp); have g4 := kl "swap" (by simp); have g5 := kl "page" (by simp)
  cases o with
  | get k => have a := sm_key h 0; simp [Op.d, g1, a]
  | put k v => have a := sm_key h.1 0; have b := sm_val h.2 0; simp [Op.d, g2, a, b]
  | drop k => have a := sm_key h 0; simp [Op.d, g3, a]
  | swap k x n => have a := sm_key h.1 0; have b := sm_val h.2.1 0; have c := sm_val h.2.2 0; simp [Op.d, g4, a, b, c]
  | page l n => have a := sm_bnd h.1 0; simp [Op.d, g5, a]
theorem op_inj {o p : Op} (h : eqD o.d p.d = true) : o = p := by
  cases o <;> cases p <;> simp [Op.d] at h ⊢ <;> first | exact h | exact ⟨h.1, by have := h.2; omega⟩
theorem op_inj' (o p : Op) : eqD o.d p.d = true ↔ o = p := ⟨op_inj, fun h => by
  subst h
  cases o <;> simp [Op.d]⟩
def Evt.isCall (c n : Int) (o : Op) : Evt → Bool
  | .call _ c' n' o' => decide (c' = c) && decide (n' = n) && eqD o'.d o.d
  | _ => false
def Evt.isDid (c n : Int) : Evt → Bool
  | .did _ _ c' n' _ => decide (c' = c) && decide (n' = n)
  | _ => false
def reqV (E : List Evt) (k : Nat) : Option D := match E[k]? with
  | some (.did _ _ c n o) => if (E.take k).any (Evt.isCall c n o) = true then (if (E.take k).any (Evt.isDid c n) = true then some (.tup [.str "repeated", .int c, .int n]) else none) else some (.tup [.str "uncalled", .int c, .int n])
  | _ => none
/-- the first of some verdicts -/
def fstV (f : Nat → Option D) (n : Nat) : D := ((List.range n).findSome? f).getD .non
theorem fstV_none {f : Nat → Option D} {n : Nat} (h : ∀ j, j < n → f j = none) : fstV f n = .non := by
  unfold fstV
  have : (List.range n).findSome? f = none := List.findSome?_eq_none_iff.mpr fun x hx => h x (List.mem_range.mp hx)
  rw [this]; rfl
theorem fstV_at {f : Nat → Option D} {n k : Nat} {d : D} (hk : k < n) (h : ∀ j, j < k → f j = none) (e : f k = some d) : fstV f n = d := by
  unfold fstV
  have e1 : List.range n = List.range k ++ (List.range' k (n - k)) := by
    rw [List.range_eq_range', List.range_eq_range', show n = k + (n - k) by omega, ← List.range'_append_1]; simp
  have e2 : (List.range k).findSome? f = none := List.findSome?_eq_none_iff.mpr fun x hx => h x (List.mem_range.mp hx)
  rw [e1, List.findSome?_append, e2, Option.none_or, show n - k = (n - k - 1) + 1 by omega, List.range'_succ, List.findSome?_cons, e]; rfl
/-- what the program keeps: the calls, by client and number -/
def callM : List Evt → List (TKey × D)
  | [] => []
  | E => E.foldl (fun m e => match e with
    | .call _ c n o => putM m (tk2 c n) o.d
    | _ => m) []
theorem callM_eq (E : List Evt) : callM E = E.foldl (fun m e => match e with
    | .call _ c n o => putM m (tk2 c n) o.d
    | _ => m) [] := by cases E <;> rfl
theorem callM_snoc (E : List Evt) (e : Evt) : callM (E ++ [e]) = (match e with
    | .call _ c n o => putM (callM E) (tk2 c n) o.d
    | _ => callM E) := by rw [callM_eq, callM_eq, List.foldl_append]; cases e <;> rfl
/-- each number of a client is called once -/
def Once (E : List Evt) : Prop := ∀ (i j : Nat) (t c n : Int) (o : Op) (t' : Int) (o' : Op), E[i]? = some (.call t c n o) → E[j]? = some (.call t' c n o') → i = j
theorem callM_get {E : List Evt} (h : Once E) : ∀ (k : Nat) (c n : Int), k ≤ E.length → match getM (callM (E.take k)) (tk2 c n) with
    | some d => ∃ i t o, i < k ∧ E[i]? = some (.call t c n o) ∧ d = o.d
    | none => ∀ i t o, i < k → E[i]? ≠ some (.call t c n o)
  | 0, c, n, _ => by
    rw [List.take_zero]
    exact fun i t o hi => absurd hi (Nat.not_lt_zero i)
  | k + 1, c, n, hk => by
    have ih := callM_get h k c n (by omega)
    obtain ⟨e, he⟩ : ∃ e, E[k]? = some e := ⟨_, List.getElem?_eq_getElem (by omega)⟩
    have et : E.take (k + 1) = E.take k ++ [e] := by rw [List.take_succ, he]; rfl
    rw [et, callM_snoc]
    have keep : (∀ t o, e ≠ .call t c n o) → match getM (callM (E.take k)) (tk2 c n) with
        | some d => ∃ i t o, i < k + 1 ∧ E[i]? = some (.call t c n o) ∧ d = o.d
        | none => ∀ i t o, i < k + 1 → E[i]? ≠ some (.call t c n o) := fun hne => by
      split
      · rename_i d hd
        rw [hd] at ih
        obtain ⟨i, t, o, h1, h2, h3⟩ := ih
        exact ⟨i, t, o, by omega, h2, h3⟩
      · rename_i hd
        rw [hd] at ih
        intro i t o hi hE
        rcases Nat.lt_succ_iff_lt_or_eq.mp hi with z | z
        · exact ih i t o z hE
        · subst z
          rw [he] at hE
          exact hne t o (Option.some.inj hE)
    cases e with
    | call t c' n' o =>
      dsimp only
      rw [getM_put]
      by_cases q : tk2 c n = tk2 c' n'
      · rw [if_pos q]
        obtain ⟨rfl, rfl⟩ := tk2_inj.mp q
        exact ⟨k, t, o, by omega, he, rfl⟩
      · rw [if_neg q]
        exact keep fun t' o' z => by
          cases z
          exact q rfl
    | did t s c' n' o => exact keep fun t' o' z => by cases z
    | gone t => exact keep fun t' o' z => by cases z
    | acc t c' n' a => exact keep fun t' o' z => by cases z
theorem called_iff {E : List Evt} (h : Once E) {k : Nat} (hk : k ≤ E.length) (c n : Int) (o : Op) : (E.take k).any (Evt.isCall c n o) = true ↔ getM (callM (E.take k)) (tk2 c n) = some o.d := by
  have g := callM_get h k c n hk
  constructor
  · intro ha
    obtain ⟨e, he, hp⟩ := List.any_eq_true.mp ha
    obtain ⟨i, hi⟩ := List.getElem?_of_mem he
    have hik : i < k := by
      have := (List.getElem?_eq_some_iff.mp hi).1
      rw [List.length_take] at this; omega
    rw [List.getElem?_take_of_lt hik] at hi
    cases e with
    | call t c' n' o' =>
      simp only [Evt.isCall, Bool.and_eq_true, decide_eq_true_eq] at hp
      obtain ⟨⟨rfl, rfl⟩, ho⟩ := hp
      have := op_inj ho
      subst this
      split at g
      · rename_i d hd
        obtain ⟨i', t', o2, h1, h2, rfl⟩ := g
        have := h i i' t c' n' o' t' o2 hi h2
        subst this
        rw [hi] at h2
        cases h2
        exact hd
      · exact absurd hi (g i t o' hik)
    | _ => cases hp
  · intro hg
    rw [hg] at g
    obtain ⟨i, t, o', h1, h2, h3⟩ := g
    have ho : o = o' := op_inj (by rw [h3]; exact (op_inj' o' o').mpr rfl)
    subst ho
    refine List.any_eq_true.mpr ⟨.call t c n o, List.mem_of_getElem? (i := i) (by rw [List.getElem?_take_of_lt h1]; exact h2), ?_⟩
    simp [Evt.isCall, (op_inj' o o).mpr rfl]
/-- .. and the requests done -/
def didM (E : List Evt) : List (TKey × D) := E.foldl (fun m e => match e with
    | .did _ _ c n _ => putM m (tk2 c n) (.bl true)
    | _ => m) []
theorem didM_snoc (E : List Evt) (e : Evt) : didM (E ++ [e]) = (match e with
    | .did _ _ c n _ => putM (didM E) (tk2 c n) (.bl true)
    | _ => didM E) := by unfold didM; rw [List.foldl_append]; cases e <;> rfl
theorem snocRec {α : Type} {P : List α → Prop} (nil : P []) (append_singleton : ∀ (l : List α) (a : α), P l → P (l ++ [a])) (l : List α) : P l := by
  have : ∀ n (l : List α), l.length = n → P l := by
    intro n
    induction n with
    | zero => intro l h; rw [List.length_eq_zero_iff.mp h]; exact nil
    | succ n ih =>
      intro l h
      rcases List.eq_nil_or_concat l with e | ⟨r, a, e⟩
      · rw [e] at h; cases h
      · rw [List.concat_eq_append] at e
        subst e
        exact append_singleton r a (ih r (by simpa using h))
  exact this _ l rfl
theorem didM_get (E : List Evt) (c n : Int) : (getM (didM E) (tk2 c n)).isSome = E.any (Evt.isDid c n) := by
  induction E using snocRec with
  | nil => rfl
  | append_singleton E e ih =>
    rw [didM_snoc, List.any_append, List.any_cons, List.any_nil, Bool.or_false, ← ih]
    cases e with
    | did t s c' n' o =>
      dsimp only
      rw [getM_put]
      by_cases q : tk2 c n = tk2 c' n'
      · obtain ⟨rfl, rfl⟩ := tk2_inj.mp q
        rw [if_pos rfl]; simp [Evt.isDid]
      · rw [if_neg q]
        have : Evt.isDid c n (.did t s c' n' o) = false := by
          cases z : Evt.isDid c n (.did t s c' n' o) with
          | false => rfl
          | true =>
            simp only [Evt.isDid, Bool.and_eq_true, decide_eq_true_eq] at z
            exact absurd (tk2_inj.mpr ⟨z.1.symm, z.2.symm⟩) q
        rw [this, Bool.or_false]
    | call t c' n' o => simp [Evt.isDid]
    | gone t => simp [Evt.isDid]
    | acc t c' n' a => simp [Evt.isDid]
end L_k70
namespace L_k70
open PySem PySem.Spec PyProof.Rows L2 BS
/-- a store that bears all of another one -/
theorem pre_of {S S' : Store} (h : ∀ i, i < S.length → S'[i]? = S[i]?) : ∃ T, S' = S ++ T := by
  refine ⟨S'.drop S.length, ?_⟩
  have : S = S'.take S.length := by
    apply List.ext_getElem?
    intro i
    by_cases q : i < S.length
    · rw [List.getElem?_take_of_lt q, h i q]
    · rw [List.getElem?_eq_none (by omega), List.getElem?_eq_none (by rw [List.length_take]; omega)]
  conv => lhs; rw [← List.take_append_drop S.length S']
  rw [← this]
theorem does_run (e : Evt) (S : Store) : V_does_request [e.d] S = .ok (.bl (match e with | .did _ _ _ _ _ => true | _ => false)) S := by
  cases e with
  | call t c n o => simp (config := { implicitDefEqProofs := false }) [Evt.d, V_does_request, m_does_request]
  | did t s c n o => simp (config := { implicitDefEqProofs := false }) [Evt.d, V_does_request, m_does_request]
  | gone t => simp (config := { implicitDefEqProofs := false }) [Evt.d, V_does_request, m_does_request]
  | acc t c n a => simp (config := { implicitDefEqProofs := false }) [Evt.d, V_does_request, m_does_request]
def Evt.ok : Evt → Prop
  | .call _ _ _ o => o.ok
  | .did _ _ _ _ o => o.ok
  | .gone _ => True
  | .acc _ _ _ a => Sm 4 a
theorem callM_len (E : List Evt) : (callM E).length ≤ E.length := by
  induction E using snocRec with
  | nil => exact Nat.le_refl _
  | append_singleton E e ih =>
    rw [callM_snoc, List.length_append, List.length_singleton]
    cases e with
    | call t c n o => exact Nat.le_trans (putM_len _ _ _) (by omega)
    | _ => dsimp only; omega
theorem didM_len (E : List Evt) : (didM E).length ≤ E.length := by
  induction E using snocRec with
  | nil => exact Nat.le_refl _
  | append_singleton E e ih =>
    rw [didM_snoc, List.length_append, List.length_singleton]
    cases e with
    | did t s c n o => exact Nat.le_trans (putM_len _ _ _) (by omega)
    | _ => dsimp only; omega
theorem callM_val {E : List Evt} (hE : ∀ e ∈ E, e.ok) {k : TKey} {d : D} (h : getM (callM E) k = some d) : ∃ o : Op, o.ok ∧ d = o.d := by
  induction E using snocRec with
  | nil => cases h
  | append_singleton E e ih =>
    rw [callM_snoc] at h
    have ih := ih (fun e he => hE e (by simp [he]))
    have he := hE e (by simp)
    cases e with
    | call t c n o =>
      dsimp only at h
      rw [getM_put] at h
      split at h
      · cases h; exact ⟨o, he, rfl⟩
      · exact ih h
    | _ => exact ih h
/-- one event, in the program's loop -/
theorem rf_turn {E : List Evt} (hE : ∀ e ∈ E, e.ok) (ho : Once E) (hl : E.length ≤ 100) {k : Nat} {e : Evt} (he : E[k]? = some e) {S : Store} {n1 n2 : Nat} (h1 : TabAt S n1 (callM (E.take k))) (h2 : TabAt S n2 (didM (E.take k))) (hne : n1 ≠ n2) (x0 x3 x4 x5 x6 : Option D) :
    (∃ d S', reqV E k = some d ∧ (gNm 3 e.d ⟨[x0, some (.obj n1), some (.obj n2), x3, x4, x5, x6], []⟩ S).seq lb_request_fault_0 = .rt d S' ∧ S' = S) ∨
    (reqV E k = none ∧ ∃ S' y4 y5 y6, (gNm 3 e.d ⟨[x0, some (.obj n1), some (.obj n2), x3, x4, x5, x6], []⟩ S).seq lb_request_fault_0 = .nx ⟨[x0, some (.obj n1), some (.obj n2), some e.d, y4, y5, y6], []⟩ S' ∧ TabAt S' n1 (callM (E.take (k + 1))) ∧ TabAt S' n2 (didM (E.take (k + 1))) ∧ ∀ i, i ≠ n1 → i ≠ n2 → S'[i]? = S[i]?) := by
  have hk := (List.getElem?_eq_some_iff.mp he).1
  have et : E.take (k + 1) = E.take k ++ [e] := by rw [List.take_succ, he]; rfl
  have c1 : (callM (E.take k)).length < sizeLine := by have := callM_len (E.take k); rw [List.length_take] at this; have := sz; omega
  have c2 : (didM (E.take k)).length < sizeLine := by have := didM_len (E.take k); rw [List.length_take] at this; have := sz; omega
  have dr := does_run e
  cases e with
  | call t c n o =>
    refine .inr ⟨by unfold reqV; rw [he], S.set n1 (.dkt (putM (callM (E.take k)) (tk2 c n) o.d)), x4, x5, x6, ?_, ?_, ?_, fun i a b => List.getElem?_set_ne (fun z => a z.symm)⟩
    · have st := h1.setS (tkOf2 c n) c1 o.d
      simp (config := { implicitDefEqProofs := false }) [Evt.d] at dr
      simp (config := { implicitDefEqProofs := false }) [lb_request_fault_0, Evt.d, st, dr]
    · rw [et, callM_snoc]; exact h1.put _
    · rw [et, didM_snoc]; exact h2.ne hne _
  | did t s c n o =>
    have in1 := h1.fNotIn (tkOf2 c n)
    have ix1 := h1.ix (tkOf2 c n)
    have in2 := h2.fIn (tkOf2 c n)
    rw [didM_get] at in2
    have ci := called_iff ho (Nat.le_of_lt hk) c n o
    have okE : o.ok := hE _ (List.mem_of_getElem? he)
    have rv : reqV E k = if (E.take k).any (Evt.isCall c n o) = true then (if (E.take k).any (Evt.isDid c n) = true then some (.tup [.str "repeated", .int c, .int n]) else none) else some (.tup [.str "uncalled", .int c, .int n]) := by unfold reqV; rw [he]
    simp (config := { implicitDefEqProofs := false }) [Evt.d] at dr
    cases hg : getM (callM (E.take k)) (tk2 c n) with
    | none =>
      have : ¬ (E.take k).any (Evt.isCall c n o) = true := fun z => by rw [ci.mp z] at hg; cases hg
      rw [if_neg this] at rv
      rw [hg] at in1
      refine .inl ⟨_, S, rv, ?_, rfl⟩
      simp (config := { implicitDefEqProofs := false }) [lb_request_fault_0, Evt.d, dr, in1]
    | some d =>
      obtain ⟨p, hp, rfl⟩ := callM_val (fun e he => hE e (List.mem_of_mem_take he)) hg
      have eqq := eqS_sm S (op_sm hp) (op_sm okE)
      rw [hg] at in1 ix1
      by_cases q : p = o
      · subst q
        rw [if_pos (ci.mpr hg)] at rv
        rw [(op_inj' p p).mpr rfl] at eqq
        cases hd : (E.take k).any (Evt.isDid c n) with
        | true =>
          rw [hd, if_pos rfl] at rv
          rw [hd] at in2
          refine .inl ⟨_, S, rv, ?_, rfl⟩
          simp only [Evt.d]
          generalize p.d = pd at *
          simp (config := { implicitDefEqProofs := false }) [lb_request_fault_0, dr, in1, ix1, eqq, in2]
        | false =>
          rw [hd, if_neg Bool.false_ne_true] at rv
          rw [hd] at in2
          have st := h2.setS (tkOf2 c n) c2 (.bl true)
          refine .inr ⟨rv, S.set n2 (.dkt (putM (didM (E.take k)) (tk2 c n) (.bl true))), some (.int c), some (.int n), some p.d, ?_, ?_, ?_, fun i a b => List.getElem?_set_ne (fun z => b z.symm)⟩
          · simp only [Evt.d]
            generalize p.d = pd at *
            simp (config := { implicitDefEqProofs := false }) [lb_request_fault_0, dr, in1, ix1, eqq, in2, st]
          · rw [et, callM_snoc]; exact h1.ne (fun z => hne z.symm) _
          · rw [et, didM_snoc]; exact h2.put _
      · have nq : eqD p.d o.d = false := by
          cases z : eqD p.d o.d with
          | false => rfl
          | true => exact absurd (op_inj z) q
        rw [nq] at eqq
        have : ¬ (E.take k).any (Evt.isCall c n o) = true := fun z => by
          have := ci.mp z
          rw [hg] at this
          have := Option.some.inj this
          exact q (op_inj (by rw [this]; exact (op_inj' o o).mpr rfl))
        rw [if_neg this] at rv
        refine .inl ⟨_, S, rv, ?_, rfl⟩
        simp only [Evt.d]
        generalize p.d = pd at *
        generalize o.d = od at *
        simp (config := { implicitDefEqProofs := false }) [lb_request_fault_0, dr, in1, ix1, eqq]
  | gone t =>
    refine .inr ⟨by unfold reqV; rw [he], S, x4, x5, x6, ?_, ?_, ?_, fun _ _ _ => rfl⟩
    · simp (config := { implicitDefEqProofs := false }) [Evt.d] at dr
      simp (config := { implicitDefEqProofs := false }) [lb_request_fault_0, Evt.d, dr]
    · rw [et, callM_snoc]; exact h1
    · rw [et, didM_snoc]; exact h2
  | acc t c n a =>
    refine .inr ⟨by unfold reqV; rw [he], S, x4, x5, x6, ?_, ?_, ?_, fun _ _ _ => rfl⟩
    · simp (config := { implicitDefEqProofs := false }) [Evt.d] at dr
      generalize a = ad at *
      simp (config := { implicitDefEqProofs := false }) [lb_request_fault_0, Evt.d, dr]
    · rw [et, callM_snoc]; exact h1
    · rw [et, didM_snoc]; exact h2
theorem rf_run {E : List Evt} (hE : ∀ e ∈ E, e.ok) (ho : Once E) (hl : E.length ≤ 100) (S : Store) : ∃ T, V_request_fault [.lst (E.map Evt.d)] S = .ok (fstV (reqV E) E.length) (S ++ T) := by
  have key : (V_request_fault [.lst (E.map Evt.d)] S).gives fun d S' => d = fstV (reqV E) E.length ∧ ∀ i, i < S.length → S'[i]? = S[i]? := by
    refine den_gives ?_
    show (m_request_fault ⟨[some (.lst (E.map Evt.d)), none, none, none, none, none, none], []⟩ S).ends _ _
    unfold m_request_fault
    have s1 : mSet 1 mDct ⟨[some (.lst (E.map Evt.d)), none, none, none, none, none, none], []⟩ S = .nx ⟨[some (.lst (E.map Evt.d)), some (.obj S.length), none, none, none, none, none], []⟩ (S ++ [.dct []]) := by
      generalize E.map Evt.d = ed at *
      simp (config := { implicitDefEqProofs := false })
    have s2 : mSet 2 mDct ⟨[some (.lst (E.map Evt.d)), some (.obj S.length), none, none, none, none, none], []⟩ (S ++ [.dct []]) = .nx ⟨[some (.lst (E.map Evt.d)), some (.obj S.length), some (.obj (S.length + 1)), none, none, none, none], []⟩ (S ++ [.dct []] ++ [.dct []]) := by
      generalize E.map Evt.d = ed at *
      simp (config := { implicitDefEqProofs := false })
    have it : iAny (mVar 0) ⟨[some (.lst (E.map Evt.d)), some (.obj S.length), some (.obj (S.length + 1)), none, none, none, none], []⟩ (S ++ [.dct []] ++ [.dct []]) = .ok ⟨E.map Evt.d, fun _ => True⟩ (S ++ [.dct []] ++ [.dct []]) := rfl
    rw [mSeq_ev, s1, RS.seq_nx, mSeq_ev, s2, RS.seq_nx, mSeq_ev, mFor_ev, it, BS.R.toS_ok]
    have k1 : TabAt (S ++ [.dct []] ++ [.dct []]) S.length [] := TabAt.nil (by simp)
    have k2 : TabAt (S ++ [.dct []] ++ [.dct []]) (S.length + 1) [] := TabAt.nil (by simp)
    have kS : ∀ i, i < S.length → (S ++ [O.dct []] ++ [O.dct []])[i]? = S[i]? := fun i hi => by rw [List.append_assoc, List.getElem?_append_left hi]
    generalize S ++ [O.dct []] ++ [O.dct []] = S2 at *
    refine ends_seq (forL_ends (fun k e S' => ∃ x3 x4 x5 x6, e = ⟨[some (.lst (E.map Evt.d)), some (.obj S.length), some (.obj (S.length + 1)), x3, x4, x5, x6], []⟩ ∧ TabAt S' S.length (callM (E.take k)) ∧ TabAt S' (S.length + 1) (didM (E.take k)) ∧ (∀ j, j < k → reqV E j = none) ∧ ∀ i, i < S.length → S'[i]? = S[i]?) ⟨none, none, none, none, rfl, k1, k2, fun j hj => absurd hj (Nat.not_lt_zero j), kS⟩ (fun _ _ _ _ => True.intro) ?_ ?_)
    · rintro k d e S' hd ⟨x3, x4, x5, x6, rfl, h1, h2, hn, hs⟩
      rw [List.getElem?_map, Option.map_eq_some_iff] at hd
      obtain ⟨ev, hev, rfl⟩ := hd
      have hk := (List.getElem?_eq_some_iff.mp hev).1
      rcases rf_turn hE ho hl hev h1 h2 (by omega) (some (.lst (E.map Evt.d))) x3 x4 x5 x6 with ⟨d, S2, r1, r2, rfl⟩ | ⟨r1, S2, y4, y5, y6, r2, r3, r4, r5⟩
      · rw [r2, turns_rt]
        exact ⟨(fstV_at hk hn r1).symm, hs⟩
      · refine turns_of_nx r2 ⟨_, _, _, _, rfl, r3, r4, fun j hj => ?_, fun i hi => by rw [r5 i (by omega) (by omega)]; exact hs i hi⟩
        rcases Nat.lt_succ_iff_lt_or_eq.mp hj with z | z
        · exact hn j z
        · rw [z]; exact r1
    · rintro e S' ⟨x3, x4, x5, x6, rfl, h1, h2, hn, hs⟩
      rw [List.length_map] at hn
      simp (config := { implicitDefEqProofs := false })
      exact ⟨(fstV_none hn).symm, hs⟩
  obtain ⟨d, S', e, rfl, hs⟩ := gives_iff.mp key
  obtain ⟨T, rfl⟩ := pre_of hs
  exact ⟨T, e⟩
end L_k70
namespace L_k70
open PySem PySem.Spec PyProof.Rows L2 BS
theorem cut35 (S : Store) (a b c d e f : D) : slS false S (.tup [a, b, c, d, e, f]) (some 3) (some 5) = .ok (.tup [d, e]) S := rfl
/-- one earlier event, in the law's inner loop -/
theorem lr_turn {p : Evt} (hp : p.ok) {t s c n : Int} {o : Op} (ho : o.ok) (b1 b2 : Bool) (x0 x1 x5 : Option D) (S : Store) :
    (gNm 5 p.d ⟨[x0, x1, some (.tup [.str "did", .str "", .int 1, .int c, .int n, o.d]), some (.bl b1), some (.bl b2), x5], []⟩ S).seq lb__law_requests_0 = .nx ⟨[x0, x1, some (.tup [.str "did", .str "", .int 1, .int c, .int n, o.d]), some (.bl (b1 || p.isCall c n o)), some (.bl (b2 || p.isDid c n)), some p.d], []⟩ S := by
  cases p with
  | call t' c' n' o' =>
    have hp : o'.ok := hp
    have eqq := eqS_sm S (op_sm hp) (op_sm ho)
    simp only [Evt.d, Evt.isCall, Evt.isDid, Bool.or_false]
    generalize o'.d = od' at *
    generalize o.d = od at *
    by_cases q1 : c' = c
    · by_cases q2 : n' = n
      · cases q3 : eqD od' od with
        | true =>
          rw [q3] at eqq
          simp (config := { implicitDefEqProofs := false }) [lb__law_requests_0, q1, q2, eqq]
        | false =>
          rw [q3] at eqq
          simp (config := { implicitDefEqProofs := false }) [lb__law_requests_0, q1, q2, eqq]
      · simp (config := { implicitDefEqProofs := false }) [lb__law_requests_0, q1, q2]
    · simp (config := { implicitDefEqProofs := false }) [lb__law_requests_0, q1]
  | did t' s' c' n' o' =>
    simp only [Evt.d, Evt.isCall, Evt.isDid, Bool.or_false]
    generalize o'.d = od' at *
    generalize o.d = od at *
    have e1 : eqS S (.tup [.int c', .int n']) (.tup [.int c, .int n]) = some (decide (c' = c) && decide (n' = n)) := by
      rw [eqS_sm (n := 1) (m := 1) S (by simp) (by simp)]
      simp
    by_cases q1 : c' = c
    · by_cases q2 : n' = n
      · subst q1 q2
        simp (config := { implicitDefEqProofs := false }) at e1
        simp (config := { implicitDefEqProofs := false }) [lb__law_requests_0, cut35, e1]
      · have : (decide (c' = c) && decide (n' = n)) = false := by simp [q2]
        rw [this] at e1 ⊢
        simp (config := { implicitDefEqProofs := false }) [lb__law_requests_0, cut35, e1]
    · have : (decide (c' = c) && decide (n' = n)) = false := by simp [q1]
      rw [this] at e1 ⊢
      simp (config := { implicitDefEqProofs := false }) [lb__law_requests_0, cut35, e1]
  | gone t' =>
    simp only [Evt.d, Evt.isCall, Evt.isDid, Bool.or_false]
    generalize o.d = od at *
    simp (config := { implicitDefEqProofs := false }) [lb__law_requests_0]
  | acc t' c' n' a =>
    simp only [Evt.d, Evt.isCall, Evt.isDid, Bool.or_false]
    generalize o.d = od at *
    generalize a = ad at *
    simp (config := { implicitDefEqProofs := false }) [lb__law_requests_0]
theorem any_take {α : Type} {l : List α} {j : Nat} {a : α} (h : l[j]? = some a) (f : α → Bool) : (l.take (j + 1)).any f = ((l.take j).any f || f a) := by
  rw [List.take_succ, h, List.any_append]
  simp
theorem lr_inner {P : List Evt} (hP : ∀ e ∈ P, e.ok) {t s c n : Int} {o : Op} (ho : o.ok) (x0 x1 x5 : Option D) (S : Store) :
    ∃ y5, forL (fun _ => True) (gNm 5) lb__law_requests_0 (P.map Evt.d) ⟨[x0, x1, some (.tup [.str "did", .str "", .int 1, .int c, .int n, o.d]), some (.bl false), some (.bl false), x5], []⟩ S = .nx ⟨[x0, x1, some (.tup [.str "did", .str "", .int 1, .int c, .int n, o.d]), some (.bl (P.any (Evt.isCall c n o))), some (.bl (P.any (Evt.isDid c n))), y5], []⟩ S := by
  have : (forL (fun _ => True) (gNm 5) lb__law_requests_0 (P.map Evt.d) ⟨[x0, x1, some (.tup [.str "did", .str "", .int 1, .int c, .int n, o.d]), some (.bl false), some (.bl false), x5], []⟩ S).ends (fun e S' => (∃ y5, e = ⟨[x0, x1, some (.tup [.str "did", .str "", .int 1, .int c, .int n, o.d]), some (.bl (P.any (Evt.isCall c n o))), some (.bl (P.any (Evt.isDid c n))), y5], []⟩) ∧ S' = S) (fun _ _ => False) := by
    refine forL_ends (fun j e S' => (∃ y5, e = ⟨[x0, x1, some (.tup [.str "did", .str "", .int 1, .int c, .int n, o.d]), some (.bl ((P.take j).any (Evt.isCall c n o))), some (.bl ((P.take j).any (Evt.isDid c n))), y5], []⟩) ∧ S' = S) ⟨⟨x5, rfl⟩, rfl⟩ (fun _ _ _ _ => True.intro) ?_ ?_
    · rintro j d e S' hd ⟨⟨y5, rfl⟩, rfl⟩
      rw [List.getElem?_map, Option.map_eq_some_iff] at hd
      obtain ⟨p, hp, rfl⟩ := hd
      refine turns_of_nx (lr_turn (t := t) (s := s) (hP p (List.mem_of_getElem? hp)) ho _ _ x0 x1 y5 S') ⟨⟨some p.d, by rw [any_take hp, any_take hp]⟩, rfl⟩
    · rintro e S' ⟨⟨y5, rfl⟩, rfl⟩
      rw [List.length_map, List.take_length]
      exact ⟨⟨y5, rfl⟩, rfl⟩
  cases hr : forL (fun _ => True) (gNm 5) lb__law_requests_0 (P.map Evt.d) ⟨[x0, x1, some (.tup [.str "did", .str "", .int 1, .int c, .int n, o.d]), some (.bl false), some (.bl false), x5], []⟩ S with
  | nx e S' =>
    rw [hr] at this
    simp only [ends_nx] at this
    obtain ⟨⟨y5, rfl⟩, rfl⟩ := this
    exact ⟨y5, rfl⟩
  | _ => rw [hr] at this; simp at this
theorem lr_outer {E : List Evt} (hE : ∀ e ∈ E, e.ok) {k ne : Nat} {e : Evt} (he : E[k]? = some e) {S : Store} (hn : S[ne]? = some (.lst (E.map Evt.d))) (x1 x2 x3 x4 x5 : Option D) :
    (∃ d, reqV E k = some d ∧ (gNm 1 (.int k) ⟨[some (.obj ne), x1, x2, x3, x4, x5], []⟩ S).seq lb__law_requests_1 = .rt d S) ∨
    (reqV E k = none ∧ ∃ y2 y3 y4 y5, ((gNm 1 (.int k) ⟨[some (.obj ne), x1, x2, x3, x4, x5], []⟩ S).seq lb__law_requests_1 = .nx ⟨[some (.obj ne), some (.int k), y2, y3, y4, y5], []⟩ S ∨ (gNm 1 (.int k) ⟨[some (.obj ne), x1, x2, x3, x4, x5], []⟩ S).seq lb__law_requests_1 = .ct ⟨[some (.obj ne), some (.int k), y2, y3, y4, y5], []⟩ S)) := by
  have ix : atI (E.map Evt.d) (k : Int) = some e.d := by rw [BS.atI_nat, List.getElem?_map, he]; rfl
  have ix2 : (E.map Evt.d)[k]? = some e.d := by rw [List.getElem?_map, he]; rfl
  have k0 : (0 : Int) ≤ k := by omega
  cases e with
  | did t s c n o =>
    have okE : o.ok := hE _ (List.mem_of_getElem? he)
    have rv : reqV E k = if (E.take k).any (Evt.isCall c n o) = true then (if (E.take k).any (Evt.isDid c n) = true then some (.tup [.str "repeated", .int c, .int n]) else none) else some (.tup [.str "uncalled", .int c, .int n]) := by unfold reqV; rw [he]
    obtain ⟨y5, li⟩ := lr_inner (P := E.take k) (fun e he => hE e (List.mem_of_mem_take he)) (t := t) (s := s) (c := c) (n := n) okE (some (.obj ne)) (some (.int k)) x5 S
    have ct : cutD (E.map Evt.d) none (some (k : Int)) = (E.take k).map Evt.d := by rw [cut_to, List.map_take]
    generalize (E.take k).map Evt.d = pd at *
    generalize hed : E.map Evt.d = ed at *
    simp only [Evt.d] at ix ix2
    generalize o.d = od at *
    cases q1 : (E.take k).any (Evt.isCall c n o) with
    | false =>
      rw [q1] at rv li
      rw [if_neg Bool.false_ne_true] at rv
      refine .inl ⟨_, rv, ?_⟩
      simp (config := { implicitDefEqProofs := false }) [lb__law_requests_1, hn, ix, ix2, wkA, ct, li]
    | true =>
      rw [q1, if_pos rfl] at rv
      rw [q1] at li
      cases q2 : (E.take k).any (Evt.isDid c n) with
      | true =>
        rw [q2, if_pos rfl] at rv
        rw [q2] at li
        refine .inl ⟨_, rv, ?_⟩
        simp (config := { implicitDefEqProofs := false }) [lb__law_requests_1, hn, ix, ix2, wkA, ct, li]
      | false =>
        rw [q2, if_neg Bool.false_ne_true] at rv
        rw [q2] at li
        refine .inr ⟨rv, some (.tup [.str "did", .str "", .int 1, .int c, .int n, od]), some (.bl true), some (.bl false), y5, .inl ?_⟩
        simp (config := { implicitDefEqProofs := false }) [lb__law_requests_1, hn, ix, ix2, wkA, ct, li]
  | call t c n o =>
    refine .inr ⟨by unfold reqV; rw [he], x2, x3, x4, x5, .inr ?_⟩
    simp only [Evt.d] at ix ix2
    generalize E.map Evt.d = ed at *
    generalize o.d = od at *
    simp (config := { implicitDefEqProofs := false }) [lb__law_requests_1, hn, ix, ix2]
  | gone t =>
    refine .inr ⟨by unfold reqV; rw [he], x2, x3, x4, x5, .inr ?_⟩
    simp only [Evt.d] at ix ix2
    generalize E.map Evt.d = ed at *
    simp (config := { implicitDefEqProofs := false }) [lb__law_requests_1, hn, ix, ix2]
  | acc t c n a =>
    refine .inr ⟨by unfold reqV; rw [he], x2, x3, x4, x5, .inr ?_⟩
    simp only [Evt.d] at ix ix2
    generalize E.map Evt.d = ed at *
    generalize a = ad at *
    simp (config := { implicitDefEqProofs := false }) [lb__law_requests_1, hn, ix, ix2]
theorem lreq_run {E : List Evt} (hE : ∀ e ∈ E, e.ok) (hl : E.length ≤ 100) {S : Store} {ne : Nat} (hn : S[ne]? = some (.lst (E.map Evt.d))) : V__law_requests [.obj ne] S = .ok (fstV (reqV E) E.length) S := by
  refine gives_eq (den_gives ?_)
  show (m__law_requests ⟨[some (.obj ne), none, none, none, none, none], []⟩ S).ends _ _
  unfold m__law_requests
  have ln : (E.map Evt.d).length = E.length := List.length_map ..
  have it := iRng1 (as := mCons (mCall fnLen (mCons (mVar 0) mNil)) mNil) (e := ⟨[some (.obj ne), none, none, none, none, none], []⟩) (S := S) (S' := S) (j := E.length) (by
    generalize E.map Evt.d = ed at *
    simp (config := { implicitDefEqProofs := false }) [hn, ln]) (rng_ok (by omega))
  rw [Int.toNat_natCast] at it
  rw [mSeq_ev, mFor_ev, it, BS.R.toS_ok]
  refine ends_seq (forL_ends (fun k e S' => (∃ x1 x2 x3 x4 x5, e = ⟨[some (.obj ne), x1, x2, x3, x4, x5], []⟩) ∧ S' = S ∧ ∀ j, j < k → reqV E j = none) ⟨⟨none, none, none, none, none, rfl⟩, rfl, fun j hj => absurd hj (Nat.not_lt_zero j)⟩ (fun _ _ _ _ => True.intro) ?_ ?_)
  · rintro k d e S' hd ⟨⟨x1, x2, x3, x4, x5, rfl⟩, rfl, hN⟩
    obtain ⟨hk, rfl⟩ := ints_at hd
    rw [Int.zero_add]
    obtain ⟨ev, hev⟩ : ∃ ev, E[k]? = some ev := ⟨_, List.getElem?_eq_getElem hk⟩
    have nxt : reqV E k = none → ∀ j, j < k + 1 → reqV E j = none := fun h j hj => by
      rcases Nat.lt_succ_iff_lt_or_eq.mp hj with z | z
      · exact hN j z
      · rw [z]; exact h
    rcases lr_outer hE hev hn x1 x2 x3 x4 x5 with ⟨d, r1, r2⟩ | ⟨r1, y2, y3, y4, y5, r2 | r2⟩
    · rw [r2, turns_rt]
      exact ⟨(fstV_at hk hN r1).symm, rfl⟩
    · exact turns_of_nx r2 ⟨⟨_, _, _, _, _, rfl⟩, rfl, nxt r1⟩
    · rw [r2, turns_ct]
      exact ⟨⟨_, _, _, _, _, rfl⟩, rfl, nxt r1⟩
  · rintro e S' ⟨⟨x1, x2, x3, x4, x5, rfl⟩, rfl, hN⟩
    rw [intsFrom_len] at hN
    simp (config := { implicitDefEqProofs := false })
    exact (fstV_none hN).symm
end L_k70
namespace L_k70
open PySem PySem.Spec PyProof.Rows L2 BS
def hiD : Option Str → D
  | none => .non
  | some z => .str z
@[simp] theorem hiD_none : hiD none = .non := rfl
@[simp] theorem hiD_some (z : Str) : hiD (some z) = .str z := rfl
theorem hiD_fl (o : Option Str) : Fl 1 (hiD o) := by cases o with | none => exact .non | some z => exact .str z
theorem hiD_eq (a b : Option Str) : eqD (hiD a) (hiD b) = decide (a = b) := by
  cases a <;> cases b <;> simp
theorem hiD_inj {a b : Option Str} (h : hiD a = hiD b) : a = b := by
  cases a <;> cases b <;> simp_all
theorem fl_up {n m : Nat} {d : D} (h : Fl n d) (l : n ≤ m) : Fl m d := ⟨h.pl, fun f => Nat.le_trans (h.dp f) l, h.eq⟩
theorem lcL_fm {α : Type} {G : Store → Prop} {i : Nat} {e0 : Ev} {tt : TM} {el : EM} (A : Store) (g w : α → D) (f : α → Bool) (ps : List α) (hG : ∀ acc, G (A ++ [.lst acc]))
    (ht : ∀ p ∈ ps, ∀ acc, tt ⟨e0.sl.set i (some (g p)), []⟩ (A ++ [.lst acc]) = .ok (f p) (A ++ [.lst acc])) (he : ∀ p ∈ ps, ∀ acc, el ⟨e0.sl.set i (some (g p)), []⟩ (A ++ [.lst acc]) = .ok (w p) (A ++ [.lst acc])) (hl : ps.length ≤ sizeLine) :
    lcL A.length G (.one i) e0 tt el (ps.map g) (A ++ [.lst []]) = .ok () (A ++ [.lst ((ps.filter f).map w)]) := by
  have gen : ∀ (qs : List α) (acc : List D), (∀ p ∈ qs, p ∈ ps) → acc.length + qs.length ≤ sizeLine → lcL A.length G (.one i) e0 tt el (qs.map g) (A ++ [.lst acc]) = .ok () (A ++ [.lst (acc ++ (qs.filter f).map w)]) := by
    intro qs
    induction qs with
    | nil => intro acc _ _; rw [List.map_nil]; unfold lcL; rw [if_pos (hG _)]; simp
    | cons p qs ih =>
      intro acc hs hl
      have hp := hs p (by simp)
      rw [List.length_cons] at hl
      rw [List.map_cons]
      unfold lcL
      rw [if_pos (hG _)]
      rw [show (LT.one i).items (g p) = some [g p] from rfl]
      dsimp only
      rw [show (setAll e0.sl (LT.one i).ix [g p]) = e0.sl.set i (some (g p)) from rfl, ht p hp acc]
      rw [R.nox_ok, R.bind_ok]
      cases hf : f p with
      | false =>
        rw [if_neg Bool.false_ne_true, ih acc (fun q hq => hs q (by simp [hq])) (by omega), List.filter_cons_of_neg (by simp [hf])]
      | true =>
        rw [if_pos rfl, he p hp acc, R.nox_ok, R.bind_ok]
        have h1 : (A ++ [O.lst acc])[A.length]? = some (.lst acc) := by simp
        rw [h1]
        dsimp only
        rw [if_pos (by omega)]
        have h2 : (A ++ [O.lst acc]).set A.length (.lst (acc ++ [w p])) = A ++ [.lst (acc ++ [w p])] := by
          rw [List.set_append, if_neg (by omega), Nat.sub_self]; rfl
        rw [h2, ih (acc ++ [w p]) (fun q hq => hs q (by simp [hq])) (by rw [List.length_append, List.length_singleton]; omega), List.filter_cons_of_pos hf, List.map_cons, List.append_assoc]
        rfl
  have := gen ps [] (fun p h => h) (by simpa using hl)
  simpa using this
inductive AnsD : D → Prop
  | a1 (w : Str) : w.length ≤ 1000 → AnsD (.tup [.str w])
  | a2 (w v : Str) : w.length ≤ 1000 → v.length ≤ 1000 → AnsD (.tup [.str w, .str v])
  | pg (ps : List (Str × Str)) (nx : Option Str) : ps.length ≤ 1000 → (∀ p ∈ ps, p.1.length ≤ 1000 ∧ p.2.length ≤ 1000) → (∀ z, nx = some z → z.length ≤ 1000) → AnsD (.tup [.str "page", .tup (ps.map fun p => .tup [.str p.1, .str p.2]), hiD nx])
theorem AnsD.sm {a : D} (h : AnsD a) : Sm 4 a := by
  cases h with
  | a1 w h => simp; omega
  | a2 w v h1 h2 => simp; omega
  | pg ps nx h1 h2 h3 =>
    have l4 : (Str.ofString "page").length ≤ 1000000 := by decide +kernel
    have hn : Sm 3 (hiD nx) := by
      cases nx with
      | none => exact (by simp [hiD])
      | some z => have := h3 z rfl; simp [hiD]; omega
    refine ⟨by simp, fun d hd => ?_⟩
    simp only [List.mem_cons, List.not_mem_nil, or_false] at hd
    rcases hd with rfl | rfl | rfl
    · simp [l4]
    · refine ⟨by simp; omega, fun p hp => ?_⟩
      obtain ⟨q, hq, rfl⟩ := List.mem_map.mp hp
      have := h2 q hq
      simp; omega
    · exact hn
def nxF (nx : Option Str) (k : Str) : Bool := match nx with
  | none => true
  | some z => ltS k z
@[simp] theorem nxF_none (k : Str) : nxF none k = true := rfl
@[simp] theorem nxF_some (z k : Str) : nxF (some z) k = ltS k z := rfl
def dueF (m : List (Str × D)) (l : Str) (nx : Option Str) : List Str := (sortT (m.map (·.1))).filter fun k => !ltS k l && nxF nx k
def pfB (m : List (Str × D)) (l : Str) (n : Nat) : D → Bool
  | .tup [_, ps, .non] => decide ((dueF m l none).length ≤ n) && eqD ps (.tup ((dueF m l none).map (pr1 m)))
  | .tup [_, ps, .str z] => ltS l z && (decide ((dueF m l (some z)).length ≤ n) && eqD ps (.tup ((dueF m l (some z)).map (pr1 m))))
  | _ => false
theorem due_sm {m : List (Str × D)} (hm : goodM m) (hl : m.length ≤ 1000) (l : Str) (nx : Option Str) : Sm 2 (.tup ((dueF m l nx).map (pr1 m))) := by
  have h1 : (dueF m l nx).length ≤ m.length := by
    have := List.length_filter_le (fun k => !ltS k l && nxF nx k) (sortT (m.map (·.1)))
    rw [sortT_len, List.length_map] at this
    exact this
  refine ⟨by rw [List.length_map]; omega, fun d hd => ?_⟩
  obtain ⟨z, hz, rfl⟩ := List.mem_map.mp hd
  have hz := sortT_mem.mp (List.mem_filter.mp hz).1
  obtain ⟨v, e, hk, hv⟩ := hm.at hz
  have a := sm_key hk 0
  have b := sm_val hv 0
  unfold pr1
  rw [e]
  simp [a, b]
/-- the comprehension of what is due -/
theorem due_lc {S : Store} {n : Nat} {m : List (Str × D)} (hS : S[n]? = some (.dct (toS m))) (hl : m.length ≤ 1000) (l : Str) (nx : Option Str) {i : Nat} {sl : List (Option D)} {tt : TM} {el : EM} (hi : i < sl.length)
    (ht : ∀ (k : Str) (S2 : Store), tt ⟨sl.set i (some (.str k)), []⟩ S2 = .ok (!ltS k l && nxF nx k) S2)
    (he : ∀ (k : Str) (v : D) (S2 : Store), S2[n]? = some (.dct (toS m)) → getM m k = some v → el ⟨sl.set i (some (.str k)), []⟩ S2 = .ok (.tup [.str k, v]) S2) :
    lcL S.length (fun _ => True) (.one i) ⟨sl, []⟩ tt el ((sortT (m.map (·.1))).map .str) (S ++ [.lst []]) = .ok () (S ++ [.lst ((dueF m l nx).map (pr1 m))]) := by
  have := lcL_fm (G := fun _ => True) (i := i) (e0 := ⟨sl, []⟩) (tt := tt) (el := el) S D.str (pr1 m) (fun k => !ltS k l && nxF nx k) (sortT (m.map (·.1))) (fun _ => True.intro) (fun k hk acc => ht k _) (fun k hk acc => by
    obtain ⟨v, e⟩ := getM_some (sortT_mem.mp hk)
    rw [he k v _ (at_ext hS _) e]
    unfold pr1
    rw [e]; rfl) (by rw [sortT_len, List.length_map]; exact szL (by omega))
  exact this
theorem pf_run {S : Store} {n : Nat} {m : List (Str × D)} (hS : S[n]? = some (.dct (toS m))) (hm : goodM m) (hl : m.length ≤ 1000) (l : Str) (k : Nat) {a : D} (ha : AnsD a) : ∃ T, V_page_fits [.obj n, (Op.page l k).d, a] S = .ok (.bl (pfB m l k a)) (S ++ T) := by
  have so := sorted_toS false S n m hS (by omega)
  cases ha with
  | a1 w h => exact ⟨[], by rw [List.append_nil]; simp (config := { implicitDefEqProofs := false }) [Op.d, gsCons, gsNil, V_page_fits, m_page_fits, pfB]⟩
  | a2 w v h1 h2 => exact ⟨[], by rw [List.append_nil]; simp (config := { implicitDefEqProofs := false }) [Op.d, gsCons, gsNil, V_page_fits, m_page_fits, pfB]⟩
  | pg ps nx h1 h2 h3 =>
    have hps : Sm 2 (.tup (ps.map fun p => .tup [.str p.1, .str p.2])) := by
      refine ⟨by simp; omega, fun p hp => ?_⟩
      obtain ⟨q, hq, rfl⟩ := List.mem_map.mp hp
      have := h2 q hq
      simp; omega
    generalize D.tup (ps.map fun p => .tup [.str p.1, .str p.2]) = pd at *
    cases nx with
    | none =>
      have lc := due_lc hS hl l none (i := 9) (sl := [some (.obj n), some (.tup [.str "page", .str l, .int k]), some (.tup [.str "page", pd, .non]), some (.str "page"), some (.str l), some (.int k), some pd, some .non, none, none]) (tt := mAnd (mBl (mBin fGe (mVar 9) (mVar 4))) (mOr (mBl (mBin fIs (mVar 7) (mC .non))) (mBl (mBin fLt (mVar 9) (mVar 7))))) (el := mTup (mCons (mVar 9) (mCons (mIx (mVar 0) (mVar 9)) mNil))) (by simp) (fun z S2 => by cases q : ltS z l <;> simp (config := { implicitDefEqProofs := false }) [q]) (fun z v S2 h2 e => by simp (config := { implicitDefEqProofs := false }) [h2, e])
      have ds := due_sm hm hl l none
      have eq := fun S2 => eqS_sm (S := S2) hps ds
      have ll : ((dueF m l none).map (pr1 m)).length = (dueF m l none).length := List.length_map ..
      have pe : pfB m l k (.tup [.str "page", pd, .non]) = (decide ((dueF m l none).length ≤ k) && eqD pd (.tup ((dueF m l none).map (pr1 m)))) := rfl
      generalize (dueF m l none).map (pr1 m) = dd at *
      refine ⟨[.lst dd], ?_⟩
      have kk : (S ++ [O.lst dd])[S.length]? = some (.lst dd) := by simp
      unfold hiD
      rw [pe]
      by_cases q : (dueF m l none).length ≤ k
      · have q' : ((dueF m l none).length : Int) ≤ k := by omega
        simp (config := { implicitDefEqProofs := false }) [Op.d, gsCons, gsNil, V_page_fits, m_page_fits, -fnSorted_ev, so, wkA, lc, kk, ll, q, q', eq]
      · have q' : ¬ ((dueF m l none).length : Int) ≤ k := by omega
        simp (config := { implicitDefEqProofs := false }) [Op.d, gsCons, gsNil, V_page_fits, m_page_fits, -fnSorted_ev, so, wkA, lc, kk, ll, q, q', eq]
    | some z =>
      have lc := due_lc hS hl l (some z) (i := 9) (sl := [some (.obj n), some (.tup [.str "page", .str l, .int k]), some (.tup [.str "page", pd, .str z]), some (.str "page"), some (.str l), some (.int k), some pd, some (.str z), none, none]) (tt := mAnd (mBl (mBin fGe (mVar 9) (mVar 4))) (mOr (mBl (mBin fIs (mVar 7) (mC .non))) (mBl (mBin fLt (mVar 9) (mVar 7))))) (el := mTup (mCons (mVar 9) (mCons (mIx (mVar 0) (mVar 9)) mNil))) (by simp) (fun y S2 => by cases q : ltS y l <;> cases q2 : ltS y z <;> simp (config := { implicitDefEqProofs := false }) [q, q2]) (fun y v S2 h2 e => by simp (config := { implicitDefEqProofs := false }) [h2, e])
      have ds := due_sm hm hl l (some z)
      have eq := fun S2 => eqS_sm (S := S2) hps ds
      have ll : ((dueF m l (some z)).map (pr1 m)).length = (dueF m l (some z)).length := List.length_map ..
      have pe : pfB m l k (.tup [.str "page", pd, .str z]) = (ltS l z && (decide ((dueF m l (some z)).length ≤ k) && eqD pd (.tup ((dueF m l (some z)).map (pr1 m))))) := rfl
      generalize (dueF m l (some z)).map (pr1 m) = dd at *
      have kk : (S ++ [O.lst dd])[S.length]? = some (.lst dd) := by simp
      unfold hiD
      rw [pe]
      cases q0 : ltS l z with
      | false =>
        exact ⟨[], by rw [List.append_nil]; simp (config := { implicitDefEqProofs := false }) [Op.d, gsCons, gsNil, V_page_fits, m_page_fits, q0]⟩
      | true =>
        refine ⟨[.lst dd], ?_⟩
        by_cases q : (dueF m l (some z)).length ≤ k
        · have q' : ((dueF m l (some z)).length : Int) ≤ k := by omega
          simp (config := { implicitDefEqProofs := false }) [Op.d, gsCons, gsNil, V_page_fits, m_page_fits, -fnSorted_ev, q0, so, wkA, lc, kk, ll, q, q', eq]
        · have q' : ¬ ((dueF m l (some z)).length : Int) ≤ k := by omega
          simp (config := { implicitDefEqProofs := false }) [Op.d, gsCons, gsNil, V_page_fits, m_page_fits, -fnSorted_ev, q0, so, wkA, lc, kk, ll, q, q', eq]
theorem lans_np {S : Store} {n : Nat} {m : List (Str × D)} (hS : S[n]? = some (.dct (toS m))) (hm : goodM m) {o : Op} (ho : ∀ l k, o ≠ .page l k) (x : Int) : V__law_answer [.obj n, o.d, .int x] S = .ok (ansOf m .non o) S := by
  cases o with
  | page l k => exact absurd rfl (ho l k)
  | put k v => simp (config := { implicitDefEqProofs := false }) [Op.d, V__law_answer, m__law_answer, ansOf]
  | get k =>
    cases hg : getM m k with
    | none => simp (config := { implicitDefEqProofs := false }) [Op.d, V__law_answer, m__law_answer, inS_obj _ _ _ _ hS, hg, ansOf]
    | some v => simp (config := { implicitDefEqProofs := false }) [Op.d, V__law_answer, m__law_answer, hS, inS_obj _ _ _ _ hS, hg, ansOf]
  | drop k =>
    cases hg : getM m k with
    | none => simp (config := { implicitDefEqProofs := false }) [Op.d, V__law_answer, m__law_answer, inS_obj _ _ _ _ hS, hg, ansOf]
    | some v => simp (config := { implicitDefEqProofs := false }) [Op.d, V__law_answer, m__law_answer, hS, inS_obj _ _ _ _ hS, hg, ansOf]
  | swap k o v =>
    cases hg : getM m k with
    | none => simp (config := { implicitDefEqProofs := false }) [Op.d, V__law_answer, m__law_answer, inS_obj _ _ _ _ hS, hg, ansOf]
    | some d =>
      obtain ⟨w, e, _⟩ := hm.at (z := k) (List.mem_map.mpr ⟨_, getM_mem hg, rfl⟩)
      rw [hg] at e; cases e
      by_cases q : w = o
      · subst q; simp (config := { implicitDefEqProofs := false }) [Op.d, V__law_answer, m__law_answer, hS, inS_obj _ _ _ _ hS, hg, ansOf]
      · simp (config := { implicitDefEqProofs := false }) [Op.d, V__law_answer, m__law_answer, hS, inS_obj _ _ _ _ hS, hg, ansOf, q]
theorem isV_len {v : Str} (h : isV (.str v) = true) : v.length ≤ 40 := by
  obtain ⟨y, e, h⟩ := isV_str h; cases e; exact h
theorem isK_len {v : Str} (h : isK (.str v) = true) : v.length ≤ 8 := by
  obtain ⟨y, e, h, _⟩ := isK_str h; cases e; omega
theorem ans_np {m : List (Str × D)} (hm : goodM m) {o : Op} (ho : ∀ l k, o ≠ .page l k) (high : D) : AnsD (ansOf m high o) := by
  have kl : ∀ s ∈ ["none", "done", "value", "other"], (Str.ofString s).length ≤ 1000 := by decide +kernel
  have g1 := kl "none" (by simp); have g2 := kl "done" (by simp); have g3 := kl "value" (by simp); have g4 := kl "other" (by simp)
  have vl : ∀ {k : Str} {d : D}, getM m k = some d → ∃ w, d = .str w ∧ w.length ≤ 1000 := fun {k d} hg => by
    obtain ⟨w, e, _, hv⟩ := hm.at (z := k) (List.mem_map.mpr ⟨_, getM_mem hg, rfl⟩)
    rw [hg] at e; cases e
    exact ⟨w, rfl, by have := isV_len hv; omega⟩
  cases o with
  | page l k => exact absurd rfl (ho l k)
  | put k v => exact .a1 _ g2
  | get k =>
    unfold ansOf
    dsimp only
    cases hg : getM m k with
    | none => exact .a1 _ g1
    | some v => obtain ⟨w, rfl, hw⟩ := vl hg; exact .a2 _ _ g3 hw
  | drop k =>
    unfold ansOf
    dsimp only
    cases hg : getM m k with
    | none => exact .a1 _ g1
    | some v => exact .a1 _ g2
  | swap k o v =>
    unfold ansOf
    dsimp only
    cases hg : getM m k with
    | none => exact .a1 _ g1
    | some d =>
      obtain ⟨w, rfl, hw⟩ := vl hg
      dsimp only
      split
      · exact .a1 _ g2
      · exact .a2 _ _ g4 hw
def fitB (m : List (Str × D)) (o : Op) (a : D) : Bool := match o with
  | .page l n => pfB m l n a
  | o => eqD a (ansOf m .non o)
theorem fitB_np {m : List (Str × D)} {o : Op} (ho : ∀ l k, o ≠ .page l k) (a : D) : fitB m o a = eqD a (ansOf m .non o) := by
  cases o with
  | page l k => exact absurd rfl (ho l k)
  | _ => rfl
theorem lfit_run {S : Store} {n : Nat} {m : List (Str × D)} (hS : S[n]? = some (.dct (toS m))) (hm : goodM m) (hl : m.length ≤ 1000) (o : Op) {a : D} (ha : AnsD a) : ∃ T, V__law_fits [o.d, a, .obj n] S = .ok (.bl (fitB m o a)) (S ++ T) := by
  by_cases hp : ∃ l k, o = .page l k
  · obtain ⟨l, k, rfl⟩ := hp
    have so := sorted_toS false S n m hS (by omega)
    show ∃ T, V__law_fits [(Op.page l k).d, a, .obj n] S = .ok (.bl (pfB m l k a)) (S ++ T)
    cases ha with
    | a1 w h => exact ⟨[], by rw [List.append_nil]; simp (config := { implicitDefEqProofs := false }) [Op.d, V__law_fits, m__law_fits, pfB]⟩
    | a2 w v h1 h2 => exact ⟨[], by rw [List.append_nil]; simp (config := { implicitDefEqProofs := false }) [Op.d, V__law_fits, m__law_fits, pfB]⟩
    | pg ps nx h1 h2 h3 =>
      have hps : Sm 2 (.tup (ps.map fun p => .tup [.str p.1, .str p.2])) := by
        refine ⟨by simp; omega, fun p hp => ?_⟩
        obtain ⟨q, hq, rfl⟩ := List.mem_map.mp hp
        have := h2 q hq
        simp; omega
      generalize D.tup (ps.map fun p => .tup [.str p.1, .str p.2]) = pd at *
      cases nx with
      | none =>
        have lc := due_lc hS hl l none (i := 5) (sl := [some (.tup [.str "page", .str l, .int k]), some (.tup [.str "page", pd, .non]), some (.obj n), some .non, none, none]) (tt := mAnd (mBl (mBin fGe (mVar 5) (mIx (mVar 0) (mC (.int 1))))) (mOr (mBl (mBin fIs (mVar 3) (mC .non))) (mBl (mBin fLt (mVar 5) (mVar 3))))) (el := mTup (mCons (mVar 5) (mCons (mIx (mVar 2) (mVar 5)) mNil))) (by simp) (fun z S2 => by cases q : ltS z l <;> simp (config := { implicitDefEqProofs := false }) [q]) (fun z v S2 h2 e => by simp (config := { implicitDefEqProofs := false }) [h2, e])
        have ds := due_sm hm hl l none
        have eq := fun S2 => eqS_sm (S := S2) hps ds
        have ll : ((dueF m l none).map (pr1 m)).length = (dueF m l none).length := List.length_map ..
        have pe : pfB m l k (.tup [.str "page", pd, .non]) = (decide ((dueF m l none).length ≤ k) && eqD pd (.tup ((dueF m l none).map (pr1 m)))) := rfl
        generalize (dueF m l none).map (pr1 m) = dd at *
        refine ⟨[.lst dd], ?_⟩
        have kk : (S ++ [O.lst dd])[S.length]? = some (.lst dd) := by simp
        unfold hiD
        rw [pe]
        by_cases q : (dueF m l none).length ≤ k
        · have q' : ((dueF m l none).length : Int) ≤ k := by omega
          simp (config := { implicitDefEqProofs := false }) [Op.d, V__law_fits, m__law_fits, -fnSorted_ev, so, wkA, lc, kk, ll, q, q', eq]
        · have q' : ¬ ((dueF m l none).length : Int) ≤ k := by omega
          simp (config := { implicitDefEqProofs := false }) [Op.d, V__law_fits, m__law_fits, -fnSorted_ev, so, wkA, lc, kk, ll, q, q', eq]
      | some z =>
        have lc := due_lc hS hl l (some z) (i := 5) (sl := [some (.tup [.str "page", .str l, .int k]), some (.tup [.str "page", pd, .str z]), some (.obj n), some (.str z), none, none]) (tt := mAnd (mBl (mBin fGe (mVar 5) (mIx (mVar 0) (mC (.int 1))))) (mOr (mBl (mBin fIs (mVar 3) (mC .non))) (mBl (mBin fLt (mVar 5) (mVar 3))))) (el := mTup (mCons (mVar 5) (mCons (mIx (mVar 2) (mVar 5)) mNil))) (by simp) (fun y S2 => by cases q : ltS y l <;> cases q2 : ltS y z <;> simp (config := { implicitDefEqProofs := false }) [q, q2]) (fun y v S2 h2 e => by simp (config := { implicitDefEqProofs := false }) [h2, e])
        have ds := due_sm hm hl l (some z)
        have eq := fun S2 => eqS_sm (S := S2) hps ds
        have ll : ((dueF m l (some z)).map (pr1 m)).length = (dueF m l (some z)).length := List.length_map ..
        have pe : pfB m l k (.tup [.str "page", pd, .str z]) = (ltS l z && (decide ((dueF m l (some z)).length ≤ k) && eqD pd (.tup ((dueF m l (some z)).map (pr1 m))))) := rfl
        generalize (dueF m l (some z)).map (pr1 m) = dd at *
        have kk : (S ++ [O.lst dd])[S.length]? = some (.lst dd) := by simp
        unfold hiD
        rw [pe]
        cases q0 : ltS l z with
        | false =>
          exact ⟨[], by rw [List.append_nil]; simp (config := { implicitDefEqProofs := false }) [Op.d, V__law_fits, m__law_fits, q0]⟩
        | true =>
          refine ⟨[.lst dd], ?_⟩
          by_cases q : (dueF m l (some z)).length ≤ k
          · have q' : ((dueF m l (some z)).length : Int) ≤ k := by omega
            simp (config := { implicitDefEqProofs := false }) [Op.d, V__law_fits, m__law_fits, -fnSorted_ev, q0, so, wkA, lc, kk, ll, q, q', eq]
          · have q' : ¬ ((dueF m l (some z)).length : Int) ≤ k := by omega
            simp (config := { implicitDefEqProofs := false }) [Op.d, V__law_fits, m__law_fits, -fnSorted_ev, q0, so, wkA, lc, kk, ll, q, q', eq]
  · have ho : ∀ l k, o ≠ .page l k := fun l k e => hp ⟨l, k, e⟩
    refine ⟨[], ?_⟩
    rw [List.append_nil, fitB_np ho]
    have an := lans_np hS hm ho 1
    have eq := eqS_sm S ha.sm (ans_np hm ho .non).sm
    generalize ansOf m .non o = b at *
    cases o with
    | page l k => exact absurd rfl (ho l k)
    | put k v => simp (config := { implicitDefEqProofs := false }) [Op.d] at an; simp (config := { implicitDefEqProofs := false }) [Op.d, V__law_fits, m__law_fits, an, eq]
    | get k => simp (config := { implicitDefEqProofs := false }) [Op.d] at an; simp (config := { implicitDefEqProofs := false }) [Op.d, V__law_fits, m__law_fits, an, eq]
    | drop k => simp (config := { implicitDefEqProofs := false }) [Op.d] at an; simp (config := { implicitDefEqProofs := false }) [Op.d, V__law_fits, m__law_fits, an, eq]
    | swap k x v => simp (config := { implicitDefEqProofs := false }) [Op.d] at an; simp (config := { implicitDefEqProofs := false }) [Op.d, V__law_fits, m__law_fits, an, eq]
end L_k70
namespace L_k70
open PySem PySem.Spec PyProof.Rows L2 BS
def itemsOf (E : List Evt) : List (Str × D) := E.foldl (fun m e => match e with
    | .did _ _ _ _ o => newM m o
    | _ => m) []
theorem itemsOf_snoc (E : List Evt) (e : Evt) : itemsOf (E ++ [e]) = (match e with
    | .did _ _ _ _ o => newM (itemsOf E) o
    | _ => itemsOf E) := by unfold itemsOf; rw [List.foldl_append]; cases e <;> rfl
theorem itemsOf_good {E : List Evt} (hE : ∀ e ∈ E, e.ok) : goodM (itemsOf E) ∧ (itemsOf E).length ≤ E.length := by
  induction E using snocRec with
  | nil => exact ⟨⟨.nil, fun p hp => nomatch hp⟩, Nat.le_refl _⟩
  | append_singleton E e ih =>
    obtain ⟨i1, i2⟩ := ih fun e he => hE e (by simp [he])
    have he := hE e (by simp)
    rw [itemsOf_snoc, List.length_append, List.length_singleton]
    cases e with
    | did t s c n o => exact ⟨newM_good i1 he, Nat.le_trans (newM_len _ _) (by omega)⟩
    | _ => exact ⟨i1, by dsimp only; omega⟩
abbrev DnL := List (TKey × (Op × List (Str × D)))
def findA (L : DnL) (k : TKey) : Option (Op × List (Str × D)) := (L.find? fun p => decide (p.1 = k)).map (·.2)
theorem findA_app (L M : DnL) (k : TKey) : findA (L ++ M) k = (findA L k).or (findA M k) := by
  unfold findA
  rw [List.find?_append]
  cases L.find? fun p => decide (p.1 = k) <;> rfl
theorem findA_one (k j : TKey) (x : Op × List (Str × D)) : findA [(k, x)] j = if k = j then some x else none := by
  unfold findA
  by_cases q : k = j
  · rw [if_pos q, List.find?_cons_of_pos (by simpa using q)]; rfl
  · rw [if_neg q, List.find?_cons_of_neg (by simpa using q)]; rfl
def doneS (p : DnL × List (Str × D)) (e : Evt) : DnL × List (Str × D) := match e with
  | .did _ _ c n o => (if (findA p.1 (tk2 c n)).isSome = true then p.1 else p.1 ++ [(tk2 c n, (o, p.2))], newM p.2 o)
  | _ => p
def doneA (E : List Evt) : DnL := (E.foldl doneS ([], [])).1
theorem doneA_snd (E : List Evt) : (E.foldl doneS ([], [])).2 = itemsOf E := by
  induction E using snocRec with
  | nil => rfl
  | append_singleton E e ih =>
    rw [List.foldl_append, itemsOf_snoc, ← ih]
    cases e <;> rfl
theorem doneA_snoc (E : List Evt) (e : Evt) : doneA (E ++ [e]) = (match e with
    | .did _ _ c n o => if (findA (doneA E) (tk2 c n)).isSome = true then doneA E else doneA E ++ [(tk2 c n, (o, itemsOf E))]
    | _ => doneA E) := by
  unfold doneA
  rw [List.foldl_append]
  cases e with
  | did t s c n o => rw [← doneA_snd]; rfl
  | _ => rfl
def ansV (E : List Evt) (k : Nat) : Option D := match E[k]? with
  | some (.acc _ c n a) => match findA (doneA (E.take k)) (tk2 c n) with
    | none => some (.tup [.str "missing", .int c, .int n])
    | some (o, m) => if fitB m o a = true then none else some (.tup [.str "answer", .int c, .int n])
  | _ => none
def Evt.ok2 : Evt → Prop
  | .acc _ _ _ a => AnsD a
  | e => e.ok
theorem Evt.ok2.ok {e : Evt} (h : e.ok2) : e.ok := by
  cases e with
  | acc t c n a => exact AnsD.sm h
  | _ => exact h
theorem findA_ok {E : List Evt} (hE : ∀ e ∈ E, e.ok) {k : TKey} {o : Op} {m : List (Str × D)} (h : findA (doneA E) k = some (o, m)) : o.ok ∧ goodM m ∧ m.length ≤ E.length := by
  induction E using snocRec with
  | nil => cases h
  | append_singleton E e ih =>
    have ihE : ∀ e ∈ E, e.ok := fun e he => hE e (by simp [he])
    have he := hE e (by simp)
    obtain ⟨g1, g2⟩ := itemsOf_good ihE
    rw [List.length_append, List.length_singleton]
    have old : findA (doneA E) k = some (o, m) → o.ok ∧ goodM m ∧ m.length ≤ E.length + 1 := fun h => by
      obtain ⟨h1, h2, h3⟩ := ih ihE h
      exact ⟨h1, h2, by omega⟩
    rw [doneA_snoc] at h
    cases e with
    | did t s c n o' =>
      dsimp only at h
      split at h
      · exact old h
      · rw [findA_app, findA_one] at h
        cases q : findA (doneA E) k with
        | some x => rw [q, Option.some_or] at h; rw [q] at old; exact old h
        | none =>
          rw [q, Option.none_or] at h
          split at h
          · cases h; exact ⟨he, g1, by omega⟩
          · cases h
    | _ => exact old h
/-- the table of the program -/
def DnR (S : Store) (n1 n2 : Nat) : List (TKey × D) → DnL → Prop := Paired fun kv ab => kv.1 = ab.1 ∧ ∃ j, j ≠ n1 ∧ j ≠ n2 ∧ kv.2 = .tup [ab.2.1.d, ansOf ab.2.2 .non ab.2.1, .obj j] ∧ S[j]? = some (.dct (toS ab.2.2))
theorem DnR.mono {S S' : Store} {n1 n2 : Nat} {kvs : List (TKey × D)} {L : DnL} (h : DnR S n1 n2 kvs L) (hs : ∀ i x, i ≠ n1 → i ≠ n2 → S[i]? = some x → S'[i]? = some x) : DnR S' n1 n2 kvs L :=
  Paired.mapP h fun _ _ z => ⟨z.1, let ⟨j, a, b, c, d⟩ := z.2; ⟨j, a, b, c, hs j _ a b d⟩⟩
theorem DnR.get {S : Store} {n1 n2 : Nat} (k : TKey) : ∀ {kvs : List (TKey × D)} {L : DnL}, DnR S n1 n2 kvs L → (getM kvs k = none ∧ findA L k = none) ∨ ∃ o m j, findA L k = some (o, m) ∧ getM kvs k = some (.tup [o.d, ansOf m .non o, .obj j]) ∧ S[j]? = some (.dct (toS m))
  | _, _, .nil => .inl ⟨rfl, rfl⟩
  | p :: kvs, q :: L, .cons r t => by
    by_cases e : q.1 = k
    · obtain ⟨j, _, _, h1, h2⟩ := r.2
      refine .inr ⟨q.2.1, q.2.2, j, ?_, ?_, h2⟩
      · unfold findA; rw [List.find?_cons_of_pos (by simpa using e)]; rfl
      · rw [getM_cons, if_pos (r.1.trans e), h1]
    · rcases DnR.get k t with ⟨h1, h2⟩ | ⟨o, m, j, h1, h2, h3⟩
      · refine .inl ⟨by rw [getM_cons, if_neg (fun z => e (r.1.symm.trans z))]; exact h1, ?_⟩
        unfold findA at h2 ⊢; rw [List.find?_cons_of_neg (by simpa using e)]; exact h2
      · refine .inr ⟨o, m, j, ?_, by rw [getM_cons, if_neg (fun z => e (r.1.symm.trans z))]; exact h2, h3⟩
        unfold findA at h1 ⊢; rw [List.find?_cons_of_neg (by simpa using e)]; exact h1
theorem paired_snoc {α β : Type} {R : α → β → Prop} {l : List α} {m : List β} {a : α} {b : β} (h : Paired R l m) (r : R a b) : Paired R (l ++ [a]) (m ++ [b]) := paired_app h (.cons r .nil)
theorem putM_new {κ : Type} [DecidableEq κ] {m : List (κ × D)} {k : κ} (h : getM m k = none) (v : D) : putM m k v = m ++ [(k, v)] := by
  have h := getM_none.mp h
  unfold putM
  rw [if_neg]
  intro q
  obtain ⟨p, hp, e⟩ := List.any_eq_true.mp q
  exact h (List.mem_map.mpr ⟨p, hp, by simpa using e⟩)
theorem DnR.len {S : Store} {n1 n2 : Nat} {kvs : List (TKey × D)} {L : DnL} (h : DnR S n1 n2 kvs L) : kvs.length = L.length := Paired.length h
theorem doneA_len (E : List Evt) : (doneA E).length ≤ E.length := by
  induction E using snocRec with
  | nil => exact Nat.le_refl _
  | append_singleton E e ih =>
    rw [doneA_snoc, List.length_append, List.length_singleton]
    cases e with
    | did t s c n o =>
      dsimp only
      split
      · omega
      · rw [List.length_append, List.length_singleton]; omega
    | _ => dsimp only; omega
/-- one event in answer_fault -/
theorem af_turn {E : List Evt} (hE : ∀ e ∈ E, e.ok2) (hl : E.length ≤ 100) {k : Nat} {e : Evt} (he : E[k]? = some e) {S : Store} {n1 n2 : Nat} {kvs : List (TKey × D)} (h1 : S[n1]? = some (.dct (toS (itemsOf (E.take k))))) (h2 : TabAt S n2 kvs) (hr : DnR S n1 n2 kvs (doneA (E.take k))) (hne : n1 ≠ n2) (x0 x3 x4 x5 x6 x7 : Option D) :
    (∃ d T, ansV E k = some d ∧ (gNm 3 e.d ⟨[x0, some (.obj n1), some (.obj n2), x3, x4, x5, x6, x7], []⟩ S).seq lb_answer_fault_0 = .rt d (S ++ T)) ∨
    (ansV E k = none ∧ ∃ S' y4 y5 y6 y7 kvs', (gNm 3 e.d ⟨[x0, some (.obj n1), some (.obj n2), x3, x4, x5, x6, x7], []⟩ S).seq lb_answer_fault_0 = .nx ⟨[x0, some (.obj n1), some (.obj n2), some e.d, y4, y5, y6, y7], []⟩ S' ∧ S'[n1]? = some (.dct (toS (itemsOf (E.take (k + 1))))) ∧ TabAt S' n2 kvs' ∧ DnR S' n1 n2 kvs' (doneA (E.take (k + 1))) ∧ ∀ i x, i ≠ n1 → i ≠ n2 → S[i]? = some x → S'[i]? = some x) := by
  have hk := (List.getElem?_eq_some_iff.mp he).1
  have et : E.take (k + 1) = E.take k ++ [e] := by rw [List.take_succ, he]; rfl
  have hT : ∀ e ∈ E.take k, e.ok := fun e he => (hE e (List.mem_of_mem_take he)).ok
  obtain ⟨gm, lm⟩ := itemsOf_good hT
  have lt : (E.take k).length ≤ 100 := by rw [List.length_take]; omega
  have n1l := (List.getElem?_eq_some_iff.mp h1).1
  have n2l := h2.lt
  have dr := does_run e
  have okE := hE e (List.mem_of_getElem? he)
  cases e with
  | call t c n o =>
    refine .inr ⟨by unfold ansV; rw [he], S, x4, x5, x6, x7, kvs, ?_, by rw [et, itemsOf_snoc]; exact h1, h2, by rw [et, doneA_snoc]; exact hr, fun _ _ _ _ h => h⟩
    simp only [Evt.d] at dr ⊢
    generalize o.d = od at *
    simp (config := { implicitDefEqProofs := false }) [lb_answer_fault_0, dr]
  | gone t =>
    refine .inr ⟨by unfold ansV; rw [he], S, x4, x5, x6, x7, kvs, ?_, by rw [et, itemsOf_snoc]; exact h1, h2, by rw [et, doneA_snoc]; exact hr, fun _ _ _ _ h => h⟩
    simp only [Evt.d] at dr ⊢
    simp (config := { implicitDefEqProofs := false }) [lb_answer_fault_0, dr]
  | did t s c n o =>
    have okE : o.ok := okE
    have h1a := at_ext h1 [.dct (toS (itemsOf (E.take k)))]
    have ap := apply_run h1a gm (by omega) o .non
    obtain ⟨S2, hS2⟩ : ∃ S2 : Store, S2 = (S ++ [O.dct (toS (itemsOf (E.take k)))]).set n1 (.dct (toS (newM (itemsOf (E.take k)) o))) ++ jnkA (itemsOf (E.take k)) o := ⟨_, rfl⟩
    rw [← hS2] at ap
    have keep : ∀ i x, i ≠ n1 → S[i]? = some x → S2[i]? = some x := fun i x hi hx => by
      rw [hS2]
      refine at_ext ?_ _
      rw [List.getElem?_set_ne (fun z => hi z.symm)]
      exact at_ext hx _
    have k1 : S2[n1]? = some (.dct (toS (newM (itemsOf (E.take k)) o))) := by
      rw [hS2]
      exact at_ext (List.getElem?_set_self (by rw [List.length_append]; omega)) _
    have kB : S2[S.length]? = some (.dct (toS (itemsOf (E.take k)))) := by
      rw [hS2]
      refine at_ext ?_ _
      rw [List.getElem?_set_ne (by omega)]
      simp
    have t2 : TabAt S2 n2 kvs := by
      obtain ⟨ob, a, b⟩ := h2
      exact ⟨ob, keep n2 ob (fun z => hne z.symm) a, b⟩
    have r2 : DnR S2 n1 n2 kvs (doneA (E.take k)) := hr.mono fun i x a _ c => keep i x a c
    have nin := t2.fNotIn (tkOf2 c n)
    have lk : kvs.length < sizeLine := by rw [hr.len]; have := doneA_len (E.take k); have := sz; omega
    have ix0 : S[n1]? = some (.dct (toS (itemsOf (E.take k)))) := h1
    rcases r2.get (tk2 c n) with ⟨g1, g2⟩ | ⟨o', m', j, g1, g2, g3⟩
    · have st := t2.setS (tkOf2 c n) lk (.tup [o.d, ansOf (itemsOf (E.take k)) .non o, .obj S.length])
      rw [g1] at nin
      refine .inr ⟨by unfold ansV; rw [he], S2.set n2 (.dkt (putM kvs (tk2 c n) (.tup [o.d, ansOf (itemsOf (E.take k)) .non o, .obj S.length]))), some (.tup [.int c, .int n]), some o.d, some (.obj S.length), some (ansOf (itemsOf (E.take k)) .non o), putM kvs (tk2 c n) (.tup [o.d, ansOf (itemsOf (E.take k)) .non o, .obj S.length]), ?_, ?_, t2.put _, ?_, fun i x a b h => ?_⟩
      · simp only [Evt.d] at dr ⊢
        clear keep hS2 k1 kB hr r2
        generalize ansOf (itemsOf (E.take k)) .non o = an at *
        generalize newM (itemsOf (E.take k)) o = nw at *
        generalize hm1 : toS (itemsOf (E.take k)) = m1 at *
        generalize o.d = od at *
        generalize hS1 : S ++ [O.dct m1] = S1 at *
        simp (config := { implicitDefEqProofs := false }) [lb_answer_fault_0, dr, h1, hS1, ap, nin, st]
      · rw [et, itemsOf_snoc, List.getElem?_set_ne (fun z => hne z.symm)]
        exact k1
      · rw [et, doneA_snoc]
        dsimp only
        rw [g2, if_neg (by simp), putM_new g1]
        refine paired_snoc (DnR.mono r2 fun i x a b h => by rw [List.getElem?_set_ne (fun z => b z.symm)]; exact h) ⟨rfl, S.length, by omega, by omega, rfl, ?_⟩
        rw [List.getElem?_set_ne (by omega)]
        exact kB
      · rw [List.getElem?_set_ne (fun z => b z.symm)]
        exact keep i x a h
    · rw [g2] at nin
      refine .inr ⟨by unfold ansV; rw [he], S2, some (.tup [.int c, .int n]), some o.d, some (.obj S.length), some (ansOf (itemsOf (E.take k)) .non o), kvs, ?_, ?_, t2, ?_, fun i x a b h => keep i x a h⟩
      · simp only [Evt.d] at dr ⊢
        clear keep hS2 k1 kB hr r2
        generalize ansOf (itemsOf (E.take k)) .non o = an at *
        generalize newM (itemsOf (E.take k)) o = nw at *
        generalize hm1 : toS (itemsOf (E.take k)) = m1 at *
        generalize o.d = od at *
        generalize hS1 : S ++ [O.dct m1] = S1 at *
        simp (config := { implicitDefEqProofs := false }) [lb_answer_fault_0, dr, h1, hS1, ap, nin]
      · rw [et, itemsOf_snoc]; exact k1
      · rw [et, doneA_snoc]
        dsimp only
        rw [g1, if_pos (by rfl)]
        exact r2
  | acc t c n a =>
    have ha : AnsD a := okE
    have nin := h2.fNotIn (tkOf2 c n)
    have ix := h2.ix (tkOf2 c n)
    have keepR : DnR S n1 n2 kvs (doneA (E.take (k + 1))) := by rw [et, doneA_snoc]; exact hr
    rcases hr.get (tk2 c n) with ⟨g1, g2⟩ | ⟨o, m, j, g1, g2, g3⟩
    · rw [g1] at nin
      refine .inl ⟨_, [], by unfold ansV; rw [he]; dsimp only; rw [g2], ?_⟩
      rw [List.append_nil]
      simp only [Evt.d] at dr ⊢
      clear keepR hr
      generalize a = ad at *
      simp (config := { implicitDefEqProofs := false }) [lb_answer_fault_0, dr, nin]
    · rw [g2] at nin ix
      obtain ⟨ho, hm, lm'⟩ := findA_ok hT g1
      have av : ansV E k = if fitB m o a = true then none else some (.tup [.str "answer", .int c, .int n]) := by unfold ansV; rw [he]; dsimp only; rw [g1]
      by_cases hp : ∃ l q, o = .page l q
      · obtain ⟨l, q, rfl⟩ := hp
        obtain ⟨T, pf⟩ := pf_run g3 hm (by omega) l q ha
        have av : ansV E k = if pfB m l q a = true then none else some (.tup [.str "answer", .int c, .int n]) := av
        cases hb : pfB m l q a with
        | false =>
          rw [hb, if_neg Bool.false_ne_true] at av
          rw [hb] at pf
          refine .inl ⟨_, T, av, ?_⟩
          simp only [Evt.d, Op.d] at dr ix pf ⊢
          clear keepR hr av ha okE
          generalize ansOf m .non (.page l q) = an at *
          generalize hS1 : S ++ T = S1 at *
          generalize a = ad at *
          simp (config := { implicitDefEqProofs := false }) [gsCons, gsNil, lb_answer_fault_0, dr, nin, ix, pf]
        | true =>
          rw [hb, if_pos rfl] at av
          rw [hb] at pf
          refine .inr ⟨av, S ++ T, some (.tup [.int c, .int n]), some (Op.page l q).d, some (.obj j), some (ansOf m .non (.page l q)), kvs, ?_, ?_, h2.ext T, keepR.mono fun i x _ _ h => at_ext h T, fun i x _ _ h => at_ext h T⟩
          · simp only [Evt.d, Op.d] at dr ix pf ⊢
            clear keepR hr av ha okE
            generalize ansOf m .non (.page l q) = an at *
            generalize hS1 : S ++ T = S1 at *
            generalize a = ad at *
            simp (config := { implicitDefEqProofs := false }) [gsCons, gsNil, lb_answer_fault_0, dr, nin, ix, pf]
          · rw [et, itemsOf_snoc]; exact at_ext h1 T
      · have hnp : ∀ l k, o ≠ .page l k := fun l k e => hp ⟨l, k, e⟩
        rw [fitB_np hnp] at av
        have eq := eqS_sm S ha.sm (ans_np hm hnp .non).sm
        have k0 : ∃ r w, w ≠ Str.ofString "page" ∧ o.d = .tup (.str w :: r) := by
          cases o with
          | page l q => exact absurd rfl (hnp l q)
          | get k => exact ⟨_, _, by decide +kernel, rfl⟩
          | put k v => exact ⟨_, _, by decide +kernel, rfl⟩
          | drop k => exact ⟨_, _, by decide +kernel, rfl⟩
          | swap k x v => exact ⟨_, _, by decide +kernel, rfl⟩
        obtain ⟨r, w, hw, ed⟩ := k0
        rw [ed] at ix
        cases hb : eqD a (ansOf m .non o) with
        | false =>
          rw [hb, if_neg Bool.false_ne_true] at av
          rw [hb] at eq
          refine .inl ⟨_, [], av, ?_⟩
          rw [List.append_nil]
          simp only [Evt.d] at dr ⊢
          clear keepR hr av ha okE
          generalize ansOf m .non o = an at *
          generalize a = ad at *
          simp (config := { implicitDefEqProofs := false }) [gsCons, gsNil, lb_answer_fault_0, dr, nin, ix, hw, eq]
        | true =>
          rw [hb, if_pos rfl] at av
          rw [hb] at eq
          refine .inr ⟨av, S, some (.tup [.int c, .int n]), some (.tup (.str w :: r)), some (.obj j), some (ansOf m .non o), kvs, ?_, by rw [et, itemsOf_snoc]; exact h1, h2, keepR, fun _ _ _ _ h => h⟩
          simp only [Evt.d] at dr ⊢
          clear keepR hr av ha okE
          generalize ansOf m .non o = an at *
          generalize a = ad at *
          simp (config := { implicitDefEqProofs := false }) [gsCons, gsNil, lb_answer_fault_0, dr, nin, ix, hw, eq]
end L_k70
namespace L_k70
open PySem PySem.Spec PyProof.Rows L2 BS
theorem af_run {E : List Evt} (hE : ∀ e ∈ E, e.ok2) (hl : E.length ≤ 100) (S : Store) : ∃ T, V_answer_fault [.lst (E.map Evt.d)] S = .ok (fstV (ansV E) E.length) (S ++ T) := by
  have key : (V_answer_fault [.lst (E.map Evt.d)] S).gives fun d S' => d = fstV (ansV E) E.length ∧ ∀ i, i < S.length → S'[i]? = S[i]? := by
    refine den_gives ?_
    show (m_answer_fault ⟨[some (.lst (E.map Evt.d)), none, none, none, none, none, none, none], []⟩ S).ends _ _
    unfold m_answer_fault
    have s1 : mSet 1 mDct ⟨[some (.lst (E.map Evt.d)), none, none, none, none, none, none, none], []⟩ S = .nx ⟨[some (.lst (E.map Evt.d)), some (.obj S.length), none, none, none, none, none, none], []⟩ (S ++ [.dct []]) := by
      generalize E.map Evt.d = ed at *
      simp (config := { implicitDefEqProofs := false })
    have s2 : mSet 2 mDct ⟨[some (.lst (E.map Evt.d)), some (.obj S.length), none, none, none, none, none, none], []⟩ (S ++ [.dct []]) = .nx ⟨[some (.lst (E.map Evt.d)), some (.obj S.length), some (.obj (S.length + 1)), none, none, none, none, none], []⟩ (S ++ [.dct []] ++ [.dct []]) := by
      generalize E.map Evt.d = ed at *
      simp (config := { implicitDefEqProofs := false })
    have it : iAny (mVar 0) ⟨[some (.lst (E.map Evt.d)), some (.obj S.length), some (.obj (S.length + 1)), none, none, none, none, none], []⟩ (S ++ [.dct []] ++ [.dct []]) = .ok ⟨E.map Evt.d, fun _ => True⟩ (S ++ [.dct []] ++ [.dct []]) := rfl
    rw [mSeq_ev, s1, RS.seq_nx, mSeq_ev, s2, RS.seq_nx, mSeq_ev, mFor_ev, it, BS.R.toS_ok]
    have k1 : (S ++ [O.dct []] ++ [O.dct []])[S.length]? = some (.dct (toS [])) := by simp
    have k2 : TabAt (S ++ [.dct []] ++ [.dct []]) (S.length + 1) [] := TabAt.nil (by simp)
    have kS : ∀ i, i < S.length → (S ++ [O.dct []] ++ [O.dct []])[i]? = S[i]? := fun i hi => by rw [List.append_assoc, List.getElem?_append_left hi]
    generalize S ++ [O.dct []] ++ [O.dct []] = S2 at *
    have keepI : ∀ {S' S'' : Store}, (∀ i, i < S.length → S'[i]? = S[i]?) → (∀ i x, i ≠ S.length → i ≠ S.length + 1 → S'[i]? = some x → S''[i]? = some x) → ∀ i, i < S.length → S''[i]? = S[i]? := fun {S' S''} h1 h2 i hi => by
      have e := List.getElem?_eq_getElem hi
      rw [e]
      exact h2 i _ (by omega) (by omega) (by rw [h1 i hi, e])
    refine ends_seq (forL_ends (fun k e S' => ∃ x3 x4 x5 x6 x7 kvs, e = ⟨[some (.lst (E.map Evt.d)), some (.obj S.length), some (.obj (S.length + 1)), x3, x4, x5, x6, x7], []⟩ ∧ S'[S.length]? = some (.dct (toS (itemsOf (E.take k)))) ∧ TabAt S' (S.length + 1) kvs ∧ DnR S' S.length (S.length + 1) kvs (doneA (E.take k)) ∧ (∀ j, j < k → ansV E j = none) ∧ ∀ i, i < S.length → S'[i]? = S[i]?) ⟨none, none, none, none, none, [], rfl, k1, k2, .nil, fun j hj => absurd hj (Nat.not_lt_zero j), kS⟩ (fun _ _ _ _ => True.intro) ?_ ?_)
    · rintro k d e S' hd ⟨x3, x4, x5, x6, x7, kvs, rfl, h1, h2, h3, hn, hs⟩
      rw [List.getElem?_map, Option.map_eq_some_iff] at hd
      obtain ⟨ev, hev, rfl⟩ := hd
      have hk := (List.getElem?_eq_some_iff.mp hev).1
      rcases af_turn hE hl hev h1 h2 h3 (by omega) (some (.lst (E.map Evt.d))) x3 x4 x5 x6 x7 with ⟨d, T, r1, r2⟩ | ⟨r1, S2, y4, y5, y6, y7, kvs', r2, r3, r4, r5, r6⟩
      · rw [r2, turns_rt]
        exact ⟨(fstV_at hk hn r1).symm, keepI hs fun i x _ _ h => at_ext h T⟩
      · refine turns_of_nx r2 ⟨_, _, _, _, _, kvs', rfl, r3, r4, r5, fun j hj => ?_, keepI hs r6⟩
        rcases Nat.lt_succ_iff_lt_or_eq.mp hj with z | z
        · exact hn j z
        · rw [z]; exact r1
    · rintro e S' ⟨x3, x4, x5, x6, x7, kvs, rfl, h1, h2, h3, hn, hs⟩
      rw [List.length_map] at hn
      simp (config := { implicitDefEqProofs := false })
      exact ⟨(fstV_none hn).symm, hs⟩
  obtain ⟨d, S', e, rfl, hs⟩ := gives_iff.mp key
  obtain ⟨T, rfl⟩ := pre_of hs
  exact ⟨T, e⟩
def firstOf (E : List Evt) (c n : Int) (k : Nat) : Option Nat := (List.range k).find? fun j => match E[j]? with
  | some e => e.isDid c n
  | none => false
theorem firstOf_succ {E : List Evt} {c n : Int} {k : Nat} {e : Evt} (h : E[k]? = some e) : firstOf E c n (k + 1) = (firstOf E c n k).or (if e.isDid c n = true then some k else none) := by
  unfold firstOf
  rw [List.range_succ, List.find?_append]
  congr 1
  cases q : e.isDid c n with
  | true => rw [List.find?_cons_of_pos (by rw [h]; exact q), if_pos rfl]
  | false => rw [List.find?_cons_of_neg (by rw [h]; simp [q]), if_neg Bool.false_ne_true]; rfl
theorem find_first {E : List Evt} (c n : Int) : ∀ {k : Nat}, k ≤ E.length → match firstOf E c n k with
    | none => findA (doneA (E.take k)) (tk2 c n) = none
    | some j => j < k ∧ ∃ t s o, E[j]? = some (.did t s c n o) ∧ findA (doneA (E.take k)) (tk2 c n) = some (o, itemsOf (E.take j))
  | 0, _ => rfl
  | k + 1, hk => by
    have ih := find_first (E := E) c n (k := k) (by omega)
    obtain ⟨e, he⟩ : ∃ e, E[k]? = some e := ⟨_, List.getElem?_eq_getElem (by omega)⟩
    have et : E.take (k + 1) = E.take k ++ [e] := by rw [List.take_succ, he]; rfl
    rw [firstOf_succ he, et, doneA_snoc]
    cases q : firstOf E c n k with
    | some j =>
      rw [q] at ih
      obtain ⟨h1, t, s, o, h2, h3⟩ := ih
      rw [Option.some_or]
      refine ⟨by omega, t, s, o, h2, ?_⟩
      cases e with
      | did t' s' c' n' o' =>
        dsimp only
        split
        · exact h3
        · rw [findA_app, h3, Option.some_or]
      | _ => exact h3
    | none =>
      rw [q] at ih
      rw [Option.none_or]
      have ih : findA (doneA (E.take k)) (tk2 c n) = none := ih
      cases e with
      | did t s c' n' o =>
        by_cases z : tk2 c' n' = tk2 c n
        · obtain ⟨rfl, rfl⟩ := tk2_inj.mp z
          have : Evt.isDid c' n' (.did t s c' n' o) = true := by simp [Evt.isDid]
          rw [this, if_pos rfl]
          dsimp only
          rw [ih, if_neg (by simp), findA_app, ih, Option.none_or, findA_one, if_pos rfl]
          exact ⟨by omega, t, s, o, he, rfl⟩
        · have : Evt.isDid c n (.did t s c' n' o) = false := by
            cases y : Evt.isDid c n (.did t s c' n' o) with
            | false => rfl
            | true =>
              simp only [Evt.isDid, Bool.and_eq_true, decide_eq_true_eq] at y
              exact absurd (tk2_inj.mpr y) z
          rw [this, if_neg Bool.false_ne_true]
          dsimp only
          split
          · exact ih
          · rw [findA_app, ih, Option.none_or, findA_one, if_neg z]
      | call t c' n' o => exact ih
      | gone t => exact ih
      | acc t c' n' a => exact ih
def ofNatO : Option Nat → D
  | none => .non
  | some j => .int j
/-- the law's inner loop -/
theorem la_turn {E : List Evt} {c n : Int} {t : Int} {a : D} {k j nb ne : Nat} {e : Evt} (hk : E[k]? = some (.acc t c n a)) (he : E[j]? = some e) {S : Store} (hn : S[ne]? = some (.lst (E.map Evt.d))) (x4 : Option D) :
    (gNm 4 (.int j) ⟨[some (.obj ne), some (.obj nb), some (.int k), some (ofNatO (firstOf E c n j)), x4], []⟩ S).seq lb__law_answers_0 = .nx ⟨[some (.obj ne), some (.obj nb), some (.int k), some (ofNatO (firstOf E c n (j + 1))), some (.int j)], []⟩ S := by
  have ix1 : atI (E.map Evt.d) (k : Int) = some (.tup [.str "accept", .int t, .int c, .int n, a]) := by rw [BS.atI_nat, List.getElem?_map, hk]; rfl
  have ix2 : (E.map Evt.d)[k]? = some (.tup [.str "accept", .int t, .int c, .int n, a]) := by rw [List.getElem?_map, hk]; rfl
  have iy1 : atI (E.map Evt.d) (j : Int) = some e.d := by rw [BS.atI_nat, List.getElem?_map, he]; rfl
  have iy2 : (E.map Evt.d)[j]? = some e.d := by rw [List.getElem?_map, he]; rfl
  rw [firstOf_succ he]
  generalize E.map Evt.d = ed at *
  generalize a = ad at *
  cases q : firstOf E c n j with
  | some i =>
    rw [Option.some_or]
    unfold ofNatO
    simp (config := { implicitDefEqProofs := false }) [lb__law_answers_0]
  | none =>
    rw [Option.none_or]
    cases e with
    | did t' s' c' n' o =>
      simp only [Evt.d] at iy1 iy2
      generalize o.d = od at *
      by_cases q1 : c' = c
      · by_cases q2 : n' = n
        · have : Evt.isDid c n (.did t' s' c' n' o) = true := by simp [Evt.isDid, q1, q2]
          rw [this, if_pos rfl]
          unfold ofNatO
          simp (config := { implicitDefEqProofs := false }) [lb__law_answers_0, hn, ix1, ix2, iy1, iy2, q1, q2]
        · have : Evt.isDid c n (.did t' s' c' n' o) = false := by simp [Evt.isDid, q2]
          rw [this, if_neg Bool.false_ne_true]
          unfold ofNatO
          simp (config := { implicitDefEqProofs := false }) [lb__law_answers_0, hn, ix1, ix2, iy1, iy2, q1, q2]
      · have : Evt.isDid c n (.did t' s' c' n' o) = false := by simp [Evt.isDid, q1]
        rw [this, if_neg Bool.false_ne_true]
        unfold ofNatO
        simp (config := { implicitDefEqProofs := false }) [lb__law_answers_0, hn, ix1, ix2, iy1, iy2, q1]
    | call t' c' n' o =>
      simp only [Evt.d] at iy1 iy2
      generalize o.d = od at *
      simp only [Evt.isDid, Bool.false_eq_true, if_false]
      unfold ofNatO
      simp (config := { implicitDefEqProofs := false }) [lb__law_answers_0, hn, ix1, ix2, iy1, iy2]
    | gone t' =>
      simp only [Evt.d] at iy1 iy2
      simp only [Evt.isDid, Bool.false_eq_true, if_false]
      unfold ofNatO
      simp (config := { implicitDefEqProofs := false }) [lb__law_answers_0, hn, ix1, ix2, iy1, iy2]
    | acc t' c' n' a' =>
      simp only [Evt.d] at iy1 iy2
      simp only [Evt.isDid, Bool.false_eq_true, if_false]
      unfold ofNatO
      simp (config := { implicitDefEqProofs := false }) [lb__law_answers_0, hn, ix1, ix2, iy1, iy2]
theorem la_inner {E : List Evt} {c n : Int} {t : Int} {a : D} {k nb ne : Nat} (hk : E[k]? = some (.acc t c n a)) {S : Store} (hn : S[ne]? = some (.lst (E.map Evt.d))) (x4 : Option D) :
    ∃ y4, forL (fun _ => True) (gNm 4) lb__law_answers_0 (BS.intsFrom 0 k) ⟨[some (.obj ne), some (.obj nb), some (.int k), some .non, x4], []⟩ S = .nx ⟨[some (.obj ne), some (.obj nb), some (.int k), some (ofNatO (firstOf E c n k)), y4], []⟩ S := by
  have lk := (List.getElem?_eq_some_iff.mp hk).1
  have : (forL (fun _ => True) (gNm 4) lb__law_answers_0 (BS.intsFrom 0 k) ⟨[some (.obj ne), some (.obj nb), some (.int k), some .non, x4], []⟩ S).ends (fun e S' => (∃ y4, e = ⟨[some (.obj ne), some (.obj nb), some (.int k), some (ofNatO (firstOf E c n k)), y4], []⟩) ∧ S' = S) (fun _ _ => False) := by
    refine forL_ends (fun j e S' => (∃ y4, e = ⟨[some (.obj ne), some (.obj nb), some (.int k), some (ofNatO (firstOf E c n j)), y4], []⟩) ∧ S' = S) ⟨⟨x4, rfl⟩, rfl⟩ (fun _ _ _ _ => True.intro) ?_ ?_
    · rintro j d e S' hd ⟨⟨y4, rfl⟩, rfl⟩
      obtain ⟨hj, rfl⟩ := ints_at hd
      rw [Int.zero_add]
      obtain ⟨e, he⟩ : ∃ e, E[j]? = some e := ⟨_, List.getElem?_eq_getElem (by omega)⟩
      exact turns_of_nx (la_turn (nb := nb) hk he hn y4) ⟨⟨some (.int j), rfl⟩, rfl⟩
    · rintro e S' ⟨⟨y4, rfl⟩, rfl⟩
      rw [intsFrom_len]
      exact ⟨⟨y4, rfl⟩, rfl⟩
  cases hr : forL (fun _ => True) (gNm 4) lb__law_answers_0 (BS.intsFrom 0 k) ⟨[some (.obj ne), some (.obj nb), some (.int k), some .non, x4], []⟩ S with
  | nx e S' =>
    rw [hr] at this
    simp only [ends_nx] at this
    obtain ⟨⟨y4, rfl⟩, rfl⟩ := this
    exact ⟨y4, rfl⟩
  | _ => rw [hr] at this; simp at this
/-- the items ahead of each event -/
def Befs (S : Store) (E : List Evt) (bs : List Nat) : Prop := bs.length = E.length ∧ ∀ (j i : Nat), bs[j]? = some i → S[i]? = some (.dct (toS (itemsOf (E.take j))))
theorem la_outer {E : List Evt} (hE : ∀ e ∈ E, e.ok2) (hl : E.length ≤ 100) {k nb ne : Nat} {bs : List Nat} {e : Evt} (he : E[k]? = some e) {S : Store} (hn : S[ne]? = some (.lst (E.map Evt.d))) (hb : S[nb]? = some (.lst (bs.map .obj))) (hB : Befs S E bs) (x2 x3 x4 : Option D) :
    (∃ d T, ansV E k = some d ∧ (gNm 2 (.int k) ⟨[some (.obj ne), some (.obj nb), x2, x3, x4], []⟩ S).seq lb__law_answers_1 = .rt d (S ++ T)) ∨
    (ansV E k = none ∧ ∃ T y3 y4, ((gNm 2 (.int k) ⟨[some (.obj ne), some (.obj nb), x2, x3, x4], []⟩ S).seq lb__law_answers_1 = .nx ⟨[some (.obj ne), some (.obj nb), some (.int k), y3, y4], []⟩ (S ++ T) ∨ (gNm 2 (.int k) ⟨[some (.obj ne), some (.obj nb), x2, x3, x4], []⟩ S).seq lb__law_answers_1 = .ct ⟨[some (.obj ne), some (.obj nb), some (.int k), y3, y4], []⟩ (S ++ T))) := by
  have lk := (List.getElem?_eq_some_iff.mp he).1
  have ix1 : atI (E.map Evt.d) (k : Int) = some e.d := by rw [BS.atI_nat, List.getElem?_map, he]; rfl
  have ix2 : (E.map Evt.d)[k]? = some e.d := by rw [List.getElem?_map, he]; rfl
  have hT : ∀ e ∈ E.take k, e.ok := fun e he => (hE e (List.mem_of_mem_take he)).ok
  cases e with
  | acc t c n a =>
    have ha : AnsD a := hE _ (List.mem_of_getElem? he)
    obtain ⟨y4, li⟩ := la_inner (nb := nb) he hn x4
    have ff := find_first (E := E) c n (Nat.le_of_lt lk)
    have rg : rngOk (k : Int) := rng_ok (by omega)
    cases q : firstOf E c n k with
    | none =>
      rw [q] at ff li
      have ff : findA (doneA (E.take k)) (tk2 c n) = none := ff
      refine .inl ⟨_, [], by unfold ansV; rw [he]; dsimp only; rw [ff], ?_⟩
      rw [List.append_nil]
      simp only [Evt.d, ofNatO] at ix1 ix2 li
      generalize E.map Evt.d = ed at *
      clear ha he
      generalize a = ad at *
      simp (config := { implicitDefEqProofs := false }) [lb__law_answers_1, hn, ix1, ix2, rg, li]
    | some j =>
      rw [q] at ff li
      obtain ⟨h1, t', s', o, h2, h3⟩ := ff
      obtain ⟨ho, hm, lm⟩ := findA_ok hT h3
      have iy1 : atI (E.map Evt.d) (j : Int) = some (Evt.did t' s' c n o).d := by rw [BS.atI_nat, List.getElem?_map, h2]; rfl
      have iy2 : (E.map Evt.d)[j]? = some (Evt.did t' s' c n o).d := by rw [List.getElem?_map, h2]; rfl
      obtain ⟨i, hi⟩ : ∃ i, bs[j]? = some i := ⟨_, List.getElem?_eq_getElem (by rw [hB.1]; omega)⟩
      have hS := hB.2 j i hi
      have ib1 : atI (bs.map D.obj) (j : Int) = some (.obj i) := by rw [BS.atI_nat, List.getElem?_map, hi]; rfl
      have ib2 : (bs.map D.obj)[j]? = some (.obj i) := by rw [List.getElem?_map, hi]; rfl
      have lt : (E.take k).length ≤ 100 := by rw [List.length_take]; omega
      obtain ⟨T, lf⟩ := lfit_run hS hm (by omega) o ha
      have av : ansV E k = if fitB (itemsOf (E.take j)) o a = true then none else some (.tup [.str "answer", .int c, .int n]) := by unfold ansV; rw [he]; dsimp only; rw [h3]
      simp only [Evt.d, ofNatO] at ix1 ix2 li iy1 iy2
      cases hfb : fitB (itemsOf (E.take j)) o a with
      | false =>
        rw [hfb, if_neg Bool.false_ne_true] at av
        rw [hfb] at lf
        refine .inl ⟨_, T, av, ?_⟩
        have hn2 := at_ext hn T
        generalize E.map Evt.d = ed at *
        generalize bs.map D.obj = bd at *
        clear ha he av hfb
        generalize o.d = od at *
        generalize a = ad at *
        generalize hS1 : S ++ T = S1 at *
        simp (config := { implicitDefEqProofs := false }) [lb__law_answers_1, hn, hn2, hb, ix1, ix2, iy1, iy2, ib1, ib2, rg, li, lf]
      | true =>
        rw [hfb, if_pos rfl] at av
        rw [hfb] at lf
        refine .inr ⟨av, T, some (.int j), y4, .inl ?_⟩
        generalize E.map Evt.d = ed at *
        generalize bs.map D.obj = bd at *
        clear ha he av hfb
        generalize o.d = od at *
        generalize a = ad at *
        generalize hS1 : S ++ T = S1 at *
        simp (config := { implicitDefEqProofs := false }) [lb__law_answers_1, hn, hb, ix1, ix2, iy1, iy2, ib1, ib2, rg, li, lf]
  | call t c n o =>
    refine .inr ⟨by unfold ansV; rw [he], [], x3, x4, .inr ?_⟩
    rw [List.append_nil]
    simp only [Evt.d] at ix1 ix2
    generalize E.map Evt.d = ed at *
    generalize o.d = od at *
    simp (config := { implicitDefEqProofs := false }) [lb__law_answers_1, hn, ix1, ix2]
  | did t s c n o =>
    refine .inr ⟨by unfold ansV; rw [he], [], x3, x4, .inr ?_⟩
    rw [List.append_nil]
    simp only [Evt.d] at ix1 ix2
    generalize E.map Evt.d = ed at *
    generalize o.d = od at *
    simp (config := { implicitDefEqProofs := false }) [lb__law_answers_1, hn, ix1, ix2]
  | gone t =>
    refine .inr ⟨by unfold ansV; rw [he], [], x3, x4, .inr ?_⟩
    rw [List.append_nil]
    simp only [Evt.d] at ix1 ix2
    generalize E.map Evt.d = ed at *
    simp (config := { implicitDefEqProofs := false }) [lb__law_answers_1, hn, ix1, ix2]
theorem lans_run {E : List Evt} (hE : ∀ e ∈ E, e.ok2) (hl : E.length ≤ 100) {S : Store} {ne nb : Nat} {bs : List Nat} (hn : S[ne]? = some (.lst (E.map Evt.d))) (hb : S[nb]? = some (.lst (bs.map .obj))) (hB : Befs S E bs) : ∃ T, V__law_answers [.obj ne, .obj nb] S = .ok (fstV (ansV E) E.length) (S ++ T) := by
  have key : (V__law_answers [.obj ne, .obj nb] S).gives fun d S' => d = fstV (ansV E) E.length ∧ ∃ T, S' = S ++ T := by
    refine den_gives ?_
    show (m__law_answers ⟨[some (.obj ne), some (.obj nb), none, none, none], []⟩ S).ends _ _
    unfold m__law_answers
    have ln : (E.map Evt.d).length = E.length := List.length_map ..
    have it := iRng1 (as := mCons (mCall fnLen (mCons (mVar 0) mNil)) mNil) (e := ⟨[some (.obj ne), some (.obj nb), none, none, none], []⟩) (S := S) (S' := S) (j := E.length) (by
      generalize E.map Evt.d = ed at *
      simp (config := { implicitDefEqProofs := false }) [hn, ln]) (rng_ok (by omega))
    rw [Int.toNat_natCast] at it
    rw [mSeq_ev, mFor_ev, it, BS.R.toS_ok]
    refine ends_seq (forL_ends (fun k e S' => (∃ x2 x3 x4, e = ⟨[some (.obj ne), some (.obj nb), x2, x3, x4], []⟩) ∧ (∃ T, S' = S ++ T) ∧ ∀ j, j < k → ansV E j = none) ⟨⟨none, none, none, rfl⟩, ⟨[], by rw [List.append_nil]⟩, fun j hj => absurd hj (Nat.not_lt_zero j)⟩ (fun _ _ _ _ => True.intro) ?_ ?_)
    · rintro k d e S' hd ⟨⟨x2, x3, x4, rfl⟩, ⟨T, rfl⟩, hN⟩
      obtain ⟨hk, rfl⟩ := ints_at hd
      rw [Int.zero_add]
      obtain ⟨ev, hev⟩ : ∃ ev, E[k]? = some ev := ⟨_, List.getElem?_eq_getElem hk⟩
      have nxt : ansV E k = none → ∀ j, j < k + 1 → ansV E j = none := fun h j hj => by
        rcases Nat.lt_succ_iff_lt_or_eq.mp hj with z | z
        · exact hN j z
        · rw [z]; exact h
      rcases la_outer hE hl hev (at_ext hn T) (at_ext hb T) ⟨hB.1, fun j i h => at_ext (hB.2 j i h) T⟩ x2 x3 x4 with ⟨d, T2, r1, r2⟩ | ⟨r1, T2, y3, y4, r2 | r2⟩
      · rw [r2, turns_rt]
        exact ⟨(fstV_at hk hN r1).symm, T ++ T2, by rw [List.append_assoc]⟩
      · exact turns_of_nx r2 ⟨⟨_, _, _, rfl⟩, ⟨T ++ T2, by rw [List.append_assoc]⟩, nxt r1⟩
      · rw [r2, turns_ct]
        exact ⟨⟨_, _, _, rfl⟩, ⟨T ++ T2, by rw [List.append_assoc]⟩, nxt r1⟩
    · rintro e S' ⟨⟨x2, x3, x4, rfl⟩, hT, hN⟩
      rw [intsFrom_len] at hN
      simp (config := { implicitDefEqProofs := false })
      exact ⟨(fstV_none hN).symm, hT⟩
  obtain ⟨d, S', e, rfl, T, rfl⟩ := gives_iff.mp key
  exact ⟨T, e⟩
end L_k70
namespace L_k70
open PySem PySem.Spec PyProof.Rows L2 BS
theorem lop_ok7 (r : Int) : ∃ o : Op, o.ok ∧ ∀ S, V__law_op [.int r] S = .ok o.d S := by
  obtain ⟨z, hz, ez⟩ := at_mod [D.str "a", .str "b", .str "ba", .str "c"] r 4 rfl (by decide)
  obtain ⟨z, rfl, kz⟩ : ∃ y, z = .str y ∧ isK (.str y) = true := by
    simp only [List.mem_cons, List.not_mem_nil, or_false] at hz
    rcases hz with rfl | rfl | rfl | rfl <;> exact ⟨_, rfl, by decide +kernel⟩
  obtain ⟨v, hv, ev⟩ := at_mod [D.str "x", .str "y", .str ""] (r / 4) 3 rfl (by decide)
  obtain ⟨v, rfl, kv, kv2⟩ : ∃ y, v = .str y ∧ isV (.str y) = true ∧ isV (.str (y ++ "z")) = true := by
    simp only [List.mem_cons, List.not_mem_nil, or_false] at hv
    rcases hv with rfl | rfl | rfl <;> exact ⟨_, rfl, by decide +kernel, by decide +kernel⟩
  obtain ⟨b, hb, eb⟩ := at_mod [D.str "", .str "a", .str "bb"] (r / 4) 3 rfl (by decide)
  obtain ⟨b, rfl, kb⟩ : ∃ y, b = .str y ∧ isB (.str y) = true := by
    simp only [List.mem_cons, List.not_mem_nil, or_false] at hb
    rcases hb with rfl | rfl | rfl <;> exact ⟨_, rfl, by decide +kernel⟩
  obtain ⟨k, hk, lk⟩ := mod_in (r / 12) (n := 4) (by decide)
  have hk : r / 12 % 4 = k := hk
  have e1 : (1 : Int) + k = ((1 + k : Nat) : Int) := by omega
  obtain ⟨o, ho, eo⟩ := at_mod [(Op.put z v).d, (Op.put z (v ++ "z")).d, (Op.get z).d, (Op.drop z).d, (Op.swap z v "w").d, (Op.page b (1 + k)).d] (r / 60) 6 rfl (by decide)
  have kw : isV (.str (Str.ofString "w")) = true := by decide +kernel
  obtain ⟨o, rfl, ok⟩ : ∃ y : Op, o = y.d ∧ y.ok := by
    simp only [List.mem_cons, List.not_mem_nil, or_false] at ho
    rcases ho with rfl | rfl | rfl | rfl | rfl | rfl
    · exact ⟨_, rfl, kz, kv⟩
    · exact ⟨_, rfl, kz, kv2⟩
    · exact ⟨_, rfl, kz⟩
    · exact ⟨_, rfl, kz⟩
    · exact ⟨_, rfl, kz, kv, kw⟩
    · exact ⟨_, rfl, kb, by omega, by omega⟩
  refine ⟨o, ok, fun S => ?_⟩
  have lv : v.length + (Str.ofString "z").length ≤ sizeLine := by
    have := isV_len kv
    have h1 : (Str.ofString "z").length = 1 := rfl
    have := sz; omega
  have e2 : ((1 + k : Nat) : Int) = 1 + (k : Int) := e1.symm
  have l6 : 6 ≤ sizeLine := by have := sz; omega
  clear ho ok
  generalize o.d = od at *
  simp only [Op.d, e2] at eo
  simp (config := { implicitDefEqProofs := false }) [V__law_op, m__law_op, catS, ez, ev, eb, hk, lv, l6, eo]
def vS (m : List (Str × D)) (z : Str) : Str := match getM m z with
  | some (.str w) => w
  | _ => ""
theorem fnd_prs {m : List (Str × D)} (hm : goodM m) (l : Str) : (fnd m l).map (pr1 m) = ((fnd m l).map fun z => (z, vS m z)).map fun p => D.tup [.str p.1, .str p.2] := by
  rw [List.map_map]
  refine List.map_congr_left fun z hz => ?_
  obtain ⟨v, e, _⟩ := hm.at (fnd_mem hz)
  show pr1 m z = .tup [.str z, .str (vS m z)]
  unfold pr1 vS
  rw [e]; rfl
theorem prs_ok {m : List (Str × D)} (hm : goodM m) (l : Str) : ∀ p ∈ (fnd m l).map fun z => (z, vS m z), p.1.length ≤ 1000 ∧ p.2.length ≤ 1000 := fun p hp => by
  obtain ⟨z, hz, rfl⟩ := List.mem_map.mp hp
  obtain ⟨v, e, hk, hv⟩ := hm.at (fnd_mem hz)
  have a := isK_len hk
  have b := isV_len hv
  refine ⟨by dsimp only; omega, ?_⟩
  show (vS m z).length ≤ 1000
  unfold vS
  rw [e]
  show v.length ≤ 1000
  omega
theorem lans_pg {S : Store} {n : Nat} {m : List (Str × D)} (hS : S[n]? = some (.dct (toS m))) (hm : goodM m) (hl : m.length ≤ 1000) {l : Str} (hb : l.length ≤ 8) {k : Nat} (hk50 : k ≤ 50) (x : Int) : ∃ a T, AnsD a ∧ V__law_answer [.obj n, (Op.page l k).d, .int x] S = .ok a (S ++ T) := by
  have so := sorted_toS false S n m hS (by omega)
  have hL := fnd_len m l
  have lc := lcL_fm (G := fun _ => True) (i := 5) (e0 := ⟨[some (.obj n), some (.tup [.str "page", .str l, .int k]), some (.int x), some (.str l), none, none, none], []⟩) (tt := mBl (mBin fGe (mVar 5) (mVar 3))) (el := mTup (mCons (mVar 5) (mCons (mIx (mVar 0) (mVar 5)) mNil))) S D.str (pr1 m) (fun z => !ltS z l) (sortT (m.map (·.1))) (fun _ => True.intro) (fun z hz acc => by simp (config := { implicitDefEqProofs := false })) (fun z hz acc => by
    obtain ⟨v, e⟩ := getM_some (sortT_mem.mp hz)
    have h2 := at_ext hS [.lst acc]
    generalize S ++ [O.lst acc] = S2 at *
    simp (config := { implicitDefEqProofs := false }) [h2, e, pr1]) (by rw [sortT_len, List.length_map]; exact szL (by omega))
  have ef : (sortT (m.map (·.1))).filter (fun z => !ltS z l) = fnd m l := rfl
  rw [ef, fnd_prs hm] at lc
  have po := prs_ok hm l
  obtain ⟨ps, hps⟩ : ∃ ps, ps = (fnd m l).map fun z => (z, vS m z) := ⟨_, rfl⟩
  have lps : ps.length ≤ 1000 := by rw [hps, List.length_map]; omega
  rw [← hps] at lc po
  have ld : (ps.map fun p => D.tup [.str p.1, .str p.2]).length = ps.length := List.length_map ..
  obtain ⟨mny, hmny⟩ : ∃ j : Nat, (if x % 3 = 0 then x / 3 % ((k : Int) + 1) else (k : Int)) = j := by
    split
    · obtain ⟨j, hj, _⟩ := mod_in (x / 3) (n := k + 1) (by omega)
      exact ⟨j, by rw [← hj]; congr 1⟩
    · exact ⟨k, rfl⟩
  have k1 : (0 : Int) < (k : Int) + 1 := by omega
  have kk : (S ++ [O.lst (ps.map fun p => D.tup [.str p.1, .str p.2])])[S.length]? = some (.lst (ps.map fun p => D.tup [.str p.1, .str p.2])) := by simp
  have hk2 : (k : Int) + 1 < 1073741824 := by omega
  have l9 : l.length + (Str.ofString "a").length ≤ sizeLine := by
    have h1 : (Str.ofString "a").length = 1 := rfl
    have := sz; omega
  obtain ⟨nz, hnz, enz⟩ := at_mod [D.non, .str "zz"] x 2 rfl (by decide)
  obtain ⟨nx, rfl, hnx⟩ : ∃ y : Option Str, nz = hiD y ∧ ∀ z, y = some z → z.length ≤ 1000 := by
    simp only [List.mem_cons, List.not_mem_nil, or_false] at hnz
    rcases hnz with rfl | rfl
    · exact ⟨none, rfl, fun z e => by cases e⟩
    · exact ⟨some "zz", rfl, fun z e => by cases e; decide +kernel⟩
  have lT : ∀ j, (ps.take j).length ≤ 1000 ∧ ∀ p ∈ ps.take j, p.1.length ≤ 1000 ∧ p.2.length ≤ 1000 := fun j => ⟨by rw [List.length_take]; omega, fun p hp => po p (List.mem_of_mem_take hp)⟩
  have hmk : ∀ S2, mIfS (mBl (mBin fEq (mBin fMod (mCall fnInt (mCons (mVar 2) mNil)) (mC (.int 3))) (mC (.int 0)))) (mSet 6 (mBin fMod (mCall fnInt (mCons (mBin fDiv (mVar 2) (mC (.int 3))) mNil)) (mBin fAdd (mIx (mVar 1) (mC (.int 2))) (mC (.int 1))))) mSkip ⟨[some (.obj n), some (.tup [.str "page", .str l, .int k]), some (.int x), some (.str l), some (.obj S.length), none, some (.int k)], []⟩ S2 = .nx ⟨[some (.obj n), some (.tup [.str "page", .str l, .int k]), some (.int x), some (.str l), some (.obj S.length), none, some (.int mny)], []⟩ S2 := fun S2 => by
    by_cases q : x % 3 = 0
    · rw [if_pos q] at hmny
      simp (config := { implicitDefEqProofs := false }) [q, k1, hk2, hmny]
    · rw [if_neg q] at hmny
      simp (config := { implicitDefEqProofs := false }) [q, hmny]
  unfold V__law_answer m__law_answer
  generalize mIfS (mBl (mBin fEq (mBin fMod (mCall fnInt (mCons (mVar 2) mNil)) (mC (.int 3))) (mC (.int 0)))) (mSet 6 (mBin fMod (mCall fnInt (mCons (mBin fDiv (mVar 2) (mC (.int 3))) mNil)) (mBin fAdd (mIx (mVar 1) (mC (.int 2))) (mC (.int 1))))) mSkip = C at *
  by_cases q : ps.length ≤ mny
  · refine ⟨.tup [.str "page", .tup (ps.map fun p => .tup [.str p.1, .str p.2]), hiD nx], [.lst (ps.map fun p => .tup [.str p.1, .str p.2])], .pg ps nx lps po hnx, ?_⟩
    have q' : (ps.length : Int) ≤ mny := by omega
    generalize ps.map (fun p => D.tup [.str p.1, .str p.2]) = pd at *
    generalize hiD nx = hx at *
    generalize hS1 : S ++ [O.lst pd] = S1 at *
    simp (config := { implicitDefEqProofs := false }) [Op.d, -fnSorted_ev, so, wkA, lc, hS1, hmk, kk, ld, q, q', enz]
  · have q' : ¬ (ps.length : Int) ≤ mny := by omega
    have q2 : mny < ps.length := by omega
    obtain ⟨⟨z, w⟩, hz⟩ : ∃ p, ps[mny]? = some p := ⟨_, List.getElem?_eq_getElem q2⟩
    have ix1 : (ps.map fun p => D.tup [.str p.1, .str p.2])[mny]? = some (.tup [.str z, .str w]) := by rw [List.getElem?_map, hz]; rfl
    have ix2 : atI (ps.map fun p => D.tup [.str p.1, .str p.2]) (mny : Int) = some (.tup [.str z, .str w]) := by rw [BS.atI_nat, ix1]
    have zl := (po _ (List.mem_of_getElem? hz)).1
    have c1 : cutD (ps.map fun p => D.tup [.str p.1, .str p.2]) none (some 1) = (ps.take 1).map fun p => D.tup [.str p.1, .str p.2] := by
      have := cut_to (ds := ps.map fun p => D.tup [.str p.1, .str p.2]) (k := 1)
      rw [← List.map_take] at this
      exact this
    have c2 : cutD (ps.map fun p => D.tup [.str p.1, .str p.2]) none (some (mny : Int)) = (ps.take mny).map fun p => D.tup [.str p.1, .str p.2] := by rw [cut_to, List.map_take]
    by_cases qz : z = l
    · subst qz
      refine ⟨.tup [.str "page", .tup ((ps.take 1).map fun p => .tup [.str p.1, .str p.2]), hiD (some (z ++ "a"))], [.lst (ps.map fun p => .tup [.str p.1, .str p.2])], .pg _ _ (lT 1).1 (lT 1).2 (fun y e => ?_), ?_⟩
      · cases e
        have h1 : (Str.ofString "a").length = 1 := rfl
        rw [Str.length_append]
        omega
      · generalize (ps.take 1).map (fun p => D.tup [.str p.1, .str p.2]) = pd1 at *
        generalize (ps.take mny).map (fun p => D.tup [.str p.1, .str p.2]) = pd2 at *
        generalize ps.map (fun p => D.tup [.str p.1, .str p.2]) = pd at *
        generalize hS1 : S ++ [O.lst pd] = S1 at *
        simp (config := { implicitDefEqProofs := false }) [hiD, Op.d, -fnSorted_ev, so, wkA, lc, hS1, hmk, kk, ld, q, q', ix1, ix2, c1, l9]
    · refine ⟨.tup [.str "page", .tup ((ps.take mny).map fun p => .tup [.str p.1, .str p.2]), hiD (some z)], [.lst (ps.map fun p => .tup [.str p.1, .str p.2])], .pg _ _ (lT mny).1 (lT mny).2 (fun y e => by cases e; exact zl), ?_⟩
      generalize (ps.take 1).map (fun p => D.tup [.str p.1, .str p.2]) = pd1 at *
      generalize (ps.take mny).map (fun p => D.tup [.str p.1, .str p.2]) = pd2 at *
      generalize ps.map (fun p => D.tup [.str p.1, .str p.2]) = pd at *
      generalize hS1 : S ++ [O.lst pd] = S1 at *
      simp (config := { implicitDefEqProofs := false }) [hiD, Op.d, -fnSorted_ev, so, wkA, lc, hS1, hmk, kk, ld, q, q', ix1, ix2, qz, c2]
end L_k70
namespace L_k70
open PySem PySem.Spec PyProof.Rows L2 BS
theorem last3 (a b c : D) : atI [a, b, c] (-1) = some c := rfl
theorem last4 (a b c d : D) : atI [a, b, c, d] (-1) = some d := rfl
theorem lchange_run {S : Store} {n : Nat} {m : List (Str × D)} (hS : S[n]? = some (.dct (toS m))) (hm : goodM m) (hl : m.length ≤ 1000) (o : Op) : V__law_change [.obj n, o.d] S = .ok .non (S.set n (.dct (toS (newM m o)))) := by
  have ss := set_same hS
  have hs : m.length < sizeLine := by have := sz; omega
  cases o with
  | page l k => simp (config := { implicitDefEqProofs := false }) [Op.d, V__law_change, m__law_change, newM, ss]
  | put k v => simp (config := { implicitDefEqProofs := false }) [Op.d, V__law_change, m__law_change, last3, hS, hs, newM]
  | get k => simp (config := { implicitDefEqProofs := false }) [Op.d, V__law_change, m__law_change, newM, ss]
  | drop k =>
    cases hg : getM m k with
    | none => simp (config := { implicitDefEqProofs := false }) [Op.d, V__law_change, m__law_change, popS, hS, hg, newM, ss]
    | some v => simp (config := { implicitDefEqProofs := false }) [Op.d, V__law_change, m__law_change, popS, hS, hg, newM]
  | swap k o v =>
    cases hg : getM m k with
    | none => simp (config := { implicitDefEqProofs := false }) [Op.d, V__law_change, m__law_change, hS, hg, newM, ss]
    | some d =>
      obtain ⟨w, e, _⟩ := hm.at (z := k) (List.mem_map.mpr ⟨_, getM_mem hg, rfl⟩)
      rw [hg] at e; cases e
      by_cases q : w = o
      · subst q; simp (config := { implicitDefEqProofs := false }) [Op.d, V__law_change, m__law_change, last4, hS, hs, hg, newM]
      · simp (config := { implicitDefEqProofs := false }) [Op.d, V__law_change, m__law_change, hS, hg, newM, q, ss]
abbrev CS := Nat → Int × Op × Int
def cD (x : Int × Op × Int) : D := .tup [.int x.1, x.2.1.d, .int x.2.2]
def stM (f : CS) : List (Int × D) := [(-1, cD (f 0)), (-2, cD (f 1)), (-3, cD (f 2))]
def updC (f : CS) (i : Nat) (x : Int × Op × Int) : CS := fun j => if j = i then x else f j
theorem stM_get (f : CS) {i : Nat} (hi : i < 3) : getM (stM f) (-1 - (i : Int)) = some (cD (f i)) := by
  have : i = 0 ∨ i = 1 ∨ i = 2 := by omega
  rcases this with rfl | rfl | rfl <;> rfl
theorem stM_put (f : CS) {i : Nat} (hi : i < 3) (x : Int × Op × Int) : putM (stM f) (-1 - (i : Int)) (cD x) = stM (updC f i x) := by
  have : i = 0 ∨ i = 1 ∨ i = 2 := by omega
  rcases this with rfl | rfl | rfl <;> rfl
/-- what the law draws: an event; an accept without an answer is told later -/
theorem lev_run {S : Store} {n : Nat} {f : CS} (hS : S[n]? = some (.dct (toI (stM f)))) (hf : ∀ i, i < 3 → (f i).2.1.ok) (x t : Int) : ∃ (e : Evt) (i : Nat) (y : Int × Op × Int), i < 3 ∧ V__law_event [.obj n, .int x, .int t] S = .ok e.d (S.set n (.dct (toI (stM (updC f i y))))) ∧ y.2.1.ok ∧ (∀ t c n a, e = .acc t c n a → a = .non ∨ AnsD a) ∧ e.ok ∧
    ((f i).1 ≤ y.1) ∧ ∀ t c n o, e = .call t c n o → c = -1 - (i : Int) ∧ n = (f i).1 + 1 ∧ y.1 = n := by
  obtain ⟨i, hi, li⟩ := mod_in x (n := 3) (by decide)
  have hi : x % 3 = i := hi
  have ec : (-1 : Int) - x % 3 = -1 - (i : Int) := by rw [hi]
  obtain ⟨⟨cn, co, cs⟩, hc⟩ : ∃ y, f i = y := ⟨_, rfl⟩
  have okc : co.ok := by have := hf i li; rw [hc] at this; exact this
  have gi := stM_get f li
  rw [hc] at gi
  have same : stM (updC f i (cn, co, cs)) = stM f := by
    congr 1
    funext j
    unfold updC
    split
    · rename_i e; rw [e, hc]
    · rfl
  have ss := set_same hS
  obtain ⟨o1, ok1, e1⟩ := lop_ok7 (x / 36)
  obtain ⟨o2, ok2, e2⟩ := lop_ok7 (x / 36 / 2)
  have gi2 : ∀ z, getM (stM (updC f i z)) (-1 - (i : Int)) = some (cD z) := fun z => by
    rw [stM_get _ li]; unfold updC; rw [if_pos rfl]
  have pu := fun z => stM_put f li z
  have hl : (stM f).length < sizeLine := by have := sz; show 3 < sizeLine; omega
  have nl := (List.getElem?_eq_some_iff.mp hS).1
  have cE : cD (cn, co, cs) = .tup [.int cn, co.d, .int cs] := rfl
  rw [cE] at gi
  by_cases q0 : x / 3 % 12 = 0
  · refine ⟨.did t 0 (-1 - (i : Int)) (max 1 (cn - x / 36 % 2)) o2, i, (cn, co, cs), li, ?_, okc, (fun _ _ _ _ z => nomatch z), ok2, by rw [hc]; exact Int.le_refl _, (fun _ _ _ _ z => nomatch z)⟩
    rw [same, ss]
    simp only [Evt.d]
    clear pu gi2 same
    generalize stM f = sm at *
    generalize co.d = cod at *
    generalize o2.d = o2d at *
    by_cases qm : (1 : Int) < cn - x / 36 % 2
    · have mx : max 1 (cn - x / 36 % 2) = cn - x / 36 % 2 := by omega
      simp (config := { implicitDefEqProofs := false }) [gsCons, gsNil, V__law_event, m__law_event, ec, hi, hS, gi, q0, e2, qm, mx]
    · have mx : max 1 (cn - x / 36 % 2) = 1 := by omega
      simp (config := { implicitDefEqProofs := false }) [gsCons, gsNil, V__law_event, m__law_event, ec, hi, hS, gi, q0, e2, qm, mx]
  by_cases q1 : x / 3 % 12 = 1
  · refine ⟨.gone t, i, (cn, co, cs), li, ?_, okc, (fun _ _ _ _ z => nomatch z), True.intro, by rw [hc]; exact Int.le_refl _, (fun _ _ _ _ z => nomatch z)⟩
    rw [same, ss]
    simp only [Evt.d]
    clear pu gi2 same
    generalize stM f = sm at *
    generalize co.d = cod at *
    simp (config := { implicitDefEqProofs := false }) [gsCons, gsNil, V__law_event, m__law_event, ec, hi, hS, gi, q0, q1]
  by_cases q2 : x / 3 % 12 = 2
  · obtain ⟨a, ha, ea⟩ := at_mod [D.tup [.str "none"], .tup [.str "done"], .tup [.str "value", .str "x"], .tup [.str "page", .tup [], .non]] (x / 36) 4 rfl (by decide)
    have an : AnsD a := by
      simp only [List.mem_cons, List.not_mem_nil, or_false] at ha
      rcases ha with rfl | rfl | rfl | rfl
      · exact .a1 _ (by decide +kernel)
      · exact .a1 _ (by decide +kernel)
      · exact .a2 _ _ (by decide +kernel) (by decide +kernel)
      · exact .pg [] none (by decide) (fun p hp => nomatch hp) (fun z e => by cases e)
    refine ⟨.acc t (-1 - (i : Int)) cn a, i, (cn, co, cs), li, ?_, okc, (fun _ _ _ _ z => by cases z; exact .inr an), an.sm, by rw [hc]; exact Int.le_refl _, (fun _ _ _ _ z => nomatch z)⟩
    rw [same, ss]
    simp only [Evt.d]
    clear pu gi2 same ha an
    generalize stM f = sm at *
    generalize co.d = cod at *
    simp (config := { implicitDefEqProofs := false }) [gsCons, gsNil, V__law_event, m__law_event, ec, hi, hS, gi, q0, q1, q2, ea]
  by_cases q3 : cs = 0
  · refine ⟨.call t (-1 - (i : Int)) (cn + 1) o1, i, (cn + 1, o1, 1), li, ?_, ok1, (fun _ _ _ _ z => nomatch z), ok1, by rw [hc]; show cn ≤ cn + 1; omega, (fun _ _ _ _ z => by cases z; exact ⟨rfl, by rw [hc], rfl⟩)⟩
    have g2 := gi2 (cn + 1, o1, 1)
    have p2 := pu (cn + 1, o1, 1)
    have cE2 : cD (cn + 1, o1, 1) = .tup [.int (cn + 1), o1.d, .int 1] := rfl
    rw [cE2] at g2 p2
    simp only [Evt.d]
    clear pu gi2 same
    generalize stM (updC f i (cn + 1, o1, 1)) = sm2 at *
    generalize stM f = sm at *
    generalize co.d = cod at *
    generalize o1.d = o1d at *
    have hS2 : (S.set n (O.dct (toI sm2)))[n]? = some (.dct (toI sm2)) := List.getElem?_set_self nl
    generalize hS2d : S.set n (O.dct (toI sm2)) = S2 at *
    simp (config := { implicitDefEqProofs := false }) [gsCons, gsNil, V__law_event, m__law_event, ec, hi, hS, gi, q0, q1, q2, q3, e1, hl, p2, hS2d, hS2, g2]
  by_cases q4 : cs = 1
  · refine ⟨.did t (x / 36 % 3) (-1 - (i : Int)) cn co, i, (cn, co, 2), li, ?_, okc, (fun _ _ _ _ z => nomatch z), okc, by rw [hc]; exact Int.le_refl _, (fun _ _ _ _ z => nomatch z)⟩
    have p2 := pu (cn, co, 2)
    have cE2 : cD (cn, co, 2) = .tup [.int cn, co.d, .int 2] := rfl
    rw [cE2] at p2
    simp only [Evt.d]
    clear pu gi2 same
    generalize stM (updC f i (cn, co, 2)) = sm2 at *
    generalize stM f = sm at *
    generalize co.d = cod at *
    simp (config := { implicitDefEqProofs := false }) [gsCons, gsNil, V__law_event, m__law_event, ec, hi, hS, gi, q0, q1, q2, q3, q4, hl, p2]
  · refine ⟨.acc t (-1 - (i : Int)) cn .non, i, (cn, co, 0), li, ?_, okc, (fun _ _ _ _ z => by cases z; exact .inl rfl), (by simp [Evt.ok]), by rw [hc]; exact Int.le_refl _, (fun _ _ _ _ z => nomatch z)⟩
    have p2 := pu (cn, co, 0)
    have cE2 : cD (cn, co, 0) = .tup [.int cn, co.d, .int 0] := rfl
    rw [cE2] at p2
    simp only [Evt.d]
    clear pu gi2 same
    generalize stM (updC f i (cn, co, 0)) = sm2 at *
    generalize stM f = sm at *
    generalize co.d = cod at *
    simp (config := { implicitDefEqProofs := false }) [gsCons, gsNil, V__law_event, m__law_event, ec, hi, hS, gi, q0, q1, q2, q3, q4, hl, p2]
end L_k70
namespace L_k70
open PySem PySem.Spec PyProof.Rows L2 BS
def nextM (m : List (Str × D)) : Evt → List (Str × D)
  | .did _ _ _ _ o => newM m o
  | _ => m
theorem itemsOf_next (E : List Evt) (e : Evt) : itemsOf (E ++ [e]) = nextM (itemsOf E) e := by rw [itemsOf_snoc]; cases e <;> rfl
/-- the law's five objects -/
structure L5 (S : Store) (st : List (Int × D)) (m : List (Str × D)) (ed : List D) (bs : List Nat) (kvs : List (TKey × D)) : Prop where
  s0 : S[0]? = some (.dct (toI st))
  s1 : S[1]? = some (.dct (toS m))
  s2 : S[2]? = some (.lst ed)
  s3 : S[3]? = some (.lst (bs.map .obj))
  t4 : TabAt S 4 kvs
abbrev Keep4 (S S' : Store) : Prop := ∀ (i : Nat) (x : O), 4 < i → S[i]? = some x → S'[i]? = some x
section
variable {S : Store} {st : List (Int × D)} {m : List (Str × D)} {ed : List D} {bs : List Nat} {kvs : List (TKey × D)}
theorem L5.ext (h : L5 S st m ed bs kvs) (T : Store) : L5 (S ++ T) st m ed bs kvs := ⟨at_ext h.s0 T, at_ext h.s1 T, at_ext h.s2 T, at_ext h.s3 T, h.t4.ext T⟩
theorem L5.lt (h : L5 S st m ed bs kvs) : 4 < S.length := h.t4.lt
theorem L5.set0 (h : L5 S st m ed bs kvs) (st' : List (Int × D)) : L5 (S.set 0 (.dct (toI st'))) st' m ed bs kvs := by
  have hl := h.lt
  exact ⟨List.getElem?_set_self (by omega), by rw [List.getElem?_set_ne (by decide)]; exact h.s1, by rw [List.getElem?_set_ne (by decide)]; exact h.s2, by rw [List.getElem?_set_ne (by decide)]; exact h.s3, h.t4.ne (by decide) _⟩
theorem L5.set1 (h : L5 S st m ed bs kvs) (m' : List (Str × D)) : L5 (S.set 1 (.dct (toS m'))) st m' ed bs kvs := by
  have hl := h.lt
  exact ⟨by rw [List.getElem?_set_ne (by decide)]; exact h.s0, List.getElem?_set_self (by omega), by rw [List.getElem?_set_ne (by decide)]; exact h.s2, by rw [List.getElem?_set_ne (by decide)]; exact h.s3, h.t4.ne (by decide) _⟩
theorem L5.set2 (h : L5 S st m ed bs kvs) (ed' : List D) : L5 (S.set 2 (.lst ed')) st m ed' bs kvs := by
  have hl := h.lt
  exact ⟨by rw [List.getElem?_set_ne (by decide)]; exact h.s0, by rw [List.getElem?_set_ne (by decide)]; exact h.s1, List.getElem?_set_self (by omega), by rw [List.getElem?_set_ne (by decide)]; exact h.s3, h.t4.ne (by decide) _⟩
theorem L5.set3 (h : L5 S st m ed bs kvs) (bs' : List Nat) : L5 (S.set 3 (.lst (bs'.map .obj))) st m ed bs' kvs := by
  have hl := h.lt
  exact ⟨by rw [List.getElem?_set_ne (by decide)]; exact h.s0, by rw [List.getElem?_set_ne (by decide)]; exact h.s1, by rw [List.getElem?_set_ne (by decide)]; exact h.s2, List.getElem?_set_self (by omega), h.t4.ne (by decide) _⟩
theorem L5.set4 (h : L5 S st m ed bs kvs) (kvs' : List (TKey × D)) : L5 (S.set 4 (.dkt kvs')) st m ed bs kvs' :=
  ⟨by rw [List.getElem?_set_ne (by decide)]; exact h.s0, by rw [List.getElem?_set_ne (by decide)]; exact h.s1, by rw [List.getElem?_set_ne (by decide)]; exact h.s2, by rw [List.getElem?_set_ne (by decide)]; exact h.s3, h.t4.put _⟩
theorem keep_set {i : Nat} (hi : i ≤ 4) (x : O) : Keep4 S (S.set i x) := fun j y hj h => by rw [List.getElem?_set_ne (by omega)]; exact h
theorem keep_app (T : Store) : Keep4 S (S ++ T) := fun j y hj h => at_ext h T
theorem Keep4.trans {S1 S2 S3 : Store} (a : Keep4 S1 S2) (b : Keep4 S2 S3) : Keep4 S1 S3 := fun i x hi h => b i x hi (a i x hi h)
def frL (x0 x6 x7 x8 : Option D) : Ev := ⟨[x0, some (.obj 0), some (.obj 1), some (.obj 2), some (.obj 3), some (.obj 4), x6, x7, x8, none], []⟩
noncomputable def stA : SM := mSet 7 (mCall V__law_event (mCons (mVar 1) (mCons (mVar 6) (mCons (mCall fnLen (mCons (mVar 3) mNil)) mNil))))
noncomputable def stB : SM := mExpr (mBm .list fnAppend (mVar 4) (mCons (mCall fnDict (mCons (mVar 2) mNil)) mNil))
noncomputable def stC2 : SM := mIfS (mBl (mBin fNotInT (mVar 8) (mVar 5))) (mSetIT (mCall V__law_answer (mCons (mVar 2) (mCons (mIx (mIx (mVar 7) (mC (.int 3))) (mC (.int 5))) (mCons (mBin fDiv (mVar 6) (mC (.int 7))) mNil)))) (mVar 5) (mVar 8)) mSkip
noncomputable def stC3 : SM := mExpr (mCall V__law_change (mCons (mVar 2) (mCons (mIx (mIx (mVar 7) (mC (.int 3))) (mC (.int 5))) mNil)))
noncomputable def stC : SM := mIfS (mAnd (mBl (mBin fEq (mIx (mVar 7) (mC (.int 0))) (mC (.str "done")))) (mBl (mBin fEq (mIx (mIx (mVar 7) (mC (.int 3))) (mC (.int 0))) (mC (.str "did"))))) (mSeq (mSet 8 (mTup (mCons (mIx (mIx (mVar 7) (mC (.int 3))) (mC (.int 3))) (mCons (mIx (mIx (mVar 7) (mC (.int 3))) (mC (.int 4))) mNil)))) (mSeq stC2 stC3)) mSkip
noncomputable def stD : SM := mIfS (mAnd (mBl (mBin fEq (mIx (mVar 7) (mC (.int 0))) (mC (.str "accept")))) (mBl (mBin fIs (mIx (mVar 7) (mC (.int 4))) (mC .non)))) (mSet 7 (mBin fAdd (mSl false (mVar 7) oNo (oAt (mC (.int 4)))) (mTup (mCons (mBmT fnGetT2 (mVar 5) (mCons (mTup (mCons (mIx (mVar 7) (mC (.int 2))) (mCons (mIx (mVar 7) (mC (.int 3))) mNil))) (mCons (mTup (mCons (mC (.str "none")) mNil)) mNil))) mNil)))) mSkip
noncomputable def stE : SM := mExpr (mBm .list fnAppend (mVar 3) (mCons (mVar 7) mNil))
theorem lb_parts : lb_law_0 = mSeq stA (mSeq stB (mSeq stC (mSeq stD stE))) := rfl
theorem runB (h : L5 S st m ed bs kvs) (hb : bs.length ≤ 1000) (x0 x6 x7 x8 : Option D) : ∃ S', stB (frL x0 x6 x7 x8) S = .nx (frL x0 x6 x7 x8) S' ∧ L5 S' st m ed (bs ++ [S.length]) kvs ∧ S'[S.length]? = some (.dct (toS m)) ∧ Keep4 S S' ∧ 4 < S.length := by
  have hl := h.lt
  have h2 := h.ext [.dct (toS m)]
  refine ⟨_, ?_, h2.set3 (bs ++ [S.length]), by rw [List.getElem?_set_ne (by omega)]; simp, (keep_app _).trans (keep_set (by decide) _), hl⟩
  have l1 : (bs.map D.obj).length < sizeLine := by rw [List.length_map]; have := sz; omega
  have s1 := h.s1
  have s3 := h.s3
  have s3' := h2.s3
  rw [List.map_append, List.map_cons, List.map_nil]
  generalize toS m = md at *
  generalize bs.map D.obj = bd at *
  generalize hS1 : S ++ [O.dct md] = S1 at *
  simp (config := { implicitDefEqProofs := false }) [stB, frL, s1, s3, s3', hS1, l1]
theorem law_any {n : Nat} (hS : S[n]? = some (.dct (toS m))) (hm : goodM m) (hl : m.length ≤ 1000) {o : Op} (ho : o.ok) (x : Int) : ∃ a T, AnsD a ∧ V__law_answer [.obj n, o.d, .int x] S = .ok a (S ++ T) := by
  by_cases hp : ∃ l k, o = .page l k
  · obtain ⟨l, k, rfl⟩ := hp
    have hb := isB_str ho.1
    obtain ⟨y, e, h8⟩ := hb
    cases e
    exact lans_pg hS hm hl (by omega) ho.2.2 x
  · have hnp : ∀ l k, o ≠ .page l k := fun l k e => hp ⟨l, k, e⟩
    exact ⟨_, [], ans_np hm hnp .non, by rw [List.append_nil]; exact lans_np hS hm hnp x⟩
theorem runC {e : Evt} (he : e.ok) (h : L5 S st m ed bs kvs) (hm : goodM m) (hl : m.length ≤ 100) (hk : kvs.length ≤ 100) (hv : ∀ p ∈ kvs, AnsD p.2) (x : Int) (x0 x8 : Option D) :
    ∃ S' y8 kvs', stC (frL x0 (some (.int x)) (some e.d) x8) S = .nx (frL x0 (some (.int x)) (some e.d) y8) S' ∧ L5 S' st (nextM m e) ed bs kvs' ∧ Keep4 S S' ∧ (∀ p ∈ kvs', AnsD p.2) ∧ kvs'.length ≤ kvs.length + 1 := by
  cases e with
  | did t s c n o =>
    have he : o.ok := he
    have lk : kvs.length < sizeLine := by have := sz; omega
    have s8 : stC (frL x0 (some (.int x)) (some (Evt.did t s c n o).d) x8) S = (mSeq stC2 stC3) (frL x0 (some (.int x)) (some (Evt.did t s c n o).d) (some (.tup [.int c, .int n]))) S := by
      simp only [Evt.d]
      generalize o.d = od at *
      unfold stC
      generalize mSeq stC2 stC3 = R
      simp (config := { implicitDefEqProofs := false }) [frL]
    rw [s8, mSeq_ev]
    have fin : ∀ {S1 : Store} {kvs1 : List (TKey × D)}, L5 S1 st m ed bs kvs1 → stC3 (frL x0 (some (.int x)) (some (Evt.did t s c n o).d) (some (.tup [.int c, .int n]))) S1 = .nx (frL x0 (some (.int x)) (some (Evt.did t s c n o).d) (some (.tup [.int c, .int n]))) (S1.set 1 (.dct (toS (newM m o)))) := fun {S1 kvs1} h1 => by
      have lc := lchange_run h1.s1 hm (by omega) o
      simp only [Evt.d]
      generalize o.d = od at *
      generalize S1.set 1 (O.dct (toS (newM m o))) = S2 at *
      simp (config := { implicitDefEqProofs := false }) [stC3, frL, lc]
    have nin := h.t4.fNotIn (tkOf2 c n)
    cases hg : getM kvs (tk2 c n) with
    | some v =>
      rw [hg] at nin
      have s2 : stC2 (frL x0 (some (.int x)) (some (Evt.did t s c n o).d) (some (.tup [.int c, .int n]))) S = .nx (frL x0 (some (.int x)) (some (Evt.did t s c n o).d) (some (.tup [.int c, .int n]))) S := by
        simp only [Evt.d]
        generalize o.d = od at *
        simp (config := { implicitDefEqProofs := false }) [stC2, frL, nin]
      rw [s2, RS.seq_nx, fin h]
      exact ⟨_, _, kvs, rfl, h.set1 _, keep_set (by decide) _, hv, by omega⟩
    | none =>
      rw [hg] at nin
      obtain ⟨a, T, ha, ea⟩ := law_any h.s1 hm (by omega) he (x / 7)
      have h1 := h.ext T
      have st := h1.t4.setS (tkOf2 c n) lk a
      have s2 : stC2 (frL x0 (some (.int x)) (some (Evt.did t s c n o).d) (some (.tup [.int c, .int n]))) S = .nx (frL x0 (some (.int x)) (some (Evt.did t s c n o).d) (some (.tup [.int c, .int n]))) ((S ++ T).set 4 (.dkt (putM kvs (tk2 c n) a))) := by
        simp only [Evt.d]
        clear ha s8 fin
        generalize o.d = od at *
        generalize putM kvs (tk2 c n) a = kp at *
        generalize hS1 : S ++ T = S1 at *
        simp (config := { implicitDefEqProofs := false }) [stC2, frL, nin, ea, st]
      have h2 := h1.set4 (putM kvs (tk2 c n) a)
      rw [s2, RS.seq_nx, fin h2]
      refine ⟨_, _, _, rfl, h2.set1 _, ((keep_app T).trans (keep_set (by decide) _)).trans (keep_set (by decide) _), fun p hp => ?_, putM_len _ _ _⟩
      rcases putM_mem hp with rfl | hp
      · exact ha
      · exact hv p hp
  | call t c n o =>
    refine ⟨S, x8, kvs, ?_, h, fun _ _ _ h => h, hv, by omega⟩
    simp only [Evt.d]
    generalize o.d = od at *
    simp (config := { implicitDefEqProofs := false }) [stC, frL]
  | gone t =>
    refine ⟨S, x8, kvs, ?_, h, fun _ _ _ h => h, hv, by omega⟩
    simp only [Evt.d]
    simp (config := { implicitDefEqProofs := false }) [stC, frL]
  | acc t c n a =>
    refine ⟨S, x8, kvs, ?_, h, fun _ _ _ h => h, hv, by omega⟩
    simp only [Evt.d]
    clear he
    generalize a = ad at *
    simp (config := { implicitDefEqProofs := false }) [stC, frL]
theorem cut04 (S : Store) (a b c d e : D) : slS false S (.tup [a, b, c, d, e]) none (some 4) = .ok (.tup [a, b, c, d]) S := rfl
theorem runD {e : Evt} (he : e.ok) (ha : ∀ t c n a, e = .acc t c n a → a = .non ∨ AnsD a) (h : L5 S st m ed bs kvs) (hv : ∀ p ∈ kvs, AnsD p.2) (x0 x6 x8 : Option D) :
    ∃ e' : Evt, stD (frL x0 x6 (some e.d) x8) S = .nx (frL x0 x6 (some e'.d) x8) S ∧ e'.ok2 ∧ (∀ t c n o, e' = .call t c n o → e = .call t c n o) ∧ ∀ m', nextM m' e' = nextM m' e := by
  cases e with
  | did t s c n o =>
    refine ⟨.did t s c n o, ?_, he, fun _ _ _ _ h => h, fun _ => rfl⟩
    simp only [Evt.d]
    generalize o.d = od at *
    simp (config := { implicitDefEqProofs := false }) [stD, frL]
  | call t c n o =>
    refine ⟨.call t c n o, ?_, he, fun _ _ _ _ h => h, fun _ => rfl⟩
    simp only [Evt.d]
    generalize o.d = od at *
    simp (config := { implicitDefEqProofs := false }) [stD, frL]
  | gone t =>
    refine ⟨.gone t, ?_, he, fun _ _ _ _ h => h, fun _ => rfl⟩
    simp only [Evt.d]
    simp (config := { implicitDefEqProofs := false }) [stD, frL]
  | acc t c n a =>
    rcases ha t c n a rfl with rfl | ha
    · have ga : AnsD ((getM kvs (tk2 c n)).getD (.tup [.str "none"])) := by
        cases hg : getM kvs (tk2 c n) with
        | none => exact .a1 _ (by decide +kernel)
        | some v => exact hv _ (getM_mem hg)
      refine ⟨.acc t c n ((getM kvs (tk2 c n)).getD (.tup [.str "none"])), ?_, ga, (fun _ _ _ _ h => by cases h), fun _ => rfl⟩
      have td := h.t4.tabD
      have tk := tkOf2 c n
      simp only [Evt.d]
      clear ga
      have l5 : 5 ≤ sizeLine := by have := sz; omega
      simp (config := { implicitDefEqProofs := false }) [stD, frL, cut04, td, tk, getT_eq, l5]
    · refine ⟨.acc t c n a, ?_, ha, fun _ _ _ _ h => h, fun _ => rfl⟩
      have nn : BS.isNon a = false := by cases ha <;> rfl
      simp only [Evt.d]
      clear ha he
      generalize a = ad at *
      simp (config := { implicitDefEqProofs := false }) [stD, frL, nn]
end
/-- the law's state -/
structure LS (S : Store) (f : CS) (E : List Evt) (bs : List Nat) (kvs : List (TKey × D)) : Prop where
  l5 : L5 S (stM f) (itemsOf E) (E.map Evt.d) bs kvs
  bf : Befs S E bs
  b4 : ∀ i ∈ bs, 4 < i
  kv : ∀ p ∈ kvs, AnsD p.2
  kl : kvs.length ≤ E.length
  ok : ∀ e ∈ E, e.ok2
  on : Once E
  cb : ∀ (j : Nat) (t c n : Int) (o : Op), E[j]? = some (.call t c n o) → ∃ i, i < 3 ∧ c = -1 - ((i : Nat) : Int) ∧ n ≤ (f i).1
  fo : ∀ i, i < 3 → (f i).2.1.ok
theorem Befs.keep {S S' : Store} {E : List Evt} {bs : List Nat} (h : Befs S E bs) (b4 : ∀ i ∈ bs, 4 < i) (k : Keep4 S S') : Befs S' E bs := ⟨h.1, fun j i hj => k i _ (b4 i (List.mem_of_getElem? hj)) (h.2 j i hj)⟩
theorem law_turn {S : Store} {f : CS} {E : List Evt} {bs : List Nat} {kvs : List (TKey × D)} (h : LS S f E bs kvs) (hl : E.length < 30) (x0 x6 x7 x8 : Option D) (x : Int) :
    ∃ S' f' e bs' kvs' y7 y8, (gNm 6 (.int x) (frL x0 x6 x7 x8) S).seq lb_law_0 = .nx (frL x0 (some (.int x)) y7 y8) S' ∧ LS S' f' (E ++ [e]) bs' kvs' := by
  obtain ⟨e, i, y, li, ev, oky, ha, eok, mon, cl⟩ := lev_run h.l5.s0 h.fo x E.length
  have hE : ∀ e ∈ E, e.ok := fun e he => (h.ok e he).ok
  obtain ⟨gm, lm⟩ := itemsOf_good hE
  have lenE : (E.map Evt.d).length = E.length := List.length_map ..
  have sA : stA (frL x0 (some (.int x)) x7 x8) S = .nx (frL x0 (some (.int x)) (some e.d) x8) (S.set 0 (.dct (toI (stM (updC f i y))))) := by
    have s2 := h.l5.s2
    generalize E.map Evt.d = ed at *
    generalize S.set 0 (O.dct (toI (stM (updC f i y)))) = S1 at *
    generalize e.d = edd at *
    simp (config := { implicitDefEqProofs := false }) [stA, frL, s2, lenE, ev]
  have h1 := h.l5.set0 (stM (updC f i y))
  have k1 : Keep4 S (S.set 0 (.dct (toI (stM (updC f i y))))) := keep_set (by decide) _
  generalize S.set 0 (O.dct (toI (stM (updC f i y)))) = S1 at *
  obtain ⟨S2, sB, h2, hB, k2, lt1⟩ := runB h1 (by rw [h.bf.1]; omega) x0 (some (.int x)) (some e.d) x8
  obtain ⟨S3, y8, kvs', sC, h3, k3, kv3, kl3⟩ := runC eok h2 gm (by omega) (by have := h.kl; omega) h.kv x x0 x8
  obtain ⟨e', sD, ok', cl', nx⟩ := runD eok ha h3 kv3 x0 (some (.int x)) y8
  have s2 := h3.s2
  have sE : stE (frL x0 (some (.int x)) (some e'.d) y8) S3 = .nx (frL x0 (some (.int x)) (some e'.d) y8) (S3.set 2 (.lst (E.map Evt.d ++ [e'.d]))) := by
    have l1 : (E.map Evt.d).length < sizeLine := by rw [lenE]; have := sz; omega
    generalize E.map Evt.d = ed at *
    generalize e'.d = edd at *
    simp (config := { implicitDefEqProofs := false }) [stE, frL, s2, l1]
  have h4 := h3.set2 (E.map Evt.d ++ [e'.d])
  have k4 : Keep4 S3 (S3.set 2 (.lst (E.map Evt.d ++ [e'.d]))) := keep_set (by decide) _
  have kk : Keep4 S (S3.set 2 (.lst (E.map Evt.d ++ [e'.d]))) := ((k1.trans k2).trans k3).trans k4
  refine ⟨S3.set 2 (.lst (E.map Evt.d ++ [e'.d])), updC f i y, e', bs ++ [S1.length], kvs', some e'.d, y8, ?_, ?_⟩
  · show (RS.nx (frL x0 (some (.int x)) x7 x8) S).seq lb_law_0 = _
    rw [RS.seq_nx, lb_parts, mSeq_ev, sA, RS.seq_nx, mSeq_ev, sB, RS.seq_nx, mSeq_ev, sC, RS.seq_nx, mSeq_ev, sD, RS.seq_nx, sE]
  · have getA : ∀ (j : Nat) (z : Evt), (E ++ [e'])[j]? = some z → (j < E.length ∧ E[j]? = some z) ∨ (j = E.length ∧ z = e') := fun j z hz => by
      by_cases q : j < E.length
      · rw [List.getElem?_append_left q] at hz; exact .inl ⟨q, hz⟩
      · have := (List.getElem?_eq_some_iff.mp hz).1
        rw [List.length_append, List.length_singleton] at this
        have e1 : j = E.length := by omega
        subst e1
        rw [List.getElem?_append_right (Nat.le_refl _), Nat.sub_self] at hz
        cases hz
        exact .inr ⟨rfl, rfl⟩
    refine ⟨?_, ⟨?_, fun j i' hj => ?_⟩, ?_, kv3, ?_, ?_, ?_, ?_, ?_⟩
    · rw [itemsOf_next, nx, List.map_append, List.map_cons, List.map_nil]
      exact h4
    · rw [List.length_append, List.length_append, h.bf.1]; rfl
    · by_cases q : j < bs.length
      · rw [List.getElem?_append_left q] at hj
        have e1 : (E ++ [e']).take j = E.take j := List.take_append_of_le_length (by rw [← h.bf.1]; omega)
        rw [e1]
        exact kk i' _ (h.b4 i' (List.mem_of_getElem? hj)) (h.bf.2 j i' hj)
      · have := (List.getElem?_eq_some_iff.mp hj).1
        rw [List.length_append, List.length_singleton] at this
        have e1 : j = bs.length := by omega
        subst e1
        rw [List.getElem?_append_right (Nat.le_refl _), Nat.sub_self] at hj
        cases hj
        have e2 : (E ++ [e']).take bs.length = E := by rw [h.bf.1, List.take_append_of_le_length (Nat.le_refl _), List.take_length]
        rw [e2]
        exact k4 _ _ lt1 (k3 _ _ lt1 hB)
    · intro i' hi
      rcases List.mem_append.mp hi with z | z
      · exact h.b4 i' z
      · rw [List.mem_singleton.mp z]; exact lt1
    · rw [List.length_append, List.length_singleton]
      have := h.kl; omega
    · intro z hz
      rcases List.mem_append.mp hz with q | q
      · exact h.ok z q
      · rw [List.mem_singleton.mp q]; exact ok'
    · intro a b t c n o t' o' ea eb
      rcases getA a _ ea with ⟨_, e1⟩ | ⟨rfl, e1⟩
      · rcases getA b _ eb with ⟨_, e2⟩ | ⟨rfl, e2⟩
        · exact h.on a b t c n o t' o' e1 e2
        · have cc := cl _ _ _ _ (cl' _ _ _ _ e2.symm)
          obtain ⟨j, lj, ej, nj⟩ := h.cb a t c n o e1
          have : j = i := by have := cc.1; omega
          subst this
          have := cc.2.1
          omega
      · have cc := cl _ _ _ _ (cl' _ _ _ _ e1.symm)
        rcases getA b _ eb with ⟨_, e2⟩ | ⟨rfl, e2⟩
        · obtain ⟨j, lj, ej, nj⟩ := h.cb b t' c n o' e2
          have : j = i := by have := cc.1; omega
          subst this
          have := cc.2.1
          omega
        · rfl
    · intro a t c n o ea
      rcases getA a _ ea with ⟨_, e1⟩ | ⟨rfl, e1⟩
      · obtain ⟨j, lj, ej, nj⟩ := h.cb a t c n o e1
        refine ⟨j, lj, ej, ?_⟩
        unfold updC
        split
        · rename_i q; subst q; omega
        · exact nj
      · have cc := cl _ _ _ _ (cl' _ _ _ _ e1.symm)
        refine ⟨i, li, cc.1, ?_⟩
        unfold updC
        rw [if_pos rfl]
        have := cc.2.2
        omega
    · intro j lj
      unfold updC
      split
      · exact oky
      · exact h.fo j lj
theorem evt_sm {e : Evt} (h : e.ok2) : Sm 5 e.d := by
  have kl : ∀ s ∈ ["call", "done", "accept", "did", "gone", ""], (Str.ofString s).length ≤ 1000000 := by decide +kernel
  have g1 := kl "call" (by simp); have g2 := kl "done" (by simp); have g3 := kl "accept" (by simp); have g4 := kl "did" (by simp); have g5 := kl "gone" (by simp); have g6 := kl "" (by simp)
  cases e with
  | call t c n o => have := (op_sm h).mono (m := 4) (by decide); simp [Evt.d, g1, this]
  | did t s c n o => have := (op_sm h).mono (m := 3) (by decide); simp [Evt.d, g2, g4, g6, this]
  | gone t => simp [Evt.d, g2, g5, g6]
  | acc t c n a => have := AnsD.sm h; simp [Evt.d, g3, this]
theorem fst_sm {f : Nat → Option D} {n : Nat} (h : ∀ j d, f j = some d → Sm 2 d) : Sm 2 (fstV f n) := by
  unfold fstV
  cases q : (List.range n).findSome? f with
  | none => exact Sm_non 2 ▸ True.intro
  | some d =>
    obtain ⟨j, _, hj⟩ := List.exists_of_findSome?_eq_some q
    exact h j d hj
theorem req_sm (E : List Evt) : ∀ j d, reqV E j = some d → Sm 2 d := fun j d h => by
  have kl : ∀ s ∈ ["uncalled", "repeated"], (Str.ofString s).length ≤ 1000000 := by decide +kernel
  have g1 := kl "uncalled" (by simp); have g2 := kl "repeated" (by simp)
  unfold reqV at h
  split at h
  · split at h
    · split at h
      · cases h; simp [g2]
      · cases h
    · cases h; simp [g1]
  · cases h
theorem ans_sm (E : List Evt) : ∀ j d, ansV E j = some d → Sm 2 d := fun j d h => by
  have kl : ∀ s ∈ ["missing", "answer"], (Str.ofString s).length ≤ 1000000 := by decide +kernel
  have g1 := kl "missing" (by simp); have g2 := kl "answer" (by simp)
  unfold ansV at h
  split at h
  · split at h
    · cases h; simp [g1]
    · split at h
      · cases h
      · cases h; simp [g2]
  · cases h
end L_k70
namespace L_k70
open PySem PySem.Spec PyProof.Rows L2 BS
theorem itM (M : Int) (h1 : 1 ≤ M) (h2 : M ≤ 1000) (ns : List Int) (e : Ev) (he : e.sl[0]? = some (some (.scr (ns.map .int)))) (S : Store) : ∃ n : Nat, (n : Int) ≤ M ∧ iRng (mCons (mCall fnMax2 (mCons (mC (.int 1)) (mCons (mCall fnMin2 (mCons (mC (.int M)) (mCons (mCall fnLen (mCons (mVar 0) mNil)) mNil))) mNil))) mNil) e S = .ok ⟨BS.intsFrom 0 n, fun _ => True⟩ S := by
  obtain ⟨n, hN, h20⟩ : ∃ n : Nat, (if (1 : Int) < (if (ns.length : Int) < M then (ns.length : Int) else M) then (if (ns.length : Int) < M then (ns.length : Int) else M) else 1) = n ∧ (n : Int) ≤ M := by
    by_cases h1 : (ns.length : Int) < M
    · rw [if_pos h1]
      by_cases h2 : (1 : Int) < ns.length
      · exact ⟨ns.length, if_pos h2, by omega⟩
      · exact ⟨1, if_neg h2, by omega⟩
    · rw [if_neg h1]
      by_cases h2 : (1 : Int) < M
      · exact ⟨M.toNat, by rw [if_pos h2]; omega, by omega⟩
      · exact ⟨1, if_neg h2, by omega⟩
  refine ⟨n, h20, ?_⟩
  have it := iRng1 (as := mCons (mCall fnMax2 (mCons (mC (.int 1)) (mCons (mCall fnMin2 (mCons (mC (.int M)) (mCons (mCall fnLen (mCons (mVar 0) mNil)) mNil))) mNil))) mNil) (e := e) (S := S) (S' := S) (j := n) (by
    simp (config := { implicitDefEqProofs := false }) [he, hN]) (rng_ok (by omega))
  rw [Int.toNat_natCast] at it
  exact it
theorem Once.nil : Once [] := fun i j t c n o t' o' h => by simp at h
theorem law_true : ∀ ns : List Int, ns.length ≤ 63 → ∃ S, V_law [.scr (ns.map .int)] [] = .ok (.bl true) S := by
  intro ns hn
  refine law_of ?_
  show (m_law ⟨[some (.scr (ns.map .int)), none, none, none, none, none, none, none, none, none], []⟩ []).ends _ _
  unfold m_law
  have okg : (Op.get "a").ok := by show isK _ = true; decide +kernel
  have f0 : CS := fun _ => (0, .get "a", 0)
  obtain ⟨f, hf⟩ : ∃ f : CS, f = fun _ => (0, .get "a", 0) := ⟨_, rfl⟩
  have s1 : mSet 1 (mDisp (psCons (mUn fNeg (mC (.int 1))) (mTup (mCons (mC (.int 0)) (mCons (mTup (mCons (mC (.str "get")) (mCons (mC (.str "a")) mNil))) (mCons (mC (.int 0)) mNil)))) (psCons (mUn fNeg (mC (.int 2))) (mTup (mCons (mC (.int 0)) (mCons (mTup (mCons (mC (.str "get")) (mCons (mC (.str "a")) mNil))) (mCons (mC (.int 0)) mNil)))) (psCons (mUn fNeg (mC (.int 3))) (mTup (mCons (mC (.int 0)) (mCons (mTup (mCons (mC (.str "get")) (mCons (mC (.str "a")) mNil))) (mCons (mC (.int 0)) mNil)))) psNil)))) ⟨[some (.scr (ns.map .int)), none, none, none, none, none, none, none, none, none], []⟩ [] = .nx ⟨[some (.scr (ns.map .int)), some (.obj 0), none, none, none, none, none, none, none, none], []⟩ [.dct (toI (stM f))] := by
    rw [hf]
    generalize ns.map D.int = nd at *
    simp (config := { implicitDefEqProofs := false }) [evalPs, psCons, psNil, keysOf, mergeD, putD, toI, stM, cD, Op.d]
  have s2 : mSet 2 mDct ⟨[some (.scr (ns.map .int)), some (.obj 0), none, none, none, none, none, none, none, none], []⟩ [.dct (toI (stM f))] = .nx ⟨[some (.scr (ns.map .int)), some (.obj 0), some (.obj 1), none, none, none, none, none, none, none], []⟩ [.dct (toI (stM f)), .dct (toS [])] := by
    generalize ns.map D.int = nd at *
    generalize toI (stM f) = sd at *
    simp (config := { implicitDefEqProofs := false })
  have s3 : mSet 3 (mLst true mNil) ⟨[some (.scr (ns.map .int)), some (.obj 0), some (.obj 1), none, none, none, none, none, none, none], []⟩ [.dct (toI (stM f)), .dct (toS [])] = .nx ⟨[some (.scr (ns.map .int)), some (.obj 0), some (.obj 1), some (.obj 2), none, none, none, none, none, none], []⟩ [.dct (toI (stM f)), .dct (toS []), .lst []] := by
    generalize ns.map D.int = nd at *
    generalize toI (stM f) = sd at *
    simp (config := { implicitDefEqProofs := false })
  have s4 : mSet 4 (mLst true mNil) ⟨[some (.scr (ns.map .int)), some (.obj 0), some (.obj 1), some (.obj 2), none, none, none, none, none, none], []⟩ [.dct (toI (stM f)), .dct (toS []), .lst []] = .nx ⟨[some (.scr (ns.map .int)), some (.obj 0), some (.obj 1), some (.obj 2), some (.obj 3), none, none, none, none, none], []⟩ [.dct (toI (stM f)), .dct (toS []), .lst [], .lst []] := by
    generalize ns.map D.int = nd at *
    generalize toI (stM f) = sd at *
    simp (config := { implicitDefEqProofs := false })
  have s5 : mSet 5 mDct ⟨[some (.scr (ns.map .int)), some (.obj 0), some (.obj 1), some (.obj 2), some (.obj 3), none, none, none, none, none], []⟩ [.dct (toI (stM f)), .dct (toS []), .lst [], .lst []] = .nx ⟨[some (.scr (ns.map .int)), some (.obj 0), some (.obj 1), some (.obj 2), some (.obj 3), some (.obj 4), none, none, none, none], []⟩ [.dct (toI (stM f)), .dct (toS []), .lst [], .lst [], .dct []] := by
    generalize ns.map D.int = nd at *
    generalize toI (stM f) = sd at *
    simp (config := { implicitDefEqProofs := false })
  rw [mSeq_ev, s1, RS.seq_nx, mSeq_ev, s2, RS.seq_nx, mSeq_ev, s3, RS.seq_nx, mSeq_ev, s4, RS.seq_nx, mSeq_ev, s5, RS.seq_nx]
  have h0 : LS [.dct (toI (stM f)), .dct (toS []), .lst [], .lst [], .dct []] f [] [] [] := by
    refine ⟨⟨rfl, rfl, rfl, rfl, TabAt.nil rfl⟩, ⟨rfl, (fun j i h => by simp at h)⟩, (fun i h => nomatch h), (fun p h => nomatch h), Nat.le_refl _, (fun e h => nomatch h), Once.nil, (fun j t c n o h => by simp at h), (fun i hi => by rw [hf]; exact okg)⟩
  have ct : slS false [O.dct (toI (stM f)), .dct (toS []), .lst [], .lst [], .dct []] (.scr (ns.map .int)) none (some (30 : Int)) = .ok (.lst ((ns.take 30).map .int)) [.dct (toI (stM f)), .dct (toS []), .lst [], .lst [], .dct []] := by
    have := cut_to (ds := ns.map D.int) (k := 30)
    rw [← List.map_take] at this
    show fin false (cutD (ns.map D.int) none (some 30)) _ = _
    rw [show (some (30 : Int)) = some ((30 : Nat) : Int) from rfl, this]; rfl
  have it : iAny (mSl false (mVar 0) oNo (oAt (mC (.int 30)))) ⟨[some (.scr (ns.map .int)), some (.obj 0), some (.obj 1), some (.obj 2), some (.obj 3), some (.obj 4), none, none, none, none], []⟩ [.dct (toI (stM f)), .dct (toS []), .lst [], .lst [], .dct []] = .ok ⟨(ns.take 30).map .int, fun _ => True⟩ [.dct (toI (stM f)), .dct (toS []), .lst [], .lst [], .dct []] := by
    generalize ns.map D.int = nd at *
    generalize (ns.take 30).map D.int = nt at *
    generalize [O.dct (toI (stM f)), .dct (toS []), .lst [], .lst [], .dct []] = S0 at *
    simp (config := { implicitDefEqProofs := false }) [ct, wkA]
  generalize [O.dct (toI (stM f)), .dct (toS []), .lst [], .lst [], .dct []] = S0 at *
  rw [mSeq_ev, mFor_ev, it, BS.R.toS_ok]
  clear ct it s1 s2 s3 s4 s5
  refine ends_seq (forL_ends (fun k e S' => ∃ f E bs kvs x6 x7 x8, e = frL (some (.scr (ns.map .int))) x6 x7 x8 ∧ LS S' f E bs kvs ∧ E.length = k) ⟨f, [], [], [], none, none, none, rfl, h0, rfl⟩ (fun _ _ _ _ => True.intro) ?_ ?_)
  · rintro k d e S' hd ⟨f, E, bs, kvs, x6, x7, x8, rfl, h, rfl⟩
    rw [List.getElem?_map, Option.map_eq_some_iff] at hd
    obtain ⟨x, hx, rfl⟩ := hd
    have lt := (List.getElem?_eq_some_iff.mp hx).1
    rw [List.length_take] at lt
    obtain ⟨S2, f', e', bs', kvs', y7, y8, e1, h'⟩ := law_turn h (by omega) (some (.scr (ns.map .int))) x6 x7 x8 x
    exact turns_of_nx e1 ⟨f', _, bs', kvs', _, y7, y8, rfl, h', by rw [List.length_append]; rfl⟩
  · rintro e S' ⟨f, E, bs, kvs, x6, x7, x8, rfl, h, lE⟩
    rw [List.length_map, List.length_take] at lE
    have l100 : E.length ≤ 100 := by omega
    have hE : ∀ e ∈ E, e.ok := fun e he => (h.ok e he).ok
    have s9 : mSet 9 (mCall (fnList false) (mCons (mVar 3) mNil)) (frL (some (.scr (ns.map .int))) x6 x7 x8) S' = .nx ⟨[some (.scr (ns.map .int)), some (.obj 0), some (.obj 1), some (.obj 2), some (.obj 3), some (.obj 4), x6, x7, x8, some (.lst (E.map Evt.d))], []⟩ S' := by
      have s2 := h.l5.s2
      generalize E.map Evt.d = ed at *
      generalize ns.map D.int = nd at *
      simp (config := { implicitDefEqProofs := false }) [frL, s2]
    rw [mSeq_ev, s9, RS.seq_nx]
    clear s9
    obtain ⟨T1, r1⟩ := rf_run hE h.on l100 S'
    have r2 := lreq_run hE l100 (at_ext h.l5.s2 T1)
    obtain ⟨T2, r3⟩ := af_run h.ok l100 (S' ++ T1)
    obtain ⟨T3, r4⟩ := lans_run h.ok l100 (at_ext (at_ext h.l5.s2 T1) T2) (at_ext (at_ext h.l5.s3 T1) T2) ((h.bf.keep h.b4 (keep_app T1)).keep h.b4 (keep_app T2))
    have e1 := eqS_sm (S' ++ T1) (fst_sm (req_sm E) (n := E.length)) (fst_sm (req_sm E) (n := E.length))
    have e2 := eqS_sm (S' ++ T1 ++ T2 ++ T3) (fst_sm (ans_sm E) (n := E.length)) (fst_sm (ans_sm E) (n := E.length))
    have e3 := eqS_lobj (n := 6) (at_ext (at_ext (at_ext h.l5.s2 T1) T2) T3) (.of fun d hd => by
      obtain ⟨e, he, rfl⟩ := List.mem_map.mp hd
      exact (evt_sm (h.ok e he)).fl)
    obtain ⟨T4, r5⟩ := rf_run (E := []) (fun e h => nomatch h) Once.nil (by decide) (S' ++ T1 ++ T2 ++ T3)
    obtain ⟨T5, r6⟩ := af_run (E := []) (fun e h => nomatch h) (by decide) (S' ++ T1 ++ T2 ++ T3 ++ T4)
    have n1 : fstV (reqV []) ([] : List Evt).length = .non := rfl
    have n2 : fstV (ansV []) ([] : List Evt).length = .non := rfl
    rw [n1] at r5
    rw [n2] at r6
    have q1 : eqD (fstV (reqV E) E.length) (fstV (reqV E) E.length) = true := eqD_refl (fst_sm (req_sm E)).fl
    have q2 : eqD (fstV (ansV E) E.length) (fstV (ansV E) E.length) = true := eqD_refl (fst_sm (ans_sm E)).fl
    rw [q1] at e1
    rw [q2] at e2
    generalize fstV (reqV E) E.length = v1 at *
    generalize fstV (ansV E) E.length = v2 at *
    clear hE h
    rw [List.map_nil] at r5 r6
    generalize E.map Evt.d = ed at *
    generalize ns.map D.int = nd at *
    generalize S' ++ T1 = S1 at *
    generalize S1 ++ T2 = S2 at *
    generalize S2 ++ T3 = S3 at *
    generalize S3 ++ T4 = S4 at *
    generalize S4 ++ T5 = S5 at *
    simp (config := { implicitDefEqProofs := false }) [r1, r2, r3, r4, e1, e2, e3, r5, r6]
end L_k70
namespace L_k70
open PySem PySem.Spec PyProof.Rows L2 BS
theorem all_mk {P : Program} {w : World} {K : PySem.W.Frag} {h : Heap} {mg : Str → Option Value} {fa : Addr} (hF : ∀ ns : List Int, ns.length ≤ 63 → ∃ S, V_law [.scr (ns.map .int)] [] = .ok (.bl true) S) (X : K.In h) (G : h.Ns mainGlobals mg) (hfa : mg "law" = some (.ref fa))
    {f__page : Addr} {od__page an__page : Option Addr} {sl__page : Array (Option Value)} {oc__page kV__page dc__page pm__page cd__page ct__page : Value}
    {f_apply : Addr} {od_apply an_apply : Option Addr} {sl_apply : Array (Option Value)} {oc_apply kV_apply dc_apply pm_apply cd_apply ct_apply : Value}
    {f_does_request : Addr} {od_does_request an_does_request : Option Addr} {sl_does_request : Array (Option Value)} {oc_does_request kV_does_request dc_does_request pm_does_request cd_does_request ct_does_request : Value}
    {f_request_fault : Addr} {od_request_fault an_request_fault : Option Addr} {sl_request_fault : Array (Option Value)} {oc_request_fault kV_request_fault dc_request_fault pm_request_fault cd_request_fault ct_request_fault : Value}
    {f_page_fits : Addr} {od_page_fits an_page_fits : Option Addr} {sl_page_fits : Array (Option Value)} {oc_page_fits kV_page_fits dc_page_fits pm_page_fits cd_page_fits ct_page_fits : Value}
    {f_answer_fault : Addr} {od_answer_fault an_answer_fault : Option Addr} {sl_answer_fault : Array (Option Value)} {oc_answer_fault kV_answer_fault dc_answer_fault pm_answer_fault cd_answer_fault ct_answer_fault : Value}
    {f__law_op : Addr} {od__law_op an__law_op : Option Addr} {sl__law_op : Array (Option Value)} {oc__law_op kV__law_op dc__law_op pm__law_op cd__law_op ct__law_op : Value}
    {f__law_answer : Addr} {od__law_answer an__law_answer : Option Addr} {sl__law_answer : Array (Option Value)} {oc__law_answer kV__law_answer dc__law_answer pm__law_answer cd__law_answer ct__law_answer : Value}
    {f__law_change : Addr} {od__law_change an__law_change : Option Addr} {sl__law_change : Array (Option Value)} {oc__law_change kV__law_change dc__law_change pm__law_change cd__law_change ct__law_change : Value}
    {f__law_event : Addr} {od__law_event an__law_event : Option Addr} {sl__law_event : Array (Option Value)} {oc__law_event kV__law_event dc__law_event pm__law_event cd__law_event ct__law_event : Value}
    {f__law_fits : Addr} {od__law_fits an__law_fits : Option Addr} {sl__law_fits : Array (Option Value)} {oc__law_fits kV__law_fits dc__law_fits pm__law_fits cd__law_fits ct__law_fits : Value}
    {f__law_requests : Addr} {od__law_requests an__law_requests : Option Addr} {sl__law_requests : Array (Option Value)} {oc__law_requests kV__law_requests dc__law_requests pm__law_requests cd__law_requests ct__law_requests : Value}
    {f__law_answers : Addr} {od__law_answers an__law_answers : Option Addr} {sl__law_answers : Array (Option Value)} {oc__law_answers kV__law_answers dc__law_answers pm__law_answers cd__law_answers ct__law_answers : Value}
    {f_law : Addr} {od_law an_law : Option Addr} {sl_law : Array (Option Value)} {oc_law kV_law dc_law pm_law cd_law ct_law : Value}
    (z_tuple : PySem.W.nsIn K mainGlobals "tuple" = some none)
    (z_len : PySem.W.nsIn K mainGlobals "len" = some none)
    (z_sorted : PySem.W.nsIn K mainGlobals "sorted" = some none)
    (z_isinstance : PySem.W.nsIn K mainGlobals "isinstance" = some none)
    (z_str : PySem.W.nsIn K mainGlobals "str" = some none)
    (z_dict : PySem.W.nsIn K mainGlobals "dict" = some none)
    (z_int : PySem.W.nsIn K mainGlobals "int" = some none)
    (z_max : PySem.W.nsIn K mainGlobals "max" = some none)
    (z_range : PySem.W.nsIn K mainGlobals "range" = some none)
    (z_list : PySem.W.nsIn K mainGlobals "list" = some none)
    (a__page : PySem.W.nsIn K mainGlobals "_page" = some (some (.ref f__page)))
    (l__page : K.lookup f__page = some ⟨oc__page, od__page, .func (PySem.W.fnOf "_page" "_page" (defArgs s__page) (defBody s__page) (defScope s__page) .none kV__page dc__page pm__page an__page cd__page ct__page), sl__page⟩)
    (c__page : PySem.W.codeIn K cd__page "_page" = true)
    (k__page : PySem.W.keepIn K (.ref f__page) = true)
    (a_apply : PySem.W.nsIn K mainGlobals "apply" = some (some (.ref f_apply)))
    (l_apply : K.lookup f_apply = some ⟨oc_apply, od_apply, .func (PySem.W.fnOf "apply" "apply" (defArgs s_apply) (defBody s_apply) (defScope s_apply) .none kV_apply dc_apply pm_apply an_apply cd_apply ct_apply), sl_apply⟩)
    (c_apply : PySem.W.codeIn K cd_apply "apply" = true)
    (k_apply : PySem.W.keepIn K (.ref f_apply) = true)
    (a_does_request : PySem.W.nsIn K mainGlobals "does_request" = some (some (.ref f_does_request)))
    (l_does_request : K.lookup f_does_request = some ⟨oc_does_request, od_does_request, .func (PySem.W.fnOf "does_request" "does_request" (defArgs s_does_request) (defBody s_does_request) (defScope s_does_request) .none kV_does_request dc_does_request pm_does_request an_does_request cd_does_request ct_does_request), sl_does_request⟩)
    (c_does_request : PySem.W.codeIn K cd_does_request "does_request" = true)
    (k_does_request : PySem.W.keepIn K (.ref f_does_request) = true)
    (a_request_fault : PySem.W.nsIn K mainGlobals "request_fault" = some (some (.ref f_request_fault)))
    (l_request_fault : K.lookup f_request_fault = some ⟨oc_request_fault, od_request_fault, .func (PySem.W.fnOf "request_fault" "request_fault" (defArgs s_request_fault) (defBody s_request_fault) (defScope s_request_fault) .none kV_request_fault dc_request_fault pm_request_fault an_request_fault cd_request_fault ct_request_fault), sl_request_fault⟩)
    (c_request_fault : PySem.W.codeIn K cd_request_fault "request_fault" = true)
    (k_request_fault : PySem.W.keepIn K (.ref f_request_fault) = true)
    (a_page_fits : PySem.W.nsIn K mainGlobals "page_fits" = some (some (.ref f_page_fits)))
    (l_page_fits : K.lookup f_page_fits = some ⟨oc_page_fits, od_page_fits, .func (PySem.W.fnOf "page_fits" "page_fits" (defArgs s_page_fits) (defBody s_page_fits) (defScope s_page_fits) .none kV_page_fits dc_page_fits pm_page_fits an_page_fits cd_page_fits ct_page_fits), sl_page_fits⟩)
    (c_page_fits : PySem.W.codeIn K cd_page_fits "page_fits" = true)
    (k_page_fits : PySem.W.keepIn K (.ref f_page_fits) = true)
    (a_answer_fault : PySem.W.nsIn K mainGlobals "answer_fault" = some (some (.ref f_answer_fault)))
    (l_answer_fault : K.lookup f_answer_fault = some ⟨oc_answer_fault, od_answer_fault, .func (PySem.W.fnOf "answer_fault" "answer_fault" (defArgs s_answer_fault) (defBody s_answer_fault) (defScope s_answer_fault) .none kV_answer_fault dc_answer_fault pm_answer_fault an_answer_fault cd_answer_fault ct_answer_fault), sl_answer_fault⟩)
    (c_answer_fault : PySem.W.codeIn K cd_answer_fault "answer_fault" = true)
    (k_answer_fault : PySem.W.keepIn K (.ref f_answer_fault) = true)
    (a__law_op : PySem.W.nsIn K mainGlobals "_law_op" = some (some (.ref f__law_op)))
    (l__law_op : K.lookup f__law_op = some ⟨oc__law_op, od__law_op, .func (PySem.W.fnOf "_law_op" "_law_op" (defArgs s__law_op) (defBody s__law_op) (defScope s__law_op) .none kV__law_op dc__law_op pm__law_op an__law_op cd__law_op ct__law_op), sl__law_op⟩)
    (c__law_op : PySem.W.codeIn K cd__law_op "_law_op" = true)
    (k__law_op : PySem.W.keepIn K (.ref f__law_op) = true)
    (a__law_answer : PySem.W.nsIn K mainGlobals "_law_answer" = some (some (.ref f__law_answer)))
    (l__law_answer : K.lookup f__law_answer = some ⟨oc__law_answer, od__law_answer, .func (PySem.W.fnOf "_law_answer" "_law_answer" (defArgs s__law_answer) (defBody s__law_answer) (defScope s__law_answer) .none kV__law_answer dc__law_answer pm__law_answer an__law_answer cd__law_answer ct__law_answer), sl__law_answer⟩)
    (c__law_answer : PySem.W.codeIn K cd__law_answer "_law_answer" = true)
    (k__law_answer : PySem.W.keepIn K (.ref f__law_answer) = true)
    (a__law_change : PySem.W.nsIn K mainGlobals "_law_change" = some (some (.ref f__law_change)))
    (l__law_change : K.lookup f__law_change = some ⟨oc__law_change, od__law_change, .func (PySem.W.fnOf "_law_change" "_law_change" (defArgs s__law_change) (defBody s__law_change) (defScope s__law_change) .none kV__law_change dc__law_change pm__law_change an__law_change cd__law_change ct__law_change), sl__law_change⟩)
    (c__law_change : PySem.W.codeIn K cd__law_change "_law_change" = true)
    (k__law_change : PySem.W.keepIn K (.ref f__law_change) = true)
    (a__law_event : PySem.W.nsIn K mainGlobals "_law_event" = some (some (.ref f__law_event)))
    (l__law_event : K.lookup f__law_event = some ⟨oc__law_event, od__law_event, .func (PySem.W.fnOf "_law_event" "_law_event" (defArgs s__law_event) (defBody s__law_event) (defScope s__law_event) .none kV__law_event dc__law_event pm__law_event an__law_event cd__law_event ct__law_event), sl__law_event⟩)
    (c__law_event : PySem.W.codeIn K cd__law_event "_law_event" = true)
    (k__law_event : PySem.W.keepIn K (.ref f__law_event) = true)
    (a__law_fits : PySem.W.nsIn K mainGlobals "_law_fits" = some (some (.ref f__law_fits)))
    (l__law_fits : K.lookup f__law_fits = some ⟨oc__law_fits, od__law_fits, .func (PySem.W.fnOf "_law_fits" "_law_fits" (defArgs s__law_fits) (defBody s__law_fits) (defScope s__law_fits) .none kV__law_fits dc__law_fits pm__law_fits an__law_fits cd__law_fits ct__law_fits), sl__law_fits⟩)
    (c__law_fits : PySem.W.codeIn K cd__law_fits "_law_fits" = true)
    (k__law_fits : PySem.W.keepIn K (.ref f__law_fits) = true)
    (a__law_requests : PySem.W.nsIn K mainGlobals "_law_requests" = some (some (.ref f__law_requests)))
    (l__law_requests : K.lookup f__law_requests = some ⟨oc__law_requests, od__law_requests, .func (PySem.W.fnOf "_law_requests" "_law_requests" (defArgs s__law_requests) (defBody s__law_requests) (defScope s__law_requests) .none kV__law_requests dc__law_requests pm__law_requests an__law_requests cd__law_requests ct__law_requests), sl__law_requests⟩)
    (c__law_requests : PySem.W.codeIn K cd__law_requests "_law_requests" = true)
    (k__law_requests : PySem.W.keepIn K (.ref f__law_requests) = true)
    (a__law_answers : PySem.W.nsIn K mainGlobals "_law_answers" = some (some (.ref f__law_answers)))
    (l__law_answers : K.lookup f__law_answers = some ⟨oc__law_answers, od__law_answers, .func (PySem.W.fnOf "_law_answers" "_law_answers" (defArgs s__law_answers) (defBody s__law_answers) (defScope s__law_answers) .none kV__law_answers dc__law_answers pm__law_answers an__law_answers cd__law_answers ct__law_answers), sl__law_answers⟩)
    (c__law_answers : PySem.W.codeIn K cd__law_answers "_law_answers" = true)
    (k__law_answers : PySem.W.keepIn K (.ref f__law_answers) = true)
    (a_law : PySem.W.nsIn K mainGlobals "law" = some (some (.ref f_law)))
    (l_law : K.lookup f_law = some ⟨oc_law, od_law, .func (PySem.W.fnOf "law" "law" (defArgs s_law) (defBody s_law) (defScope s_law) .none kV_law dc_law pm_law an_law cd_law ct_law), sl_law⟩)
    (c_law : PySem.W.codeIn K cd_law "law" = true)
    (k_law : PySem.W.keepIn K (.ref f_law) = true)
    : ∃ fd : FuncData, (∀ (s : Shared) (u : Value), BindsTo s fd ⟨[u], []⟩ [("_law_script", u)]) ∧ ∀ base : Heap, K.In base → base.Ns mainGlobals mg → FnOk P w K mg base (L2.CX P w) 4 fa fd ["_law_script"] (spLaw K) := by
  have e := hfa.symm.trans (PySem.W.mg_of X G a_law)
  cases e
  refine ⟨PySem.W.fnOf "law" "law" (defArgs s_law) (defBody s_law) (defScope s_law) .none kV_law dc_law pm_law an_law cd_law ct_law, fun s u => .of_eq rfl, fun base _ _ => ?_⟩
  have F__page := fun_mk (st := s__page) l__page c__page k__page
  have b__page := F__page.binds (ps := ["items", "low", "limit", "high"]) fun _ _ _ _ _ _ us hl => match us, hl with | [_, _, _, _], _ => rfl
  have F_apply := fun_mk (st := s_apply) l_apply c_apply k_apply
  have b_apply := F_apply.binds (ps := ["items", "op", "high"]) fun _ _ _ _ _ _ us hl => match us, hl with | [_, _, _], _ => rfl
  have F_does_request := fun_mk (st := s_does_request) l_does_request c_does_request k_does_request
  have b_does_request := F_does_request.binds (ps := ["event"]) fun _ _ _ _ _ _ us hl => match us, hl with | [_], _ => rfl
  have F_request_fault := fun_mk (st := s_request_fault) l_request_fault c_request_fault k_request_fault
  have b_request_fault := F_request_fault.binds (ps := ["events"]) fun _ _ _ _ _ _ us hl => match us, hl with | [_], _ => rfl
  have F_page_fits := fun_mk (st := s_page_fits) l_page_fits c_page_fits k_page_fits
  have b_page_fits := F_page_fits.binds (ps := ["items", "operation", "answer"]) fun _ _ _ _ _ _ us hl => match us, hl with | [_, _, _], _ => rfl
  have F_answer_fault := fun_mk (st := s_answer_fault) l_answer_fault c_answer_fault k_answer_fault
  have b_answer_fault := F_answer_fault.binds (ps := ["events"]) fun _ _ _ _ _ _ us hl => match us, hl with | [_], _ => rfl
  have F__law_op := fun_mk (st := s__law_op) l__law_op c__law_op k__law_op
  have b__law_op := F__law_op.binds (ps := ["_law_cell_here"]) fun _ _ _ _ _ _ us hl => match us, hl with | [_], _ => rfl
  have F__law_answer := fun_mk (st := s__law_answer) l__law_answer c__law_answer k__law_answer
  have b__law_answer := F__law_answer.binds (ps := ["_law_items", "_law_op_here", "_law_cell_here"]) fun _ _ _ _ _ _ us hl => match us, hl with | [_, _, _], _ => rfl
  have F__law_change := fun_mk (st := s__law_change) l__law_change c__law_change k__law_change
  have b__law_change := F__law_change.binds (ps := ["_law_items", "_law_op_here"]) fun _ _ _ _ _ _ us hl => match us, hl with | [_, _], _ => rfl
  have F__law_event := fun_mk (st := s__law_event) l__law_event c__law_event k__law_event
  have b__law_event := F__law_event.binds (ps := ["_law_state", "_law_cell_here", "_law_time"]) fun _ _ _ _ _ _ us hl => match us, hl with | [_, _, _], _ => rfl
  have F__law_fits := fun_mk (st := s__law_fits) l__law_fits c__law_fits k__law_fits
  have b__law_fits := F__law_fits.binds (ps := ["_law_op_here", "_law_answer_here", "_law_items"]) fun _ _ _ _ _ _ us hl => match us, hl with | [_, _, _], _ => rfl
  have F__law_requests := fun_mk (st := s__law_requests) l__law_requests c__law_requests k__law_requests
  have b__law_requests := F__law_requests.binds (ps := ["_law_events"]) fun _ _ _ _ _ _ us hl => match us, hl with | [_], _ => rfl
  have F__law_answers := fun_mk (st := s__law_answers) l__law_answers c__law_answers k__law_answers
  have b__law_answers := F__law_answers.binds (ps := ["_law_events", "_law_befores"]) fun _ _ _ _ _ _ us hl => match us, hl with | [_, _], _ => rfl
  have F_law := fun_mk (st := s_law) l_law c_law k_law
  have q0 : mg "tuple" = none := PySem.W.mg_none_of X G z_tuple
  have q1 : mg "len" = none := PySem.W.mg_none_of X G z_len
  have q2 : mg "sorted" = none := PySem.W.mg_none_of X G z_sorted
  have o__page : FnOk P w K mg base (L2.CX P w) 1 f__page _ ["items", "low", "limit", "high"] (spD (nm (tkHash w)) K mg 4 V__page) := ok__page F__page q0 q1 q2
  have q3 : DefOk P w K mg base (nm (tkHash w)) 1 "_page" 4 V__page := def_mk (PySem.W.mg_of X G a__page) k__page rfl b__page o__page
  have o_apply : FnOk P w K mg base (L2.CX P w) 2 f_apply _ ["items", "op", "high"] (spD (nm (tkHash w)) K mg 3 V_apply) := ok_apply F_apply q3
  have o_does_request : FnOk P w K mg base (L2.CX P w) 1 f_does_request _ ["event"] (spD (nm (tkHash w)) K mg 1 V_does_request) := ok_does_request F_does_request 
  have q4 : DefOk P w K mg base (nm (tkHash w)) 1 "does_request" 1 V_does_request := def_mk (PySem.W.mg_of X G a_does_request) k_does_request rfl b_does_request o_does_request
  have o_request_fault : FnOk P w K mg base (L2.CX P w) 2 f_request_fault _ ["events"] (spD (nm (tkHash w)) K mg 1 V_request_fault) := ok_request_fault F_request_fault q4
  have q5 : mg "isinstance" = none := PySem.W.mg_none_of X G z_isinstance
  have q6 : mg "str" = none := PySem.W.mg_none_of X G z_str
  have o_page_fits : FnOk P w K mg base (L2.CX P w) 1 f_page_fits _ ["items", "operation", "answer"] (spD (nm (tkHash w)) K mg 3 V_page_fits) := ok_page_fits F_page_fits q1 q0 q2 q5 q6
  have q7 : DefOk P w K mg base (nm (tkHash w)) 1 "page_fits" 3 V_page_fits := def_mk (PySem.W.mg_of X G a_page_fits) k_page_fits rfl b_page_fits o_page_fits
  have q8 : DefOk P w K mg base (nm (tkHash w)) 2 "apply" 3 V_apply := def_mk (PySem.W.mg_of X G a_apply) k_apply rfl b_apply o_apply
  have q9 : mg "dict" = none := PySem.W.mg_none_of X G z_dict
  have o_answer_fault : FnOk P w K mg base (L2.CX P w) 3 f_answer_fault _ ["events"] (spD (nm (tkHash w)) K mg 1 V_answer_fault) := ok_answer_fault F_answer_fault q7 q4 q8 q9
  have q10 : mg "int" = none := PySem.W.mg_none_of X G z_int
  have o__law_op : FnOk P w K mg base (L2.CX P w) 1 f__law_op _ ["_law_cell_here"] (spD (nm (tkHash w)) K mg 1 V__law_op) := ok__law_op F__law_op q10
  have o__law_answer : FnOk P w K mg base (L2.CX P w) 1 f__law_answer _ ["_law_items", "_law_op_here", "_law_cell_here"] (spD (nm (tkHash w)) K mg 3 V__law_answer) := ok__law_answer F__law_answer q0 q1 q10 q2
  have o__law_change : FnOk P w K mg base (L2.CX P w) 1 f__law_change _ ["_law_items", "_law_op_here"] (spD (nm (tkHash w)) K mg 2 V__law_change) := ok__law_change F__law_change 
  have q11 : DefOk P w K mg base (nm (tkHash w)) 1 "_law_op" 1 V__law_op := def_mk (PySem.W.mg_of X G a__law_op) k__law_op rfl b__law_op o__law_op
  have q12 : mg "max" = none := PySem.W.mg_none_of X G z_max
  have o__law_event : FnOk P w K mg base (L2.CX P w) 2 f__law_event _ ["_law_state", "_law_cell_here", "_law_time"] (spD (nm (tkHash w)) K mg 3 V__law_event) := ok__law_event F__law_event q10 q11 q12
  have q13 : DefOk P w K mg base (nm (tkHash w)) 1 "_law_answer" 3 V__law_answer := def_mk (PySem.W.mg_of X G a__law_answer) k__law_answer rfl b__law_answer o__law_answer
  have o__law_fits : FnOk P w K mg base (L2.CX P w) 2 f__law_fits _ ["_law_op_here", "_law_answer_here", "_law_items"] (spD (nm (tkHash w)) K mg 3 V__law_fits) := ok__law_fits F__law_fits q1 q0 q2 q5 q6 q13
  have q14 : mg "range" = none := PySem.W.mg_none_of X G z_range
  have o__law_requests : FnOk P w K mg base (L2.CX P w) 1 f__law_requests _ ["_law_events"] (spD (nm (tkHash w)) K mg 1 V__law_requests) := ok__law_requests F__law_requests q14 q1
  have q15 : DefOk P w K mg base (nm (tkHash w)) 2 "_law_fits" 3 V__law_fits := def_mk (PySem.W.mg_of X G a__law_fits) k__law_fits rfl b__law_fits o__law_fits
  have o__law_answers : FnOk P w K mg base (L2.CX P w) 3 f__law_answers _ ["_law_events", "_law_befores"] (spD (nm (tkHash w)) K mg 2 V__law_answers) := ok__law_answers F__law_answers q14 q1 q15
  have q16 : DefOk P w K mg base (nm (tkHash w)) 2 "request_fault" 1 V_request_fault := def_mk (PySem.W.mg_of X G a_request_fault) k_request_fault rfl b_request_fault o_request_fault
  have q17 : DefOk P w K mg base (nm (tkHash w)) 3 "answer_fault" 1 V_answer_fault := def_mk (PySem.W.mg_of X G a_answer_fault) k_answer_fault rfl b_answer_fault o_answer_fault
  have q18 : DefOk P w K mg base (nm (tkHash w)) 1 "_law_requests" 1 V__law_requests := def_mk (PySem.W.mg_of X G a__law_requests) k__law_requests rfl b__law_requests o__law_requests
  have q19 : DefOk P w K mg base (nm (tkHash w)) 3 "_law_answers" 2 V__law_answers := def_mk (PySem.W.mg_of X G a__law_answers) k__law_answers rfl b__law_answers o__law_answers
  have q20 : mg "list" = none := PySem.W.mg_none_of X G z_list
  have q21 : DefOk P w K mg base (nm (tkHash w)) 1 "_law_change" 2 V__law_change := def_mk (PySem.W.mg_of X G a__law_change) k__law_change rfl b__law_change o__law_change
  have q22 : DefOk P w K mg base (nm (tkHash w)) 2 "_law_event" 3 V__law_event := def_mk (PySem.W.mg_of X G a__law_event) k__law_event rfl b__law_event o__law_event
  exact law_end (ok_law F_law q16 q17 q18 q19 q20 q21 q13 q9 q22 q1) hF
end L_k70
open PySem PySem.W PyProof.Rows
set_option maxRecDepth 100000 in
set_option maxHeartbeats 0 in
theorem PySem.Challenge.cw_boundstone_k70_requests_and_answers_holds : PySem.Challenge.rw_boundstone_k70_requests_and_answers.Holds := by
  w_on; o_law; k_head; (case hw => w_witness2)
  k_fill
  refine BS.walk (l := PySem.Challenge.rw_boundstone_k70_requests_and_answers) (k := 4) (x := "_law_script") rfl rfl ⟨rfl, by decide, by decide⟩ (fun w h Y => PySem.W.kIn_of Y) ?F
  case F =>
    intro w mg fa h KX G hmg
    refine' L_k70.all_mk L_k70.law_true KX G hmg ?z_tuple ?z_len ?z_sorted ?z_isinstance ?z_str ?z_dict ?z_int ?z_max ?z_range ?z_list ?a__page ?l__page ?c__page ?k__page ?a_apply ?l_apply ?c_apply ?k_apply ?a_does_request ?l_does_request ?c_does_request ?k_does_request ?a_request_fault ?l_request_fault ?c_request_fault ?k_request_fault ?a_page_fits ?l_page_fits ?c_page_fits ?k_page_fits ?a_answer_fault ?l_answer_fault ?c_answer_fault ?k_answer_fault ?a__law_op ?l__law_op ?c__law_op ?k__law_op ?a__law_answer ?l__law_answer ?c__law_answer ?k__law_answer ?a__law_change ?l__law_change ?c__law_change ?k__law_change ?a__law_event ?l__law_event ?c__law_event ?k__law_event ?a__law_fits ?l__law_fits ?c__law_fits ?k__law_fits ?a__law_requests ?l__law_requests ?c__law_requests ?k__law_requests ?a__law_answers ?l__law_answers ?c__law_answers ?k__law_answers ?a_law ?l_law ?c_law ?k_law
    (case z_tuple => k_is)
    (case z_len => k_is)
    (case z_sorted => k_is)
    (case z_isinstance => k_is)
    (case z_str => k_is)
    (case z_dict => k_is)
    (case z_int => k_is)
    (case z_max => k_is)
    (case z_range => k_is)
    (case z_list => k_is)
    (case a__page => k_is)
    (case l__page => k_is)
    (case c__page => k_is)
    (case k__page => k_is)
    (case a_apply => k_is)
    (case l_apply => k_is)
    (case c_apply => k_is)
    (case k_apply => k_is)
    (case a_does_request => k_is)
    (case l_does_request => k_is)
    (case c_does_request => k_is)
    (case k_does_request => k_is)
    (case a_request_fault => k_is)
    (case l_request_fault => k_is)
    (case c_request_fault => k_is)
    (case k_request_fault => k_is)
    (case a_page_fits => k_is)
    (case l_page_fits => k_is)
    (case c_page_fits => k_is)
    (case k_page_fits => k_is)
    (case a_answer_fault => k_is)
    (case l_answer_fault => k_is)
    (case c_answer_fault => k_is)
    (case k_answer_fault => k_is)
    (case a__law_op => k_is)
    (case l__law_op => k_is)
    (case c__law_op => k_is)
    (case k__law_op => k_is)
    (case a__law_answer => k_is)
    (case l__law_answer => k_is)
    (case c__law_answer => k_is)
    (case k__law_answer => k_is)
    (case a__law_change => k_is)
    (case l__law_change => k_is)
    (case c__law_change => k_is)
    (case k__law_change => k_is)
    (case a__law_event => k_is)
    (case l__law_event => k_is)
    (case c__law_event => k_is)
    (case k__law_event => k_is)
    (case a__law_fits => k_is)
    (case l__law_fits => k_is)
    (case c__law_fits => k_is)
    (case k__law_fits => k_is)
    (case a__law_requests => k_is)
    (case l__law_requests => k_is)
    (case c__law_requests => k_is)
    (case k__law_requests => k_is)
    (case a__law_answers => k_is)
    (case l__law_answers => k_is)
    (case c__law_answers => k_is)
    (case k__law_answers => k_is)
    (case a_law => k_is)
    (case l_law => k_is)
    (case c_law => k_is)
    (case k_law => k_is)
