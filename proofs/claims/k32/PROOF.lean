import PyProof.Rows.All
import Wide.All
import OpenK.AllK
import Wide.FinOn
import HandS.ForMost
import HandS.ForExc
import HandS.Wide
import HandS.CallSlots
import HandS.HotCalls
import KE.DataEq
import KE.DataCmp
import HandS.IsInst
import HandS.TupAny
import HandS.ExcInit
import KE.KxIndex
import HandS.ExcIs
import HandS.SortInts
import HandS.More
import HandS.DictComp
import HandS.Style
import HandS.SortKw
import HandS.Text
import HandS.StrMore
import HandS.StrSplit
import HandS.FStr
import HandS.ReplaceLit
import HandS.Set
import HandS.Strs
import HandS.SetFor
import PyProof.StrLawsOcc
import PyProof.StrLawsFirst
import PySem.Challenge.RW_boundstone_k32_epochs_of_keys
set_option Elab.async false
set_option linter.all false
set_option maxRecDepth 100000
set_option maxHeartbeats 4000000
namespace BS
open PySem PySem.Spec PyProof.Rows L2
/-- plain data by value (lst: a list that nobody changes any more; scr: the script); obj n: the n-th object of the store -/
inductive D where
  | non | bl (b : Bool) | int (i : Int) | str (x : Str) | tup (ds : List D) | lst (ds : List D) | scr (ds : List D) | obj (n : Nat)
/-- objects that may change; classes and fields by numbers; lck: a dict over which a loop runs -/
inductive O where
  | lst (ds : List D) | dct (kvs : List (Key × D)) | ins (c : Nat) (fs : List (Nat × D)) | lck (kvs : List (Key × D))
abbrev Store := List O
inductive R (α : Type) where
  | ok (a : α) (S : Store) | exc (c : Nat) (fs : List (Nat × D)) (S : Store) | stuck
def R.bind {α β : Type} (r : R α) (k : α → Store → R β) : R β := match r with
  | .ok a S => k a S
  | .exc c fs S => .exc c fs S
  | .stuck => .stuck
@[simp] theorem R.bind_ok {α β : Type} (a : α) (S : Store) (k : α → Store → R β) : (R.ok a S).bind k = k a S := rfl
@[simp] theorem R.bind_exc {α β : Type} (c : Nat) (fs : List (Nat × D)) (S : Store) (k : α → Store → R β) : (R.exc c fs S).bind k = .exc c fs S := rfl
@[simp] theorem R.bind_stuck {α β : Type} (k : α → Store → R β) : (R.stuck : R α).bind k = .stuck := rfl
/-- the names' values; ex: the caught exceptions that names stand for -/
structure Ev where
  sl : List (Option D)
  ex : List (Nat × Nat × List (Nat × D)) := []
inductive RS where
  | nx (e : Ev) (S : Store) | rt (d : D) (S : Store) | bk (e : Ev) (S : Store) | ct (e : Ev) (S : Store) | exc (c : Nat) (fs : List (Nat × D)) (e : Ev) (S : Store) | stuck
abbrev EM := Ev → Store → R D
abbrev TM := Ev → Store → R Bool
abbrev AM := Ev → Store → R (List D)
abbrev SM := Ev → Store → RS
abbrev GM := D → Ev → Store → RS
/-- a def -/
abbrev FM := List D → Store → R D
/-- how classes and fields are named -/
structure Nms where
  cls : Nat → Str
  fld : Nat → Str
  most : Nat
  inj : ∀ i j, i < most → j < most → fld i = fld j → i = j
def KTup (K : PySem.W.Frag) (a : Addr) (xs : List V) : Prop :=
  ∃ (o : Obj) (its : Array Value) (n : Nat), K.lookup a = some o ∧ o.cls = .type "tuple" ∧ o.data = .seq its n ∧ its.size ≤ sizeLine ∧ Vals xs its.toList
def KLst (K : PySem.W.Frag) (a : Addr) (xs : List V) : Prop :=
  ∃ (o : Obj) (its : Array Value) (n : Nat), K.lookup a = some o ∧ o.cls = .type "list" ∧ o.dict = none ∧ o.data = .seq its n ∧ its.size ≤ sizeLine ∧ Vals xs its.toList
def TupAt (K : PySem.W.Frag) (H : Hp) (μ : List Addr) (a : Addr) (xs : List V) : Prop := (a ∉ μ ∧ Rd H a (.tup xs)) ∨ KTup K a xs
def LstAt (H : Hp) (μ : List Addr) (a : Addr) (xs : List V) : Prop := a ∉ μ ∧ H a = some (.lst xs)
def ScrAt (K : PySem.W.Frag) (H : Hp) (μ : List Addr) (a : Addr) (xs : List V) : Prop := (a ∉ μ ∧ Rd H a (.lst xs)) ∨ KLst K a xs
theorem TupAt.sq {K : PySem.W.Frag} {H : Hp} {μ : List Addr} {a : Addr} {xs : List V} (h : TupAt K H μ a xs) : SqT K H a xs := h.elim (fun h => .inl h.2) .inr
theorem ScrAt.sq {K : PySem.W.Frag} {H : Hp} {μ : List Addr} {a : Addr} {xs : List V} (h : ScrAt K H μ a xs) : SqL K H a xs := h.elim (fun h => .inl h.2) .inr
mutual
inductive RV (K : PySem.W.Frag) (H : Hp) (μ : List Addr) : V → D → Prop
  | non : RV K H μ .non .non
  | bl (b : Bool) : RV K H μ (.bl b) (.bl b)
  | int (i : Int) : RV K H μ (.int i) (.int i)
  | str (x : Str) : RV K H μ (.str x) (.str x)
  | tup {a : Addr} {xs : List V} {ds : List D} : TupAt K H μ a xs → RVs K H μ xs ds → RV K H μ (.ref a) (.tup ds)
  | lst {a : Addr} {xs : List V} {ds : List D} : LstAt H μ a xs → RVs K H μ xs ds → RV K H μ (.ref a) (.lst ds)
  | scr {a : Addr} {xs : List V} {ds : List D} : ScrAt K H μ a xs → RVs K H μ xs ds → RV K H μ (.ref a) (.scr ds)
  | obj {a : Addr} {n : Nat} : μ[n]? = some a → RV K H μ (.ref a) (.obj n)
inductive RVs (K : PySem.W.Frag) (H : Hp) (μ : List Addr) : List V → List D → Prop
  | nil : RVs K H μ [] []
  | cons {v : V} {vs : List V} {d : D} {ds : List D} : RV K H μ v d → RVs K H μ vs ds → RVs K H μ (v :: vs) (d :: ds)
end
section
variable {K : PySem.W.Frag} {H H' : Hp} {μ μ' : List Addr}
theorem RVs.length : ∀ {vs : List V} {ds : List D}, RVs K H μ vs ds → vs.length = ds.length
  | [], _, h => by cases h; rfl
  | _ :: vs, _, h => by
    cases h with
    | cons _ t => simp only [List.length_cons, RVs.length t]
theorem RVs.get : ∀ {vs : List V} {ds : List D} {i : Nat} {d : D}, RVs K H μ vs ds → ds[i]? = some d → ∃ v, vs[i]? = some v ∧ RV K H μ v d
  | [], _, _, _, h, e => by cases h; simp at e
  | v :: vs, _, 0, d, h, e => by
    cases h with
    | cons r _ => simp at e; subst e; exact ⟨v, rfl, r⟩
  | v :: vs, _, i + 1, d, h, e => by
    cases h with
    | cons _ t => exact RVs.get (vs := vs) t (by simpa using e)
theorem RVs.get' : ∀ {vs : List V} {ds : List D} {i : Nat} {v : V}, RVs K H μ vs ds → vs[i]? = some v → ∃ d, ds[i]? = some d ∧ RV K H μ v d
  | [], _, _, _, h, e => by simp at e
  | v :: vs, _, 0, w, h, e => by
    cases h with
    | cons r _ => simp at e; subst e; exact ⟨_, rfl, r⟩
  | v :: vs, _, i + 1, w, h, e => by
    cases h with
    | cons _ t =>
      obtain ⟨d, e1, r⟩ := RVs.get' (i := i) t (by simpa using e)
      exact ⟨d, by simpa using e1, r⟩
theorem RVs.append : ∀ {vs ws : List V} {ds es : List D}, RVs K H μ vs ds → RVs K H μ ws es → RVs K H μ (vs ++ ws) (ds ++ es)
  | [], _, _, _, h, t => by cases h; exact t
  | _ :: _, _, _, _, h, t => by
    cases h with
    | cons r h => exact .cons r (RVs.append h t)
theorem RVs.take : ∀ {vs : List V} {ds : List D} (n : Nat), RVs K H μ vs ds → RVs K H μ (vs.take n) (ds.take n)
  | _, _, 0, _ => .nil
  | [], _, _ + 1, h => by cases h; exact .nil
  | _ :: _, _, n + 1, h => by
    cases h with
    | cons r h => exact .cons r (RVs.take n h)
theorem RVs.drop : ∀ {vs : List V} {ds : List D} (n : Nat), RVs K H μ vs ds → RVs K H μ (vs.drop n) (ds.drop n)
  | _, _, 0, h => h
  | [], _, _ + 1, h => by cases h; exact .nil
  | _ :: _, _, n + 1, h => by
    cases h with
    | cons r h => exact RVs.drop n h
theorem RVs.set : ∀ {vs : List V} {ds : List D} (n : Nat) {v : V} {d : D}, RVs K H μ vs ds → RV K H μ v d → RVs K H μ (vs.set n v) (ds.set n d)
  | [], _, _, _, _, h, _ => by cases h; exact .nil
  | _ :: _, _, 0, _, _, h, r => by
    cases h with
    | cons _ h => exact .cons r h
  | _ :: _, _, n + 1, _, _, h, r => by
    cases h with
    | cons q h => exact .cons q (RVs.set n h r)
theorem RVs.eraseIdx : ∀ {vs : List V} {ds : List D} (n : Nat), RVs K H μ vs ds → RVs K H μ (vs.eraseIdx n) (ds.eraseIdx n)
  | [], _, _, h => by cases h; exact .nil
  | _ :: _, _, 0, h => by
    cases h with
    | cons _ h => exact h
  | _ :: _, _, n + 1, h => by
    cases h with
    | cons q h => exact .cons q (RVs.eraseIdx n h)
theorem rvs_ints : ∀ ns : List Int, RVs K H μ (ns.map V.int) (ns.map D.int)
  | [] => .nil
  | n :: r => .cons (.int n) (rvs_ints r)
theorem rvs_iff : ∀ {vs : List V} {ds : List D}, RVs K H μ vs ds ↔ Paired (RV K H μ) vs ds
  | [], [] => ⟨fun _ => .nil, fun _ => .nil⟩
  | [], _ :: _ => ⟨fun h => (nomatch h), fun h => (nomatch h)⟩
  | _ :: _, [] => ⟨fun h => (nomatch h), fun h => (nomatch h)⟩
  | _ :: _, _ :: _ => ⟨fun h => by cases h with | cons r t => exact .cons r (rvs_iff.mp t), fun h => by cases h with | cons r t => exact .cons r (rvs_iff.mpr t)⟩
/-- what an evaluation leaves as it was: all that is tracked and no object of the store; new objects of the store were free -/
structure ExtW (μ : List Addr) (H : Hp) (μ' : List Addr) (H' : Hp) : Prop where
  pre : ∃ ν, μ' = μ ++ ν
  fr : ∀ a, a ∈ μ' → a ∉ μ → H a = none
  keep : ∀ a o, a ∉ μ → H a = some o → H' a = some o
theorem ExtW.refl : ExtW μ H μ H := ⟨⟨[], by simp⟩, fun a h n => absurd h n, fun _ _ _ h => h⟩
theorem ExtW.trans {μ1 μ2 : List Addr} {H1 H2 : Hp} (a : ExtW μ H μ1 H1) (b : ExtW μ1 H1 μ2 H2) : ExtW μ H μ2 H2 := by
  obtain ⟨ν, e⟩ := a.pre
  obtain ⟨ν', e'⟩ := b.pre
  refine ⟨⟨ν ++ ν', by rw [e', e, List.append_assoc]⟩, fun x h n => ?_, fun x o n h => ?_⟩
  · by_cases q : x ∈ μ1
    · exact a.fr x q n
    · have z := b.fr x h q
      cases w : H x with
      | none => rfl
      | some o => rw [a.keep x o n w] at z; cases z
  · refine b.keep x o (fun q => ?_) (a.keep x o n h)
    have z := a.fr x q n
    rw [h] at z; cases z
theorem ExtW.rd {u : HO} {a : Addr} (x : ExtW μ H μ' H') (n : a ∉ μ) (h : Rd H a u) : Rd H' a u := by
  rcases h with h | ⟨o, h⟩
  · exact .inl (x.keep a _ n h)
  · exact .inr ⟨o, x.keep a _ n h⟩
theorem ExtW.out {u : HO} {a : Addr} (x : ExtW μ H μ' H') (n : a ∉ μ) (h : Rd H a u) : a ∉ μ' := fun q => by
  have z := x.fr a q n
  rcases h with h | ⟨o, h⟩ <;> (rw [h] at z; cases z)
theorem ExtW.at (x : ExtW μ H μ' H') {n : Nat} {a : Addr} (h : μ[n]? = some a) : μ'[n]? = some a := by
  obtain ⟨ν, e⟩ := x.pre
  rw [e, List.getElem?_append_left (List.getElem?_eq_some_iff.mp h).1, h]
theorem TupAt.extW {a : Addr} {xs : List V} (x : ExtW μ H μ' H') (h : TupAt K H μ a xs) : TupAt K H' μ' a xs :=
  h.elim (fun h => .inl ⟨x.out h.1 h.2, x.rd h.1 h.2⟩) .inr
theorem LstAt.extW {a : Addr} {xs : List V} (x : ExtW μ H μ' H') (h : LstAt H μ a xs) : LstAt H' μ' a xs :=
  ⟨x.out h.1 (.inl h.2), x.keep _ _ h.1 h.2⟩
theorem ScrAt.extW {a : Addr} {xs : List V} (x : ExtW μ H μ' H') (h : ScrAt K H μ a xs) : ScrAt K H' μ' a xs :=
  h.elim (fun h => .inl ⟨x.out h.1 h.2, x.rd h.1 h.2⟩) .inr
mutual
theorem RV.extW (x : ExtW μ H μ' H') : ∀ {v : V} (d : D), RV K H μ v d → RV K H' μ' v d
  | _, .non, h => by cases h; exact .non
  | _, .bl b, h => by cases h; exact .bl b
  | _, .int i, h => by cases h; exact .int i
  | _, .str y, h => by cases h; exact .str y
  | _, .tup ds, h => by
    cases h with
    | tup t r => exact .tup (t.extW x) (RVs.extW x ds r)
  | _, .lst ds, h => by
    cases h with
    | lst t r => exact .lst (t.extW x) (RVs.extW x ds r)
  | _, .scr ds, h => by
    cases h with
    | scr t r => exact .scr (t.extW x) (RVs.extW x ds r)
  | _, .obj n, h => by
    cases h with
    | obj e => exact .obj (x.at e)
theorem RVs.extW (x : ExtW μ H μ' H') : ∀ {vs : List V} (ds : List D), RVs K H μ vs ds → RVs K H' μ' vs ds
  | _, [], h => by cases h; exact .nil
  | _, d :: ds, h => by
    cases h with
    | cons r t => exact .cons (RV.extW x d r) (RVs.extW x ds t)
end
/-- .. and no object that is locked -/
structure Ext (μ : List Addr) (H : Hp) (μ' : List Addr) (H' : Hp) : Prop extends ExtW μ H μ' H' where
  fz : ∀ a o u, H a = some (.frz o u) → H' a = some (.frz o u)
theorem Ext.refl : Ext μ H μ H := ⟨.refl, fun _ _ _ h => h⟩
theorem Ext.trans {μ1 μ2 : List Addr} {H1 H2 : Hp} (a : Ext μ H μ1 H1) (b : Ext μ1 H1 μ2 H2) : Ext μ H μ2 H2 := ⟨a.toExtW.trans b.toExtW, fun x o u h => b.fz _ _ _ (a.fz _ _ _ h)⟩
theorem Ext.rd {u : HO} {a : Addr} (x : Ext μ H μ' H') (n : a ∉ μ) (h : Rd H a u) : Rd H' a u := x.toExtW.rd n h
theorem Ext.out {u : HO} {a : Addr} (x : Ext μ H μ' H') (n : a ∉ μ) (h : Rd H a u) : a ∉ μ' := x.toExtW.out n h
theorem Ext.at (x : Ext μ H μ' H') {n : Nat} {a : Addr} (h : μ[n]? = some a) : μ'[n]? = some a := x.toExtW.at h
theorem TupAt.ext {a : Addr} {xs : List V} (x : Ext μ H μ' H') (h : TupAt K H μ a xs) : TupAt K H' μ' a xs := h.extW x.toExtW
theorem LstAt.ext {a : Addr} {xs : List V} (x : Ext μ H μ' H') (h : LstAt H μ a xs) : LstAt H' μ' a xs := h.extW x.toExtW
theorem ScrAt.ext {a : Addr} {xs : List V} (x : Ext μ H μ' H') (h : ScrAt K H μ a xs) : ScrAt K H' μ' a xs := h.extW x.toExtW
theorem RV.ext (x : Ext μ H μ' H') {v : V} (d : D) (h : RV K H μ v d) : RV K H' μ' v d := RV.extW x.toExtW d h
theorem RVs.ext (x : Ext μ H μ' H') {vs : List V} (ds : List D) (h : RVs K H μ vs ds) : RVs K H' μ' vs ds := RVs.extW x.toExtW ds h
/-- named fields -/
abbrev RF (nm : Nms) (K : PySem.W.Frag) (H : Hp) (μ : List Addr) : List (Str × V) → List (Nat × D) → Prop :=
  Paired fun (p : Str × V) (q : Nat × D) => p.1 = nm.fld q.1 ∧ q.1 < nm.most ∧ RV K H μ p.2 q.2
abbrev RK (K : PySem.W.Frag) (H : Hp) (μ : List Addr) : List (Key × V) → List (Key × D) → Prop :=
  Paired fun (p : Key × V) (q : Key × D) => p.1 = q.1 ∧ RV K H μ p.2 q.2
theorem RF.extW {nm : Nms} (x : ExtW μ H μ' H') {gs : List (Str × V)} {fs : List (Nat × D)} (h : RF nm K H μ gs fs) : RF nm K H' μ' gs fs :=
  Paired.mapP h fun _ q z => ⟨z.1, z.2.1, RV.extW x q.2 z.2.2⟩
theorem RK.extW (x : ExtW μ H μ' H') {gs : List (Key × V)} {fs : List (Key × D)} (h : RK K H μ gs fs) : RK K H' μ' gs fs :=
  Paired.mapP h fun _ q z => ⟨z.1, RV.extW x q.2 z.2⟩
theorem RF.ext {nm : Nms} (x : Ext μ H μ' H') {gs : List (Str × V)} {fs : List (Nat × D)} (h : RF nm K H μ gs fs) : RF nm K H' μ' gs fs := RF.extW x.toExtW h
theorem RK.ext (x : Ext μ H μ' H') {gs : List (Key × V)} {fs : List (Key × D)} (h : RK K H μ gs fs) : RK K H' μ' gs fs := RK.extW x.toExtW h
def OK (nm : Nms) (K : PySem.W.Frag) (mg : Str → Option Value) (H : Hp) (μ : List Addr) (a : Addr) : O → Prop
  | .lst ds => ∃ xs, H a = some (.lst xs) ∧ RVs K H μ xs ds
  | .dct kvs => ∃ ys, H a = some (.dK ys) ∧ RK K H μ ys kvs
  | .ins c fs => ∃ C dx gs, mg (nm.cls c) = some (.ref C) ∧ H a = some (.ins C dx gs) ∧ RF nm K H μ gs fs
  | .lck kvs => ∃ od ys, H a = some (.frz od (.dK ys)) ∧ RK K H μ ys kvs
theorem OK.some {nm : Nms} {mg : Str → Option Value} {a : Addr} {o : O} (h : OK nm K mg H μ a o) : ∃ u, H a = some u := by
  cases o with
  | lst ds => obtain ⟨xs, e, _⟩ := h; exact ⟨_, e⟩
  | dct ds => obtain ⟨xs, e, _⟩ := h; exact ⟨_, e⟩
  | ins c fs => obtain ⟨C, dx, gs, _, e, _⟩ := h; exact ⟨_, e⟩
  | lck kvs => obtain ⟨od, ys, e, _⟩ := h; exact ⟨_, e⟩
/-- .. where the object itself stays -/
theorem OK.extW {nm : Nms} {mg : Str → Option Value} {a : Addr} {o : O} (x : ExtW μ H μ' H') (e : H' a = H a) (h : OK nm K mg H μ a o) : OK nm K mg H' μ' a o := by
  cases o with
  | lst ds => obtain ⟨xs, e1, r⟩ := h; exact ⟨xs, e.trans e1, RVs.extW x _ r⟩
  | dct kvs => obtain ⟨ys, e1, r⟩ := h; exact ⟨ys, e.trans e1, RK.extW x r⟩
  | ins c fs => obtain ⟨C, dx, gs, g, e1, r⟩ := h; exact ⟨C, dx, gs, g, e.trans e1, RF.extW x r⟩
  | lck kvs => obtain ⟨od, ys, e1, r⟩ := h; exact ⟨od, ys, e.trans e1, RK.extW x r⟩
theorem OK.ext {nm : Nms} {mg : Str → Option Value} {a : Addr} {o : O} (x : Ext μ H μ' H') (e : H' a = H a) (h : OK nm K mg H μ a o) : OK nm K mg H' μ' a o := h.extW x.toExtW e
structure Sim (nm : Nms) (K : PySem.W.Frag) (mg : Str → Option Value) (μ : List Addr) (S : Store) (H : Hp) : Prop where
  len : μ.length = S.length
  nd : μ.Nodup
  ob : ∀ (n : Nat) (a : Addr) (o : O), μ[n]? = some a → S[n]? = some o → OK nm K mg H μ a o
section
variable {nm : Nms} {mg : Str → Option Value} {S : Store}
theorem Sim.there (s : Sim nm K mg μ S H) {a : Addr} (h : a ∈ μ) : ∃ u, H a = Option.some u := by
  obtain ⟨n, hn, e⟩ := List.mem_iff_getElem.mp h
  have hn' : n < S.length := by rw [← s.len]; exact hn
  exact (s.ob n a S[n] (by rw [List.getElem?_eq_getElem hn, e]) (List.getElem?_eq_getElem hn')).some
theorem Sim.fresh (s : Sim nm K mg μ S H) {a : Addr} (h : H a = none) : a ∉ μ := fun q => by
  obtain ⟨u, e⟩ := s.there q
  rw [h] at e; cases e
/-- something new that is no object of the store -/
theorem Ext.laid (s : Sim nm K mg μ S H) {p : Addr} {u : HO} (h : H p = none) : Ext μ H μ (upd H p u) :=
  ⟨⟨⟨[], by simp⟩, fun a q n => absurd q n, fun a o _ e => by rw [upd_ne (ne_of_none e h)]; exact e⟩, fun a o u e => by rw [upd_ne (ne_of_none e h)]; exact e⟩
theorem Sim.keep (s : Sim nm K mg μ S H) (x : Ext μ H μ H') (h : ∀ a, a ∈ μ → H' a = H a) : Sim nm K mg μ S H' :=
  ⟨s.len, s.nd, fun n a o h1 h2 => (s.ob n a o h1 h2).ext x (h a (List.mem_of_getElem? h1))⟩
theorem Sim.laid (s : Sim nm K mg μ S H) {p : Addr} {u : HO} (h : H p = none) : Sim nm K mg μ S (upd H p u) :=
  s.keep (Ext.laid s h) fun a q => by
    obtain ⟨v, e⟩ := s.there q
    rw [upd_ne (ne_of_none e h)]
/-- a new object of the store at p -/
theorem Ext.made (s : Sim nm K mg μ S H) {p : Addr} {u : HO} (h : H p = none) : Ext μ H (μ ++ [p]) (upd H p u) :=
  ⟨⟨⟨[p], rfl⟩, fun a q n => by
    rcases List.mem_append.mp q with q | q
    · exact absurd q n
    · rw [List.mem_singleton] at q; rw [q]; exact h, fun a o _ e => by rw [upd_ne (ne_of_none e h)]; exact e⟩, fun a o u e => by rw [upd_ne (ne_of_none e h)]; exact e⟩
theorem Sim.made (s : Sim nm K mg μ S H) {p : Addr} {u : HO} {o : O} (h : H p = none) (ho : OK nm K mg (upd H p u) (μ ++ [p]) p o) : Sim nm K mg (μ ++ [p]) (S ++ [o]) (upd H p u) := by
  have hp : p ∉ μ := s.fresh h
  refine ⟨by simp [s.len], List.nodup_append.mpr ⟨s.nd, by simp, fun a ha b hb e => ?_⟩, fun n a ob h1 h2 => ?_⟩
  · rw [List.mem_singleton] at hb
    exact hp (hb ▸ e ▸ ha)
  · by_cases hn : n < μ.length
    · have hn' : n < S.length := by rw [← s.len]; exact hn
      rw [List.getElem?_append_left hn] at h1
      rw [List.getElem?_append_left hn'] at h2
      refine (s.ob n a ob h1 h2).ext (Ext.made s h) ?_
      obtain ⟨v, e⟩ := s.there (List.mem_of_getElem? h1)
      rw [upd_ne (ne_of_none e h)]
    · rw [List.getElem?_append_right (Nat.le_of_not_lt hn)] at h1
      rw [List.getElem?_append_right (by rw [← s.len]; exact Nat.le_of_not_lt hn)] at h2
      have hz : n - μ.length = 0 := by
        rcases Nat.eq_zero_or_pos (n - μ.length) with z | z
        · exact z
        · rw [List.getElem?_eq_none (by rw [List.length_singleton]; exact z)] at h1; cases h1
      rw [hz] at h1
      rw [← s.len, hz] at h2
      simp at h1 h2
      subst h1 h2
      exact ho
/-- an object of the store is written -/
theorem ExtW.wrote {p : Addr} {u : HO} (h : p ∈ μ) : ExtW μ H μ (upd H p u) :=
  ⟨⟨[], by simp⟩, fun a q n => absurd q n, fun a o n e => by rw [upd_ne (fun z => n (by rw [z]; exact h))]; exact e⟩
def NF (H : Hp) (p : Addr) : Prop := ∀ o u, H p ≠ Option.some (.frz o u)
theorem NF.of {p : Addr} {w : HO} (h : H p = Option.some w) (n : ∀ o u, w ≠ .frz o u := by intro _ _ h; cases h) : NF H p := fun o u e => by rw [h] at e; cases e; exact n _ _ rfl
theorem Ext.wrote {p : Addr} {u : HO} (h : p ∈ μ) (nf : NF H p) : Ext μ H μ (upd H p u) :=
  ⟨.wrote h, fun a o w e => by rw [upd_ne (fun z => by subst z; exact nf _ _ e)]; exact e⟩
theorem Sim.wrote (s : Sim nm K mg μ S H) {p : Addr} {u : HO} {n : Nat} {o : O} (hp : μ[n]? = Option.some p) (ho : OK nm K mg (upd H p u) μ p o) : Sim nm K mg μ (S.set n o) (upd H p u) := by
  have hm := List.mem_of_getElem? hp
  refine ⟨by simp [s.len], s.nd, fun i a ob h1 h2 => ?_⟩
  by_cases hi : i = n
  · subst hi
    rw [hp] at h1; cases h1
    have hl : i < S.length := by rw [← s.len]; exact (List.getElem?_eq_some_iff.mp hp).1
    rw [List.getElem?_set_self hl] at h2
    cases h2
    exact ho
  · rw [List.getElem?_set_ne (Ne.symm hi)] at h2
    refine (s.ob i a ob h1 h2).extW (ExtW.wrote hm) ?_
    rw [upd_ne]
    intro e
    subst e
    exact hi (nd_ix s.nd h1 hp)
/-- a lock is put on and taken off again -/
theorem Ext.unlock {p : Addr} {u w : HO} (x : Ext μ (upd H p u) μ' H') (h : p ∈ μ) (nf : NF H p) : Ext μ H μ' (upd H' p w) := by
  have hp : p ∈ μ' := by
    obtain ⟨ν, e⟩ := x.pre
    rw [e]; exact List.mem_append_left _ h
  refine ⟨⟨x.pre, fun a q n => ?_, fun a o n e => ?_⟩, fun a o v e => ?_⟩
  · have := x.fr a q n
    rwa [upd_ne (fun z => n (by rw [z]; exact h))] at this
  · have ne : a ≠ p := fun z => n (by rw [z]; exact h)
    rw [upd_ne ne]
    exact x.keep a o n (by rw [upd_ne ne]; exact e)
  · have ne : a ≠ p := fun z => by subst z; exact nf _ _ e
    rw [upd_ne ne]
    exact x.fz a o v (by rw [upd_ne ne]; exact e)
end
end
end BS
namespace BS
open PySem
/-- names from two tables -/
def mkNms (cls fld : List String) (h : (fld.map Str.ofString).Nodup) : Nms where
  cls := fun i => (cls.map Str.ofString).getD i ""
  fld := fun i => (fld.map Str.ofString).getD i ""
  most := fld.length
  inj := fun i j hi hj e => by
    have hi' : i < (fld.map Str.ofString).length := by rw [List.length_map]; exact hi
    have hj' : j < (fld.map Str.ofString).length := by rw [List.length_map]; exact hj
    rw [List.getD_eq_getElem?_getD, List.getD_eq_getElem?_getD, List.getElem?_eq_getElem hi', List.getElem?_eq_getElem hj'] at e
    exact (List.getElem_inj h).mp e
end BS
namespace BS
open PySem PySem.Spec PyProof.Rows L2
def ExcAt (nm : Nms) (K : PySem.W.Frag) (mg : Str → Option Value) (H : Hp) (μ : List Addr) (c : Nat) (fs : List (Nat × D)) (C : Addr) (d : Option Addr) : Prop :=
  mg (nm.cls c) = some (.ref C) ∧ match d with
    | none => fs = []
    | some dd => ∃ gs, dd ∉ μ ∧ H dd = some (.xd gs) ∧ RF nm K H μ gs fs ∧ fs ≠ []
theorem ExcAt.ext {nm : Nms} {K : PySem.W.Frag} {mg : Str → Option Value} {H H' : Hp} {μ μ' : List Addr} {c : Nat} {fs : List (Nat × D)} {C : Addr} {d : Option Addr} (x : Ext μ H μ' H') (h : ExcAt nm K mg H μ c fs C d) : ExcAt nm K mg H' μ' c fs C d := by
  refine ⟨h.1, ?_⟩
  cases d with
  | none => exact h.2
  | some dd =>
    obtain ⟨gs, n, e, r, ne⟩ := h.2
    exact ⟨gs, x.out n (.inl e), x.keep dd _ n e, RF.ext x r, ne⟩
abbrev St := L2.St
abbrev PA (α : Type) := α → Store → List Addr → Hp → Prop
abbrev PX := Value → Option Addr → Hp → Prop
section
variable {nm : Nms} {K : PySem.W.Frag} {mg : Str → Option Value} {H H' : Hp} {μ μ' : List Addr} {α β : Type}
def Post (nm : Nms) (K : PySem.W.Frag) (mg : Str → Option Value) (μ : List Addr) (H : Hp) (r : R α) (P : PA α) (E : PX) : Prop := match r with
  | .ok a S => ∀ μ' H', Ext μ H μ' H' → Sim nm K mg μ' S H' → P a S μ' H'
  | .exc c fs S => ∀ μ' H' C d, Ext μ H μ' H' → Sim nm K mg μ' S H' → ExcAt nm K mg H' μ' c fs C d → E (.ref C) d H'
  | .stuck => False
theorem Post.ext {r : R α} {P : PA α} {E : PX} (x : Ext μ H μ' H') (h : Post nm K mg μ H r P E) : Post nm K mg μ' H' r P E := by
  cases r with
  | ok a S => exact fun μ2 H2 x2 s2 => h μ2 H2 (x.trans x2) s2
  | exc c fs S => exact fun μ2 H2 C d x2 s2 => h μ2 H2 C d (x.trans x2) s2
  | stuck => exact h
theorem Post.mono {r : R α} {P P' : PA α} {E : PX} (h : Post nm K mg μ H r P E) (f : ∀ a S μ' H', Ext μ H μ' H' → Sim nm K mg μ' S H' → P a S μ' H' → P' a S μ' H') : Post nm K mg μ H r P' E := by
  cases r with
  | ok a S => exact fun μ2 H2 x2 s2 => f _ _ _ _ x2 s2 (h μ2 H2 x2 s2)
  | exc c fs S => exact h
  | stuck => exact h
theorem Post.bind {r : R α} {k : α → Store → R β} {P : PA β} {E : PX} (h : Post nm K mg μ H (r.bind k) P E) : Post nm K mg μ H r (fun a S μ1 H1 => Post nm K mg μ1 H1 (k a S) P E) E := by
  cases r with
  | ok a S => exact fun μ2 H2 x2 _ => Post.ext (r := k a S) x2 h
  | exc c fs S => exact h
  | stuck => exact h
end
/-- the names' values as the interpretation has them -/
structure EvR (nm : Nms) (X : Cx) (H : Hp) (μ : List Addr) (e : Ev) (σ : St) : Prop where
  len : e.sl.length = σ.length
  at_ : ∀ (i : Nat) (d : D), e.sl[i]? = some (some d) → ∃ v, σ[i]? = some (some v) ∧ RV X.K H μ v d
  ex : ∀ p ∈ e.ex, ∃ (a : Addr) (oe : Obj) (C : Addr) (d : Option Addr), σ[p.1]? = some (some (.ref a)) ∧ (a, oe) ∈ X.pn ∧ (Zc (.ref C) d oe ∧ ∃ vs, oe.data = .fields vs) ∧ ExcAt nm X.K X.mg H μ p.2.1 p.2.2 C d
theorem EvR.ext {nm : Nms} {X : Cx} {H H' : Hp} {μ μ' : List Addr} {e : Ev} {σ : St} (x : Ext μ H μ' H') (h : EvR nm X H μ e σ) : EvR nm X H' μ' e σ :=
  ⟨h.len, fun i d e => let ⟨v, a, b⟩ := h.at_ i d e; ⟨v, a, b.ext x⟩, fun p hp => let ⟨a, oe, C, d, h1, h2, h3, h4⟩ := h.ex p hp; ⟨a, oe, C, d, h1, h2, h3, h4.ext x⟩⟩
section
variable (nm : Nms) (X : Cx) (W : WX)
abbrev PostX {α : Type} (μ : List Addr) (H : Hp) (σ : St) (r : R α) (P : PA α) : Prop := Post nm X.K X.mg μ H r P fun c d H' => W c d σ H'
def rdE (m : EM) : TE := fun σ H Q => ∃ e S μ, EvR nm X H μ e σ ∧ Sim nm X.K X.mg μ S H ∧ PostX nm X W μ H σ (m e S) fun d _ μ' H' => ∀ v, RV X.K H' μ' v d → Q v H'
def rdT (m : TM) : TT := fun σ H Q => ∃ e S μ, EvR nm X H μ e σ ∧ Sim nm X.K X.mg μ S H ∧ PostX nm X W μ H σ (m e S) fun b _ _ H' => Q b H'
def rdA (m : AM) : TA := fun σ H Q => ∃ e S μ, EvR nm X H μ e σ ∧ Sim nm X.K X.mg μ S H ∧ PostX nm X W μ H σ (m e S) fun ds _ μ' H' => ∀ vs, RVs X.K H' μ' vs ds → Q vs H'
end
/-- the expression does what m says -/
structure ME (nm : Nms) (X : Cx) (e : Expr) (m : EM) : Prop where
  run : ∀ W, Takes X W → PE X e (rdE nm X W m)
structure MT (nm : Nms) (X : Cx) (e : Expr) (m : TM) : Prop where
  run : ∀ W, Takes X W → PT X e (rdT nm X W m)
structure MW (nm : Nms) (X : Cx) (e : Expr) (m : TM) : Prop where
  run : ∀ W, Takes X W → PW X e (rdT nm X W m)
structure MA (nm : Nms) (X : Cx) (es : List Expr) (m : AM) : Prop where
  run : ∀ W, Takes X W → L2.PA X es (rdA nm X W m)
  len : ∀ e S ds S', m e S = .ok ds S' → ds.length = es.length
theorem _root_.L2.PE.imp {X : Cx} {e : Expr} {t t' : TE} (h : PE X e t) (f : ∀ σ H Q, t' σ H Q → t σ H Q) : PE X e t' := ⟨fun pins s σ H Q I q => h.run pins s σ H Q I (f _ _ _ q)⟩
theorem _root_.L2.PT.imp {X : Cx} {e : Expr} {t t' : TT} (h : PT X e t) (f : ∀ σ H Q, t' σ H Q → t σ H Q) : PT X e t' := ⟨fun pins s σ H Q I q => h.run pins s σ H Q I (f _ _ _ q)⟩
theorem _root_.L2.PW.imp {X : Cx} {e : Expr} {t t' : TT} (h : PW X e t) (f : ∀ σ H Q, t' σ H Q → t σ H Q) : PW X e t' := ⟨fun wh pins s σ H Q I q => h.run wh pins s σ H Q I (f _ _ _ q)⟩
theorem _root_.L2.PA.imp {X : Cx} {e : List Expr} {t t' : TA} (h : L2.PA X e t) (f : ∀ σ H Q, t' σ H Q → t σ H Q) : L2.PA X e t' := ⟨fun p pins s σ H Q I q => h.run p pins s σ H Q I (f _ _ _ q)⟩
/-- the names at these places are the scope's own -/
def visAll (is : List Nat) (N : List Str) (sc : Scope) : Bool := is.all fun i => match N[i]? with
  | some x => (match sc.names.lookup x with | some .local => true | some .cell => true | some .free => true | _ => false) && (x == ("__debug__" : Str)) == false && (x == ("__classdict__" : Str)) == false
  | none => false
def locAll (is : List Nat) (N : List Str) (sc : Scope) : Bool := is.all fun i => match N[i]? with
  | some x => (match sc.names.lookup x with | some .local => true | some .cell => true | _ => false) && (x == ("__debug__" : Str)) == false && (x == ("__classdict__" : Str)) == false
  | none => false
theorem vis_of {is : List Nat} {N : List Str} {sc : Scope} (h : visAll is N sc = true) {i : Nat} {x : Str} (hi : is.contains i = true) (hN : N[i]? = some x) : Vis sc x ∧ (x == ("__debug__" : Str)) = false ∧ (x == ("__classdict__" : Str)) = false := by
  have h1 := List.all_eq_true.mp h i (by simpa using hi)
  simp only [hN, Bool.and_eq_true, beq_iff_eq] at h1
  refine ⟨?_, h1.1.2, h1.2⟩
  have h2 := h1.1.1
  unfold Vis
  split at h2
  · rename_i e; exact .inl e
  · rename_i e; exact .inr (.inl e)
  · rename_i e; exact .inr (.inr e)
  · cases h2
theorem loc_of {is : List Nat} {N : List Str} {sc : Scope} (h : locAll is N sc = true) {i : Nat} {x : Str} (hi : is.contains i = true) (hN : N[i]? = some x) : L2.Loc sc x ∧ (x == ("__debug__" : Str)) = false ∧ (x == ("__classdict__" : Str)) = false := by
  have h1 := List.all_eq_true.mp h i (by simpa using hi)
  simp only [hN, Bool.and_eq_true, beq_iff_eq] at h1
  refine ⟨?_, h1.1.2, h1.2⟩
  have h2 := h1.1.1
  unfold L2.Loc
  split at h2
  · rename_i e; exact .inl e
  · rename_i e; exact .inr e
  · cases h2
theorem locVis {is : List Nat} {N : List Str} {sc : Scope} (h : locAll is N sc = true) : visAll is N sc = true := by
  refine List.all_eq_true.mpr fun i hi => ?_
  have h1 := List.all_eq_true.mp h i hi
  cases hN : N[i]? with
  | none => rw [hN] at h1; cases h1
  | some x =>
    simp only [hN, Bool.and_eq_true, beq_iff_eq] at h1 ⊢
    refine ⟨⟨?_, h1.1.2⟩, h1.2⟩
    have h2 := h1.1.1
    split at h2
    · rename_i e; rw [e]
    · rename_i e; rw [e]
    · cases h2
/-- global names -/
def glAll (xs : List Str) (sc : Scope) : Bool := xs.all fun x => (match sc.names.lookup x with | some .globalImplicit => true | _ => false) && (x == ("__debug__" : Str)) == false && !(decide (x = "__name__"))
structure GlN (X : Cx) (x : Str) : Prop where
  g : Gl X x
  d : (x == ("__debug__" : Str)) = false
  n : x ≠ "__name__"
theorem glT {X : Cx} {x : Str} {pn : List (Addr × Obj)} {xe : Value → Shared → Prop} (h : GlN X x) : GlN (X.tr pn xe) x := ⟨h.g, h.d, h.n⟩
theorem glS {X : Cx} {x : Str} {a : Addr} {pn : List (Addr × Obj)} (h : GlN X x) : GlN (X.suite a pn) x := ⟨h.g, h.d, h.n⟩
theorem rhS {X : Cx} {k : Nat} {a : Addr} {pn : List (Addr × Obj)} (h : L2H.RoomH k X.A) : L2H.RoomH k (X.suite a pn).A := ⟨h.dp, h.un⟩
theorem gl_at {X : Cx} {xs : List Str} (h : glAll xs X.env.scope = true) (j : Nat) {x : Str} (hj : xs[j]? = some x := by rfl) : GlN X x := by
  have h1 := List.all_eq_true.mp h x (List.mem_of_getElem? hj)
  simp only [Bool.and_eq_true, beq_iff_eq] at h1
  refine ⟨?_, h1.1.2, by simpa using h1.2⟩
  have h2 := h1.1.1
  split at h2
  · rename_i e; exact e
  · cases h2
def mVar (i : Nat) : EM := fun e S => match e.sl[i]? with
  | some (some d) => .ok d S
  | _ => .stuck
def mC (d : D) : EM := fun _ S => .ok d S
section
variable {nm : Nms} {X : Cx} {pos : Pos} {a b c : Expr} {ma mb mc : EM}
theorem me_var {is : List Nat} (i : Nat) {x : Str} (hv : visAll is X.N X.env.scope = true) (hN : X.N[i]? = some x := by rfl) (hi : is.contains i = true := by rfl) : ME nm X (.Name x pos) (mVar i) := by
  obtain ⟨hv, hd, hcd⟩ := vis_of hv hi hN
  refine ⟨fun W tk => (pe_var (i := i) hN hv hd hcd).imp fun σ H Q h => ?_⟩
  obtain ⟨e, S, μ, E, s, p⟩ := h
  unfold mVar at p
  split at p
  · rename_i d hd
    obtain ⟨v, e1, r⟩ := E.at_ i d hd
    exact ⟨v, e1, p μ H .refl s v r⟩
  · exact False.elim p
theorem me_cn {e : Expr} {v : V} {d : D} (h : PE X e (tC v)) (r : ∀ H μ, RV X.K H μ v d) : ME nm X e (mC d) := by
  refine ⟨fun W tk => h.imp fun σ H Q h => ?_⟩
  obtain ⟨e, S, μ, E, s, p⟩ := h
  exact p μ H .refl s v (r _ _)
theorem me_int {i : Int} {j pos} : ME nm X (.Constant (.int i) j pos) (mC (.int i)) := me_cn pe_int fun _ _ => .int i
theorem me_bl {b : Bool} {j pos} : ME nm X (.Constant (.bool b) j pos) (mC (.bl b)) := me_cn pe_bl fun _ _ => .bl b
theorem me_non {j pos} : ME nm X (.Constant .none j pos) (mC .non) := me_cn pe_non fun _ _ => .non
theorem me_str {x : Str} {j pos} : ME nm X (.Constant (.str x) j pos) (mC (.str x)) := me_cn pe_str fun _ _ => .str x
/-- a module's constant -/
def GC (K : PySem.W.Frag) (mg : Str → Option Value) (x : Str) (d : D) : Prop := ∃ u v, mg x = some u ∧ RelV v u ∧ ∀ H μ, RV K H μ v d
theorem me_gc {x : Str} {d : D} (h : GC X.K X.mg x d) (hg : GlN X x) : ME nm X (.Name x pos) (mC d) := let ⟨u, v, h1, h2, h3⟩ := h; me_cn (pe_glob hg.g h1 h2 hg.d) h3
def lift2 (f : Store → D → D → Option D) (S : Store) (x y : D) : R D := match f S x y with
  | some d => .ok d S
  | none => .stuck
def mBin (f : Store → D → D → Option D) (a b : EM) : EM := fun e S => (a e S).bind fun x S => (b e S).bind fun y S => lift2 f S x y
def mUn (f : Store → D → Option D) (a : EM) : EM := fun e S => (a e S).bind fun x S => match f S x with
  | some d => .ok d S
  | none => .stuck
/-- what an operation asks of the interpretation -/
def rOpD (nm : Nms) (X : Cx) (f : Store → D → D → Option D) : R2 := fun x y H Q => ∃ S μ dx dy d, Sim nm X.K X.mg μ S H ∧ RV X.K H μ x dx ∧ RV X.K H μ y dy ∧ f S dx dy = some d ∧
  ∀ v μ' H', Ext μ H μ' H' → Sim nm X.K X.mg μ' S H' → RV X.K H' μ' v d → Q v H'
abbrev OpD (nm : Nms) (X : Cx) (g : Value → Value → Sem Value) (f : Store → D → D → Option D) : Prop := OpR X g (rOpD nm X f)
theorem bin_rd {f : Store → D → D → Option D} {W : WX} {σ : St} {H : Hp} {Q : VK} (h : rdE nm X W (mBin f ma mb) σ H Q) : tOp (rOpD nm X f) (rdE nm X W ma) (rdE nm X W mb) σ H Q := by
  obtain ⟨e, S, μ, E, s, p⟩ := h
  refine ⟨e, S, μ, E, s, (Post.bind p).mono fun dx S1 μ1 H1 x1 s1 p1 v rv => ?_⟩
  refine ⟨e, S1, μ1, E.ext x1, s1, (Post.bind p1).mono fun dy S2 μ2 H2 x2 s2 p2 u ru => ?_⟩
  unfold lift2 at p2
  split at p2
  · rename_i d hd
    exact ⟨S2, μ2, dx, dy, d, s2, rv.ext x2, ru, hd, fun w μ3 H3 x3 s3 r => p2 μ3 H3 x3 s3 w r⟩
  · exact False.elim p2
theorem me_bin {op : Operator} {f : Store → D → D → Option D} (ho : OpD nm X (binaryOp op) f) (ha : ME nm X a ma) (hb : ME nm X b mb) : ME nm X (.BinOp a op b pos) (mBin f ma mb) :=
  ⟨fun W tk => (pe_op ho (ha.run W tk) (hb.run W tk)).imp fun _ _ _ h => bin_rd h⟩
theorem me_cmp {op : CmpOp} {f : Store → D → D → Option D} (ho : OpD nm X (compareOp op) f) (ha : ME nm X a ma) (hb : ME nm X b mb) (hm : behindInMarks op b = false) : ME nm X (.Compare a [op] [b] pos) (mBin f ma mb) :=
  ⟨fun W tk => (pe_cmpR ho (ha.run W tk) (hb.run W tk) hm).imp fun _ _ _ h => bin_rd h⟩
def asB (d : D) : Option Bool := match d with
  | .bl b => some b
  | _ => none
@[simp] theorem asB_bl (b : Bool) : asB (.bl b) = some b := rfl
def mBl (m : EM) : TM := fun e S => (m e S).bind fun d S => match asB d with
  | some b => .ok b S
  | none => .stuck
theorem bl_rd {W : WX} {m : EM} {t : TE} (f : ∀ σ H Q, rdE nm X W m σ H Q → t σ H Q) {σ : St} {H : Hp} {Q : Bool → Hp → Prop} (h : rdT nm X W (mBl m) σ H Q) : t σ H fun x H' => ∃ k, x = .bl k ∧ Q k H' := by
  obtain ⟨e, S, μ, E, s, p⟩ := h
  refine f σ H _ ⟨e, S, μ, E, s, (Post.bind p).mono fun d S1 μ1 H1 x1 s1 p1 v rv => ?_⟩
  split at p1
  · rename_i b hb
    cases d with
    | bl b' => cases hb; cases rv; exact ⟨_, rfl, p1 μ1 H1 .refl s1⟩
    | _ => cases hb
  · exact False.elim p1
/-- a comparison as a test -/
theorem mt_cmp {op : CmpOp} {f : Store → D → D → Option D} (ho : OpD nm X (compareOp op) f) (ha : ME nm X a ma) (hb : ME nm X b mb) (hm : behindInMarks op b = false) : MT nm X (.Compare a [op] [b] pos) (mBl (mBin f ma mb)) :=
  ⟨fun W tk => (pt_cmpR ho (ha.run W tk) (hb.run W tk) hm).imp fun _ _ _ h => bl_rd (fun _ _ _ h => bin_rd h) h⟩
/-- an expression whose value is a truth, as a test -/
theorem mt_val {e : Expr} {m : EM} (h : ME nm X e m) (he : ∀ whole, isTrue e X.env whole = (do let v ← whole; standAt e.pos; holding [v] (truthy v)) := by intro _; rfl) : MT nm X e (mBl m) :=
  ⟨fun W tk => (pt_val (h.run W tk) he).imp fun _ _ _ h => bl_rd (fun _ _ _ h => h) h⟩
def mChain (f g : Store → D → D → Option D) (a b c : EM) : EM := fun e S => (a e S).bind fun x S => (b e S).bind fun y S => (lift2 f S x y).bind fun z S => match asB z with
  | some true => (c e S).bind fun w S => lift2 g S y w
  | some false => .ok (.bl false) S
  | none => .stuck
theorem chain_rd {f g : Store → D → D → Option D} {W : WX} {σ : St} {H : Hp} {Q : VK} (h : rdE nm X W (mChain f g ma mb mc) σ H Q) : tChain (rOpD nm X f) (rOpD nm X g) (rdE nm X W ma) (rdE nm X W mb) (rdE nm X W mc) σ H Q := by
  obtain ⟨e, S, μ, E, s, p⟩ := h
  refine ⟨e, S, μ, E, s, (Post.bind p).mono fun dx S1 μ1 H1 x1 s1 p1 v rv => ?_⟩
  refine ⟨e, S1, μ1, E.ext x1, s1, (Post.bind p1).mono fun dy S2 μ2 H2 x2 s2 p2 u ru => ?_⟩
  unfold lift2 at p2
  split at p2
  · rename_i d hd
    refine ⟨S2, μ2, dx, dy, d, s2, rv.ext x2, ru, hd, fun w μ3 H3 x3 s3 r => ?_⟩
    have p3 : Post nm X.K X.mg μ3 H3 (match asB d with
      | some true => (mc e S2).bind fun w S => (match g S dy w with | some d => R.ok d S | none => .stuck)
      | some false => .ok (.bl false) S2
      | none => .stuck) _ _ := Post.ext x3 p2
    cases d with
    | bl b =>
      cases r
      refine ⟨b, rfl, ?_⟩
      cases b with
      | false => rw [if_neg Bool.false_ne_true]; exact p3 μ3 H3 .refl s3 _ (.bl false)
      | true =>
        rw [if_pos rfl]
        refine ⟨e, S2, μ3, (E.ext (x1.trans x2)).ext x3, s3, (Post.bind (k := fun w S => (match g S dy w with | some d => R.ok d S | none => .stuck)) p3).mono fun dz S4 μ4 H4 x4 s4 p4 z rz => ?_⟩
        split at p4
        · rename_i d hd
          exact ⟨S4, μ4, dy, dz, d, s4, ru.ext (x3.trans x4), rz, hd, fun w μ5 H5 x5 s5 r => p4 μ5 H5 x5 s5 w r⟩
        · exact False.elim p4
    | _ => exact False.elim p3
  · exact False.elim p2
theorem me_chain {op op' : CmpOp} {f g : Store → D → D → Option D} (ho : OpD nm X (compareOp op) f) (ho' : OpD nm X (compareOp op') g) (ha : ME nm X a ma) (hb : ME nm X b mb) (hc : ME nm X c mc)
    (hm : lastMarks [op, op'] [b, c] = false := by rfl) : ME nm X (.Compare a [op, op'] [b, c] pos) (mChain f g ma mb mc) :=
  ⟨fun W tk => (pe_chain ho ho' (ha.run W tk) (hb.run W tk) (hc.run W tk) hm).imp fun _ _ _ h => chain_rd h⟩
theorem mt_chain {op op' : CmpOp} {f g : Store → D → D → Option D} (ho : OpD nm X (compareOp op) f) (ho' : OpD nm X (compareOp op') g) (ha : ME nm X a ma) (hb : ME nm X b mb) (hc : ME nm X c mc)
    (hm : lastMarks [op, op'] [b, c] = false := by rfl) : MT nm X (.Compare a [op, op'] [b, c] pos) (mBl (mChain f g ma mb mc)) :=
  ⟨fun W tk => (pt_chain ho ho' (ha.run W tk) (hb.run W tk) (hc.run W tk) hm).imp fun _ _ _ h => bl_rd (fun _ _ _ h => chain_rd h) h⟩
def mAnd (a b : TM) : TM := fun e S => (a e S).bind fun k S => if k = true then b e S else .ok false S
def mOr (a b : TM) : TM := fun e S => (a e S).bind fun k S => if k = true then .ok true S else b e S
def mNot (a : TM) : TM := fun e S => (a e S).bind fun k S => .ok (!k) S
variable {ta tb : TM} {rest : List Expr}
theorem MW.mt (h : MW nm X a ta) : MT nm X a ta := ⟨fun W tk => (h.run W tk).pt⟩
theorem mw_and1 (ha : MT nm X a ta) : MW nm X (.BoolOp .And [a] pos) ta := ⟨fun W tk => pw_and1 (ha.run W tk)⟩
theorem mw_or1 (ha : MT nm X a ta) : MW nm X (.BoolOp .Or [a] pos) ta := ⟨fun W tk => pw_or1 (ha.run W tk)⟩
theorem mw_and (ha : MT nm X a ta) (hb : MW nm X (.BoolOp .And (b :: rest) pos) tb) : MW nm X (.BoolOp .And (a :: b :: rest) pos) (mAnd ta tb) := by
  refine ⟨fun W tk => (pw_and (ha.run W tk) (hb.run W tk)).imp fun σ H Q h => ?_⟩
  obtain ⟨e, S, μ, E, s, p⟩ := h
  refine ⟨e, S, μ, E, s, (Post.bind p).mono fun k S1 μ1 H1 x1 s1 p1 => ?_⟩
  cases k with
  | true => rw [if_pos rfl] at p1 ⊢; exact ⟨e, S1, μ1, E.ext x1, s1, p1⟩
  | false => rw [if_neg Bool.false_ne_true] at p1 ⊢; exact p1 μ1 H1 .refl s1
theorem mw_or (ha : MT nm X a ta) (hb : MW nm X (.BoolOp .Or (b :: rest) pos) tb) : MW nm X (.BoolOp .Or (a :: b :: rest) pos) (mOr ta tb) := by
  refine ⟨fun W tk => (pw_or (ha.run W tk) (hb.run W tk)).imp fun σ H Q h => ?_⟩
  obtain ⟨e, S, μ, E, s, p⟩ := h
  refine ⟨e, S, μ, E, s, (Post.bind p).mono fun k S1 μ1 H1 x1 s1 p1 => ?_⟩
  cases k with
  | true => rw [if_pos rfl] at p1 ⊢; exact p1 μ1 H1 .refl s1
  | false => rw [if_neg Bool.false_ne_true] at p1 ⊢; exact ⟨e, S1, μ1, E.ext x1, s1, p1⟩
theorem mt_not (ha : MT nm X a ta) : MT nm X (.UnaryOp .Not a pos) (mNot ta) := by
  refine ⟨fun W tk => (pt_not (ha.run W tk)).imp fun σ H Q h => ?_⟩
  obtain ⟨e, S, μ, E, s, p⟩ := h
  exact ⟨e, S, μ, E, s, (Post.bind p).mono fun k S1 μ1 H1 x1 s1 p1 => p1 μ1 H1 .refl s1⟩
def mAndV (a b : EM) : EM := fun e S => (a e S).bind fun d S => match asB d with
  | some true => b e S
  | some false => .ok (.bl false) S
  | none => .stuck
def mOrV (a b : EM) : EM := fun e S => (a e S).bind fun d S => match asB d with
  | some false => b e S
  | some true => .ok (.bl true) S
  | none => .stuck
def mNotV (a : EM) : EM := fun e S => (a e S).bind fun d S => match asB d with
  | some k => .ok (.bl (!k)) S
  | none => .stuck
theorem me_one {op} (ha : ME nm X a ma) : ME nm X (.BoolOp op [a] pos) ma := ⟨fun W tk => pe_one (ha.run W tk)⟩
theorem me_and (ha : ME nm X a ma) (hb : ME nm X (.BoolOp .And (b :: rest) pos) mb) : ME nm X (.BoolOp .And (a :: b :: rest) pos) (mAndV ma mb) := by
  refine ⟨fun W tk => (pe_and (ha.run W tk) (hb.run W tk)).imp fun σ H Q h => ?_⟩
  obtain ⟨e, S, μ, E, s, p⟩ := h
  refine ⟨e, S, μ, E, s, (Post.bind p).mono fun d S1 μ1 H1 x1 s1 p1 v rv => ?_⟩
  split at p1
  · rename_i hb
    cases d with
    | bl b' => cases hb; cases rv; exact ⟨_, rfl, by rw [if_pos rfl]; exact ⟨e, S1, μ1, E.ext x1, s1, p1⟩⟩
    | _ => cases hb
  · rename_i hb
    cases d with
    | bl b' => cases hb; cases rv; exact ⟨_, rfl, by rw [if_neg Bool.false_ne_true]; exact p1 μ1 H1 .refl s1 _ (.bl false)⟩
    | _ => cases hb
  · exact False.elim p1
theorem me_or (ha : ME nm X a ma) (hb : ME nm X (.BoolOp .Or (b :: rest) pos) mb) : ME nm X (.BoolOp .Or (a :: b :: rest) pos) (mOrV ma mb) := by
  refine ⟨fun W tk => (pe_or (ha.run W tk) (hb.run W tk)).imp fun σ H Q h => ?_⟩
  obtain ⟨e, S, μ, E, s, p⟩ := h
  refine ⟨e, S, μ, E, s, (Post.bind p).mono fun d S1 μ1 H1 x1 s1 p1 v rv => ?_⟩
  split at p1
  · rename_i hb
    cases d with
    | bl b' => cases hb; cases rv; exact ⟨_, rfl, by rw [if_neg Bool.false_ne_true]; exact ⟨e, S1, μ1, E.ext x1, s1, p1⟩⟩
    | _ => cases hb
  · rename_i hb
    cases d with
    | bl b' => cases hb; cases rv; exact ⟨_, rfl, by rw [if_pos rfl]; exact p1 μ1 H1 .refl s1 _ (.bl true)⟩
    | _ => cases hb
  · exact False.elim p1
theorem me_not (ha : ME nm X a ma) : ME nm X (.UnaryOp .Not a pos) (mNotV ma) := by
  refine ⟨fun W tk => (pe_not (ha.run W tk)).imp fun σ H Q h => ?_⟩
  obtain ⟨e, S, μ, E, s, p⟩ := h
  refine ⟨e, S, μ, E, s, (Post.bind p).mono fun d S1 μ1 H1 x1 s1 p1 v rv => ?_⟩
  split at p1
  · rename_i hb
    cases d with
    | bl b' => cases hb; cases rv; exact ⟨_, rfl, p1 μ1 H1 .refl s1 _ (.bl _)⟩
    | _ => cases hb
  · exact False.elim p1
def mIf (c : TM) (a b : EM) : EM := fun e S => (c e S).bind fun k S => if k = true then a e S else b e S
theorem me_if {c : Expr} (hc : MT nm X c ta) (ha : ME nm X a ma) (hb : ME nm X b mb) : ME nm X (.IfExp c a b pos) (mIf ta ma mb) := by
  refine ⟨fun W tk => (pe_ifExp (hc.run W tk) (ha.run W tk) (hb.run W tk)).imp fun σ H Q h => ?_⟩
  obtain ⟨e, S, μ, E, s, p⟩ := h
  refine ⟨e, S, μ, E, s, (Post.bind p).mono fun k S1 μ1 H1 x1 s1 p1 => ?_⟩
  cases k with
  | true => rw [if_pos rfl] at p1 ⊢; exact ⟨e, S1, μ1, E.ext x1, s1, p1⟩
  | false => rw [if_neg Bool.false_ne_true] at p1 ⊢; exact ⟨e, S1, μ1, E.ext x1, s1, p1⟩
end
end BS
namespace BS
open PySem PySem.Spec PyProof.Rows L2
mutual
def pyF (f : Nat → PyData) : D → PyData
  | .non => .none
  | .bl b => .bool b
  | .int i => .int i
  | .str x => .str x
  | .tup ds => .tuple (pyFs f ds)
  | .lst ds => .list (pyFs f ds)
  | .scr ds => .list (pyFs f ds)
  | .obj n => f n
def pyFs (f : Nat → PyData) : List D → List PyData
  | [] => []
  | d :: ds => pyF f d :: pyFs f ds
end
def pyk : Nat → Store → Nat → PyData
  | 0, _, _ => .dict []
  | k + 1, S, n => match S[n]? with
    | some (.lst ds) => .list (pyFs (pyk k S) ds)
    | _ => .dict []
abbrev py (S : Store) (d : D) : PyData := pyF (pyk 3 S) d
abbrev pys (S : Store) (ds : List D) : List PyData := pyFs (pyk 3 S) ds
section
variable {nm : Nms} {K : PySem.W.Frag} {mg : Str → Option Value} {H : Hp} {μ : List Addr} {S : Store} {f : Nat → PyData}
mutual
theorem dp_F (hf : ∀ n a, μ[n]? = some a → (f n).plain = true → Dp K H (.ref a) (f n)) : ∀ {v : V} (d : D), RV K H μ v d → (pyF f d).plain = true → Dp K H v (pyF f d)
  | _, .non, h, _ => by cases h; exact .non
  | _, .bl b, h, _ => by cases h; exact .bl b
  | _, .int i, h, _ => by cases h; exact .int i
  | _, .str x, h, _ => by cases h; exact .str x
  | _, .tup ds, h, p => by
    cases h with
    | tup t r => exact .tup t.sq (dp_Fs hf ds r (by simpa [pyF, PyData.plain] using p))
  | _, .lst ds, h, p => by
    cases h with
    | lst t r => exact .lst (.of t.2) (dp_Fs hf ds r (by simpa [pyF, PyData.plain] using p))
  | _, .scr ds, h, p => by
    cases h with
    | scr t r => exact .lst t.sq (dp_Fs hf ds r (by simpa [pyF, PyData.plain] using p))
  | _, .obj n, h, p => by
    cases h with
    | obj e => exact hf n _ e p
theorem dp_Fs (hf : ∀ n a, μ[n]? = some a → (f n).plain = true → Dp K H (.ref a) (f n)) : ∀ {vs : List V} (ds : List D), RVs K H μ vs ds → PyData.plainAll (pyFs f ds) = true → DpAll K H vs (pyFs f ds)
  | _, [], h, _ => by cases h; exact .nil
  | _, d :: ds, h, p => by
    cases h with
    | cons r t =>
      have p' : (pyF f d).plain = true ∧ PyData.plainAll (pyFs f ds) = true := by simpa [pyFs, PyData.plainAll] using p
      exact .cons (dp_F hf d r p'.1) (dp_Fs hf ds t p'.2)
end
theorem dp_k (s : Sim nm K mg μ S H) : ∀ (k n : Nat) (a : Addr), μ[n]? = some a → (pyk k S n).plain = true → Dp K H (.ref a) (pyk k S n)
  | 0, n, a, _, p => by simp [pyk, PyData.plain] at p
  | k + 1, n, a, e, p => by
    unfold pyk at p ⊢
    split at p
    · rename_i ds hds
      obtain ⟨xs, e1, r⟩ := s.ob n a _ e hds
      exact .lst (.of e1) (dp_Fs (fun n a e p => dp_k s k n a e p) ds r (by simpa [PyData.plain] using p))
    · simp [PyData.plain] at p
theorem RV.dp (s : Sim nm K mg μ S H) {v : V} {d : D} (r : RV K H μ v d) (p : (py S d).plain = true) : Dp K H v (py S d) := dp_F (dp_k s 3) d r p
theorem RVs.dp (s : Sim nm K mg μ S H) {v : List V} {d : List D} (r : RVs K H μ v d) (p : PyData.plainAll (pys S d) = true) : DpAll K H v (pys S d) := dp_Fs (dp_k s 3) d r p
end
def small (a b : PyData) : Bool := a.plain && b.plain && decide (min a.depth b.depth < 100)
/-- x == y, where it may be asked -/
def eqS (S : Store) (x y : D) : Option Bool := if small (py S x) (py S y) = true then some (PyData.eqv (py S x) (py S y)) else none
def lstOf (S : Store) (d : D) : Option (List D) := match d with
  | .lst ds => some ds
  | .scr ds => some ds
  | .obj n => match S[n]? with
    | some (.lst ds) => some ds
    | _ => none
  | _ => none
def tupOf (d : D) : Option (List D) := match d with
  | .tup ds => some ds
  | _ => none
def seqOf (S : Store) (d : D) : Option (List D) := match tupOf d with
  | some ds => some ds
  | none => lstOf S d
section
variable {nm : Nms} {K : PySem.W.Frag} {mg : Str → Option Value} {H : Hp} {μ : List Addr} {S : Store} {v : V} {d : D} {ds : List D}
theorem lstOf_sq (s : Sim nm K mg μ S H) (r : RV K H μ v d) (h : lstOf S d = some ds) : ∃ a xs, v = .ref a ∧ SqL K H a xs ∧ RVs K H μ xs ds := by
  unfold lstOf at h
  split at h
  · cases h; cases r with | lst t r => exact ⟨_, _, rfl, .of t.2, r⟩
  · cases h; cases r with | scr t r => exact ⟨_, _, rfl, t.sq, r⟩
  · split at h
    · rename_i hds
      cases h
      cases r with | obj e =>
        obtain ⟨xs, e1, r⟩ := s.ob _ _ _ e hds
        exact ⟨_, xs, rfl, .of e1, r⟩
    · cases h
  · cases h
theorem tupOf_sq (r : RV K H μ v d) (h : tupOf d = some ds) : ∃ a xs, v = .ref a ∧ SqT K H a xs ∧ RVs K H μ xs ds := by
  unfold tupOf at h
  split at h
  · cases h; cases r with | tup t r => exact ⟨_, _, rfl, t.sq, r⟩
  · cases h
theorem seqOf_sq (s : Sim nm K mg μ S H) (r : RV K H μ v d) (h : seqOf S d = some ds) : ∃ a xs, v = .ref a ∧ (SqL K H a xs ∨ SqT K H a xs) ∧ RVs K H μ xs ds := by
  unfold seqOf at h
  split at h
  · rename_i e; cases h
    obtain ⟨a, xs, h1, h2, h3⟩ := tupOf_sq r e
    exact ⟨a, xs, h1, .inr h2, h3⟩
  · obtain ⟨a, xs, h1, h2, h3⟩ := lstOf_sq s r h
    exact ⟨a, xs, h1, .inl h2, h3⟩
end
/-- a list that has just been made: an object of the store, or one that stays as it is -/
def fin (new : Bool) (ds : List D) (S : Store) : R D := if new = true then .ok (.obj S.length) (S ++ [.lst ds]) else .ok (.lst ds) S
@[simp] theorem fin_t (ds : List D) (S : Store) : fin true ds S = .ok (.obj S.length) (S ++ [.lst ds]) := rfl
@[simp] theorem fin_f (ds : List D) (S : Store) : fin false ds S = .ok (.lst ds) S := rfl
section
variable {nm : Nms} {K : PySem.W.Frag} {mg : Str → Option Value} {H : Hp} {μ : List Addr} {S : Store}
theorem fin_post {new : Bool} {ds : List D} {xs : List V} {Q : VK} {E : PX} {p : Addr} (s : Sim nm K mg μ S H) (r : RVs K H μ xs ds) (np : H p = none)
    (h : Post nm K mg μ H (fin new ds S) (fun d _ μ' H' => ∀ v, RV K H' μ' v d → Q v H') E) : Q (.ref p) (upd H p (.lst xs)) := by
  cases new with
  | true =>
    have x := Ext.made (u := .lst xs) s np
    refine h _ _ x (s.made np ⟨xs, upd_same, RVs.ext x _ r⟩) _ (.obj ?_)
    rw [← s.len, List.getElem?_append_right (Nat.le_refl _)]
    simp
  | false =>
    have x := Ext.laid (u := .lst xs) s np
    exact h _ _ x (s.laid np) _ (.lst ⟨s.fresh np, upd_same⟩ (RVs.ext x _ r))
/-- a tuple that has just been made -/
theorem tup_post {ds : List D} {xs : List V} {Q : VK} {E : PX} {p : Addr} (s : Sim nm K mg μ S H) (r : RVs K H μ xs ds) (np : H p = none)
    (h : Post nm K mg μ H (.ok (.tup ds) S) (fun d _ μ' H' => ∀ v, RV K H' μ' v d → Q v H') E) : Q (.ref p) (upd H p (.tup xs)) := by
  have x := Ext.laid (u := .tup xs) s np
  exact h _ _ x (s.laid np) _ (.tup (.inl ⟨s.fresh np, .inl upd_same⟩) (RVs.ext x _ r))
end
def fI (g : Int → Int → Option D) : Store → D → D → Option D := fun _ x y => match x, y with
  | .int i, .int j => g i j
  | _, _ => none
def fAdd : Store → D → D → Option D := fun _ x y => match x, y with
  | .int i, .int j => some (.int (i + j))
  | .str a, .str b => if a.length + b.length ≤ sizeLine then some (.str (a ++ b)) else none
  | .tup a, .tup b => if a.length + b.length ≤ sizeLine then some (.tup (a ++ b)) else none
  | _, _ => none
abbrev fSub := fI fun i j => some (.int (i - j))
abbrev fMul := fI fun i j => if (-(2 ^ 64) < i ∧ i < 2 ^ 64) ∨ (-(2 ^ 64) < j ∧ j < 2 ^ 64) then some (.int (i * j)) else none
abbrev fMod := fI fun i j => if 0 < j then some (.int (i % j)) else none
abbrev fDiv := fI fun i j => if 0 < j ∧ j < 1073741824 then some (.int (i / j)) else none
abbrev fPow := fI fun i j => if 0 ≤ j ∧ j ≤ 1000000 ∧ i.natAbs < 2 ^ 64 then some (.int (i ^ j.toNat)) else none
def ltS (a b : Str) : Bool := decide (a.cps.toList < b.cps.toList)
def fCmp (g : Int → Int → Bool) (h : Str → Str → Bool) : Store → D → D → Option D := fun _ x y => match x, y with
  | .int i, .int j => some (.bl (g i j))
  | .str a, .str b => some (.bl (h a b))
  | _, _ => none
abbrev fLt := fCmp (fun i j => decide (i < j)) fun a b => ltS a b
abbrev fLe := fCmp (fun i j => decide (i ≤ j)) fun a b => !ltS b a
abbrev fGt := fCmp (fun i j => decide (j < i)) fun a b => ltS b a
abbrev fGe := fCmp (fun i j => decide (j ≤ i)) fun a b => !ltS a b
def fEq : Store → D → D → Option D := fun S x y => (eqS S x y).map .bl
def fNe : Store → D → D → Option D := fun S x y => (eqS S x y).map fun b => .bl (!b)
def isNon (d : D) : Bool := match d with
  | .non => true
  | _ => false
@[simp] theorem isNon_non : isNon .non = true := rfl
@[simp] theorem isNon_bl (b : Bool) : isNon (.bl b) = false := rfl
@[simp] theorem isNon_int (b : Int) : isNon (.int b) = false := rfl
@[simp] theorem isNon_str (b : Str) : isNon (.str b) = false := rfl
@[simp] theorem isNon_tup (b : List D) : isNon (.tup b) = false := rfl
@[simp] theorem isNon_lst (b : List D) : isNon (.lst b) = false := rfl
@[simp] theorem isNon_obj (b : Nat) : isNon (.obj b) = false := rfl
def fIs : Store → D → D → Option D := fun _ x y => if isNon y = true then some (.bl (isNon x)) else none
def fIsNot : Store → D → D → Option D := fun _ x y => if isNon y = true then some (.bl (!isNon x)) else none
section
variable {nm : Nms} {X : Cx}
theorem opI_D {f : Value → Value → Sem Value} {C : Int → Int → Prop} {g : Int → Int → V} {h : Int → Int → Option D} (o : OpR X f (rI C g)) (hc : ∀ i j d, h i j = some d → C i j ∧ ∀ H μ, RV X.K H μ (g i j) d) : OpD nm X f (fI h) := by
  intro pins s σ H x y v u Q I rv ru hh
  obtain ⟨S, μ, dx, dy, d, sm, rx, ry, e, q⟩ := hh
  unfold fI at e
  split at e
  · cases rx; cases ry
    obtain ⟨c, r⟩ := hc _ _ _ e
    exact o pins s σ H _ _ v u Q I rv ru ⟨_, _, rfl, rfl, c, q _ μ H .refl sm (r _ _)⟩
  · cases e
theorem opI0_D {f : Value → Value → Sem Value} {g : Int → Int → Int} (o : OpR X f (rI0 fun i j => .int (g i j))) : OpD nm X f (fI fun i j => some (.int (g i j))) := by
  intro pins s σ H x y v u Q I rv ru hh
  obtain ⟨S, μ, dx, dy, d, sm, rx, ry, e, q⟩ := hh
  unfold fI at e
  split at e
  · cases rx; cases ry; cases e
    exact o pins s σ H _ _ v u Q I rv ru ⟨_, _, rfl, rfl, q _ μ H .refl sm (.int _)⟩
  · cases e
theorem o_sub : OpD nm X (binaryOp .Sub) fSub := opI0_D op_sub
theorem o_mul : OpD nm X (binaryOp .Mult) fMul := opI_D op_mul fun i j d h => by
  split at h
  · rename_i c; cases h; exact ⟨c, fun _ _ => .int _⟩
  · cases h
theorem o_mod : OpD nm X (binaryOp .Mod) fMod := opI_D op_mod fun i j d h => by
  split at h
  · rename_i c; cases h; exact ⟨c, fun _ _ => .int _⟩
  · cases h
theorem o_div : OpD nm X (binaryOp .FloorDiv) fDiv := opI_D op_fdiv fun i j d h => by
  split at h
  · rename_i c; cases h; exact ⟨c, fun _ _ => .int _⟩
  · cases h
theorem o_pow : OpD nm X (binaryOp .Pow) fPow := opI_D op_pow fun i j d h => by
  split at h
  · rename_i c; cases h; exact ⟨c, fun _ _ => .int _⟩
  · cases h
theorem o_add : OpD nm X (binaryOp .Add) fAdd := by
  intro pins s σ H x y v u Q I rv ru hh
  obtain ⟨S, μ, dx, dy, d, sm, rx, ry, e, q⟩ := hh
  unfold fAdd at e
  split at e
  · cases rx; cases ry; cases e
    exact op_add pins s σ H _ _ v u Q I rv ru ⟨_, _, rfl, rfl, q _ μ H .refl sm (.int _)⟩
  · split at e
    · rename_i c; cases rx; cases ry; cases e
      exact op_add_str pins s σ H _ _ v u Q I rv ru ⟨_, _, rfl, rfl, c, q _ μ H .refl sm (.str _)⟩
    · cases e
  · rename_i a b
    split at e
    · rename_i c
      cases e
      cases rx with | tup t1 r1 =>
      cases ry with | @tup b2 ys _ t2 r2 =>
      rename_i a1 xs
      have l1 := r1.length
      have l2 := r2.length
      refine op_catA pins s σ H _ _ v u Q I rv ru ⟨_, _, xs, ys, rfl, rfl, t1.sq, t2.sq, by rw [l1, l2]; exact c, fun z => ?_, fun _ z => ?_, fun _ _ p np => ?_⟩
      · subst z
        have ha : a = [] := by
          cases a with
          | nil => rfl
          | cons _ _ => simp at l1
        subst ha
        exact q _ μ H .refl sm (.tup t2 r2)
      · subst z
        have hb : b = [] := by
          cases b with
          | nil => rfl
          | cons _ _ => simp at l2
        subst hb
        rw [List.append_nil] at q
        exact q _ μ H .refl sm (.tup t1 r1)
      · exact tup_post (E := fun _ _ _ => False) sm (r1.append r2) np fun μ' H' x s' v' r' => q v' μ' H' x s' r'
    · cases e
  · cases e
theorem opC_D {op : CmpOp} {g : Int → Int → Bool} {h : Str → Str → Bool} (o : OpR X (compareOp op) (rI0 fun i j => .bl (g i j)))
    (p : OpR X (compareOp op) (fun x y H Q => ∃ i j, x = .str i ∧ y = .str j ∧ Q (.bl (h i j)) H)) : OpD nm X (compareOp op) (fCmp g h) := by
  intro pins s σ H x y v u Q I rv ru hh
  obtain ⟨S, μ, dx, dy, d, sm, rx, ry, e, q⟩ := hh
  unfold fCmp at e
  split at e
  · cases rx; cases ry; cases e
    exact o pins s σ H _ _ v u Q I rv ru ⟨_, _, rfl, rfl, q _ μ H .refl sm (.bl _)⟩
  · cases rx; cases ry; cases e
    exact p pins s σ H _ _ v u Q I rv ru ⟨_, _, rfl, rfl, q _ μ H .refl sm (.bl _)⟩
  · cases e
theorem o_lt : OpD nm X (compareOp .Lt) fLt := opC_D op_lt op_lt_str
theorem o_le : OpD nm X (compareOp .LtE) fLe := opC_D op_le op_le_str
theorem o_gt : OpD nm X (compareOp .Gt) fGt := opC_D op_gt op_gt_str
theorem o_ge : OpD nm X (compareOp .GtE) fGe := opC_D op_ge op_ge_str
theorem o_eq {k : Nat} (hr : L2H.RoomH k X.A) : OpD nm X (compareOp .Eq) fEq := by
  intro pins s σ H x y v u Q I rv ru hh
  obtain ⟨S, μ, dx, dy, d, sm, rx, ry, e, q⟩ := hh
  unfold fEq eqS at e
  split at e
  · rename_i c
    cases e
    simp only [small, Bool.and_eq_true, decide_eq_true_eq] at c
    obtain ⟨as, h1⟩ := Dp.reads I _ _ _ (rx.dp sm c.1.1) rv
    obtain ⟨bs, h2⟩ := Dp.reads I _ _ _ (ry.dp sm c.1.2) ru
    have := hr.un
    exact SeqAt.eq_plain h1 h2 c.1.1 c.1.2 (by omega) ⟨.bl _, H, I, rfl, q _ μ H .refl sm (.bl _)⟩
  · cases e
theorem o_ne {k : Nat} (hr : L2H.RoomH k X.A) : OpD nm X (compareOp .NotEq) fNe := by
  intro pins s σ H x y v u Q I rv ru hh
  obtain ⟨S, μ, dx, dy, d, sm, rx, ry, e, q⟩ := hh
  unfold fNe eqS at e
  split at e
  · rename_i c
    cases e
    simp only [small, Bool.and_eq_true, decide_eq_true_eq] at c
    obtain ⟨as, h1⟩ := Dp.reads I _ _ _ (rx.dp sm c.1.1) rv
    obtain ⟨bs, h2⟩ := Dp.reads I _ _ _ (ry.dp sm c.1.2) ru
    have := hr.un
    exact SeqAt.ne_plain h1 h2 c.1.1 c.1.2 (by omega) ⟨.bl _, H, I, rfl, q _ μ H .refl sm (.bl _)⟩
  · cases e
theorem isNon_iff {K : PySem.W.Frag} {H : Hp} {μ : List Addr} {v : V} {d : D} (r : RV K H μ v d) : decide (v = .non) = isNon d := by
  cases r <;> first | rfl | simp [isNon]
theorem o_is : OpD nm X (compareOp .Is) fIs := by
  intro pins s σ H x y v u Q I rv ru hh
  obtain ⟨S, μ, dx, dy, d, sm, rx, ry, e, q⟩ := hh
  unfold fIs at e
  split at e
  · rename_i c
    cases e
    refine op_isN pins s σ H _ _ v u Q I rv ru ⟨?_, q _ μ H .refl sm ?_⟩
    · have := isNon_iff ry; rw [c] at this; exact of_decide_eq_true this
    · rw [isNon_iff rx]; exact .bl _
  · cases e
theorem o_isnot : OpD nm X (compareOp .IsNot) fIsNot := by
  intro pins s σ H x y v u Q I rv ru hh
  obtain ⟨S, μ, dx, dy, d, sm, rx, ry, e, q⟩ := hh
  unfold fIsNot at e
  split at e
  · rename_i c
    cases e
    refine op_notN pins s σ H _ _ v u Q I rv ru ⟨?_, q _ μ H .refl sm ?_⟩
    · have := isNon_iff ry; rw [c] at this; exact of_decide_eq_true this
    · rw [isNon_iff rx]; exact .bl _
  · cases e
end
def inStr (a b : Str) : Bool := !(Builtin.Str.occurrences b a 0 b.length 1).isEmpty
def keyOf (d : D) : Option Key := match d with
  | .int i => some (.inl i)
  | .str x => some (.inr x)
  | _ => none
def getK (kvs : List (Key × D)) (k : Key) : Option D := (kvs.find? fun kv => decide (kv.1 = k)).map (·.2)
def dctOf (S : Store) (d : D) : Option (List (Key × D)) := match d with
  | .obj n => match S[n]? with
    | some (.dct kvs) => some kvs
    | _ => none
  | _ => none
def inS (S : Store) (x y : D) : Option Bool := match y with
  | .str b => match x with
    | .str a => some (inStr a b)
    | _ => none
  | _ => match dctOf S y with
    | some kvs => (keyOf x).map fun k => (getK kvs k).isSome
    | none => match seqOf S y with
      | some ys => if ((py S x).plain && PyData.plainAll (pys S ys) && decide (min (PyData.depthAll (pys S ys)) (py S x).depth < 100)) = true then some ((pys S ys).any fun z => PyData.eqv z (py S x)) else none
      | none => none
def fIn : Store → D → D → Option D := fun S x y => (inS S x y).map .bl
def fNotIn : Store → D → D → Option D := fun S x y => (inS S x y).map fun b => .bl (!b)
section
variable {nm : Nms} {X : Cx}
theorem getK_val {K : PySem.W.Frag} {H : Hp} {μ : List Addr} : ∀ {ys : List (Key × V)} {kvs : List (Key × D)} (k : Key), RK K H μ ys kvs → (valV ys k = none ∧ getK kvs k = none) ∨ ∃ v d, valV ys k = some v ∧ getK kvs k = some d ∧ RV K H μ v d
  | _, _, k, .nil => .inl ⟨rfl, rfl⟩
  | p :: ys, q :: kvs, k, .cons r t => by
    by_cases e : p.1 = k
    · refine .inr ⟨p.2, q.2, valV_pos e, ?_, r.2⟩
      unfold getK
      rw [List.find?_cons_of_pos (by rw [← r.1]; simpa using e)]
      rfl
    · rcases getK_val k t with ⟨h1, h2⟩ | ⟨v, d, h1, h2, h3⟩
      · refine .inl ⟨by rw [valV_neg e]; exact h1, ?_⟩
        unfold getK at h2 ⊢
        rw [List.find?_cons_of_neg (by rw [← r.1]; simpa using e)]
        exact h2
      · refine .inr ⟨v, d, by rw [valV_neg e]; exact h1, ?_, h3⟩
        unfold getK at h2 ⊢
        rw [List.find?_cons_of_neg (by rw [← r.1]; simpa using e)]
        exact h2
theorem keyOf_kV {K : PySem.W.Frag} {H : Hp} {μ : List Addr} {v : V} {d : D} {k : Key} (r : RV K H μ v d) (e : keyOf d = some k) : v = kV k := by
  unfold keyOf at e
  split at e
  · cases e; cases r; rfl
  · cases e; cases r; rfl
  · cases e
theorem dctOf_at {K : PySem.W.Frag} {mg : Str → Option Value} {H : Hp} {μ : List Addr} {S : Store} {v : V} {d : D} {kvs : List (Key × D)} (s : Sim nm K mg μ S H) (r : RV K H μ v d) (h : dctOf S d = some kvs) :
    ∃ n a ys, d = .obj n ∧ v = .ref a ∧ μ[n]? = some a ∧ S[n]? = some (.dct kvs) ∧ H a = some (.dK ys) ∧ RK K H μ ys kvs := by
  unfold dctOf at h
  split at h
  · split at h
    · rename_i hds
      cases h
      cases r with | obj e =>
        obtain ⟨ys, e1, r⟩ := s.ob _ _ _ e hds
        exact ⟨_, _, ys, rfl, rfl, e, hds, e1, r⟩
    · cases h
  · cases h
theorem in_core {k : Nat} {neg : Bool} (hr : L2H.RoomH k X.A) {op : CmpOp} (hop : op = if neg = true then .NotIn else .In) : OpD nm X (compareOp op) (fun S x y => (inS S x y).map fun b => .bl (if neg = true then !b else b)) := by
  intro pins s σ H x y v u Q I rv ru hh
  obtain ⟨S, μ, dx, dy, d, sm, rx, ry, e0, q⟩ := hh
  have hun := hr.un
  obtain ⟨b, e, e1⟩ := Option.map_eq_some_iff.mp e0
  clear e0
  subst e1
  have q : Q (.bl (if neg = true then !b else b)) H := q _ μ H .refl sm (.bl _)
  unfold inS at e
  split at e
  · split at e
    · cases e; cases rx; cases ry
      subst hop
      cases neg with
      | true => exact op_notin_str pins s σ H _ _ v u Q I rv ru ⟨_, _, rfl, rfl, q⟩
      | false => exact op_in_str pins s σ H _ _ v u Q I rv ru ⟨_, _, rfl, rfl, q⟩
    · cases e
  · split at e
    · rename_i kvs hk
      obtain ⟨key, hkey, rfl⟩ := Option.map_eq_some_iff.mp e
      obtain ⟨n, a, ys, rfl, rfl, _, _, e1, r1⟩ := dctOf_at sm ry hk
      have ek := keyOf_kV rx hkey
      subst ek
      cases ru
      have hs : (valV ys key).isSome = (getK kvs key).isSome := by
        rcases getK_val key r1 with ⟨h1, h2⟩ | ⟨_, _, h1, h2, _⟩ <;> rw [h1, h2] <;> rfl
      subst hop
      cases neg with
      | true => exact d_notIn (by omega) I (DGet.k e1) rv fun s' I' => ⟨.bl _, H, I', rfl, by rw [hs]; exact q⟩
      | false => exact d_in (by omega) I (DGet.k e1) rv fun s' I' => ⟨.bl _, H, I', rfl, by rw [hs]; exact q⟩
    · split at e
      · rename_i ys hys
        split at e
        · rename_i c
          cases e
          simp only [Bool.and_eq_true, decide_eq_true_eq] at c
          obtain ⟨as, h1⟩ := Dp.reads I _ _ _ (rx.dp sm c.1.1) rv
          obtain ⟨a, xs, rfl, hs, r⟩ := seqOf_sq sm ry hys
          cases ru
          subst hop
          rcases hs with hs | hs
          · obtain ⟨its, rvs, ⟨o, n, ho, hc, _, hd⟩, _⟩ := I.list hs
            obtain ⟨bs, h2⟩ := Dp.readsAll I _ _ _ (r.dp sm c.1.2) rvs
            cases neg with
            | true => exact SeqAt.notIn_list_data (Reads.list ho hc hd h2) h1 c.1.2 c.1.1 (by omega) ⟨.bl _, H, I, rfl, q⟩
            | false => exact SeqAt.in_list_data (Reads.list ho hc hd h2) h1 c.1.2 c.1.1 (by omega) ⟨.bl _, H, I, rfl, q⟩
          · obtain ⟨its, rvs, ⟨o, ho, hc, n, hd⟩, _⟩ := I.tuple hs
            obtain ⟨bs, h2⟩ := Dp.readsAll I _ _ _ (r.dp sm c.1.2) rvs
            cases neg with
            | true => exact SeqAt.notIn_tuple_data (Reads.tuple ho hc hd h2) h1 c.1.2 c.1.1 (by omega) ⟨.bl _, H, I, rfl, q⟩
            | false => exact SeqAt.in_tuple_data (Reads.tuple ho hc hd h2) h1 c.1.2 c.1.1 (by omega) ⟨.bl _, H, I, rfl, q⟩
        · cases e
      · cases e
theorem o_in {k : Nat} (hr : L2H.RoomH k X.A) : OpD nm X (compareOp .In) fIn := in_core (neg := false) hr rfl
theorem o_notin {k : Nat} (hr : L2H.RoomH k X.A) : OpD nm X (compareOp .NotIn) fNotIn := in_core (neg := true) hr rfl
theorem un_D {op : UnaryOp} {f : Store → D → Option D} {a : Expr} {ma : EM} {pos : Pos} {r : V → Hp → VK → Prop} (hu : UnR X (unaryOp op) r) (h : ∀ S μ H x dx d Q, Sim nm X.K X.mg μ S H → RV X.K H μ x dx → f S dx = some d → (∀ v, RV X.K H μ v d → Q v H) → r x H Q)
    (ha : ME nm X a ma) : ME nm X (.UnaryOp op a pos) (mUn f ma) := by
  refine ⟨fun W tk => (pe_un hu (ha.run W tk)).imp fun σ H Q hh => ?_⟩
  obtain ⟨e, S, μ, E, s, p⟩ := hh
  refine ⟨e, S, μ, E, s, (Post.bind p).mono fun dx S1 μ1 H1 x1 s1 p1 v rv => ?_⟩
  split at p1
  · rename_i d hd
    exact h S1 μ1 H1 v dx d Q s1 rv hd fun w r => p1 μ1 H1 .refl s1 w r
  · exact False.elim p1
def fNeg : Store → D → Option D := fun _ x => match x with
  | .int i => some (.int (-i))
  | _ => none
theorem me_neg {a : Expr} {ma : EM} {pos : Pos} (ha : ME nm X a ma) : ME nm X (.UnaryOp .USub a pos) (mUn fNeg ma) := un_D un_neg (fun S μ H x dx d Q s r e q => by
  unfold fNeg at e
  split at e
  · cases e; cases r; exact ⟨_, rfl, q _ (.int _)⟩
  · cases e) ha
end
end BS
namespace BS
open PySem PySem.Spec PyProof.Rows L2
section
variable {nm : Nms} {X : Cx} {pos : Pos} {e : Expr} {es : List Expr} {me : EM} {ma : AM}
def mNil : AM := fun _ S => .ok [] S
def mCons (m : EM) (r : AM) : AM := fun e S => (m e S).bind fun d S => (r e S).bind fun ds S => .ok (d :: ds) S
theorem ma_nil : MA nm X [] mNil := ⟨fun W tk => pa_nil.imp fun σ H Q h => by
  obtain ⟨e, S, μ, E, s, p⟩ := h
  exact p μ H .refl s _ .nil, fun e S ds S' h => by cases h; rfl⟩
theorem ma_cons (ha : ME nm X e me) (hr : MA nm X es ma) (hs : starEach (e :: es) X.env = (false, eval e X.env) :: starEach es X.env := by rfl) : MA nm X (e :: es) (mCons me ma) := by
  refine ⟨fun W tk => (pa_cons (ha.run W tk) (hr.run W tk) hs).imp fun σ H Q h => ?_, fun e S ds S' h => ?_⟩
  · obtain ⟨e, S, μ, E, s, p⟩ := h
    refine ⟨e, S, μ, E, s, (Post.bind p).mono fun d S1 μ1 H1 x1 s1 p1 v rv => ?_⟩
    refine ⟨e, S1, μ1, E.ext x1, s1, (Post.bind p1).mono fun ds S2 μ2 H2 x2 s2 p2 vs rvs => ?_⟩
    exact p2 μ2 H2 .refl s2 _ (.cons (rv.ext x2) rvs)
  · unfold mCons at h
    cases h1 : me e S with
    | ok d S1 =>
      rw [h1, R.bind_ok] at h
      cases h2 : ma e S1 with
      | ok ds1 S2 =>
        rw [h2, R.bind_ok] at h
        cases h
        rw [List.length_cons, List.length_cons, hr.len _ _ _ _ h2]
      | exc c fs S2 => rw [h2] at h; cases h
      | stuck => rw [h2] at h; cases h
    | exc c fs S1 => rw [h1] at h; cases h
    | stuck => rw [h1] at h; cases h
def mTup (m : AM) : EM := fun e S => (m e S).bind fun ds S => .ok (.tup ds) S
def mLst (new : Bool) (m : AM) : EM := fun e S => (m e S).bind fun ds S => fin new ds S
theorem lenOk {n : Nat} (h : n ≤ 1000) : n ≤ sizeLine := Nat.le_of_lt (small1000 h)
theorem post_len {W : WX} {σ : St} {H : Hp} {μ : List Addr} {ev : Ev} {S : Store} {P : PA (List D)} (hm : MA nm X es ma) (p : PostX nm X W μ H σ (ma ev S) P) : PostX nm X W μ H σ (ma ev S) fun ds S' μ' H' => ds.length = es.length ∧ P ds S' μ' H' := by
  cases h : ma ev S with
  | ok ds S' => rw [h] at p; exact fun μ' H' x s => ⟨hm.len _ _ _ _ h, p μ' H' x s⟩
  | exc c fs S' => rw [h] at p; exact p
  | stuck => rw [h] at p; exact p
theorem me_tup {x1} (h : MA nm X es ma) (hl : es.length ≤ 1000 := by decide) : ME nm X (.Tuple es x1 pos) (mTup ma) := by
  refine ⟨fun W tk => (pe_tup (h.run W tk)).imp fun σ H Q hh => ?_⟩
  obtain ⟨e, S, μ, E, s, p⟩ := hh
  refine ⟨e, S, μ, E, s, (post_len h (Post.bind p)).mono fun ds S1 μ1 H1 x1 s1 p1 vs rvs => ⟨?_, fun p np => tup_post s1 rvs np p1.2⟩⟩
  rw [rvs.length, p1.1]; exact lenOk hl
theorem me_lst (new : Bool) (h : MA nm X es ma) (hl : es.length ≤ 1000 := by decide) : ME nm X (.List es pos) (mLst new ma) := by
  refine ⟨fun W tk => (pe_lst (h.run W tk)).imp fun σ H Q hh => ?_⟩
  obtain ⟨e, S, μ, E, s, p⟩ := hh
  refine ⟨e, S, μ, E, s, (post_len h (Post.bind p)).mono fun ds S1 μ1 H1 x1 s1 p1 vs rvs => ⟨?_, fun p np => fin_post s1 rvs np p1.2⟩⟩
  rw [rvs.length, p1.1]; exact lenOk hl
/-- {} -/
def mDct : EM := fun _ S => .ok (.obj S.length) (S ++ [.dct []])
theorem made_dct {K : PySem.W.Frag} {mg : Str → Option Value} {μ : List Addr} {S : Store} {H : Hp} {p : Addr} (s : Sim nm K mg μ S H) (np : H p = none) : Sim nm K mg (μ ++ [p]) (S ++ [.dct []]) (upd H p (.dK [])) :=
  s.made np ⟨[], upd_same, .nil⟩
theorem new_at {K : PySem.W.Frag} {mg : Str → Option Value} {μ : List Addr} {S : Store} {H : Hp} {p : Addr} (s : Sim nm K mg μ S H) : (μ ++ [p])[S.length]? = some p := by
  rw [← s.len, List.getElem?_append_right (Nat.le_refl _)]; simp
theorem me_dct : ME nm X (.Dict [] [] pos) mDct := by
  refine ⟨fun W tk => pe_dnewK.imp fun σ H Q hh => ?_⟩
  obtain ⟨e, S, μ, E, s, p⟩ := hh
  intro q nq
  exact p _ _ (Ext.made s nq) (made_dct s nq) _ (.obj (new_at s))
def strAt (c : Nat) : D := .str ⟨#[c]⟩
/-- a dict that may be read: also one over which a loop runs -/
def dctR (S : Store) (d : D) : Option (List (Key × D)) := match d with
  | .obj n => match S[n]? with
    | some (.dct kvs) => some kvs
    | some (.lck kvs) => some kvs
    | _ => none
  | _ => none
theorem dctR_at {nm : Nms} {K : PySem.W.Frag} {mg : Str → Option Value} {H : Hp} {μ : List Addr} {S : Store} {v : V} {d : D} {kvs : List (Key × D)} (s : Sim nm K mg μ S H) (r : RV K H μ v d) (h : dctR S d = some kvs) :
    ∃ n a ys, d = .obj n ∧ v = .ref a ∧ μ[n]? = some a ∧ Rd H a (.dK ys) ∧ RK K H μ ys kvs := by
  unfold dctR at h
  split at h
  · split at h
    · rename_i hds
      cases h
      cases r with | obj e =>
        obtain ⟨ys, e1, r⟩ := s.ob _ _ _ e hds
        exact ⟨_, _, ys, rfl, rfl, e, .inl e1, r⟩
    · rename_i hds
      cases h
      cases r with | obj e =>
        obtain ⟨od, ys, e1, r⟩ := s.ob _ _ _ e hds
        exact ⟨_, _, ys, rfl, rfl, e, .inr ⟨od, e1⟩, r⟩
    · cases h
  · cases h
def fIx : Store → D → D → Option D := fun S x i => match i with
  | .int i => match x with
    | .str z => if z.length ≤ sizeLine then (atI z.cps.toList i).map strAt else none
    | _ => match seqOf S x with
      | some ds => atI ds i
      | none => match dctR S x with
        | some kvs => getK kvs (.inl i)
        | none => none
  | .str k => match dctR S x with
    | some kvs => getK kvs (.inr k)
    | none => none
  | _ => none
theorem atI_rvs {K : PySem.W.Frag} {H : Hp} {μ : List Addr} {xs : List V} {ds : List D} {i : Int} {d : D} (r : RVs K H μ xs ds) (h : atI ds i = some d) : ∃ v, atI xs i = some v ∧ RV K H μ v d := by
  unfold atI at h ⊢
  rw [← r.length] at h
  cases e : ixN xs.length i with
  | none => rw [e] at h; cases h
  | some j =>
    rw [e] at h
    obtain ⟨v, h1, h2⟩ := r.get (i := j) h
    exact ⟨v, h1, h2⟩
theorem dict_tail {prog : Program} {w : World} {A : Around} {E : Value → Shared → Prop} {s₂ : Shared} {value slice : Expr} {o i : Value} {Q : Value → Shared → Prop} (hT : s₂.TypeIs o "dict") (hs : subscripted slice false o i = operate [o, i] (getItem o i))
    (h₂ : wpAny (model prog w) A (getItem o i) Q E s₂) : wpAny (model prog w) A (subscriptTail value slice o i) Q E s₂ := by
  unfold subscriptTail
  refine wpAny_bind ?_
  rw [getitemInPython_of_ne hT.not_modules]
  refine wpAny_bind (wpAny_specialOf hT PySem.F.slot_dict_getitem.lookup ?_)
  have fin : wpAny (model prog w) A (subscripted slice false o i) (fun r s₃ => wpAny (model prog w) A (letTemporaryGo value o r >>= fun _ => pure r) Q E s₃) E s₂ := by
    rw [hs]
    exact wpAny_operating (wpAny_mono h₂ (fun r s₃ h₃ => wpAny_bind (wpAny_letTemporaryGo (wpAny_pure h₃))) fun _ _ x => x)
  first
    | exact wpAny_pure (wpAny_bind fin)
    | exact wpAny_bind (wpAny_pure (wpAny_bind fin))
    | exact wpAny_bind fin
/-- the read o[i] of a sequence or a dict, as the two rules of the layer give it -/
def mIx (a b : EM) : EM := mBin fIx a b
theorem ix_core (hr : X.A.units + 1 < cLine) {a b : Expr} {ta tb : TE} (ha : PE X a ta) (hb : PE X b tb) (hs : PlainIx b) : PE X (.Subscript a b pos) (tOp (rOpD nm X fIx) ta tb) := by
  refine ⟨fun pins s σ H Q I h => ?_⟩
  -- which rule is decided by the values: run both subexpressions, then the tail
  have key : ∀ (pins : List (Addr × Obj)) (s : Shared) (σ : St) (H : Hp) (x y : V) (v u : Value) (Q : VK), Inv X pins σ H s → RelV x v → RelV y u → rOpD nm X fIx x y H Q →
      (rIx X.K x y H Q) ∨ ∃ a w, x = .ref a ∧ DGet H a y (some w) ∧ Q w H := by
    intro pins s σ H x y v u Q I rv ru hh
    obtain ⟨S, μ, dx, dy, d, sm, rx, ry, e, q⟩ := hh
    have q : ∀ v, RV X.K H μ v d → Q v H := fun v r => q v μ H .refl sm r
    unfold fIx at e
    split at e
    · cases ry
      split at e
      · cases rx
        split at e
        · rename_i c
          obtain ⟨z, h1, rfl⟩ := Option.map_eq_some_iff.mp e
          exact .inl (.inr (.inr ⟨_, _, z, rfl, rfl, c, h1, q _ (.str _)⟩))
        · cases e
      · split at e
        · rename_i ds hds
          obtain ⟨a, xs, rfl, hs, r⟩ := seqOf_sq sm rx hds
          obtain ⟨w, h1, h2⟩ := atI_rvs r e
          rcases hs with hs | hs
          · exact .inl (.inl ⟨a, xs, _, w, rfl, rfl, hs, h1, q _ h2⟩)
          · exact .inl (.inr (.inl ⟨a, xs, _, w, rfl, rfl, hs, h1, q _ h2⟩))
        · split at e
          · rename_i kvs hk
            obtain ⟨n, a, ys, rfl, rfl, _, e1, r1⟩ := dctR_at sm rx hk
            rcases getK_val _ r1 with ⟨h1, h2⟩ | ⟨w, d', h1, h2, h3⟩
            · rw [h2] at e; cases e
            · rw [h2] at e; cases e
              exact .inr ⟨a, w, rfl, h1 ▸ (.inl ⟨ys, Sum.inl _, e1, rfl, rfl⟩ : DGet H a (kV (Sum.inl _)) (valV ys (Sum.inl _))), q _ h3⟩
          · cases e
    · cases ry
      split at e
      · rename_i kvs hk
        obtain ⟨n, a, ys, rfl, rfl, _, e1, r1⟩ := dctR_at sm rx hk
        rcases getK_val _ r1 with ⟨h1, h2⟩ | ⟨w, d', h1, h2, h3⟩
        · rw [h2] at e; cases e
        · rw [h2] at e; cases e
          exact .inr ⟨a, w, rfl, h1 ▸ (.inl ⟨ys, Sum.inr _, e1, rfl, rfl⟩ : DGet H a (kV (Sum.inr _)) (valV ys (Sum.inr _))), q _ h3⟩
      · cases e
    · cases e
  refine Subscript_ (thn (ha.run pins s σ H _ I h) fun v s1 ⟨x, H1, I1, r1, q1⟩ => thn (hb.run pins s1 σ H1 _ I1 q1) fun u s2 ⟨y, H2, I2, r2, q2⟩ => ?_)
  rcases key pins s2 σ H2 x y v u Q I2 r1 r2 q2 with h | ⟨a', w, rfl, g, q⟩
  · exact ix_seq a b pins s2 σ H2 x y v u Q I2 r1 r2 h (hs _ _)
  · cases r1
    exact dict_tail (dict_typeIs I2 g) (hs _ _) (d_getItem hr I2 g r2 fun w' s' I' rw' => ⟨w, H2, I', rw', q⟩)
theorem me_ix {k : Nat} (hr : L2H.RoomH k X.A) {a b : Expr} {ma mb : EM} (ha : ME nm X a ma) (hb : ME nm X b mb) (hs : PlainIx b := by exact fun _ _ => rfl) : ME nm X (.Subscript a b pos) (mIx ma mb) :=
  ⟨fun W tk => (ix_core (nm := nm) (by have := hr.un; omega) (ha.run W tk) (hb.run W tk) hs).imp fun _ _ _ h => bin_rd h⟩
abbrev OM := Ev → Store → R (Option Int)
def rdO (nm : Nms) (X : Cx) (W : WX) (m : OM) : TO := fun σ H Q => ∃ e S μ, EvR nm X H μ e σ ∧ Sim nm X.K X.mg μ S H ∧ PostX nm X W μ H σ (m e S) fun o _ μ' H' => Q o H'
structure MO (nm : Nms) (X : Cx) (e : Option Expr) (m : OM) : Prop where
  run : ∀ W, Takes X W → PO X e (rdO nm X W m)
theorem _root_.L2.PO.imp {X : Cx} {e : Option Expr} {t t' : TO} (h : PO X e t) (f : ∀ σ H Q, t' σ H Q → t σ H Q) : PO X e t' := ⟨fun pins s σ H Q I q => h.run pins s σ H Q I (f _ _ _ q)⟩
def oNo : OM := fun _ S => .ok none S
def oAt (m : EM) : OM := fun e S => (m e S).bind fun d S => match d with
  | .int i => .ok (some i) S
  | _ => .stuck
theorem mo_no : MO nm X none oNo := ⟨fun W tk => po_none.imp fun σ H Q h => by
  obtain ⟨e, S, μ, E, s, p⟩ := h
  exact p μ H .refl s⟩
theorem mo_at (h : ME nm X e me) : MO nm X (some e) (oAt me) := ⟨fun W tk => (po_some (h.run W tk)).imp fun σ H Q h => by
  obtain ⟨e, S, μ, E, s, p⟩ := h
  refine ⟨e, S, μ, E, s, (Post.bind p).mono fun d S1 μ1 H1 x1 s1 p1 v rv => ?_⟩
  split at p1
  · cases rv; exact ⟨_, rfl, p1 μ1 H1 .refl s1⟩
  · exact False.elim p1⟩
def cutD (xs : List D) (lo hi : Option Int) : List D := (xs.drop (HT.sIx xs.length 0 lo)).take (HT.sIx xs.length xs.length hi - HT.sIx xs.length 0 lo)
theorem cut_rvs {K : PySem.W.Frag} {H : Hp} {μ : List Addr} {xs : List V} {ds : List D} (r : RVs K H μ xs ds) (lo hi : Option Int) : RVs K H μ (cutV xs lo hi) (cutD ds lo hi) := by
  unfold cutV cutD
  rw [r.length]
  exact (r.drop _).take _
def slS (new : Bool) (S : Store) (x : D) (lo hi : Option Int) : R D := match x with
  | .str z => if z.length ≤ sizeLine then .ok (.str (cutS z lo hi)) S else .stuck
  | .tup ds => .ok (.tup (cutD ds lo hi)) S
  | _ => match lstOf S x with
    | some ds => fin new (cutD ds lo hi) S
    | none => .stuck
def mSl (new : Bool) (a : EM) (lo hi : OM) : EM := fun e S => (a e S).bind fun x S => (lo e S).bind fun l S => (hi e S).bind fun h S => slS new S x l h
theorem me_sl (new : Bool) {lo hi : Option Expr} {ml mh : OM} {p2 : Pos} (he : ME nm X e me) (hl : MO nm X lo ml) (hu : MO nm X hi mh) : ME nm X (.Subscript e (.Slice lo hi none p2) pos) (mSl new me ml mh) := by
  refine ⟨fun W tk => (pe_slice ((sl_str.or sl_tupA).or sl_list) (he.run W tk) (hl.run W tk) (hu.run W tk)).imp fun σ H Q h => ?_⟩
  obtain ⟨e, S, μ, E, s, p⟩ := h
  refine ⟨e, S, μ, E, s, (Post.bind p).mono fun d S1 μ1 H1 x1 s1 p1 v rv => ?_⟩
  refine ⟨e, S1, μ1, E.ext x1, s1, (Post.bind p1).mono fun l S2 μ2 H2 x2 s2 p2 => ?_⟩
  refine ⟨e, S2, μ2, E.ext (x1.trans x2), s2, (Post.bind p2).mono fun h S3 μ3 H3 x3 s3 p3 => ?_⟩
  have rv := rv.ext (x2.trans x3)
  unfold slS at p3
  split at p3
  · cases rv
    split at p3
    · rename_i c; exact .inl (.inl ⟨_, rfl, c, p3 μ3 H3 .refl s3 _ (.str _)⟩)
    · exact False.elim p3
  · cases rv with | tup t r =>
    refine .inl (.inr ⟨_, _, rfl, t.sq, fun c => ?_, fun _ p np => tup_post s3 (cut_rvs r l h) np p3⟩)
    rename_i ds a xs
    have e : cutD ds l h = ds := by
      rw [r.length] at c
      unfold cutD
      rw [c.1, c.2]
      simp
    rw [e] at p3
    exact p3 μ3 H3 .refl s3 _ (.tup t r)
  · split at p3
    · rename_i ds hds
      obtain ⟨a, xs, rfl, hs, r⟩ := lstOf_sq s3 rv hds
      exact .inr ⟨a, xs, rfl, hs, fun p np => fin_post s3 (cut_rvs r l h) np p3⟩
    · exact False.elim p3
def getN {α : Type} : List (Nat × α) → Nat → Option α
  | [], _ => none
  | p :: r, k => if p.1 = k then some p.2 else getN r k
def setN {α : Type} (k : Nat) (v : α) : List (Nat × α) → List (Nat × α)
  | [] => [(k, v)]
  | p :: r => if p.1 = k then (k, v) :: r else p :: setN k v r
theorem rf_get {K : PySem.W.Frag} {H : Hp} {μ : List Addr} : ∀ {gs : List (Str × V)} {fs : List (Nat × D)} (f : Nat), f < nm.most → RF nm K H μ gs fs → (gs.lookup (nm.fld f) = none ∧ getN fs f = none) ∨ ∃ v d, gs.lookup (nm.fld f) = some v ∧ getN fs f = some d ∧ RV K H μ v d
  | _, _, f, _, .nil => .inl ⟨rfl, rfl⟩
  | p :: gs, q :: fs, f, hf, .cons r t => by
    by_cases e : q.1 = f
    · refine .inr ⟨p.2, q.2, ?_, by unfold getN; rw [if_pos e], r.2.2⟩
      rw [List.lookup_cons, r.1, e]
      simp
    · have ne : nm.fld f ≠ p.1 := fun z => e (nm.inj _ _ r.2.1 hf (by rw [← r.1]; exact z.symm))
      have hb : (nm.fld f == p.1) = false := by simpa using ne
      rw [List.lookup_cons, hb]
      unfold getN
      rw [if_neg e]
      exact rf_get f hf t
theorem rf_set {K : PySem.W.Frag} {H : Hp} {μ : List Addr} : ∀ {gs : List (Str × V)} {fs : List (Nat × D)} (f : Nat) {v : V} {d : D}, f < nm.most → RV K H μ v d → RF nm K H μ gs fs → RF nm K H μ (putF (nm.fld f) v gs) (setN f d fs)
  | _, _, f, v, d, hf, rv, .nil => .cons ⟨rfl, hf, rv⟩ .nil
  | p :: gs, q :: fs, f, v, d, hf, rv, .cons r t => by
    unfold putF setN
    by_cases e : q.1 = f
    · rw [if_pos (by rw [r.1, e]), if_pos e]
      exact .cons ⟨by rw [r.1, e], hf, rv⟩ t
    · have ne : ¬ p.1 = nm.fld f := fun z => e (nm.inj _ _ r.2.1 hf (by rw [← r.1]; exact z))
      rw [if_neg ne, if_neg e]
      exact .cons r (rf_set f hf rv t)
theorem rf_length {K : PySem.W.Frag} {H : Hp} {μ : List Addr} {gs : List (Str × V)} {fs : List (Nat × D)} (r : RF nm K H μ gs fs) : gs.length = fs.length := Paired.length r
/-- what the text's class (for each of cs) says of the field f -/
def FldOk (K : PySem.W.Frag) (mg : Str → Option Value) (nm : Nms) (cs : List Nat) (f : Nat) : Prop := f < nm.most ∧ ∀ c ∈ cs, ∀ C, mg (nm.cls c) = some (.ref C) → Cls K C ∧ NoAttr K C (nm.fld f)
def insOf (S : Store) (d : D) : Option (Nat × List (Nat × D)) := match d with
  | .obj n => match S[n]? with
    | some (.ins c fs) => some (c, fs)
    | _ => none
  | _ => none
theorem insOf_at {K : PySem.W.Frag} {mg : Str → Option Value} {H : Hp} {μ : List Addr} {S : Store} {v : V} {d : D} {c : Nat} {fs : List (Nat × D)} (s : Sim nm K mg μ S H) (r : RV K H μ v d) (h : insOf S d = some (c, fs)) :
    ∃ n a C dx gs, d = .obj n ∧ v = .ref a ∧ μ[n]? = some a ∧ S[n]? = some (.ins c fs) ∧ mg (nm.cls c) = some (.ref C) ∧ H a = some (.ins C dx gs) ∧ RF nm K H μ gs fs := by
  unfold insOf at h
  split at h
  · split at h
    · rename_i hds
      cases h
      cases r with | obj e =>
        obtain ⟨C, dx, gs, g, e1, r⟩ := s.ob _ _ _ e hds
        exact ⟨_, _, C, dx, gs, rfl, rfl, e, hds, g, e1, r⟩
    · cases h
  · cases h
def getF (cs : List Nat) (f : Nat) (S : Store) (x : D) : Option D := match insOf S x with
  | some (c, fs) => if cs.contains c = true then getN fs f else none
  | none => none
def mFld (cs : List Nat) (f : Nat) (o : EM) : EM := mUn (getF cs f) o
theorem me_fld {cs : List Nat} {f : Nat} {fx : Str} (h : FldOk X.K X.mg nm cs f) (ho : ME nm X e me) (hf : nm.fld f = fx) (hb : attributeBase e fx X.env (eval e X.env) = eval e X.env := by rfl) : ME nm X (.Attribute e fx pos) (mFld cs f me) := by
  subst hf
  refine ⟨fun W tk => (pe_fld (ho.run W tk) hb).imp fun σ H Q hh => ?_⟩
  obtain ⟨e, S, μ, E, s, p⟩ := hh
  refine ⟨e, S, μ, E, s, (Post.bind p).mono fun d S1 μ1 H1 x1 s1 p1 v rv => ?_⟩
  split at p1
  · rename_i d' hd
    unfold getF at hd
    split at hd
    · rename_i c fs hi
      split at hd
      · rename_i hc
        obtain ⟨n, a, C, dx, gs, rfl, rfl, h1, h2, h3, h4, h5⟩ := insOf_at s1 rv hi
        obtain ⟨k1, k2⟩ := h.2 c (by simpa using hc) C h3
        rcases rf_get f h.1 h5 with ⟨_, z⟩ | ⟨w, d2, z1, z2, z3⟩
        · rw [z] at hd; cases hd
        · rw [z2] at hd; cases hd
          exact ⟨a, C, dx, gs, w, rfl, h4, k1, k2, z1, p1 μ1 H1 .refl s1 w z3⟩
      · cases hd
    · cases hd
  · exact False.elim p1
/-- a def by its value: what is promised of it -/
def spD (nm : Nms) (K : PySem.W.Frag) (mg : Str → Option Value) (n : Nat) (F : FM) : Sp := fun vs H Q E => ∃ ds S μ, RVs K H μ vs ds ∧ ds.length = n ∧ Sim nm K mg μ S H ∧ Post nm K mg μ H (F ds S) (fun d _ μ' H' => ∀ v, RV K H' μ' v d → Q v H') E
section
variable (P : Program) (w : World) (K : PySem.W.Frag) (mg : Str → Option Value) (base : Heap) (nm : Nms)
def DefOk (k : Nat) (x : Str) (n : Nat) (F : FM) : Prop :=
  ∃ f fd ps, mg x = some (.ref f) ∧ PySem.W.keepIn K (.ref f) = true ∧ ps.length = n ∧ Binds K fd ps [] ∧ FnOk P w K mg base (L2.CX P w) k f fd ps (spD nm K mg n F)
def MethOk (k : Nat) (c : Nat) (m : Str) (n : Nat) (F : FM) : Prop :=
  ∃ C f fd ps, mg (nm.cls c) = some (.ref C) ∧ Cls K C ∧ Meth K C m f ∧ ps.length = n ∧ Binds K fd ps [] ∧ FnOk P w K mg base (L2.CX P w) k f fd ps (spD nm K mg n F) ∧ ∀ i, i < nm.most → nm.fld i ≠ m
def MakeOk (k : Nat) (c : Nat) (n : Nat) (F : FM) : Prop :=
  ∃ C f fd ps, mg (nm.cls c) = some (.ref C) ∧ Mk K C f ∧ ps.length = n + 1 ∧ Binds K fd ps [] ∧ FnOk P w K mg base (L2.CX P w) k f fd ps (spD nm K mg (n + 1) F)
end
theorem DefOk.mono {P : Program} {w : World} {K : PySem.W.Frag} {mg : Str → Option Value} {base : Heap} {k k' : Nat} {x : Str} {n : Nat} {F : FM} (h : DefOk P w K mg base nm k x n F) (hk : k ≤ k') : DefOk P w K mg base nm k' x n F :=
  let ⟨f, fd, ps, h1, h2, h3, h4, h5⟩ := h; ⟨f, fd, ps, h1, h2, h3, h4, h5.mono hk⟩
theorem MethOk.mono {P : Program} {w : World} {K : PySem.W.Frag} {mg : Str → Option Value} {base : Heap} {k k' c : Nat} {x : Str} {n : Nat} {F : FM} (h : MethOk P w K mg base nm k c x n F) (hk : k ≤ k') : MethOk P w K mg base nm k' c x n F :=
  let ⟨C, f, fd, ps, h1, h2, h3, h4, h5, h6, h7⟩ := h; ⟨C, f, fd, ps, h1, h2, h3, h4, h5, h6.mono hk, h7⟩
theorem MakeOk.mono {P : Program} {w : World} {K : PySem.W.Frag} {mg : Str → Option Value} {base : Heap} {k k' c : Nat} {n : Nat} {F : FM} (h : MakeOk P w K mg base nm k c n F) (hk : k ≤ k') : MakeOk P w K mg base nm k' c n F :=
  let ⟨C, f, fd, ps, h1, h2, h3, h4, h5⟩ := h; ⟨C, f, fd, ps, h1, h2, h3, h4, h5.mono hk⟩
theorem spD.imp {K : PySem.W.Frag} {mg : Str → Option Value} {n : Nat} {F G : FM} (h : ∀ ds S, ds.length = n → G ds S ≠ .stuck → F ds S = G ds S) : ∀ vs H Q E, spD nm K mg n G vs H Q E → spD nm K mg n F vs H Q E := by
  rintro vs H Q E ⟨ds, S, μ, h1, h2, h3, h4⟩
  refine ⟨ds, S, μ, h1, h2, h3, ?_⟩
  rw [h ds S h2 (fun z => by rw [z] at h4; exact h4)]
  exact h4
/-- another value for a def: wherever it says something, it says what the def does -/
theorem DefOk.imp {P : Program} {w : World} {K : PySem.W.Frag} {mg : Str → Option Value} {base : Heap} {k : Nat} {x : Str} {n : Nat} {F G : FM} (h : DefOk P w K mg base nm k x n F) (g : ∀ ds S, ds.length = n → G ds S ≠ .stuck → F ds S = G ds S) : DefOk P w K mg base nm k x n G :=
  let ⟨f, fd, ps, h1, h2, h3, h4, h5⟩ := h; ⟨f, fd, ps, h1, h2, h3, h4, h5.imp (spD.imp g)⟩
theorem MethOk.imp {P : Program} {w : World} {K : PySem.W.Frag} {mg : Str → Option Value} {base : Heap} {k c : Nat} {x : Str} {n : Nat} {F G : FM} (h : MethOk P w K mg base nm k c x n F) (g : ∀ ds S, ds.length = n → G ds S ≠ .stuck → F ds S = G ds S) : MethOk P w K mg base nm k c x n G :=
  let ⟨C, f, fd, ps, h1, h2, h3, h4, h5, h6, h7⟩ := h; ⟨C, f, fd, ps, h1, h2, h3, h4, h5, h6.imp (spD.imp g), h7⟩
def mCall (F : FM) (as : AM) : EM := fun e S => (as e S).bind F
section
variable {pins : List (Addr × Obj)} {σ : St} {H : Hp} {s : Shared} {W : WX} {k n : Nat} {x m : Str} {F : FM} {vs : List V} {us : List Value} {ds : List D} {S : Store} {μ : List Addr} {Q : VK} {p apos : Pos}
theorem run_spD {f : Addr} {fd : FuncData} {ps : List Str} (F' : FnOk X.prog X.w X.K X.mg X.base (L2.CX X.prog X.w) k f fd ps (spD nm X.K X.mg n F)) (hb : Binds X.K fd ps []) (hr : Room k X.A) (tk : Takes X W) (I : Inv X pins σ H s) (r : Vals vs us) (rv : RVs X.K H μ vs ds) (hl : ds.length = n)
    (sm : Sim nm X.K X.mg μ S H) (q : PostX nm X W μ H σ (F ds S) fun d _ μ' H' => ∀ v, RV X.K H' μ' v d → Q v H') : wpAny (model X.prog X.w) X.A (call (.ref f) us) (EP X pins σ Q) X.xe s :=
  run_fnS F' hr hb (passAt tk σ) I r ⟨ds, S, μ, rv, hl, sm, q⟩
theorem me_call {e : Expr} {es : List Expr} {ma : AM} (h : DefOk X.prog X.w X.K X.mg X.base nm k x n F) (hr : Room k X.A) (hg : GlN X x) (ha : MA nm X (e :: es) ma) (hn : (e :: es).length = n := by rfl)
    (he : starEach (e :: es) X.env = (false, eval e X.env) :: starEach es X.env := by rfl) (hpl : (backTo pos (starEach es X.env)).any (·.1) = false := by rfl) : ME nm X (.Call (.Name x p) (e :: es) [] pos) (mCall F ma) := by
  obtain ⟨f, fd, ps, h1, h2, h3, h4, h5⟩ := h
  refine ⟨fun W tk => (pe_callS (E := WE W) h5 hr hg.g h1 h2 h4 (passAt tk) (ha.run W tk) hg.d he hpl).imp fun σ H Q hh => ?_⟩
  obtain ⟨ev, S, μ, E, s, q⟩ := hh
  exact ⟨ev, S, μ, E, s, (post_len ha (Post.bind q)).mono fun ds S1 μ1 H1 x1 s1 q1 vs rvs => ⟨ds, S1, μ1, rvs, by rw [q1.1, hn], s1, q1.2⟩⟩
theorem me_call0 (h : DefOk X.prog X.w X.K X.mg X.base nm k x 0 F) (hr : Room k X.A) (hg : GlN X x) : ME nm X (.Call (.Name x p) [] [] pos) (mCall F mNil) := by
  obtain ⟨f, fd, ps, h1, h2, h3, h4, h5⟩ := h
  refine ⟨fun W tk => ⟨fun pins s σ H Q I hh => ?_⟩⟩
  obtain ⟨ev, S, μ, E, sm, q⟩ := hh
  refine wpAny_Call_Name_kw (ld_glob I hg.g h1 ?_ hg.d)
  exact PySem.W.callWith_K0 I.kIn h2 (run_spD h5 h4 hr tk I .nil .nil rfl sm q)
def isIns (c : Nat) (S : Store) (x : D) : Bool := match insOf S x with
  | some (c', _) => c' == c
  | none => false
def mMeth (c : Nat) (F : FM) (o : EM) (as : AM) : EM := fun e S => (o e S).bind fun x S => if isIns c S x = true then (as e S).bind fun ds S => F (x :: ds) S else .stuck
theorem rf_no {K : PySem.W.Frag} {H : Hp} {μ : List Addr} {m : Str} (hm : ∀ i, i < nm.most → nm.fld i ≠ m) : ∀ {gs : List (Str × V)} {fs : List (Nat × D)}, RF nm K H μ gs fs → gs.lookup m = none
  | _, _, .nil => rfl
  | p :: gs, q :: fs, .cons r t => by
    have ne : m ≠ p.1 := fun z => hm q.1 r.2.1 (by rw [← r.1, z])
    have hb : (m == p.1) = false := by simpa using ne
    rw [List.lookup_cons, hb]
    exact rf_no hm t
theorem ins_meth {K : PySem.W.Frag} {mg : Str → Option Value} {C : Addr} {c : Nat} {v : V} {d : D} (hC : mg (nm.cls c) = some (.ref C)) (hm : ∀ i, i < nm.most → nm.fld i ≠ m) (s : Sim nm K mg μ S H) (r : RV K H μ v d) (h : isIns c S d = true) :
    ∃ a dx gs, v = .ref a ∧ H a = some (.ins C dx gs) ∧ gs.lookup m = none := by
  unfold isIns at h
  split at h
  · rename_i c' fs hi
    have : c' = c := by simpa using h
    subst this
    obtain ⟨n, a, C', dx, gs, rfl, rfl, h1, h2, h3, h4, h5⟩ := insOf_at s r hi
    rw [hC] at h3; cases h3
    exact ⟨a, dx, gs, rfl, h4, rf_no hm h5⟩
  · cases h
theorem me_meth {c : Nat} {o e : Expr} {es : List Expr} {mo : EM} {ma : AM} {pl : Sem Bool} (h : MethOk X.prog X.w X.K X.mg X.base nm k c m n F) (hr : Room k X.A) (ho : ME nm X o mo) (ha : MA nm X (e :: es) ma) (hn : (e :: es).length + 1 = n := by rfl)
    (hst : starEach (e :: es) X.env = (false, eval e X.env) :: starEach es X.env := by rfl) (hpl : (backTo pos (starEach es X.env)).any (·.1) = false := by rfl)
    (ht : eval (.Call (.Attribute o m apos) (e :: es) [] pos) X.env = (do
      let ov ← eval o X.env
      standAt apos.atName
      let (f, first) ← holding [ov] (getMethod ov m pl)
      callWith pos f first (backTo pos (starEach (e :: es) X.env)) (backToKw pos (keywordEach [] X.env))) := by rfl) : ME nm X (.Call (.Attribute o m apos) (e :: es) [] pos) (mMeth c F mo ma) := by
  obtain ⟨C, f, fd, ps, g1, g2, g3, g4, g5, g6, g7⟩ := h
  refine ⟨fun W tk => ⟨fun pins s σ H Q I hh => ?_⟩⟩
  obtain ⟨ev, S, μ, E, sm, q⟩ := hh
  refine PySem.W.methodCall_KW (pl := pl) (thn ((ho.run W tk).run pins s σ H (fun x H1 => ∃ S1 μ1 d, EvR nm X H1 μ1 ev σ ∧ Sim nm X.K X.mg μ1 S1 H1 ∧ RV X.K H1 μ1 x d ∧ isIns c S1 d = true ∧ PostX nm X W μ1 H1 σ ((ma ev S1).bind fun ds S => F (d :: ds) S) fun d _ μ' H' => ∀ v, RV X.K H' μ' v d → Q v H') I
    ⟨ev, S, μ, E, sm, (Post.bind q).mono fun d S1 μ1 H1 x1 s1 q1 v rv => ?_⟩) fun u s1 ⟨x, H1, I1, rx, S1, μ1, d, E1, sm1, rd, hi, q1⟩ => ?_) ht
  · split at q1
    · rename_i hi; exact ⟨S1, μ1, d, E.ext x1, s1, rv, hi, q1⟩
    · exact False.elim q1
  · obtain ⟨a, dx, gs, rfl, ea, l⟩ := ins_meth g1 g7 sm1 rd hi
    obtain rfl : u = Value.ref a := rx
    refine getmeth_ok I1 ea g2 g3 l ?_
    refine PySem.W.callWith_K (first := [.ref a]) (h₀ := X.base) I1.ok.mod.kin g3.kp (thn ((ha.run W tk).run pos pins s1 σ H1 (fun vs H2 => ∃ ds S2 μ2, RVs X.K H2 μ2 (.ref a :: vs) (d :: ds) ∧ (d :: ds).length = n ∧ Sim nm X.K X.mg μ2 S2 H2 ∧ PostX nm X W μ2 H2 σ (F (d :: ds) S2) fun d _ μ' H' => ∀ v, RV X.K H' μ' v d → Q v H') I1
      ⟨ev, S1, μ1, E1, sm1, (post_len ha (Post.bind q1)).mono fun ds S2 μ2 H2 x2 s2 q2 vs rvs => ⟨ds, S2, μ2, .cons (rd.ext x2) rvs, by rw [List.length_cons, q2.1, hn], s2, q2.2⟩⟩) fun us s2 ⟨vs, H2, I2, r, ds, S2, μ2, rvs, hl, sm2, q2⟩ => ⟨I2.kIn, ?_⟩) hst hpl
    exact run_spD (us := .ref a :: us) (vs := .ref a :: vs) g6 g5 hr tk I2 (.cons rfl r) rvs hl sm2 q2
theorem me_meth0 {c : Nat} {o : Expr} {mo : EM} {pl : Sem Bool} (h : MethOk X.prog X.w X.K X.mg X.base nm k c m 1 F) (hr : Room k X.A) (ho : ME nm X o mo)
    (ht : eval (.Call (.Attribute o m apos) [] [] pos) X.env = (do
      let ov ← eval o X.env
      standAt apos.atName
      let (f, first) ← holding [ov] (getMethod ov m pl)
      callWith pos f first (backTo pos (starEach [] X.env)) (backToKw pos (keywordEach [] X.env))) := by rfl) : ME nm X (.Call (.Attribute o m apos) [] [] pos) (mMeth c F mo mNil) := by
  obtain ⟨C, f, fd, ps, g1, g2, g3, g4, g5, g6, g7⟩ := h
  refine ⟨fun W tk => ⟨fun pins s σ H Q I hh => ?_⟩⟩
  obtain ⟨ev, S, μ, E, sm, q⟩ := hh
  refine PySem.W.methodCall_KW (pl := pl) (thn ((ho.run W tk).run pins s σ H (fun x H1 => ∃ S1 μ1 d, Sim nm X.K X.mg μ1 S1 H1 ∧ RV X.K H1 μ1 x d ∧ isIns c S1 d = true ∧ PostX nm X W μ1 H1 σ (F [d] S1) fun d _ μ' H' => ∀ v, RV X.K H' μ' v d → Q v H') I
    ⟨ev, S, μ, E, sm, (Post.bind q).mono fun d S1 μ1 H1 x1 s1 q1 v rv => ?_⟩) fun u s1 ⟨x, H1, I1, rx, S1, μ1, d, sm1, rd, hi, q1⟩ => ?_) ht
  · split at q1
    · rename_i hi; exact ⟨S1, μ1, d, s1, rv, hi, q1⟩
    · exact False.elim q1
  · obtain ⟨a, dx, gs, rfl, ea, l⟩ := ins_meth g1 g7 sm1 rd hi
    obtain rfl : u = Value.ref a := rx
    refine getmeth_ok I1 ea g2 g3 l ?_
    exact PySem.W.callWith_K0 (first := [.ref a]) I1.kIn g3.kp (run_spD (us := [.ref a]) (vs := [.ref a]) g6 g5 hr tk I1 (.cons rfl .nil) (.cons rd .nil) rfl sm1 q1)
def mNew (c : Nat) (F : FM) (as : AM) : EM := fun e S => (as e S).bind fun ds S => (F (.obj S.length :: ds) (S ++ [.ins c []])).bind fun d S' => if isNon d = true then .ok (.obj S.length) S' else .stuck
theorem run_mk {C f : Addr} {c : Nat} {fd : FuncData} {ps : List Str} (hC : X.mg (nm.cls c) = some (.ref C)) (M : Mk X.K C f) (F' : FnOk X.prog X.w X.K X.mg X.base (L2.CX X.prog X.w) k f fd ps (spD nm X.K X.mg (n + 1) F)) (hb : Binds X.K fd ps []) (hr : Room (k + 1) X.A) (tk : Takes X W)
    (I : Inv X pins σ H s) (r : Vals vs us) (rv : RVs X.K H μ vs ds) (hl : ds.length = n) (sm : Sim nm X.K X.mg μ S H)
    (q : PostX nm X W μ H σ ((F (.obj S.length :: ds) (S ++ [.ins c []])).bind fun d S' => if isNon d = true then R.ok (D.obj S.length) S' else .stuck) fun d _ μ' H' => ∀ v, RV X.K H' μ' v d → Q v H') : wpAny (model X.prog X.w) X.A (call (.ref C) us) (EP X pins σ Q) X.xe s := by
  have nx : H (s.heap.objs.size + 1) = none := I.hok.fresh (Nat.le_succ _)
  have nd : H s.heap.objs.size = none := I.hok.fresh (Nat.le_refl _)
  have ne : s.heap.objs.size ≠ s.heap.objs.size + 1 := Nat.ne_of_lt (Nat.lt_succ_self _)
  have s1 : Sim nm X.K X.mg μ S (upd H s.heap.objs.size (.own (s.heap.objs.size + 1))) := sm.laid nd
  have nx1 : (upd H s.heap.objs.size (.own (s.heap.objs.size + 1))) (s.heap.objs.size + 1) = none := by rw [upd_ne ne.symm]; exact nx
  have x2 : Ext μ H (μ ++ [s.heap.objs.size + 1]) (upd (upd H s.heap.objs.size (.own (s.heap.objs.size + 1))) (s.heap.objs.size + 1) (.ins C s.heap.objs.size [])) := (Ext.laid sm nd).trans (Ext.made s1 nx1)
  have s2 : Sim nm X.K X.mg (μ ++ [s.heap.objs.size + 1]) (S ++ [.ins c []]) (upd (upd H s.heap.objs.size (.own (s.heap.objs.size + 1))) (s.heap.objs.size + 1) (.ins C s.heap.objs.size [])) :=
    s1.made nx1 ⟨C, _, [], hC, upd_same, .nil⟩
  have rself : RV X.K (upd (upd H s.heap.objs.size (.own (s.heap.objs.size + 1))) (s.heap.objs.size + 1) (.ins C s.heap.objs.size [])) (μ ++ [s.heap.objs.size + 1]) (.ref (s.heap.objs.size + 1)) (.obj S.length) := .obj (new_at s1)
  have hq : spD nm X.K X.mg (n + 1) F (.ref (s.heap.objs.size + 1) :: vs) (upd (upd H s.heap.objs.size (.own (s.heap.objs.size + 1))) (s.heap.objs.size + 1) (.ins C s.heap.objs.size [])) (fun v H2 => v = .non ∧ Q (.ref (s.heap.objs.size + 1)) H2) (WE W σ) := by
    refine ⟨.obj S.length :: ds, S ++ [.ins c []], μ ++ [s.heap.objs.size + 1], .cons rself (RVs.ext x2 _ rv), by rw [List.length_cons, hl], s2, ((Post.bind (Post.ext x2 q)).mono fun d S3 μ3 H3 x3 s3 q3 v r3 => ?_)⟩
    split at q3
    · rename_i hn
      refine ⟨?_, q3 μ3 H3 .refl s3 _ (rself.ext x3)⟩
      have := isNon_iff r3; rw [hn] at this; exact of_decide_eq_true this
    · exact False.elim q3
  have I2 := Inv.made (C := C) I
  have r2 : Vals (V.ref (s.heap.objs.size + 1) :: vs) (Value.ref (s.heap.objs.size + 1) :: us) := .cons rfl r
  have hlen : (Value.ref (s.heap.objs.size + 1) :: us).length = ps.length := by
    have e := r2.length
    rw [F'.len _ _ _ _ hq] at e
    exact e.symm
  have hbb := hb _ (Value.ref (s.heap.objs.size + 1) :: us) I2.kIn (by rw [List.append_nil]; exact hlen)
  rw [List.append_nil] at hbb
  refine wpAny_call (make_map (f := f) I.kIn M.makes M.init (beq_iff_eq.mp M.fn) (codeAny_mono (F'.run _ X.stack _ _ ⟨Value.ref (s.heap.objs.size + 1) :: us, []⟩ (Value.ref (s.heap.objs.size + 1) :: us) _ _ (WE W σ) (hr.make C us [])
    (I2.env0.make C us []) hbb r2 hq) fun r s' hq' => ?_))
  cases r with
  | error e => exact passAt tk σ pins _ _ e s' I2 hq'
  | ok fl =>
    cases fl with
    | ret u =>
      obtain ⟨v, H', I3, rv, ev, q3⟩ := I2.after hq'
      subst ev
      exact ⟨rv, ⟨V.ref (s.heap.objs.size + 1), H', I3, rfl, q3⟩⟩
    | next => exact False.elim hq'
    | brk => exact False.elim hq'
    | cont => exact False.elim hq'
theorem me_new {c : Nat} {e : Expr} {es : List Expr} {ma : AM} (h : MakeOk X.prog X.w X.K X.mg X.base nm k c n F) (hr : Room (k + 1) X.A) (hg : GlN X x) (ha : MA nm X (e :: es) ma) (hx : nm.cls c = x) (hn : (e :: es).length = n := by rfl)
    (he : starEach (e :: es) X.env = (false, eval e X.env) :: starEach es X.env := by rfl) (hpl : (backTo pos (starEach es X.env)).any (·.1) = false := by rfl) : ME nm X (.Call (.Name x p) (e :: es) [] pos) (mNew c F ma) := by
  subst hx
  obtain ⟨C, f, fd, ps, h1, h2, h3, h4, h5⟩ := h
  refine ⟨fun W tk => ⟨fun pins s σ H Q I hh => ?_⟩⟩
  obtain ⟨ev, S, μ, E, sm, q⟩ := hh
  refine wpAny_Call_Name_kw (ld_glob I hg.g h1 ?_ hg.d)
  refine PySem.W.callWith_K (h₀ := X.base) I.ok.mod.kin h2.kp (thn ((ha.run W tk).run pos pins s σ H (fun vs H1 => ∃ ds S1 μ1, RVs X.K H1 μ1 vs ds ∧ ds.length = n ∧ Sim nm X.K X.mg μ1 S1 H1 ∧
    PostX nm X W μ1 H1 σ ((F (.obj S1.length :: ds) (S1 ++ [.ins c []])).bind fun d S' => if isNon d = true then R.ok (D.obj S1.length) S' else .stuck) fun d _ μ' H' => ∀ v, RV X.K H' μ' v d → Q v H') I
    ⟨ev, S, μ, E, sm, (post_len ha (Post.bind q)).mono fun ds S1 μ1 H1 x1 s1 q1 vs rvs => ⟨ds, S1, μ1, rvs, by rw [q1.1, hn], s1, q1.2⟩⟩) fun us s1 ⟨vs, H1, I1, r, ds, S1, μ1, rvs, hl, sm1, q1⟩ => ⟨I1.kIn, ?_⟩) he hpl
  exact run_mk h1 h2 h5 h4 hr tk I1 r rvs hl sm1 q1
theorem me_new0 {c : Nat} (h : MakeOk X.prog X.w X.K X.mg X.base nm k c 0 F) (hr : Room (k + 1) X.A) (hg : GlN X x) (hx : nm.cls c = x) : ME nm X (.Call (.Name x p) [] [] pos) (mNew c F mNil) := by
  subst hx
  obtain ⟨C, f, fd, ps, h1, h2, h3, h4, h5⟩ := h
  refine ⟨fun W tk => ⟨fun pins s σ H Q I hh => ?_⟩⟩
  obtain ⟨ev, S, μ, E, sm, q⟩ := hh
  refine wpAny_Call_Name_kw (ld_glob I hg.g h1 ?_ hg.d)
  exact PySem.W.callWith_K0 I.kIn h2.kp (run_mk h1 h2 h5 h4 hr tk I .nil .nil rfl sm q)
end
end
end BS
namespace BS
open PySem PySem.Spec PyProof.Rows L2
def Ev.set (e : Ev) (i : Nat) (d : D) : Ev := { sl := e.sl.set i (some d), ex := e.ex.filter fun p => p.1 != i }
def Ev.clr (e : Ev) : Ev := { sl := e.sl, ex := [] }
@[simp] theorem Ev.set_sl (l : List (Option D)) (i : Nat) (d : D) : Ev.set ⟨l, []⟩ i d = ⟨l.set i (some d), []⟩ := rfl
@[simp] theorem Ev.clr_mk (l : List (Option D)) (x) : Ev.clr ⟨l, x⟩ = ⟨l, []⟩ := rfl
def R.toS {α : Type} (r : R α) (e : Ev) (k : α → Store → RS) : RS := match r with
  | .ok a S => k a S
  | .exc c fs S => .exc c fs e S
  | .stuck => .stuck
@[simp] theorem R.toS_ok {α : Type} (a : α) (S : Store) (e : Ev) (k : α → Store → RS) : (R.ok a S).toS e k = k a S := rfl
@[simp] theorem R.toS_exc {α : Type} (c : Nat) (fs : List (Nat × D)) (S : Store) (e : Ev) (k : α → Store → RS) : (R.exc c fs S).toS e k = .exc c fs e S := rfl
@[simp] theorem R.toS_stuck {α : Type} (e : Ev) (k : α → Store → RS) : (R.stuck : R α).toS e k = .stuck := rfl
def RS.seq (r : RS) (k : Ev → Store → RS) : RS := match r with
  | .nx e S => k e S
  | r => r
@[simp] theorem RS.seq_nx (e : Ev) (S : Store) (k : Ev → Store → RS) : (RS.nx e S).seq k = k e S := rfl
@[simp] theorem RS.seq_rt (d : D) (S : Store) (k : Ev → Store → RS) : (RS.rt d S).seq k = .rt d S := rfl
@[simp] theorem RS.seq_bk (e : Ev) (S : Store) (k : Ev → Store → RS) : (RS.bk e S).seq k = .bk e S := rfl
@[simp] theorem RS.seq_ct (e : Ev) (S : Store) (k : Ev → Store → RS) : (RS.ct e S).seq k = .ct e S := rfl
@[simp] theorem RS.seq_exc (c : Nat) (fs : List (Nat × D)) (e : Ev) (S : Store) (k : Ev → Store → RS) : (RS.exc c fs e S).seq k = .exc c fs e S := rfl
@[simp] theorem RS.seq_stuck (k : Ev → Store → RS) : RS.stuck.seq k = .stuck := rfl
/-- a loop's turn is through -/
def RS.loop (r : RS) (k : Ev → Store → RS) : RS := match r with
  | .nx e S => k e S
  | .ct e S => k e S
  | .bk e S => .nx e S
  | r => r
@[simp] theorem RS.loop_nx (e : Ev) (S : Store) (k : Ev → Store → RS) : (RS.nx e S).loop k = k e S := rfl
@[simp] theorem RS.loop_rt (d : D) (S : Store) (k : Ev → Store → RS) : (RS.rt d S).loop k = .rt d S := rfl
@[simp] theorem RS.loop_bk (e : Ev) (S : Store) (k : Ev → Store → RS) : (RS.bk e S).loop k = .nx e S := rfl
@[simp] theorem RS.loop_ct (e : Ev) (S : Store) (k : Ev → Store → RS) : (RS.ct e S).loop k = k e S := rfl
@[simp] theorem RS.loop_exc (c : Nat) (fs : List (Nat × D)) (e : Ev) (S : Store) (k : Ev → Store → RS) : (RS.exc c fs e S).loop k = .exc c fs e S := rfl
@[simp] theorem RS.loop_stuck (k : Ev → Store → RS) : RS.stuck.loop k = .stuck := rfl
section
variable (nm : Nms) (X : Cx)
def PostS (W : WX) (μ : List Addr) (H : Hp) (r : RS) (D : Ends) : Prop := match r with
  | .nx e S => ∀ σ' μ' H', Ext μ H μ' H' → Sim nm X.K X.mg μ' S H' → EvR nm X H' μ' e σ' → D.nx σ' H'
  | .bk e S => ∀ σ' μ' H', Ext μ H μ' H' → Sim nm X.K X.mg μ' S H' → EvR nm X H' μ' e σ' → D.bk σ' H'
  | .ct e S => ∀ σ' μ' H', Ext μ H μ' H' → Sim nm X.K X.mg μ' S H' → EvR nm X H' μ' e σ' → D.ct σ' H'
  | .rt d S => ∀ v μ' H', Ext μ H μ' H' → Sim nm X.K X.mg μ' S H' → RV X.K H' μ' v d → D.rt v H'
  | .exc c fs e S => ∀ σ' μ' H' C d, Ext μ H μ' H' → Sim nm X.K X.mg μ' S H' → EvR nm X H' μ' e σ' → ExcAt nm X.K X.mg H' μ' c fs C d → W (.ref C) d σ' H'
  | .stuck => False
def rdS (W : WX) (m : SM) : TS := fun D σ H => ∃ e S μ, EvR nm X H μ e σ ∧ Sim nm X.K X.mg μ S H ∧ PostS nm X W μ H (m e S) D
def rdG (W : WX) (g : GM) : TG := fun v σ H Q => ∃ d e S μ, RV X.K H μ v d ∧ EvR nm X H μ e σ ∧ Sim nm X.K X.mg μ S H ∧ PostS nm X W μ H (g d e S) { nx := Q, rt := fun _ _ => False }
def rdGs (W : WX) (g : List D → Ev → Store → RS) : TGs := fun vs σ H Q => ∃ ds e S μ, RVs X.K H μ vs ds ∧ EvR nm X H μ e σ ∧ Sim nm X.K X.mg μ S H ∧ PostS nm X W μ H (g ds e S) { nx := Q, rt := fun _ _ => False }
end
structure MS (nm : Nms) (X : Cx) (st : Stmt) (m : SM) : Prop where
  run : ∀ W, Takes X W → PS X st (rdS nm X W m)
structure MB (nm : Nms) (X : Cx) (sts : List Stmt) (m : SM) : Prop where
  run : ∀ W, Takes X W → PSs X sts (rdS nm X W m)
structure MG (nm : Nms) (X : Cx) (t : Expr) (g : GM) : Prop where
  run : ∀ W, Takes X W → PG X t (rdG nm X W g)
structure MGs (nm : Nms) (X : Cx) (ts : List Expr) (g : List D → Ev → Store → RS) : Prop where
  run : ∀ W, Takes X W → PGs X ts (rdGs nm X W g)
theorem _root_.L2.PS.imp {X : Cx} {e : Stmt} {t t' : TS} (h : PS X e t) (f : ∀ D σ H, t' D σ H → t D σ H) : PS X e t' := ⟨fun pins s σ H D I q => h.run pins s σ H D I (f _ _ _ q)⟩
theorem _root_.L2.PSs.imp {X : Cx} {e : List Stmt} {t t' : TS} (h : PSs X e t) (f : ∀ D σ H, t' D σ H → t D σ H) : PSs X e t' := ⟨fun pins s σ H D I q => h.run pins s σ H D I (f _ _ _ q)⟩
theorem _root_.L2.PG.imp {X : Cx} {e : Expr} {t t' : TG} (h : PG X e t) (f : ∀ v σ H Q, t' v σ H Q → t v σ H Q) : PG X e t' := ⟨fun pins s σ H v u Q I r q => h.run pins s σ H v u Q I r (f _ _ _ _ q)⟩
theorem _root_.L2.PGs.imp {X : Cx} {e : List Expr} {t t' : TGs} (h : PGs X e t) (f : ∀ v σ H Q, t' v σ H Q → t v σ H Q) : PGs X e t' := ⟨fun pins s σ H v u Q I r q => h.run pins s σ H v u Q I r (f _ _ _ _ q)⟩
section
variable {nm : Nms} {X : Cx} {W : WX} {H H' : Hp} {μ μ' : List Addr} {D : Ends} {σ : St}
theorem PostS.ext {r : RS} (x : Ext μ H μ' H') (h : PostS nm X W μ H r D) : PostS nm X W μ' H' r D := by
  cases r with
  | nx e S => exact fun σ2 μ2 H2 x2 => h σ2 μ2 H2 (x.trans x2)
  | bk e S => exact fun σ2 μ2 H2 x2 => h σ2 μ2 H2 (x.trans x2)
  | ct e S => exact fun σ2 μ2 H2 x2 => h σ2 μ2 H2 (x.trans x2)
  | rt d S => exact fun v μ2 H2 x2 => h v μ2 H2 (x.trans x2)
  | exc c fs e S => exact fun σ2 μ2 H2 C d x2 => h σ2 μ2 H2 C d (x.trans x2)
  | stuck => exact h
theorem PostS.mono {r : RS} {D' : Ends} (h : PostS nm X W μ H r D) (h1 : ∀ σ H, D.nx σ H → D'.nx σ H) (h2 : ∀ v H, D.rt v H → D'.rt v H) (h3 : ∀ σ H, D.bk σ H → D'.bk σ H) (h4 : ∀ σ H, D.ct σ H → D'.ct σ H) : PostS nm X W μ H r D' := by
  cases r with
  | nx e S => exact fun σ2 μ2 H2 x2 s r => h1 _ _ (h σ2 μ2 H2 x2 s r)
  | bk e S => exact fun σ2 μ2 H2 x2 s r => h3 _ _ (h σ2 μ2 H2 x2 s r)
  | ct e S => exact fun σ2 μ2 H2 x2 s r => h4 _ _ (h σ2 μ2 H2 x2 s r)
  | rt d S => exact fun v μ2 H2 x2 s r => h2 _ _ (h v μ2 H2 x2 s r)
  | exc c fs e S => exact h
  | stuck => exact h
/-- behind an expression -/
theorem PostS.toS {α : Type} {r : R α} {e : Ev} {k : α → Store → RS} (E : EvR nm X H μ e σ) (h : PostS nm X W μ H (r.toS e k) D) : PostX nm X W μ H σ r fun a S' μ' H' => PostS nm X W μ' H' (k a S') D := by
  cases r with
  | ok a S => exact fun μ2 H2 x2 _ => PostS.ext (r := k a S) x2 h
  | exc c fs S => exact fun μ2 H2 C d x2 s ea => h σ μ2 H2 C d x2 s (E.ext x2) ea
  | stuck => exact h
/-- behind a statement -/
theorem PostS.seq {r : RS} {k : Ev → Store → RS} (h : PostS nm X W μ H (r.seq k) D) : PostS nm X W μ H r { D with nx := fun σ H' => ∃ e S μ', EvR nm X H' μ' e σ ∧ Sim nm X.K X.mg μ' S H' ∧ PostS nm X W μ' H' (k e S) D } := by
  cases r with
  | nx e S => exact fun σ2 μ2 H2 x2 s r => ⟨e, S, μ2, r, s, PostS.ext (r := k e S) x2 h⟩
  | bk e S => exact h
  | ct e S => exact h
  | rt d S => exact h
  | exc c fs e S => exact h
  | stuck => exact h
theorem EvR.set {e : Ev} {i : Nat} {v : V} {d : BS.D} (E : EvR nm X H μ e σ) (r : RV X.K H μ v d) : EvR nm X H μ (e.set i d) (σ.set i (some v)) := by
  refine ⟨by simp [Ev.set, E.len], fun j d' hj => ?_, fun p hp => ?_⟩
  · by_cases e1 : i = j
    · subst e1
      have hl : i < e.sl.length := by
        have := (List.getElem?_eq_some_iff.mp hj).1
        simpa [Ev.set] using this
      have : (e.sl.set i (some d))[i]? = some (some d) := List.getElem?_set_self hl
      unfold Ev.set at hj
      rw [this] at hj; cases hj
      exact ⟨v, List.getElem?_set_self (by rw [← E.len]; exact hl), r⟩
    · unfold Ev.set at hj
      rw [show ({ sl := e.sl.set i (some d), ex := e.ex.filter fun p => p.1 != i } : Ev).sl = e.sl.set i (some d) from rfl, List.getElem?_set_ne e1] at hj
      obtain ⟨w, h1, h2⟩ := E.at_ j d' hj
      exact ⟨w, by rw [List.getElem?_set_ne e1]; exact h1, h2⟩
  · obtain ⟨h1, h2⟩ := List.mem_filter.mp (show p ∈ e.ex.filter fun p => p.1 != i from hp)
    obtain ⟨a, oe, C, dd, g1, g2, g3, g4⟩ := E.ex p h1
    have ne : i ≠ p.1 := by
      intro z
      simp [z] at h2
    exact ⟨a, oe, C, dd, by rw [List.getElem?_set_ne ne]; exact g1, g2, g3, g4⟩
end
section
variable {nm : Nms} {X : Cx} {pos : Pos} {e : Expr} {me : EM} {st : Stmt} {rest : List Stmt} {ms mr : SM}
def mSkip : SM := fun e S => .nx e S
def mSeq (a b : SM) : SM := fun e S => (a e S).seq b
theorem mb_nil : MB nm X [] mSkip := ⟨fun W tk => pss_nil.imp fun D σ H h => by
  obtain ⟨e, S, μ, E, s, p⟩ := h
  exact p σ μ H .refl s E⟩
theorem mb_cons (h1 : MS nm X st ms) (h2 : MB nm X rest mr) : MB nm X (st :: rest) (mSeq ms mr) := ⟨fun W tk => (pss_cons (h1.run W tk) (h2.run W tk)).imp fun D σ H h => by
  obtain ⟨e, S, μ, E, s, p⟩ := h
  exact ⟨e, S, μ, E, s, PostS.seq p⟩⟩
theorem mb_one (h1 : MS nm X st ms) : MB nm X [st] ms := ⟨fun W tk => pss_one (h1.run W tk)⟩
theorem ms_skip {t : TS} (h : PS X st t) (f : ∀ D σ H, D.nx σ H → t D σ H) : MS nm X st mSkip := ⟨fun W tk => h.imp fun D σ H h => by
  obtain ⟨e, S, μ, E, s, p⟩ := h
  exact f _ _ _ (p σ μ H .refl s E)⟩
theorem ms_pass : MS nm X (.Pass pos) mSkip := ms_skip ps_pass fun _ _ _ h => h
theorem ms_doc {x j pos pos'} : MS nm X (.Expr (.Constant (.str x) j pos) pos') mSkip := ms_skip ps_doc fun _ _ _ h => h
def mBrk : SM := fun e S => .bk e S
def mCnt : SM := fun e S => .ct e S
theorem ms_brk : MS nm X (.Break pos) mBrk := ⟨fun W tk => ps_break.imp fun D σ H h => by
  obtain ⟨e, S, μ, E, s, p⟩ := h
  exact p σ μ H .refl s E⟩
theorem ms_cnt : MS nm X (.Continue pos) mCnt := ⟨fun W tk => ps_continue.imp fun D σ H h => by
  obtain ⟨e, S, μ, E, s, p⟩ := h
  exact p σ μ H .refl s E⟩
def mExpr (m : EM) : SM := fun e S => (m e S).toS e fun _ S => .nx e S
theorem ms_expr (he : ME nm X e me) (hs : swapsWith e none pos.line X.env = pure false := by rfl) : MS nm X (.Expr e pos) (mExpr me) := ⟨fun W tk => (ps_expr (he.run W tk) hs).imp fun D σ H h => by
  obtain ⟨e, S, μ, E, s, p⟩ := h
  exact ⟨e, S, μ, E, s, (PostS.toS E p).mono fun a S' μ' H' x s' q v r => q σ μ' H' .refl s' (E.ext x)⟩⟩
def mRet (m : EM) : SM := fun e S => (m e S).toS e fun d S => .rt d S
theorem ms_ret (he : ME nm X e me) : MS nm X (.Return (some e) pos) (mRet me) := ⟨fun W tk => (ps_ret (he.run W tk)).imp fun D σ H h => by
  obtain ⟨e, S, μ, E, s, p⟩ := h
  exact ⟨e, S, μ, E, s, (PostS.toS E p).mono fun a S' μ' H' x s' q v r => q v μ' H' .refl s' r⟩⟩
def mRetN : SM := fun _ S => .rt .non S
theorem ms_retN : MS nm X (.Return none pos) mRetN := ⟨fun W tk => ps_retN.imp fun D σ H h => by
  obtain ⟨e, S, μ, E, s, p⟩ := h
  exact p _ μ H .refl s .non⟩
def mIfS (c : TM) (a b : SM) : SM := fun e S => (c e S).toS e fun k S => if k = true then a e S else b e S
theorem ms_if {c : Expr} {tc : TM} {a b : List Stmt} {ma mb : SM} (hc : MT nm X c tc) (ha : MB nm X a ma) (hb : MB nm X b mb) : MS nm X (.If c a b pos) (mIfS tc ma mb) := ⟨fun W tk => (ps_if (hc.run W tk) (ha.run W tk) (hb.run W tk)).imp fun D σ H h => by
  obtain ⟨e, S, μ, E, s, p⟩ := h
  refine ⟨e, S, μ, E, s, (PostS.toS E p).mono fun k S' μ' H' x s' q => ?_⟩
  cases k with
  | true => rw [if_pos rfl] at q ⊢; exact ⟨e, S', μ', E.ext x, s', q⟩
  | false => rw [if_neg Bool.false_ne_true] at q ⊢; exact ⟨e, S', μ', E.ext x, s', q⟩⟩
def gNm (i : Nat) : GM := fun d e S => .nx (e.set i d) S
theorem mg_name {is : List Nat} (i : Nat) {x : Str} (hN : X.N.Nodup) (hl : locAll is X.N X.env.scope = true) (hi : X.N[i]? = some x := by rfl) (hc : is.contains i = true := by rfl) (hf : X.fn x = true ∨ X.env.scope.names.lookup x = some .local := by first | exact .inl rfl | exact .inr rfl | assumption) :
    MG nm X (.Name x pos) (gNm i) := ⟨fun W tk => (pg_name hN hi (loc_of hl hc hi).1 hf).imp fun v σ H Q h => by
  obtain ⟨d, e, S, μ, r, E, s, p⟩ := h
  exact p _ μ H .refl s (E.set r)⟩
abbrev GsM := List D → Ev → Store → RS
def gsNil : GsM := fun ds e S => match ds with
  | [] => .nx e S
  | _ => .stuck
def gsCons (g : GM) (r : GsM) : GsM := fun ds e S => match ds with
  | d :: ds => (g d e S).seq fun e S => r ds e S
  | [] => .stuck
theorem mgs_nil : MGs nm X [] gsNil := ⟨fun W tk => pgs_nil.imp fun vs σ H Q h => by
  obtain ⟨ds, e, S, μ, r, E, s, p⟩ := h
  unfold gsNil at p
  split at p
  · cases r; exact ⟨rfl, p σ μ H .refl s E⟩
  · exact False.elim p⟩
theorem mgs_cons {t : Expr} {ts : List Expr} {g : GM} {gr : GsM} (h1 : MG nm X t g) (h2 : MGs nm X ts gr) (hs : (assignEach (t :: ts) X.env).map (·.2) = assign t X.env :: (assignEach ts X.env).map (·.2) := by rfl) : MGs nm X (t :: ts) (gsCons g gr) := ⟨fun W tk => (pgs_cons (h1.run W tk) (h2.run W tk) hs).imp fun vs σ H Q h => by
  obtain ⟨ds, e, S, μ, r, E, s, p⟩ := h
  unfold gsCons at p
  split at p
  · cases r with | cons r1 rr =>
    rename_i d ds v vs
    refine ⟨v, vs, rfl, d, e, S, μ, r1, E, s, ?_⟩
    -- the rest's values have to be carried over
    have q := PostS.seq p
    cases hg : g d e S with
    | nx e' S' =>
      rw [hg] at p
      exact fun σ2 μ2 H2 x2 s2 E2 => ⟨ds, e', S', μ2, RVs.ext x2 _ rr, E2, s2, PostS.ext (r := gr ds e' S') x2 p⟩
    | bk e' S' => rw [hg] at p; exact fun σ2 μ2 H2 x2 s2 E2 => (p σ2 μ2 H2 x2 s2 E2)
    | ct e' S' => rw [hg] at p; exact fun σ2 μ2 H2 x2 s2 E2 => (p σ2 μ2 H2 x2 s2 E2)
    | rt d' S' => rw [hg] at p; exact fun v μ2 H2 x2 s2 E2 => (p v μ2 H2 x2 s2 E2)
    | exc c fs e' S' => rw [hg] at p; exact p
    | stuck => rw [hg] at p; exact p
  · exact False.elim p⟩
def gTp (n : Nat) (g : GsM) : GM := fun d e S => match tupOf d with
  | some ds => if ds.length = n then g ds e S else .stuck
  | none => .stuck
theorem mg_tup {es : List Expr} {k : Nat} {g : GsM} (hc : X.calm = true) (n : Nat) (h : MGs nm X es g) (hn : (assignEach es X.env).length = n := by rfl) (hst : (assignEach es X.env).findIdx? (·.1) = none := by rfl) : MG nm X (.Tuple es k pos) (gTp n g) := ⟨fun W tk => (pg_tup hc (h.run W tk) hn hst).imp fun v σ H Q hh => by
  obtain ⟨d, e, S, μ, r, E, s, p⟩ := hh
  unfold gTp at p
  split at p
  · rename_i ds hds
    split at p
    · rename_i hl
      obtain ⟨a, xs, rfl, hs, rs⟩ := tupOf_sq r hds
      exact ⟨a, xs, rfl, hs, by rw [rs.length, hl], ds, e, S, μ, rs, E, s, p⟩
    · exact False.elim p
  · exact False.elim p⟩
def mAsg (m : EM) (g : GM) : SM := fun e S => (m e S).toS e fun d S => g d e S
theorem asg_rd {W : WX} {D : Ends} {σ : St} {H : Hp} {g : GM} (tk : Takes X W) (h : rdS nm X W (mAsg me g) D σ H) (hg : ∀ d e S, ∀ d' S', g d e S ≠ .rt d' S' ∧ ∀ e', g d e S ≠ .bk e' S' ∧ g d e S ≠ .ct e' S') : tAsg (rdE nm X W me) (rdG nm X W g) D σ H := by
  obtain ⟨e, S, μ, E, s, p⟩ := h
  refine ⟨e, S, μ, E, s, (PostS.toS E p).mono fun d S' μ' H' x s' q v r => ⟨d, e, S', μ', r, E.ext x, s', ?_⟩⟩
  cases hh : g d e S' with
  | nx e' S2 => rw [hh] at q; exact q
  | bk e' S2 => exact absurd hh ((hg d e S' d S2).2 e').1
  | ct e' S2 => exact absurd hh ((hg d e S' d S2).2 e').2
  | rt d' S2 => exact absurd hh (hg d e S' d' S2).1
  | exc c fs e' S2 => rw [hh] at q; exact q
  | stuck => rw [hh] at q; exact q
/-- what a target never does -/
def GOk (g : GM) : Prop := ∀ d e S, ∀ d' S', g d e S ≠ .rt d' S' ∧ ∀ e', g d e S ≠ .bk e' S' ∧ g d e S ≠ .ct e' S'
theorem gok_nm (i : Nat) : GOk (gNm i) := fun d e S d' S' => ⟨fun h => (nomatch h), fun e' => ⟨fun h => (nomatch h), fun h => (nomatch h)⟩⟩
def GsOk (g : GsM) : Prop := ∀ d e S, ∀ d' S', g d e S ≠ .rt d' S' ∧ ∀ e', g d e S ≠ .bk e' S' ∧ g d e S ≠ .ct e' S'
theorem gsok_nil : GsOk gsNil := fun d e S d' S' => by
  unfold gsNil
  split <;> exact ⟨fun h => (nomatch h), fun e' => ⟨fun h => (nomatch h), fun h => (nomatch h)⟩⟩
theorem gsok_cons {g : GM} {r : GsM} (h1 : GOk g) (h2 : GsOk r) : GsOk (gsCons g r) := fun ds e S d' S' => by
  unfold gsCons
  split
  · rename_i d ds
    cases hg : g d e S with
    | nx e1 S1 => exact h2 ds e1 S1 d' S'
    | bk e1 S1 => exact absurd hg ((h1 d e S d S1).2 e1).1
    | ct e1 S1 => exact absurd hg ((h1 d e S d S1).2 e1).2
    | rt d1 S1 => exact absurd hg (h1 d e S d1 S1).1
    | exc c fs e1 S1 => exact ⟨fun h => (nomatch h), fun e' => ⟨fun h => (nomatch h), fun h => (nomatch h)⟩⟩
    | stuck => exact ⟨fun h => (nomatch h), fun e' => ⟨fun h => (nomatch h), fun h => (nomatch h)⟩⟩
  · exact ⟨fun h => (nomatch h), fun e' => ⟨fun h => (nomatch h), fun h => (nomatch h)⟩⟩
theorem gok_tp {n : Nat} {g : GsM} (h : GsOk g) : GOk (gTp n g) := fun d e S d' S' => by
  unfold gTp
  split
  · split
    · exact h _ _ _ _ _
    · exact ⟨fun h => (nomatch h), fun e' => ⟨fun h => (nomatch h), fun h => (nomatch h)⟩⟩
  · exact ⟨fun h => (nomatch h), fun e' => ⟨fun h => (nomatch h), fun h => (nomatch h)⟩⟩
def mSet (i : Nat) (m : EM) : SM := mAsg m (gNm i)
theorem ms_set {is : List Nat} (i : Nat) {x : Str} {pos' : Pos} (hN : X.N.Nodup) (hl : locAll is X.N X.env.scope = true) (he : ME nm X e me) (hi : X.N[i]? = some x := by rfl) (hc : is.contains i = true := by rfl)
    (hs : swapsWith e (some (.Name x pos')) pos.line X.env = pure false := by rfl) (hf : X.fn x = true ∨ X.env.scope.names.lookup x = some .local := by first | exact .inl rfl | exact .inr rfl | assumption) : MS nm X (.Assign [.Name x pos'] e pos) (mSet i me) :=
  ⟨fun W tk => (ps_set hN hi (loc_of hl hc hi).1 (he.run W tk) hs hf).imp fun D σ H h => by
    obtain ⟨e, S, μ, E, s, p⟩ := h
    exact ⟨e, S, μ, E, s, (PostS.toS E p).mono fun d S' μ' H' x s' q v r => q _ μ' H' .refl s' ((E.ext x).set r)⟩⟩
theorem ms_asg {t : Expr} {g : GM} (he : ME nm X e me) (hg : MG nm X t g) (ok : GOk g) (hs : swapsWithSole [t] e pos.line X.env = pure false := by rfl) (hw : swappedStores [t] e X.env = pure none := by rfl)
    (h1 : (assignEach [t] X.env).map (·.2) = [assign t X.env] := by rfl) : MS nm X (.Assign [t] e pos) (mAsg me g) :=
  ⟨fun W tk => (ps_asg (he.run W tk) (hg.run W tk) hs hw h1).imp fun D σ H h => asg_rd tk h ok⟩
/-- a, b = x, y -/
def mPar (i j : Nat) (m : AM) : SM := fun e S => (m e S).toS e fun ds S => match ds with
  | [a, b] => .nx ((e.set i a).set j b) S
  | _ => .stuck
theorem ms_par (i j : Nat) {x y : Str} {a b : Expr} {ma : AM} {px py pt : Pos} {kt k2 pt2} (hc : X.calm = true) (hN : X.N.Nodup) (ha : MA nm X [a, b] ma) (hi : X.N[i]? = some x := by rfl) (hj : X.N[j]? = some y := by rfl) (hij : i ≠ j := by decide)
    (hx : X.env.scope.names.lookup x = some .local := by rfl) (hy : X.env.scope.names.lookup y = some .local := by rfl)
    (hw : swappedStores [.Tuple [.Name x px, .Name y py] kt pt] (.Tuple [a, b] k2 pt2) X.env = pure (some [x, y]) := by rfl)
    (hs : swapsWithSole [.Tuple [.Name x px, .Name y py] kt pt] (.Tuple [a, b] k2 pt2) pos.line X.env = pure false := by rfl) : MS nm X (.Assign [.Tuple [.Name x px, .Name y py] kt pt] (.Tuple [a, b] k2 pt2) pos) (mPar i j ma) :=
  ⟨fun W tk => (ps_par hc hN hi hj hij hx hy (ha.run W tk) hw hs).imp fun D σ H h => by
    obtain ⟨e, S, μ, E, s, p⟩ := h
    refine ⟨e, S, μ, E, s, (PostS.toS E p).mono fun ds S' μ' H' x s' q vs r => ?_⟩
    split at q
    · cases r with | cons r1 r =>
      cases r with | cons r2 r =>
      cases r
      exact ⟨_, _, rfl, q _ μ' H' .refl s' (((E.ext x).set r1).set r2)⟩
    · exact False.elim q⟩
def putF_ (cs : List Nat) (f : Nat) (S : Store) (x y : D) : Option Store := match x with
  | .obj n => match S[n]? with
    | some (.ins c fs) => if cs.contains c = true ∧ fs.length < 1000 then some (S.set n (.ins c (setN f y fs))) else none
    | _ => none
  | _ => none
def mSetF (cs : List Nat) (f : Nat) (o m : EM) : SM := fun e S => (m e S).toS e fun y S => (o e S).toS e fun x S => match putF_ cs f S x y with
  | some S => .nx e S
  | none => .stuck
theorem putF_at {cs : List Nat} {f : Nat} {S S' : Store} {x y : D} {H : Hp} {μ : List Addr} {v u : V} (h : FldOk X.K X.mg nm cs f) (s : Sim nm X.K X.mg μ S H) (r : RV X.K H μ v x) (ry : RV X.K H μ u y) (hp : putF_ cs f S x y = some S') :
    ∃ a C dx gs, v = .ref a ∧ H a = some (.ins C dx gs) ∧ Cls X.K C ∧ NoAttr X.K C (nm.fld f) ∧ gs.length < 1000 ∧ Ext μ H μ (upd H a (.ins C dx (putF (nm.fld f) u gs))) ∧ Sim nm X.K X.mg μ S' (upd H a (.ins C dx (putF (nm.fld f) u gs))) ∧ ∃ c, c ∈ cs ∧ X.mg (nm.cls c) = some (.ref C) := by
  unfold putF_ at hp
  split at hp
  · split at hp
    · rename_i n c fs hds
      split at hp
      · rename_i hc
        cases hp
        cases r with | @obj a n e =>
        obtain ⟨C, dx, gs, g, e1, r1⟩ := s.ob _ _ _ e hds
        obtain ⟨k1, k2⟩ := h.2 c (by simpa using hc.1) C g
        have x := Ext.wrote (H := H) (u := .ins C dx (putF (nm.fld f) u gs)) (List.mem_of_getElem? e) (NF.of e1)
        exact ⟨a, C, dx, gs, rfl, e1, k1, k2, by rw [rf_length r1]; exact hc.2, x, s.wrote e ⟨C, dx, _, g, upd_same, RF.ext x (rf_set f h.1 ry r1)⟩, c, by simpa using hc.1, g⟩
      · cases hp
    · cases hp
  · cases hp
theorem ms_setF {cs : List Nat} {f : Nat} {fx : Str} {o : Expr} {mo : EM} {pos' : Pos} (h : FldOk X.K X.mg nm cs f) (ho : ME nm X o mo) (he : ME nm X e me) (hf : nm.fld f = fx) (hs : swapsWith e (some (.Attribute o fx pos')) pos.line X.env = pure false := by rfl) :
    MS nm X (.Assign [.Attribute o fx pos'] e pos) (mSetF cs f mo me) := by
  subst hf
  exact ⟨fun W tk => (ps_fld (ho.run W tk) (he.run W tk) hs).imp fun D σ H hh => by
    obtain ⟨e, S, μ, E, s, p⟩ := hh
    refine ⟨e, S, μ, E, s, (PostS.toS E p).mono fun d S' μ' H' x s' q v r => ?_⟩
    refine ⟨e, S', μ', E.ext x, s', (PostS.toS (E.ext x) q).mono fun d2 S2 μ2 H2 x2 s2 q2 v2 r2 => ?_⟩
    split at q2
    · rename_i S3 hp
      obtain ⟨a, C, dx, gs, h1, h2, h3, h4, h5, h6, h7, _⟩ := putF_at h s2 r2 (r.ext x2) hp
      exact ⟨a, C, dx, gs, h1, h2, h3, h4, h5, q2 _ _ _ h6 h7 (((E.ext x).ext x2).ext h6)⟩
    · exact False.elim q2⟩
end
end BS
namespace BS
open PySem PySem.Spec PyProof.Rows L2
/-- G: what the store must bear at each turn -/
structure Wk where
  ds : List D
  G : Store → Prop
abbrev IM := Ev → Store → R Wk
def WOk (nm : Nms) (X : Cx) (J : It) (w : Wk) (C : Hp → List Addr → Prop) : Prop := ∀ (i : Nat) (S : Store) (μ : List Addr) (H : Hp), Sim nm X.K X.mg μ S H → C H μ → w.G S →
  (∀ d, w.ds[i]? = some d → J.go i H ∧ ∀ x H', J.yld i H x H' → Ext μ H μ H' ∧ Sim nm X.K X.mg μ S H' ∧ RV X.K H' μ x d) ∧ (w.ds.length ≤ i → J.stop i H)
def Stable (C : Hp → List Addr → Prop) : Prop := ∀ μ H μ' H', Ext μ H μ' H' → C H μ → C H' μ'
structure MI (nm : Nms) (X : Cx) (tg iter : Expr) (it : IM) : Prop where
  run : ∀ W, Takes X W → PI X tg iter (fun σ H R => ∃ e S μ, EvR nm X H μ e σ ∧ Sim nm X.K X.mg μ S H ∧ PostX nm X W μ H σ (it e S) fun w S' μ' H' => ∀ J C, Stable C → C H' μ' → WOk nm X J w C → R J H')
theorem _root_.L2.PI.imp {X : Cx} {tg e : Expr} {t t' : TI} (h : PI X tg e t) (f : ∀ σ H Q, t' σ H Q → t σ H Q) : PI X tg e t' := ⟨fun pins s σ H Q I q => h.run pins s σ H Q I (f _ _ _ q)⟩
section
variable {nm : Nms} {X : Cx} {tg : Expr} {e : Expr} {me : EM} {pos : Pos}
theorem wok_list {a : Addr} {xs : List V} {ds : List D} {w : Wk} {C : Hp → List Addr → Prop} (hd : w.ds = ds) (hc : ∀ S μ H, Sim nm X.K X.mg μ S H → C H μ → w.G S → ∃ xs, SqL X.K H a xs ∧ RVs X.K H μ xs ds) : WOk nm X (Itl X.K a) w C := by
  intro i S μ H s c g
  obtain ⟨xs, h1, h2⟩ := hc S μ H s c g
  refine ⟨fun d e => ?_, fun h => ⟨xs, h1, by rw [h2.length, ← hd]; exact h⟩⟩
  rw [hd] at e
  obtain ⟨v, e1, r⟩ := h2.get e
  refine ⟨⟨xs, v, h1, e1⟩, fun x H' y => ?_⟩
  obtain ⟨e2, y⟩ := y
  subst e2
  have : x = v := Option.some.inj ((y xs h1).symm.trans e1)
  subst this
  exact ⟨.refl, s, r⟩
theorem wok_tup {a : Addr} {xs : List V} {ds : List D} {w : Wk} {C : Hp → List Addr → Prop} (hd : w.ds = ds) (hc : ∀ S μ H, Sim nm X.K X.mg μ S H → C H μ → w.G S → ∃ xs, SqT X.K H a xs ∧ RVs X.K H μ xs ds) : WOk nm X (Itt X.K a) w C := by
  intro i S μ H s c g
  obtain ⟨xs, h1, h2⟩ := hc S μ H s c g
  refine ⟨fun d e => ?_, fun h => ⟨xs, h1, by rw [h2.length, ← hd]; exact h⟩⟩
  rw [hd] at e
  obtain ⟨v, e1, r⟩ := h2.get e
  refine ⟨⟨xs, v, h1, e1⟩, fun x H' y => ?_⟩
  obtain ⟨e2, y⟩ := y
  subst e2
  have : x = v := Option.some.inj ((y xs h1).symm.trans e1)
  subst this
  exact ⟨.refl, s, r⟩
/-- a list, a tuple -/
def wkS (S : Store) (x : D) : R Wk := match x with
  | .lst ds => .ok ⟨ds, fun _ => True⟩ S
  | .scr ds => .ok ⟨ds, fun _ => True⟩ S
  | .obj n => match S[n]? with
    | some (.lst ds) => .ok ⟨ds, fun S => S[n]? = some (.lst ds)⟩ S
    | _ => .stuck
  | _ => .stuck
def iLs (m : EM) : IM := fun e S => (m e S).bind fun x S => wkS S x
theorem mi_lst (h : ME nm X e me) : MI nm X tg e (iLs me) := by
  refine ⟨fun W tk => (pi_list (h.run W tk)).imp fun σ H R hh => ?_⟩
  obtain ⟨ev, S, μ, E, s, p⟩ := hh
  refine ⟨ev, S, μ, E, s, (Post.bind p).mono fun d S1 μ1 H1 x1 s1 p1 v rv => ?_⟩
  unfold wkS at p1
  split at p1
  · rename_i ds
    cases rv with | @lst a xs _ t r =>
    exact ⟨a, rfl, ⟨xs, .of t.2⟩, p1 μ1 H1 .refl s1 (Itl X.K a) (fun H μ => LstAt H μ a xs ∧ RVs X.K H μ xs ds) (fun μ H μ' H' x c => ⟨c.1.ext x, RVs.ext x _ c.2⟩) ⟨t, r⟩ (wok_list (xs := xs) rfl fun S μ H s c g => ⟨xs, .of c.1.2, c.2⟩)⟩
  · rename_i ds
    cases rv with | @scr a xs _ t r =>
    exact ⟨a, rfl, ⟨xs, t.sq⟩, p1 μ1 H1 .refl s1 (Itl X.K a) (fun H μ => ScrAt X.K H μ a xs ∧ RVs X.K H μ xs ds) (fun μ H μ' H' x c => ⟨c.1.ext x, RVs.ext x _ c.2⟩) ⟨t, r⟩ (wok_list (xs := xs) rfl fun S μ H s c g => ⟨xs, c.1.sq, c.2⟩)⟩
  · rename_i n
    split at p1
    · rename_i ds hds
      cases rv with | @obj a _ en =>
      obtain ⟨xs, e1, r⟩ := s1.ob _ _ _ en hds
      exact ⟨a, rfl, ⟨xs, .of e1⟩, p1 μ1 H1 .refl s1 (Itl X.K a) (fun H μ => μ[n]? = some a) (fun μ H μ' H' x c => x.at c) en (wok_list (xs := xs) rfl fun S μ H s c g => by
        obtain ⟨xs, e1, r⟩ := s.ob _ _ _ c g
        exact ⟨xs, .of e1, r⟩)⟩
    · exact False.elim p1
  · exact False.elim p1
def iTp (m : EM) : IM := fun e S => (m e S).bind fun x S => match tupOf x with
  | some ds => .ok ⟨ds, fun _ => True⟩ S
  | none => .stuck
theorem mi_tup (h : ME nm X e me) : MI nm X tg e (iTp me) := by
  refine ⟨fun W tk => (pi_tup (h.run W tk)).imp fun σ H R hh => ?_⟩
  obtain ⟨ev, S, μ, E, s, p⟩ := hh
  refine ⟨ev, S, μ, E, s, (Post.bind p).mono fun d S1 μ1 H1 x1 s1 p1 v rv => ?_⟩
  split at p1
  · rename_i ds hds
    cases d with
    | tup ds' =>
      cases hds
      cases rv with | @tup a xs ds t r =>
      exact ⟨a, rfl, ⟨xs, t.sq⟩, p1 μ1 H1 .refl s1 (Itt X.K a) (fun H μ => TupAt X.K H μ a xs ∧ RVs X.K H μ xs ds) (fun μ H μ' H' x c => ⟨c.1.ext x, RVs.ext x _ c.2⟩) ⟨t, r⟩ (wok_tup (xs := xs) rfl fun S μ H s c g => ⟨xs, c.1.sq, c.2⟩)⟩
    | _ => cases hds
  · exact False.elim p1
def intsFrom (lo : Int) : Nat → List D
  | 0 => []
  | n + 1 => .int lo :: intsFrom (lo + 1) n
theorem intsFrom_len (lo : Int) : ∀ n, (intsFrom lo n).length = n
  | 0 => rfl
  | n + 1 => by rw [intsFrom, List.length_cons, intsFrom_len (lo + 1) n]
theorem intsFrom_get : ∀ (n i : Nat) (lo : Int), i < n → (intsFrom lo n)[i]? = some (.int (lo + i))
  | 0, _, _, h => absurd h (Nat.not_lt_zero _)
  | n + 1, 0, lo, _ => by simp [intsFrom]
  | n + 1, i + 1, lo, h => by
    rw [intsFrom, List.getElem?_cons_succ, intsFrom_get n i (lo + 1) (Nat.lt_of_succ_lt_succ h)]
    congr 2
    omega
theorem wok_range {lo : Int} {n : Nat} : WOk nm X (Itr lo n) ⟨intsFrom lo n, fun _ => True⟩ fun _ _ => True := by
  intro i S μ H s _ _
  refine ⟨fun d e => ?_, fun h => by rw [intsFrom_len] at h; exact h⟩
  have hl : i < n := by have := (List.getElem?_eq_some_iff.mp e).1; rwa [intsFrom_len] at this
  rw [intsFrom_get n i lo hl] at e
  cases e
  refine ⟨hl, fun x H' y => ?_⟩
  obtain ⟨e2, rfl⟩ := y
  subst e2
  exact ⟨.refl, s, .int _⟩
def rngOk (i : Int) : Prop := -(2 ^ 62) ≤ i ∧ i < 2 ^ 62
instance (i : Int) : Decidable (rngOk i) := inferInstanceAs (Decidable (_ ∧ _))
def iRng (as : AM) : IM := fun e S => (as e S).bind fun ds S => match ds with
  | [.int j] => if rngOk j then .ok ⟨intsFrom 0 j.toNat, fun _ => True⟩ S else .stuck
  | [.int i, .int j] => if rngOk i ∧ rngOk j then .ok ⟨intsFrom i (j - i).toNat, fun _ => True⟩ S else .stuck
  | _ => .stuck
theorem mi_range1 {a : Expr} {ma : AM} {p : Pos} (hg : GlN X "range") (hm : X.mg "range" = none) (ha : MA nm X [a] ma) (hs : starEach [a] X.env = [(false, eval a X.env)] := by rfl) : MI nm X tg (.Call (.Name "range" p) [a] [] pos) (iRng ma) := by
  refine ⟨fun W tk => (pi_range1 hg.g hm (ha.run W tk) hs).imp fun σ H R hh => ?_⟩
  obtain ⟨ev, S, μ, E, s, p⟩ := hh
  refine ⟨ev, S, μ, E, s, (post_len ha (Post.bind p)).mono fun d S1 μ1 H1 x1 s1 p1 v rv => ?_⟩
  obtain ⟨hl, p1⟩ := p1
  split at p1
  · split at p1
    · rename_i c
      cases rv with | cons r1 r => cases r1; cases r; exact ⟨_, rfl, c.1, c.2, p1 μ1 H1 .refl s1 _ _ (fun _ _ _ _ _ _ => True.intro) True.intro wok_range⟩
    · exact False.elim p1
  · cases hl
  · exact False.elim p1
theorem mi_range2 {a b : Expr} {ma : AM} {p : Pos} (hg : GlN X "range") (hm : X.mg "range" = none) (ha : MA nm X [a, b] ma) (hs : starEach [a, b] X.env = [(false, eval a X.env), (false, eval b X.env)] := by rfl) (hs2 : starEach [b] X.env = [(false, eval b X.env)] := by rfl) : MI nm X tg (.Call (.Name "range" p) [a, b] [] pos) (iRng ma) := by
  refine ⟨fun W tk => (pi_range2 hg.g hm (ha.run W tk) hs hs2).imp fun σ H R hh => ?_⟩
  obtain ⟨ev, S, μ, E, s, p⟩ := hh
  refine ⟨ev, S, μ, E, s, (post_len ha (Post.bind p)).mono fun d S1 μ1 H1 x1 s1 p1 v rv => ?_⟩
  obtain ⟨hl, p1⟩ := p1
  split at p1
  · cases hl
  · split at p1
    · rename_i c
      cases rv with | cons r1 r => cases r with | cons r2 r => cases r1; cases r2; cases r; exact ⟨_, _, rfl, ⟨c.1.1, c.1.2, c.2.1, c.2.2⟩, p1 μ1 H1 .refl s1 _ _ (fun _ _ _ _ _ _ => True.intro) True.intro wok_range⟩
    · exact False.elim p1
  · exact False.elim p1
/-- the signs of a text -/
def signs (z : Str) : List D := z.cps.toList.map strAt
end
open Classical in
/-- the loop itself -/
noncomputable def forL (G : Store → Prop) (g : GM) (b : SM) : List D → Ev → Store → RS
  | [], e, S => if G S then .nx e S else .stuck
  | d :: ds, e, S => if G S then ((g d e S).seq b).loop (forL G g b ds) else .stuck
noncomputable def mFor (it : IM) (g : GM) (b : SM) : SM := fun e S => (it e S).toS e fun w S => forL w.G g b w.ds e S
theorem forL_nil {g : GM} {b : SM} {e : Ev} {S : Store} : forL (fun _ => True) g b [] e S = .nx e S := by simp [forL]
theorem forL_cons {g : GM} {b : SM} {d : D} {ds : List D} {e : Ev} {S : Store} : forL (fun _ => True) g b (d :: ds) e S = ((g d e S).seq b).loop (forL (fun _ => True) g b ds) := by simp [forL]
section
variable {nm : Nms} {X : Cx} {tg iter : Expr} {it : IM} {g : GM} {body : List Stmt} {mb : SM} {pos : Pos}
/-- behind a turn -/
theorem PostS.loop {W : WX} {μ : List Addr} {H : Hp} {D : Ends} {r : RS} {k : Ev → Store → RS} (h : PostS nm X W μ H (r.loop k) D) :
    PostS nm X W μ H r { D with nx := fun σ H' => ∃ e S μ', EvR nm X H' μ' e σ ∧ Sim nm X.K X.mg μ' S H' ∧ Ext μ H μ' H' ∧ PostS nm X W μ' H' (k e S) D, ct := fun σ H' => ∃ e S μ', EvR nm X H' μ' e σ ∧ Sim nm X.K X.mg μ' S H' ∧ Ext μ H μ' H' ∧ PostS nm X W μ' H' (k e S) D, bk := D.nx } := by
  cases r with
  | nx e S => exact fun σ2 μ2 H2 x2 s r => ⟨e, S, μ2, r, s, x2, PostS.ext (r := k e S) x2 h⟩
  | bk e S => exact h
  | ct e S => exact fun σ2 μ2 H2 x2 s r => ⟨e, S, μ2, r, s, x2, PostS.ext (r := k e S) x2 h⟩
  | rt d S => exact h
  | exc c fs e S => exact h
  | stuck => exact h
/-- the turns of a loop -/
theorem for_tail {W : WX} {D : Ends} {σ : St} {w : Wk} {e : Ev} {S1 : Store} {μ1 : List Addr} {H1 : Hp} {J : It} {C : Hp → List Addr → Prop} (E1 : EvR nm X H1 μ1 e σ) (s1 : Sim nm X.K X.mg μ1 S1 H1) (p1 : PostS nm X W μ1 H1 (forL w.G g mb w.ds e S1) D) (ok : GOk g) (st : Stable C) (c0 : C H1 μ1) (ok' : WOk nm X J w C) :
    ∃ V : Nat → Nat → St → Hp → Prop, (∃ m, V 0 m σ H1) ∧ ∀ (i m : Nat) (σ : St) (H : Hp), V i m σ H → J.stop i H ∧ D.nx σ H ∨ J.go i H ∧ ∃ N : St → Hp → Prop, (∀ σ' H', N σ' H' → ∃ m', m' < m ∧ V (i + 1) m' σ' H') ∧ ∀ x H', J.yld i H x H' → rdG nm X W g x σ H' fun σ2 H2 => rdS nm X W mb { nx := N, rt := D.rt, bk := D.nx, ct := N } σ2 H2 := by
  refine ⟨fun i m σ H => m = w.ds.length - i ∧ i ≤ w.ds.length ∧ ∃ e S μ, EvR nm X H μ e σ ∧ Sim nm X.K X.mg μ S H ∧ C H μ ∧ PostS nm X W μ H (forL w.G g mb (w.ds.drop i) e S) D,
    ⟨w.ds.length, rfl, Nat.zero_le _, e, S1, μ1, E1, s1, c0, p1⟩, ?_⟩
  rintro i m σ H ⟨rfl, hi, e, S, μ, E, s, c, p⟩
  by_cases hlt : i < w.ds.length
  · obtain ⟨d, hd⟩ : ∃ d, w.ds[i]? = some d := ⟨_, List.getElem?_eq_getElem hlt⟩
    have hdr : w.ds.drop i = d :: w.ds.drop (i + 1) := by
      rw [List.drop_eq_getElem_cons hlt]
      rw [List.getElem?_eq_getElem hlt] at hd
      cases hd; rfl
    rw [hdr] at p
    unfold forL at p
    split at p
    · rename_i hG
      obtain ⟨go, yl⟩ := (ok' i S μ H s c hG).1 d hd
      refine .inr ⟨go, fun σ' H' => ∃ m', m' < w.ds.length - i ∧ m' = w.ds.length - (i + 1) ∧ i + 1 ≤ w.ds.length ∧ ∃ e S μ, EvR nm X H' μ e σ' ∧ Sim nm X.K X.mg μ S H' ∧ C H' μ ∧ PostS nm X W μ H' (forL w.G g mb (w.ds.drop (i + 1)) e S) D, fun σ' H' h => h, fun x H' y => ?_⟩
      obtain ⟨x2, s2, r2⟩ := yl x H' y
      refine ⟨d, e, S, μ, r2, E.ext x2, s2, ?_⟩
      have q := PostS.seq (PostS.loop (PostS.ext x2 p))
      have turn : ∀ {σ' : St} {H3 : Hp}, (∃ e S μ', EvR nm X H3 μ' e σ' ∧ Sim nm X.K X.mg μ' S H3 ∧ Ext μ H' μ' H3 ∧ PostS nm X W μ' H3 (forL w.G g mb (w.ds.drop (i + 1)) e S) D) →
          ∃ m', m' < w.ds.length - i ∧ m' = w.ds.length - (i + 1) ∧ i + 1 ≤ w.ds.length ∧ ∃ e S μ, EvR nm X H3 μ e σ' ∧ Sim nm X.K X.mg μ S H3 ∧ C H3 μ ∧ PostS nm X W μ H3 (forL w.G g mb (w.ds.drop (i + 1)) e S) D := by
        rintro σ' H3 ⟨e, S, μ3, E3, s3, x3, p3⟩
        exact ⟨_, by omega, rfl, hlt, e, S, μ3, E3, s3, st _ _ _ _ (x2.trans x3) c, p3⟩
      have conv : ∀ {σ' : St} {H3 : Hp}, (∃ e S μ', EvR nm X H3 μ' e σ' ∧ Sim nm X.K X.mg μ' S H3 ∧ PostS nm X W μ' H3 (mb e S) { D with nx := fun σ H'' => ∃ e S μ', EvR nm X H'' μ' e σ ∧ Sim nm X.K X.mg μ' S H'' ∧ Ext μ H' μ' H'' ∧ PostS nm X W μ' H'' (forL w.G g mb (w.ds.drop (i + 1)) e S) D, ct := fun σ H'' => ∃ e S μ', EvR nm X H'' μ' e σ ∧ Sim nm X.K X.mg μ' S H'' ∧ Ext μ H' μ' H'' ∧ PostS nm X W μ' H'' (forL w.G g mb (w.ds.drop (i + 1)) e S) D, bk := D.nx }) →
          rdS nm X W mb { D with nx := fun σ' H' => ∃ m', m' < w.ds.length - i ∧ m' = w.ds.length - (i + 1) ∧ i + 1 ≤ w.ds.length ∧ ∃ e S μ, EvR nm X H' μ e σ' ∧ Sim nm X.K X.mg μ S H' ∧ C H' μ ∧ PostS nm X W μ H' (forL w.G g mb (w.ds.drop (i + 1)) e S) D, ct := fun σ' H' => ∃ m', m' < w.ds.length - i ∧ m' = w.ds.length - (i + 1) ∧ i + 1 ≤ w.ds.length ∧ ∃ e S μ, EvR nm X H' μ e σ' ∧ Sim nm X.K X.mg μ S H' ∧ C H' μ ∧ PostS nm X W μ H' (forL w.G g mb (w.ds.drop (i + 1)) e S) D, bk := D.nx } σ' H3 := by
        rintro σ' H3 ⟨e, S, μ3, E3, s3, p3⟩
        exact ⟨e, S, μ3, E3, s3, p3.mono (fun _ _ h => turn h) (fun _ _ h => h) (fun _ _ h => h) (fun _ _ h => turn h)⟩
      cases hh : g d e S with
      | nx e' S' => rw [hh] at q; exact fun σ3 μ3 H3 x3 s3 E3 => conv (q σ3 μ3 H3 x3 s3 E3)
      | bk e' S' => exact absurd hh ((ok d e S d S').2 e').1
      | ct e' S' => exact absurd hh ((ok d e S d S').2 e').2
      | rt d' S' => exact absurd hh (ok d e S d' S').1
      | exc c fs e' S' => rw [hh] at q; exact q
      | stuck => rw [hh] at q; exact q
    · exact False.elim p
  · have hz : w.ds.drop i = [] := List.drop_eq_nil_of_le (Nat.le_of_not_lt hlt)
    rw [hz] at p
    unfold forL at p
    split at p
    · rename_i hG
      exact .inl ⟨(ok' i S μ H s c hG).2 (Nat.le_of_not_lt hlt), p σ μ H .refl s E⟩
    · exact False.elim p
theorem ms_for (hp : PassesOwn (model X.prog X.w) X.A X.env X.xe) (hc : X.calm = true) (hi : MI nm X tg iter it) (hg : MG nm X tg g) (ok : GOk g) (hb : MB nm X body mb) (hs : ∀ x, foldedSetIterable iter X.env x = pure x := by intro _; rfl) : MS nm X (.For tg iter body [] pos) (mFor it g mb) := by
  refine ⟨fun W tk => (ps_for hp hc (hi.run W tk) (hg.run W tk) (hb.run W tk) hs).imp fun D σ H h => ?_⟩
  obtain ⟨e, S, μ, E, s, p⟩ := h
  refine ⟨e, S, μ, E, s, (PostS.toS E p).mono fun w S1 μ1 H1 x1 s1 p1 J C st c0 ok' => ?_⟩
  exact for_tail (E.ext x1) s1 p1 ok st c0 ok'
def whileL (c : TM) (b : SM) : Nat → SM
  | 0, _, _ => .stuck
  | n + 1, e, S => (c e S).toS e fun k S => if k = true then (b e S).loop (whileL c b n) else .nx e S
def mWhile (n : Nat) (c : TM) (b : SM) : SM := whileL c b n
theorem ms_while (n : Nat) {c : Expr} {mc : TM} (hp : PassesOwn (model X.prog X.w) X.A X.env X.xe) (hc : MT nm X c mc) (hb : MB nm X body mb) : MS nm X (.While c body [] pos) (mWhile n mc mb) := by
  refine ⟨fun W tk => (ps_while hp (hc.run W tk) (hb.run W tk)).imp fun D σ H h => ?_⟩
  obtain ⟨e, S, μ, E, s, p⟩ := h
  refine ⟨fun m σ H => ∃ e S μ, EvR nm X H μ e σ ∧ Sim nm X.K X.mg μ S H ∧ PostS nm X W μ H (whileL mc mb m e S) D, ⟨n, e, S, μ, E, s, p⟩, ?_⟩
  rintro m σ H ⟨e, S, μ, E, s, p⟩
  cases m with
  | zero => exact False.elim p
  | succ m =>
    unfold whileL at p
    refine ⟨e, S, μ, E, s, (PostS.toS E p).mono fun k S1 μ1 H1 x1 s1 p1 => ?_⟩
    cases k with
    | false => rw [if_neg Bool.false_ne_true] at p1 ⊢; exact p1 σ μ1 H1 .refl s1 (E.ext x1)
    | true =>
      rw [if_pos rfl] at p1 ⊢
      have conv : ∀ {σ : St} {H' : Hp}, (∃ e S μ', EvR nm X H' μ' e σ ∧ Sim nm X.K X.mg μ' S H' ∧ Ext μ1 H1 μ' H' ∧ PostS nm X W μ' H' (whileL mc mb m e S) D) → ∃ m', m' < m + 1 ∧ ∃ e S μ, EvR nm X H' μ e σ ∧ Sim nm X.K X.mg μ S H' ∧ PostS nm X W μ H' (whileL mc mb m' e S) D := by
        rintro σ H' ⟨e, S, μ, E, s, _, p⟩
        exact ⟨m, Nat.lt_succ_self m, e, S, μ, E, s, p⟩
      refine ⟨fun σ' H' => ∃ m', m' < m + 1 ∧ ∃ e S μ, EvR nm X H' μ e σ' ∧ Sim nm X.K X.mg μ S H' ∧ PostS nm X W μ H' (whileL mc mb m' e S) D, fun σ' H' h => h, e, S1, μ1, E.ext x1, s1, (PostS.loop p1).mono (fun _ _ h => conv h) (fun _ _ h => h) (fun _ _ h => h) (fun _ _ h => conv h)⟩
end
end BS
namespace BS
open PySem PySem.Spec PyProof.Rows L2
section
variable {nm : Nms} {X : Cx} {pos : Pos} {e : Expr} {me : EM}
def putD (kvs : List (Key × D)) (k : Key) (v : D) : List (Key × D) := if (kvs.any fun kv => decide (kv.1 = k)) = true then kvs.map (fun kv => if kv.1 = k then (kv.1, v) else kv) else kvs ++ [(k, v)]
theorem any_rk {K : PySem.W.Frag} {H : Hp} {μ : List Addr} (k : Key) : ∀ {ys : List (Key × V)} {kvs : List (Key × D)}, RK K H μ ys kvs → (ys.any fun kv => decide (kv.1 = k)) = kvs.any fun kv => decide (kv.1 = k)
  | _, _, .nil => rfl
  | p :: ys, q :: kvs, .cons r t => by rw [List.any_cons, List.any_cons, any_rk k t, r.1]
theorem paired_app {α β : Type} {R : α → β → Prop} : ∀ {l : List α} {m : List β} {l' : List α} {m' : List β}, Paired R l m → Paired R l' m' → Paired R (l ++ l') (m ++ m')
  | _, _, _, _, .nil, h => h
  | _, _, _, _, .cons r t, h => .cons r (paired_app t h)
theorem put_rk {K : PySem.W.Frag} {H : Hp} {μ : List Addr} {k : Key} {v : V} {d : D} (rv : RV K H μ v d) {ys : List (Key × V)} {kvs : List (Key × D)} (r : RK K H μ ys kvs) : RK K H μ (putK ys k v) (putD kvs k d) := by
  unfold putK putD
  rw [any_rk k r]
  split
  · rename_i hany
    clear hany
    induction r with
    | nil => exact .nil
    | @cons p q ys kvs r t ih =>
      rw [List.map_cons, List.map_cons]
      refine .cons ?_ ih
      rw [r.1]
      split
      · exact ⟨rfl, rv⟩
      · exact ⟨r.1, r.2⟩
  · exact paired_app r (.cons ⟨rfl, rv⟩ .nil)
def dropD (kvs : List (Key × D)) (k : Key) : List (Key × D) := kvs.filter fun kv => decide (kv.1 ≠ k)
theorem drop_rk {K : PySem.W.Frag} {H : Hp} {μ : List Addr} {k : Key} {ys : List (Key × V)} {kvs : List (Key × D)} (r : RK K H μ ys kvs) : RK K H μ (dropK ys k) (dropD kvs k) := by
  unfold dropK dropD
  induction r with
  | nil => exact .nil
  | @cons p q ys kvs r t ih =>
    rw [List.filter_cons, List.filter_cons, r.1]
    split
    · exact .cons r ih
    · exact ih
theorem rk_len {K : PySem.W.Frag} {H : Hp} {μ : List Addr} {ys : List (Key × V)} {kvs : List (Key × D)} (r : RK K H μ ys kvs) : ys.length = kvs.length := Paired.length r
def setS (S : Store) (o i v : D) : Option Store := match o with
  | .obj n => match S[n]? with
    | some (.lst ds) => match i with
      | .int k => (ixN ds.length k).map fun j => S.set n (.lst (ds.set j v))
      | _ => none
    | some (.dct kvs) => match keyOf i with
      | some k => if kvs.length < sizeLine then some (S.set n (.dct (putD kvs k v))) else none
      | none => none
    | _ => none
  | _ => none
def rSetD (nm : Nms) (X : Cx) : TSet := fun o i v H Q => ∃ S μ ox ix vx S', Sim nm X.K X.mg μ S H ∧ RV X.K H μ o ox ∧ RV X.K H μ i ix ∧ RV X.K H μ v vx ∧ setS S ox ix vx = some S' ∧ ∀ H', Ext μ H μ H' → Sim nm X.K X.mg μ S' H' → Q H'
theorem set_D {k : Nat} (hr : L2H.RoomH k X.A) : PSet X (rSetD nm X) := by
  intro pins s σ H o i v ov iv u Q I ro ri rv h
  obtain ⟨S, μ, ox, ix, vx, S', sm, r1, r2, r3, e, q⟩ := h
  have hun := hr.un
  unfold setS at e
  split at e
  · cases r1 with | @obj a n en =>
    split at e
    · rename_i ds hds
      split at e
      · obtain ⟨j, hj, rfl⟩ := Option.map_eq_some_iff.mp e
        cases r2
        obtain ⟨xs, e1, r⟩ := sm.ob _ _ _ en hds
        have x := Ext.wrote (H := H) (u := .lst (xs.set j v)) (List.mem_of_getElem? en) (NF.of e1)
        exact set_list pins s σ H _ _ v ov iv u Q I ro ri rv ⟨a, xs, _, j, rfl, rfl, e1, by rw [r.length]; exact hj, q _ x (sm.wrote en ⟨_, upd_same, RVs.ext x _ (r.set j r3)⟩)⟩
      · cases e
    · rename_i kvs hds
      split at e
      · rename_i k hk
        split at e
        · rename_i hl
          cases e
          have ek := keyOf_kV r2 hk
          subst ek
          obtain ⟨ys, e1, r⟩ := sm.ob _ _ _ en hds
          have x := Ext.wrote (H := H) (u := .dK (putK ys k v)) (List.mem_of_getElem? en) (NF.of e1)
          cases ro
          exact d_setItem (by omega) I (DPut.k e1 (by rw [rk_len r]; exact hl)) ri rv fun s' I' => ⟨_, I', q _ x (sm.wrote en ⟨_, upd_same, RK.ext x (put_rk r3 r)⟩)⟩
        · cases e
      · cases e
    · cases e
  · cases e
def gSb (o i : EM) : GM := fun v e S => (o e S).toS e fun x S => (i e S).toS e fun y S => match setS S x y v with
  | some S => .nx e S
  | none => .stuck
theorem mg_sub {k : Nat} (hr : L2H.RoomH k X.A) {o i : Expr} {mo mi : EM} (ho : ME nm X o mo) (hi : ME nm X i mi) (ha : ∀ v, assign (.Subscript o i pos) X.env v = (do
      let ov ← holding [v] (eval o X.env)
      let iv ← holding [v, ov] (eval i X.env)
      standAt pos
      holding [v, ov, iv] (setItem ov iv v)
      release [v, ov, iv] []) := by intro _; rfl) : MG nm X (.Subscript o i pos) (gSb mo mi) := ⟨fun W tk => (pg_sub (ho.run W tk) (hi.run W tk) (set_D hr) ha).imp fun v σ H Q h => by
  obtain ⟨d, e, S, μ, r, E, s, p⟩ := h
  refine ⟨e, S, μ, E, s, (PostS.toS E p).mono fun ox S1 μ1 H1 x1 s1 p1 vo ro => ?_⟩
  refine ⟨e, S1, μ1, E.ext x1, s1, (PostS.toS (E.ext x1) p1).mono fun ix S2 μ2 H2 x2 s2 p2 vi ri => ?_⟩
  split at p2
  · rename_i S3 hS
    exact ⟨S2, μ2, ox, ix, d, S3, s2, ro.ext x2, ri, (r.ext x1).ext x2, hS, fun H3 x3 s3 => p2 σ μ2 H3 x3 s3 (((E.ext x1).ext x2).ext x3)⟩
  · exact False.elim p2⟩
theorem gok_sb {o i : EM} : GOk (gSb o i) := fun d e S d' S' => by
  unfold gSb
  cases h1 : o e S with
  | ok x S1 =>
    rw [R.toS_ok]
    cases h2 : i e S1 with
    | ok y S2 =>
      rw [R.toS_ok]
      split <;> exact ⟨fun h => (nomatch h), fun e' => ⟨fun h => (nomatch h), fun h => (nomatch h)⟩⟩
    | exc c fs S2 => exact ⟨fun h => (nomatch h), fun e' => ⟨fun h => (nomatch h), fun h => (nomatch h)⟩⟩
    | stuck => exact ⟨fun h => (nomatch h), fun e' => ⟨fun h => (nomatch h), fun h => (nomatch h)⟩⟩
  | exc c fs S2 => exact ⟨fun h => (nomatch h), fun e' => ⟨fun h => (nomatch h), fun h => (nomatch h)⟩⟩
  | stuck => exact ⟨fun h => (nomatch h), fun e' => ⟨fun h => (nomatch h), fun h => (nomatch h)⟩⟩
def mSetI (m o i : EM) : SM := mAsg m (gSb o i)
theorem ms_setI {k : Nat} (hr : L2H.RoomH k X.A) {o i : Expr} {mo mi : EM} {pos' : Pos} (ho : ME nm X o mo) (hi : ME nm X i mi) (he : ME nm X e me) (ha : ∀ v, assign (.Subscript o i pos') X.env v = (do
      let ov ← holding [v] (eval o X.env)
      let iv ← holding [v, ov] (eval i X.env)
      standAt pos'
      holding [v, ov, iv] (setItem ov iv v)
      release [v, ov, iv] []) := by intro _; rfl) (hs : swapsWithSole [.Subscript o i pos'] e pos.line X.env = pure false := by rfl) (hw : swappedStores [.Subscript o i pos'] e X.env = pure none := by rfl)
    (h1 : (assignEach [.Subscript o i pos'] X.env).map (·.2) = [assign (.Subscript o i pos') X.env] := by rfl) : MS nm X (.Assign [.Subscript o i pos'] e pos) (mSetI me mo mi) :=
  ms_asg he (mg_sub hr ho hi ha) gok_sb hs hw h1
theorem ip_D {op : Operator} {f : Int → Int → Int} (o : OpR X (inplaceOp op) (rI0 fun i j => .int (f i j))) : OpD nm X (inplaceOp op) (fI fun i j => some (.int (f i j))) := opI0_D o
theorem i_sub : OpD nm X (inplaceOp .Sub) fSub := opI0_D iop_sub
def iAdd : Store → D → D → Option D := fun _ x y => match x, y with
  | .int i, .int j => some (.int (i + j))
  | .str a, .str b => if a.length + b.length ≤ sizeLine then some (.str (a ++ b)) else none
  | _, _ => none
theorem i_add : OpD nm X (inplaceOp .Add) iAdd := by
  intro pins s σ H x y v u Q I rv ru hh
  obtain ⟨S, μ, dx, dy, d, sm, rx, ry, e, q⟩ := hh
  unfold iAdd at e
  split at e
  · cases rx; cases ry; cases e
    exact iop_add pins s σ H _ _ v u Q I rv ru ⟨_, _, rfl, rfl, q _ μ H .refl sm (.int _)⟩
  · split at e
    · rename_i c; cases rx; cases ry; cases e
      exact iop_add_str pins s σ H _ _ v u Q I rv ru ⟨_, _, rfl, rfl, c, q _ μ H .refl sm (.str _)⟩
    · cases e
  · cases e
def mAug (i : Nat) (f : Store → D → D → Option D) (m : EM) : SM := fun e S => match e.sl[i]? with
  | some (some x) => (m e S).toS e fun y S => (lift2 f S x y).toS e fun z S => .nx (e.set i z) S
  | _ => .stuck
theorem ms_aug {is : List Nat} (i : Nat) {x : Str} {op : Operator} {f : Store → D → D → Option D} {pos' : Pos} (hN : X.N.Nodup) (hl : locAll is X.N X.env.scope = true) (ho : OpD nm X (inplaceOp op) f) (he : ME nm X e me) (hi : X.N[i]? = some x := by rfl) (hc : is.contains i = true := by rfl)
    (hf : X.fn x = true ∨ X.env.scope.names.lookup x = some .local := by first | exact .inl rfl | exact .inr rfl | assumption) : MS nm X (.AugAssign (.Name x pos') op e pos) (mAug i f me) :=
  ⟨fun W tk => (ps_aug hN hi (loc_of hl hc hi).1 (he.run W tk) (ti := rOpD nm X f) (fun pins s σ H x y v u Q I rx ry q => ho pins s σ H x y v u Q I rx ry q) hf).imp fun D σ H h => by
    obtain ⟨e, S, μ, E, s, p⟩ := h
    unfold mAug at p
    split at p
    · rename_i d hd
      obtain ⟨v, h1, r1⟩ := E.at_ i d hd
      refine ⟨v, h1, e, S, μ, E, s, (PostS.toS E p).mono fun y S1 μ1 H1 x1 s1 p1 u ru => ?_⟩
      unfold lift2 at p1
      split at p1
      · rename_i z hz
        exact ⟨S1, μ1, d, y, z, s1, r1.ext x1, ru, hz, fun w μ2 H2 x2 s2 r2 => p1 _ μ2 H2 x2 s2 (((E.ext x1).ext x2).set r2)⟩
      · exact False.elim p1
    · exact False.elim p⟩
/-- o.f op= e -/
def mAugF (c : Nat) (f : Nat) (g : Store → D → D → Option D) (o m : EM) : SM := fun e S => (o e S).toS e fun x S => match getF [c] f S x with
  | some y => (m e S).toS e fun z S => (lift2 g S y z).toS e fun w S => match putF_ [c] f S x w with
    | some S => .nx e S
    | none => .stuck
  | none => .stuck
theorem ms_augF {c : Nat} {f : Nat} {fx : Str} {op : Operator} {g : Store → D → D → Option D} {o : Expr} {mo : EM} {pos' : Pos} (h : FldOk X.K X.mg nm [c] f) (hop : OpD nm X (inplaceOp op) g) (ho : ME nm X o mo) (he : ME nm X e me) (hf : nm.fld f = fx) :
    MS nm X (.AugAssign (.Attribute o fx pos') op e pos) (mAugF c f g mo me) := by
  subst hf
  exact ⟨fun W tk => (ps_fldaug (rd := rOpD nm X g) (ho.run W tk) (he.run W tk) (fun pins s σ H x y u v Q I rx ry q => hop pins s σ H x y u v Q I rx ry q)).imp fun D σ H hh => by
    obtain ⟨e, S, μ, E, s, p⟩ := hh
    refine ⟨e, S, μ, E, s, (PostS.toS E p).mono fun d S1 μ1 H1 x1 s1 p1 v rv => ?_⟩
    split at p1
    · rename_i y hy
      unfold getF at hy
      split at hy
      · rename_i c' fs hi
        split at hy
        · rename_i hc
          have hc' : c' = c := by simpa using hc
          subst hc'
          obtain ⟨n, a, C, dx, gs, rfl, rfl, h1, h2, h3, h4, h5⟩ := insOf_at s1 rv hi
          obtain ⟨k1, k2⟩ := h.2 c' (by simp) C h3
          rcases rf_get f h.1 h5 with ⟨_, z⟩ | ⟨w, d2, z1, z2, z3⟩
          · rw [z] at hy; cases hy
          · rw [z2] at hy; cases hy
            refine ⟨a, C, dx, gs, w, rfl, h4, k1, k2, z1, e, S1, μ1, E.ext x1, s1, (PostS.toS (E.ext x1) p1).mono fun zd S2 μ2 H2 x2 s2 p2 u ru => ?_⟩
            unfold lift2 at p2
            split at p2
            · rename_i wd hw
              refine ⟨S2, μ2, _, zd, wd, s2, z3.ext x2, ru, hw, fun w' μ3 H3 x3 s3 r3 => ?_⟩
              have p3 : PostS nm X W μ3 H3 (match putF_ [c'] f S2 (.obj n) wd with | some S => RS.nx e S | none => .stuck) D := PostS.ext x3 p2
              split at p3
              · rename_i S4 hp
                obtain ⟨a', C', dx', gs', g1, g2, g3, g4, g5, g6, g7, c2, g8, g9⟩ := putF_at h s3 (rv.ext (x2.trans x3)) r3 hp
                cases g1
                have : c2 = c' := by simpa using g8
                subst this
                rw [h3] at g9
                cases g9
                exact ⟨dx', gs', g2, g5, p3 σ μ3 _ g6 g7 ((((E.ext x1).ext x2).ext x3).ext g6)⟩
              · exact False.elim p3
            · exact False.elim p2
        · cases hy
      · cases hy
    · exact False.elim p1⟩
/-- del d[k] -/
def delS (S : Store) (o i : D) : Option Store := match o with
  | .obj n => match S[n]? with
    | some (.dct kvs) => match keyOf i with
      | some k => if (getK kvs k).isSome = true then some (S.set n (.dct (dropD kvs k))) else none
      | none => none
    | _ => none
  | _ => none
def mDel (o i : EM) : SM := fun e S => (o e S).toS e fun x S => (i e S).toS e fun y S => match delS S x y with
  | some S => .nx e S
  | none => .stuck
theorem ms_del {o i : Expr} {mo mi : EM} {tpos : Pos} (ho : ME nm X o mo) (hi : ME nm X i mi) : MS nm X (.Delete [.Subscript o i tpos] pos) (mDel mo mi) := ⟨fun W tk => (ps_ddel (ho.run W tk) (hi.run W tk)).imp fun D σ H h => by
  obtain ⟨e, S, μ, E, s, p⟩ := h
  refine ⟨e, S, μ, E, s, (PostS.toS E p).mono fun ox S1 μ1 H1 x1 s1 p1 vo ro => ?_⟩
  refine ⟨e, S1, μ1, E.ext x1, s1, (PostS.toS (E.ext x1) p1).mono fun ix S2 μ2 H2 x2 s2 p2 vi ri => ?_⟩
  split at p2
  · rename_i S3 hS
    unfold delS at hS
    split at hS
    · split at hS
      · rename_i kvs hds
        split at hS
        · rename_i k hk
          split at hS
          · rename_i hg
            cases hS
            cases ro.ext x2 with | @obj a n en =>
            have ek := keyOf_kV ri hk
            obtain ⟨ys, e1, r⟩ := s2.ob _ _ _ en hds
            have x := Ext.wrote (H := H2) (u := .dK (dropK ys k)) (List.mem_of_getElem? en) (NF.of e1)
            refine ⟨a, ys, k, rfl, e1, ek, ?_, p2 σ μ2 _ x (s2.wrote en ⟨_, upd_same, RK.ext x (drop_rk r)⟩) (((E.ext x1).ext x2).ext x)⟩
            rcases getK_val k r with ⟨_, z⟩ | ⟨w, d, z1, z2, _⟩
            · rw [z] at hg; cases hg
            · rw [z1]; rfl
          · cases hS
        · cases hS
      · cases hS
    · cases hS
  · exact False.elim p2⟩
section
variable {C : Addr} {bmB : List Value} {B newId initId : String}
/-- X() -/
theorem pmk_own0 {x : Str} {p pos : Pos} (F : ExcBaseFacts B newId initId bmB) (q : PySem.W.excIn X.K C bmB newId = true) (gC : X.mg x = some (.ref C)) (kC : PySem.W.keepIn X.K (.ref C) = true) (r : Raises X (.ref C)) (hg : Gl X x)
    (hdb : (x == ("__debug__" : Str)) = false := by decide) : PMk X (.Call (.Name x p) [] [] pos) (fun _ H Q => Q (.ref C) none H) := by
  intro pins s σ H Q I h
  refine wpAny_Call_Name_kw (ld_glob I hg gC ?_ hdb)
  refine PySem.W.callWith_K0 I.kIn kC ?_
  obtain ⟨bm, N, nm, qn, bs, hdct, sn, sub, ab, col, dd, k0, k1, k2, k3, k5, mN, hC, hN, hni, T⟩ := exc_obj I.kIn q
  refine wpAny_call_exc_subT F T hC hN hni (fun h' e hm => ?_) (by show 0 ≤ sizeLine; decide)
  exact mk_of I hm r h (I.hok.gone hm.new)
end
/-- what the written part says of an exception class without own __init__ -/
def ExcOk (K : PySem.W.Frag) (mg : Str → Option Value) (x : Str) : Prop := ∃ C, mg x = some (.ref C) ∧ PySem.W.excIn K C [.type "ValueError", .type "Exception", .type "BaseException", .type "object"] "ValueError.__new__" = true ∧ PySem.W.keepIn K (.ref C) = true ∧
  PySem.W.subIn K (.ref C) (.type "BaseException") = some true ∧ PySem.W.typeIn K (.ref C) = some (.type "type")
def mRaise0 (c : Nat) : SM := fun e S => .exc c [] e S
theorem ms_raise0 {c : Nat} {x : Str} {p pos' : Pos} (h : ExcOk X.K X.mg x) (hc : X.calm = true) (hg : GlN X x) (hx : nm.cls c = x) : MS nm X (.Raise (some (.Call (.Name x p) [] [] pos')) none pos) (mRaise0 c) := by
  subst hx
  obtain ⟨C, h1, h2, h3, h4, h5⟩ := h
  exact ⟨fun W tk => (ps_raise hc tk (pmk_own0 PySem.F.excBase_ValueError h2 h1 h3 (raises_own h4 h5) hg.g hg.d)).imp fun D σ H hh => by
    obtain ⟨e, S, μ, E, s, p⟩ := hh
    exact p σ μ H C none .refl s E ⟨h1, rfl⟩⟩
/-- a raise that the proof never comes to, or any statement -/
def mNever : SM := fun _ _ => .stuck
theorem ms_never {st : Stmt} : MS nm X st mNever := ⟨fun W tk => ps_never.imp fun D σ H hh => by
  obtain ⟨e, S, μ, E, s, p⟩ := hh
  exact p⟩
def RS.clr (r : RS) : RS := match r with
  | .nx e S => .nx e.clr S
  | .bk e S => .bk e.clr S
  | .ct e S => .ct e.clr S
  | .exc c fs e S => .exc c fs e.clr S
  | r => r
@[simp] theorem RS.clr_nx (e : Ev) (S : Store) : (RS.nx e S).clr = .nx e.clr S := rfl
@[simp] theorem RS.clr_bk (e : Ev) (S : Store) : (RS.bk e S).clr = .bk e.clr S := rfl
@[simp] theorem RS.clr_ct (e : Ev) (S : Store) : (RS.ct e S).clr = .ct e.clr S := rfl
@[simp] theorem RS.clr_rt (d : D) (S : Store) : (RS.rt d S).clr = .rt d S := rfl
@[simp] theorem RS.clr_exc (c : Nat) (fs : List (Nat × D)) (e : Ev) (S : Store) : (RS.exc c fs e S).clr = .exc c fs e.clr S := rfl
@[simp] theorem RS.clr_stuck : RS.stuck.clr = .stuck := rfl
/-- which of the known classes a clause catches -/
structure Catch (K : PySem.W.Frag) (mg : Str → Option Value) (nm : Nms) (x : Str) (yes no : List Nat) : Prop where
  ex : ∃ cv, mg x = some cv ∧ (∀ c ∈ yes, ∀ C, mg (nm.cls c) = some (.ref C) → PySem.W.exmOne K (.ref C) cv = some true) ∧ (∀ c ∈ no, ∀ C, mg (nm.cls c) = some (.ref C) → PySem.W.exmOne K (.ref C) cv = some false)
/-- a body's exception, by its class -/
def RS.caught (r : RS) (yes no : List Nat) (k : Nat → List (Nat × D) → Ev → Store → RS) : RS := match r with
  | .exc c fs e S => if yes.contains c = true then k c fs e.clr S else if no.contains c = true then .exc c fs e.clr S else .stuck
  | r => r.clr
@[simp] theorem RS.caught_nx (e : Ev) (S : Store) (y n : List Nat) (k) : (RS.nx e S).caught y n k = .nx e.clr S := rfl
@[simp] theorem RS.caught_bk (e : Ev) (S : Store) (y n : List Nat) (k) : (RS.bk e S).caught y n k = .bk e.clr S := rfl
@[simp] theorem RS.caught_ct (e : Ev) (S : Store) (y n : List Nat) (k) : (RS.ct e S).caught y n k = .ct e.clr S := rfl
@[simp] theorem RS.caught_rt (d : D) (S : Store) (y n : List Nat) (k) : (RS.rt d S).caught y n k = .rt d S := rfl
@[simp] theorem RS.caught_stuck (y n : List Nat) (k) : RS.stuck.caught y n k = .stuck := rfl
@[simp] theorem RS.caught_exc (c : Nat) (fs : List (Nat × D)) (e : Ev) (S : Store) (y n : List Nat) (k) : (RS.exc c fs e S).caught y n k = if y.contains c = true then k c fs e.clr S else if n.contains c = true then .exc c fs e.clr S else .stuck := rfl
/-- a suite that raises nothing -/
def RS.nox (r : RS) : RS := match r with
  | .exc _ _ _ _ => .stuck
  | r => r.clr
@[simp] theorem RS.nox_nx (e : Ev) (S : Store) : (RS.nx e S).nox = .nx e.clr S := rfl
@[simp] theorem RS.nox_bk (e : Ev) (S : Store) : (RS.bk e S).nox = .bk e.clr S := rfl
@[simp] theorem RS.nox_ct (e : Ev) (S : Store) : (RS.ct e S).nox = .ct e.clr S := rfl
@[simp] theorem RS.nox_rt (d : D) (S : Store) : (RS.rt d S).nox = .rt d S := rfl
@[simp] theorem RS.nox_exc (c : Nat) (fs : List (Nat × D)) (e : Ev) (S : Store) : (RS.exc c fs e S).nox = .stuck := rfl
@[simp] theorem RS.nox_stuck : RS.stuck.nox = .stuck := rfl
def mTry (yes no : List Nat) (b s : SM) : SM := fun e S => (b e.clr S).caught yes no fun _ _ e S => (s e S).nox
theorem EvR.clr {X X' : Cx} {H : Hp} {μ : List Addr} {e : Ev} {σ : St} (E : EvR nm X H μ e σ) (hK : X'.K = X.K) : EvR nm X' H μ e.clr σ :=
  ⟨E.len, fun i d h => by rw [hK]; exact E.at_ i d h, fun p hp => absurd (show p ∈ ([] : List _) from hp) (by simp)⟩
/-- what is wanted with the caught exceptions forgotten holds in every other context of the same program -/
theorem PostS.back {X X' : Cx} {W : WX} {μ : List Addr} {H : Hp} {D : Ends} {r : RS} (hK : X'.K = X.K) (hm : X'.mg = X.mg) (h : PostS nm X W μ H r.clr D) : PostS nm X' W μ H r D := by
  cases r with
  | nx e S => exact fun σ' μ' H' x s E => h σ' μ' H' x (by rw [← hK, ← hm]; exact s) (E.clr hK.symm)
  | bk e S => exact fun σ' μ' H' x s E => h σ' μ' H' x (by rw [← hK, ← hm]; exact s) (E.clr hK.symm)
  | ct e S => exact fun σ' μ' H' x s E => h σ' μ' H' x (by rw [← hK, ← hm]; exact s) (E.clr hK.symm)
  | rt d S => exact fun v μ' H' x s r => h v μ' H' x (by rw [← hK, ← hm]; exact s) (by rw [← hK]; exact r)
  | exc c fs e S => exact fun σ' μ' H' C d x s E a => h σ' μ' H' C d x (by rw [← hK, ← hm]; exact s) (E.clr hK.symm) (by rw [← hK, ← hm]; exact a)
  | stuck => exact h
theorem PostS.noW {W : WX} {μ : List Addr} {H : Hp} {D : Ends} {r : RS} (h : PostS nm X W μ H r.nox D) : PostS nm X (fun _ _ _ _ => False) μ H r.clr D := by
  cases r <;> first | exact h | exact False.elim h
/-- the reading of a body or suite in a context that is not known yet -/
def rdC (nm : Nms) (X : Cx) (W : WX) (m : SM) : TS := fun D σ H => ∃ e S μ, EvR nm X H μ e σ ∧ Sim nm X.K X.mg μ S H ∧ e.ex = [] ∧ PostS nm X W μ H (m e S).clr D
theorem rdC_to (X : Cx) {X' : Cx} {W : WX} {m : SM} {D : Ends} {σ : St} {H : Hp} (hK : X'.K = X.K) (hm : X'.mg = X.mg) (h : rdC nm X W m D σ H) : rdS nm X' W m D σ H := by
  obtain ⟨e, S, μ, E, s, ee, p⟩ := h
  have E' := E.clr (X' := X') hK
  have : e.clr = e := by
    obtain ⟨a, b⟩ := e
    cases ee; rfl
  rw [this] at E'
  exact ⟨e, S, μ, E', by rw [hK, hm]; exact s, PostS.back hK hm p⟩
theorem try_rd {W : WX} {D : Ends} {σ : St} {H : Hp} {mb : SM} {yes no : List Nat} {k : Nat → List (Nat × BS.D) → Ev → Store → RS} {W' : WX} (h : rdS nm X W (fun e S => (mb e.clr S).caught yes no k) D σ H)
    (hy : ∀ c ∈ yes, ∀ fs (e : Ev) S σ' μ' H' C d, X.mg (nm.cls c) = some (.ref C) → Sim nm X.K X.mg μ' S H' → EvR nm X H' μ' e.clr σ' → ExcAt nm X.K X.mg H' μ' c fs C d → PostS nm X W μ' H' (k c fs e.clr S) D → W' (.ref C) d σ' H')
    (hn : ∀ c ∈ no, ∀ C d σ' H', X.mg (nm.cls c) = some (.ref C) → W (.ref C) d σ' H' → W' (.ref C) d σ' H') : rdC nm X W' mb D σ H := by
  obtain ⟨e, S, μ, E, s, p⟩ := h
  refine ⟨e.clr, S, μ, E.clr rfl, s, rfl, ?_⟩
  have p : PostS nm X W μ H ((mb e.clr S).caught yes no k) D := p
  cases hr : mb e.clr S with
  | nx e' S' => rw [hr] at p; exact p
  | bk e' S' => rw [hr] at p; exact p
  | ct e' S' => rw [hr] at p; exact p
  | rt d S' => rw [hr] at p; exact p
  | stuck => rw [hr] at p; exact p
  | exc c fs e' S' =>
    rw [hr, RS.caught_exc] at p
    intro σ' μ' H' C d x s' E' a
    split at p
    · rename_i hc
      exact hy c (by simpa using hc) fs e' S' σ' μ' H' C d a.1 s' E' a (PostS.ext x p)
    · split at p
      · rename_i hc
        exact hn c (by simpa using hc) C d σ' H' a.1 (p σ' μ' H' C d x s' E' a)
      · exact False.elim p
theorem ms_try {x : Str} {body suite : List Stmt} {b₀ : Stmt} {np pos' : Pos} {mb ms : SM} {yes no : List Nat} (hs : X.stack = X.env :: X.outer) (hf : X.env.frame = some X.env.locals) (hg : GlN X x) (hc : Catch X.K X.mg nm x yes no)
    (hb : ∀ (pn : List (Addr × Obj)) (xe : Value → Shared → Prop), PassesOwn (model X.prog X.w) X.A X.env xe → MB nm (X.tr pn xe) body mb)
    (hsu : ∀ (a : Addr) (oe : Obj) (pn : List (Addr × Obj)), MB nm (X.suite a ((a, oe) :: pn)) (b₀ :: suite) ms) :
    MS nm X (.Try body [.ExceptHandler (some (.Name x np)) none (b₀ :: suite) pos'] [] [] pos) (mTry yes no mb ms) := by
  obtain ⟨cv, h1, h2, h3⟩ := hc
  refine ⟨fun W tk => (ps_try_only (c := cv) (tb := fun W => rdC nm X W mb) (ts := fun a _ _ => rdC nm X (fun _ _ _ _ => False) ms) hs hf ⟨hg.g, hg.d, .inl h1⟩ tk
    (fun W' pn xe tk' hp => ((hb pn xe hp).run W' tk').imp fun D σ H hh => rdC_to X rfl rfl hh) (fun a oe cls d pn hz hv => ((hsu a oe pn).run _ takes0).imp fun D σ H hh => rdC_to X rfl rfl hh)).imp fun D σ H hh => ?_⟩
  refine try_rd hh (fun c hc fs e S σ' μ' H' C d g s E a p => ⟨true, h2 c hc C g, fun _ a na => ⟨e.clr, S, μ', E, s, rfl, PostS.noW p⟩, fun q => (nomatch q)⟩) fun c hc C d σ' H' g w => ⟨false, h3 c hc C g, fun q => (nomatch q), fun _ => w⟩
/-- n stands for the exception -/
def Ev.exn (e : Ev) (i c : Nat) (fs : List (Nat × D)) : Ev := { sl := e.sl.set i none, ex := [(i, c, fs)] }
/-- n goes -/
def RS.gone (r : RS) (i : Nat) : RS := match r with
  | .nx e S => .nx ⟨e.sl.set i none, []⟩ S
  | .bk e S => .bk ⟨e.sl.set i none, []⟩ S
  | .ct e S => .ct ⟨e.sl.set i none, []⟩ S
  | .exc _ _ _ _ => .stuck
  | r => r
@[simp] theorem RS.gone_nx (i : Nat) (e : Ev) (S : Store) : (RS.nx e S).gone i = .nx ⟨e.sl.set i none, []⟩ S := rfl
@[simp] theorem RS.gone_bk (i : Nat) (e : Ev) (S : Store) : (RS.bk e S).gone i = .bk ⟨e.sl.set i none, []⟩ S := rfl
@[simp] theorem RS.gone_ct (i : Nat) (e : Ev) (S : Store) : (RS.ct e S).gone i = .ct ⟨e.sl.set i none, []⟩ S := rfl
@[simp] theorem RS.gone_rt (i : Nat) (d : D) (S : Store) : (RS.rt d S).gone i = .rt d S := rfl
@[simp] theorem RS.gone_exc (i : Nat) (c : Nat) (fs : List (Nat × D)) (e : Ev) (S : Store) : (RS.exc c fs e S).gone i = .stuck := rfl
@[simp] theorem RS.gone_stuck (i : Nat) : RS.stuck.gone i = .stuck := rfl
def mTryAs (i : Nat) (yes no : List Nat) (b s : SM) : SM := fun e S => (b e.clr S).caught yes no fun c fs e S => if i < e.sl.length then (s (e.exn i c fs) S).gone i else .stuck
theorem EvR.unset {H : Hp} {μ : List Addr} {e : Ev} {σ : St} (i : Nat) {X' : Cx} (hK : X'.K = X.K) (E : EvR nm X H μ e σ) : EvR nm X' H μ ⟨e.sl.set i none, []⟩ (σ.set i none) := by
  refine ⟨by simp [E.len], fun j d h => ?_, fun p hp => absurd (show p ∈ ([] : List _) from hp) (by simp)⟩
  by_cases e1 : i = j
  · subst e1
    have hl : i < e.sl.length := by simpa using (List.getElem?_eq_some_iff.mp h).1
    have h : (e.sl.set i none)[i]? = some (some d) := h
    rw [List.getElem?_set_self hl] at h; cases h
  · have h : (e.sl.set i none)[j]? = some (some d) := h
    rw [List.getElem?_set_ne e1] at h
    obtain ⟨v, a, b⟩ := E.at_ j d h
    exact ⟨v, by rw [List.getElem?_set_ne e1]; exact a, by rw [hK]; exact b⟩
theorem EvR.weak {H : Hp} {μ : List Addr} {e : Ev} {σ : St} (i : Nat) (v : V) {X' : Cx} (hK : X'.K = X.K) (E : EvR nm X H μ e.clr σ) : EvR nm X' H μ ⟨e.sl.set i none, []⟩ (σ.set i (some v)) := by
  refine ⟨by have := E.len; simpa [Ev.clr] using this, fun j d h => ?_, fun p hp => absurd (show p ∈ ([] : List _) from hp) (by simp)⟩
  by_cases e1 : i = j
  · subst e1
    have hl : i < e.sl.length := by simpa using (List.getElem?_eq_some_iff.mp h).1
    have h : (e.sl.set i none)[i]? = some (some d) := h
    rw [List.getElem?_set_self hl] at h; cases h
  · have h : (e.sl.set i none)[j]? = some (some d) := h
    rw [List.getElem?_set_ne e1] at h
    obtain ⟨v, a, b⟩ := E.at_ j d h
    exact ⟨v, by rw [List.getElem?_set_ne e1]; exact a, by rw [hK]; exact b⟩
theorem ms_tryAs (i : Nat) {x n : Str} {body suite : List Stmt} {b₀ : Stmt} {np pos' : Pos} {mb ms : SM} {yes no : List Nat} (hs : X.stack = X.env :: X.outer) (hf : X.env.frame = some X.env.locals) (hN : X.N.Nodup) (hg : GlN X x) (hc : Catch X.K X.mg nm x yes no)
    (hb : ∀ (pn : List (Addr × Obj)) (xe : Value → Shared → Prop), PassesOwn (model X.prog X.w) X.A X.env xe → MB nm (X.tr pn xe) body mb)
    (hsu : ∀ (a : Addr) (oe : Obj) (pn : List (Addr × Obj)), MB nm (X.suite a ((a, oe) :: pn)) (b₀ :: suite) ms) (hln : X.env.kindOf n = some .local) (hi : X.N[i]? = some n := by rfl) :
    MS nm X (.Try body [.ExceptHandler (some (.Name x np)) (some n) (b₀ :: suite) pos'] [] [] pos) (mTryAs i yes no mb ms) := by
  obtain ⟨cv, h1, h2, h3⟩ := hc
  -- the suite's reading, at the exception's address
  let ts : Addr → Value → Option Addr → TS := fun a cls d D σ H => ∃ c fs, ∃ e : Ev, ∃ S μ C, cls = .ref C ∧ EvR nm X H μ ⟨e.sl.set i none, []⟩ σ ∧ σ[i]? = some (some (.ref a)) ∧ Sim nm X.K X.mg μ S H ∧ ExcAt nm X.K X.mg H μ c fs C d ∧
    ∀ X', X'.K = X.K → X'.mg = X.mg → PostS nm X' (fun _ _ _ _ => False) μ H (ms (e.exn i c fs) S) D
  refine ⟨fun W tk => (ps_try_as (c := cv) (tb := fun W => rdC nm X W mb) (ts := ts) hs hf hN hi hln ⟨hg.g, hg.d, .inl h1⟩ tk
    (fun W' pn xe tk' hp => ((hb pn xe hp).run W' tk').imp fun D σ H hh => rdC_to X rfl rfl hh) (fun a oe cls d pn hz hv => ((hsu a oe pn).run _ takes0).imp fun D σ H hh => ?_)).imp fun D σ H hh => ?_⟩
  · obtain ⟨c, fs, e, S, μ, C, rfl, E, ha, s, ea, p⟩ := hh
    refine ⟨e.exn i c fs, S, μ, ⟨E.len, E.at_, fun q hq => ?_⟩, s, p _ rfl rfl⟩
    rcases List.mem_singleton.mp (show q ∈ [(i, c, fs)] from hq) with rfl
    exact ⟨a, oe, C, d, ha, List.mem_cons_self, ⟨hz, hv⟩, ea⟩
  · refine try_rd hh (fun c hc fs e S σ' μ' H' C d g s E ea p => ?_) fun c hc C d σ' H' g w => ⟨false, h3 c hc C g, fun q => (nomatch q), fun _ => w⟩
    have p : PostS nm X W μ' H' (if i < e.clr.sl.length then (ms (e.clr.exn i c fs) S).gone i else .stuck) D := p
    split at p
    · rename_i hl
      have hl2 : i < σ'.length := by rw [← E.len]; exact hl
      refine ⟨true, h2 c hc C g, fun _ a na => ⟨c, fs, e.clr, S, μ', C, rfl, E.weak i _ rfl, List.getElem?_set_self hl2, s, ea, fun X' hK hm => ?_⟩, fun q => (nomatch q)⟩
      cases hr : ms (e.clr.exn i c fs) S with
      | nx e' S' => rw [hr] at p; exact fun σ2 μ2 H2 x s E => p _ μ2 H2 x (by rw [← hK, ← hm]; exact s) (E.unset i hK.symm)
      | bk e' S' => rw [hr] at p; exact fun σ2 μ2 H2 x s E => p _ μ2 H2 x (by rw [← hK, ← hm]; exact s) (E.unset i hK.symm)
      | ct e' S' => rw [hr] at p; exact fun σ2 μ2 H2 x s E => p _ μ2 H2 x (by rw [← hK, ← hm]; exact s) (E.unset i hK.symm)
      | rt d' S' => rw [hr] at p; exact fun v μ2 H2 x s r => p v μ2 H2 x (by rw [← hK, ← hm]; exact s) (by rw [← hK]; exact r)
      | exc c' fs' e' S' => rw [hr] at p; exact False.elim p
      | stuck => rw [hr] at p; exact False.elim p
    · exact False.elim p
def den (n : Nat) (m : SM) : FM := fun ds S => match m ⟨ds.map some ++ List.replicate (n - ds.length) none, []⟩ S with
  | .nx _ S => .ok .non S
  | .rt d S => .ok d S
  | .exc c fs _ S => .exc c fs S
  | _ => .stuck
theorem evr_start {H : Hp} {μ : List Addr} {N : List Str} {vs : List V} {ds : List D} (r : RVs X.K H μ vs ds) (hl : ds.length ≤ N.length) : EvR nm X H μ ⟨ds.map some ++ List.replicate (N.length - ds.length) none, []⟩ (start N vs) := by
  refine ⟨by simp [L2.start, r.length], fun i d h => ?_, fun p hp => absurd (show p ∈ ([] : List _) from hp) (by simp)⟩
  have h : (ds.map some ++ List.replicate (N.length - ds.length) none)[i]? = some (some d) := h
  by_cases hi : i < ds.length
  · rw [List.getElem?_append_left (by simpa using hi), List.getElem?_map] at h
    cases h1 : ds[i]? with
    | none => rw [h1] at h; cases h
    | some d' =>
      rw [h1] at h; cases h
      obtain ⟨v, h2, h3⟩ := r.get h1
      refine ⟨v, ?_, h3⟩
      unfold L2.start
      rw [List.getElem?_append_left (by rw [List.length_map, r.length]; exact hi), List.getElem?_map, h2]
      rfl
  · rw [List.getElem?_append_right (by simpa using Nat.le_of_not_lt hi)] at h
    obtain ⟨hlt, e⟩ := List.getElem?_eq_some_iff.mp h
    rw [List.getElem_replicate] at e
    cases e
theorem den_ok {P : Program} {w : World} {K : PySem.W.Frag} {mg : Str → Option Value} {base : Heap} {x qual : Str} {st : Stmt} {f : Addr} {fd : FuncData} {N ps : List Str} {k : Nat} {m : SM} (F : Fun K x qual st f fd) (S : FnScope N ps (defScope st))
    (hb : ∀ (cdv : Value) (A : Around) (outer : List Env) (s : Shared) (H : Hp) (E : XK), Room k (A.deeper (envOfC qual (defScope st) s.heap.objs.size f cdv)) → MB nm (cxOf (L2.CX P w) P w K mg base N qual (defScope st) f cdv A outer s H E) (defBody st) m) {V : FM} {n : Nat} (hV : den N.length m = V) (hn : ps.length = n) :
    FnOk P w K mg base (L2.CX P w) (k + 1) f fd ps (spD nm K mg n V) := by
  subst hV hn
  refine F.okX S (fun vs H Q E h => ?_) fun cdv A outer s H vs Q E hr h => ?_
  · obtain ⟨ds, S, μ, r, hl, _⟩ := h
    rw [r.length, hl]
  · obtain ⟨ds, S', μ, r, hl, sm, p⟩ := h
    refine ⟨_, (hb cdv A outer s H E hr).run (fun cls d _ H => E cls d H) (takes_of rfl rfl rfl rfl), ⟨ds.map some ++ List.replicate (N.length - ds.length) none, []⟩, S', μ, evr_start r ?_, sm, ?_⟩
    · have := congrArg List.length S.pre
      rw [List.length_take] at this
      omega
    · unfold den at p
      cases hr : m ⟨ds.map some ++ List.replicate (N.length - ds.length) none, []⟩ S' with
      | nx e S2 => rw [hr] at p; exact fun σ' μ' H' x s _ => p μ' H' x s _ .non
      | bk e S2 => rw [hr] at p; exact False.elim p
      | ct e S2 => rw [hr] at p; exact False.elim p
      | rt d S2 => rw [hr] at p; exact fun v μ' H' x s r => p μ' H' x s v r
      | exc c fs e S2 => rw [hr] at p; exact fun σ' μ' H' C d x s _ a => p μ' H' C d x s a
      | stuck => rw [hr] at p; exact False.elim p
end
end BS
namespace BS
open PySem PySem.Spec PyProof.Rows L2
section
variable {nm : Nms} {X : Cx} {pos : Pos} {e : Expr} {es : List Expr} {me : EM} {ma : AM}
def rCallD (nm : Nms) (X : Cx) (F : FM) : List V → Hp → VK → Prop := fun xs H Q => ∃ ds S μ E, RVs X.K H μ xs ds ∧ Sim nm X.K X.mg μ S H ∧ Post nm X.K X.mg μ H (F ds S) (fun d _ μ' H' => ∀ v, RV X.K H' μ' v d → Q v H') E
abbrev CallD (nm : Nms) (X : Cx) (f : Value) (F : FM) : Prop := CallR X f (rCallD nm X F)
theorem me_callB {id : String} {x : Str} {p : Pos} {F : FM} (hc : CallD nm X (.builtin id) F) (hg : GlN X x) (hm : X.mg x = none) (hv : bootBuiltins x = some (.builtin id)) (ha : MA nm X (e :: es) ma)
    (he : starEach (e :: es) X.env = (false, eval e X.env) :: starEach es X.env := by rfl) (hpl : (backTo pos (starEach es X.env)).any (·.1) = false := by rfl) : ME nm X (.Call (.Name x p) (e :: es) [] pos) (mCall F ma) :=
  ⟨fun W tk => (pe_callB hc hg.g hm hv (ha.run W tk) hg.n hg.d he hpl).imp fun σ H Q h => by
    obtain ⟨e, S, μ, E, s, q⟩ := h
    exact ⟨e, S, μ, E, s, (Post.bind q).mono fun ds S1 μ1 H1 x1 s1 p1 vs rvs => ⟨ds, S1, μ1, _, rvs, s1, p1⟩⟩⟩
theorem me_callT {T : String} {x : Str} {p : Pos} {F : FM} (hc : CallD nm X (.type T) F) (hg : GlN X x) (hm : X.mg x = none) (hv : bootBuiltins x = some (.type T)) (ha : MA nm X (e :: es) ma)
    (he : starEach (e :: es) X.env = (false, eval e X.env) :: starEach es X.env := by rfl) (hpl : (backTo pos (starEach es X.env)).any (·.1) = false := by rfl) : ME nm X (.Call (.Name x p) (e :: es) [] pos) (mCall F ma) :=
  ⟨fun W tk => (pe_callTy hc hg.g hm hv (ha.run W tk) hg.n hg.d he hpl).imp fun σ H Q h => by
    obtain ⟨e, S, μ, E, s, q⟩ := h
    exact ⟨e, S, μ, E, s, (Post.bind q).mono fun ds S1 μ1 H1 x1 s1 p1 vs rvs => ⟨ds, S1, μ1, _, rvs, s1, p1⟩⟩⟩
theorem one_rv {K : PySem.W.Frag} {H : Hp} {μ : List Addr} {xs : List V} {d : D} (r : RVs K H μ xs [d]) : ∃ v, xs = [v] ∧ RV K H μ v d := by
  cases r with | cons r t => cases t; exact ⟨_, rfl, r⟩
theorem two_rv {K : PySem.W.Frag} {H : Hp} {μ : List Addr} {xs : List V} {d d' : D} (r : RVs K H μ xs [d, d']) : ∃ v w, xs = [v, w] ∧ RV K H μ v d ∧ RV K H μ w d' := by
  cases r with | cons r t => obtain ⟨w, rfl, r'⟩ := one_rv t; exact ⟨_, _, rfl, r, r'⟩
def fnInt : FM := fun ds S => match ds with
  | [.int i] => .ok (.int i) S
  | [.bl b] => .ok (.int (if b = true then 1 else 0)) S
  | [.str a] => match PySem.intText? a with
    | some n => if a.length ≤ 640 then .ok (.int n) S else .stuck
    | none => .stuck
  | _ => .stuck
theorem c_int : CallD nm X (.type "int") fnInt := by
  intro pins s σ H xs us Q I r h
  obtain ⟨ds, S, μ, E, rv, sm, p⟩ := h
  unfold fnInt at p
  split at p
  · obtain ⟨v, rfl, r1⟩ := one_rv rv; cases r1
    exact call_int1 pins s σ H _ us Q I r (.inl ⟨_, rfl, p μ H .refl sm _ (.int _)⟩)
  · obtain ⟨v, rfl, r1⟩ := one_rv rv; cases r1
    exact call_int1 pins s σ H _ us Q I r (.inr ⟨_, rfl, p μ H .refl sm _ (.int _)⟩)
  · obtain ⟨v, rfl, r1⟩ := one_rv rv; cases r1
    split at p
    · rename_i n hn
      split at p
      · rename_i hl
        exact call_int_str pins s σ H _ us Q I r ⟨_, n, rfl, hn, hl, p μ H .refl sm _ (.int _)⟩
      · exact False.elim p
    · exact False.elim p
  · exact False.elim p
def lenS (S : Store) (d : D) : Option Nat := match d with
  | .str z => if z.length ≤ sizeLine then some z.length else none
  | _ => match seqOf S d with
    | some ds => some ds.length
    | none => (dctOf S d).map (·.length)
def fnLen : FM := fun ds S => match ds with
  | [d] => match lenS S d with
    | some n => .ok (.int n) S
    | none => .stuck
  | _ => .stuck
theorem c_len : CallD nm X (.builtin "len") fnLen := by
  intro pins s σ H xs us Q I r h
  obtain ⟨ds, S, μ, E, rv, sm, p⟩ := h
  unfold fnLen at p
  split at p
  · rename_i d
    obtain ⟨v, rfl, r1⟩ := one_rv rv
    split at p
    · rename_i n hn
      have q := p μ H .refl sm _ (.int _)
      unfold lenS at hn
      split at hn
      · split at hn
        · rename_i hl; cases hn; cases r1
          exact call_len pins s σ H _ us Q I r ⟨_, _, rfl, ⟨hl, rfl⟩, q⟩
        · cases hn
      · split at hn
        · rename_i ds hds
          cases hn
          obtain ⟨a, xs, rfl, hs, r2⟩ := seqOf_sq sm r1 hds
          refine call_len pins s σ H _ us Q I r ⟨_, _, rfl, ?_, q⟩
          rcases hs with hs | hs
          · exact .inl ⟨xs, hs, r2.length.symm⟩
          · exact .inr ⟨xs, hs, r2.length.symm⟩
        · obtain ⟨kvs, hk, rfl⟩ := Option.map_eq_some_iff.mp hn
          obtain ⟨n, a, ys, rfl, rfl, _, _, e1, r2⟩ := dctOf_at sm r1 hk
          cases r with | cons r t =>
          cases r; cases t
          exact d_len I (.inl e1) fun t s' I' => ⟨.int _, H, I', ⟨t, rfl⟩, by rw [rk_len r2]; exact q⟩
    · exact False.elim p
  · exact False.elim p
def fnList (new : Bool) : FM := fun ds S => match ds with
  | [d] => match seqOf S d with
    | some ds => fin new ds S
    | none => .stuck
  | _ => .stuck
theorem c_list (new : Bool) : CallD nm X (.type "list") (fnList new) := by
  intro pins s σ H xs us Q I r h
  obtain ⟨ds, S, μ, E, rv, sm, p⟩ := h
  unfold fnList at p
  split at p
  · obtain ⟨v, rfl, r1⟩ := one_rv rv
    split at p
    · rename_i ds hds
      obtain ⟨a, xs, rfl, hs, r2⟩ := seqOf_sq sm r1 hds
      exact call_list_of pins s σ H _ us Q I r ⟨a, xs, rfl, hs, fun l hl => fin_post sm r2 hl p⟩
    · exact False.elim p
  · exact False.elim p
def fnTuple : FM := fun ds S => match ds with
  | [.tup ds] => .ok (.tup ds) S
  | [d] => match lstOf S d with
    | some ds => .ok (.tup ds) S
    | none => .stuck
  | _ => .stuck
theorem c_tuple : CallD nm X (.type "tuple") fnTuple := by
  intro pins s σ H xs us Q I r h
  obtain ⟨ds, S, μ, E, rv, sm, p⟩ := h
  unfold fnTuple at p
  split at p
  · obtain ⟨v, rfl, r1⟩ := one_rv rv
    cases r1 with | tup t r2 =>
    exact call_tuple_of pins s σ H _ us Q I r ⟨_, _, rfl, .inr ⟨t.sq, p μ H .refl sm _ (.tup t r2)⟩⟩
  · obtain ⟨v, rfl, r1⟩ := one_rv rv
    split at p
    · rename_i ds hds
      obtain ⟨a, xs, rfl, hs, r2⟩ := lstOf_sq sm r1 hds
      exact call_tuple_of pins s σ H _ us Q I r ⟨a, xs, rfl, .inl ⟨hs, fun l hl => tup_post sm r2 hl p⟩⟩
    · exact False.elim p
  · exact False.elim p
def fnAbs : FM := fun ds S => match ds with
  | [.int i] => .ok (.int (if i < 0 then -i else i)) S
  | _ => .stuck
theorem c_abs : CallD nm X (.builtin "abs") fnAbs := by
  intro pins s σ H xs us Q I r h
  obtain ⟨ds, S, μ, E, rv, sm, p⟩ := h
  unfold fnAbs at p
  split at p
  · obtain ⟨v, rfl, r1⟩ := one_rv rv; cases r1
    exact call_abs pins s σ H _ us Q I r ⟨_, rfl, p μ H .refl sm _ (.int _)⟩
  · exact False.elim p
def fnStr : FM := fun ds S => match ds with
  | [.int i] => if i.natAbs.log2 < 1920 then .ok (.str (Str.ofString (toString i))) S else .stuck
  | _ => .stuck
theorem c_str : CallD nm X (.type "str") fnStr := by
  intro pins s σ H xs us Q I r h
  obtain ⟨ds, S, μ, E, rv, sm, p⟩ := h
  unfold fnStr at p
  split at p
  · obtain ⟨v, rfl, r1⟩ := one_rv rv; cases r1
    split at p
    · rename_i c
      exact call_str_int pins s σ H _ us Q I r ⟨_, rfl, c, p μ H .refl sm _ (.str _)⟩
    · exact False.elim p
  · exact False.elim p
def fnOrd : FM := fun ds S => match ds with
  | [.str z] => if z.length = 1 then .ok (.int (z.cps.getD 0 0 : Nat)) S else .stuck
  | _ => .stuck
theorem c_ord : CallD nm X (.builtin "ord") fnOrd := by
  intro pins s σ H xs us Q I r h
  obtain ⟨ds, S, μ, E, rv, sm, p⟩ := h
  unfold fnOrd at p
  split at p
  · obtain ⟨v, rfl, r1⟩ := one_rv rv; cases r1
    split at p
    · rename_i c
      exact call_ord pins s σ H _ us Q I r ⟨_, rfl, c, p μ H .refl sm _ (.int _)⟩
    · exact False.elim p
  · exact False.elim p
inductive Ty where
  | none | bool | int | str | tuple | list | dict
def Ty.n : Ty → String
  | .none => "NoneType" | .bool => "bool" | .int => "int" | .str => "str" | .tuple => "tuple" | .list => "list" | .dict => "dict"
def isTy (a b : Ty) : Bool := match b with
  | .none => match a with | .none => true | _ => false
  | .bool => match a with | .bool => true | _ => false
  | .int => match a with | .int => true | .bool => true | _ => false
  | .str => match a with | .str => true | _ => false
  | .tuple => match a with | .tuple => true | _ => false
  | .list => match a with | .list => true | _ => false
  | .dict => match a with | .dict => true | _ => false
theorem kitB_ty (a b : Ty) : kitB a.n b.n = some (isTy a b) := by
  cases a <;> cases b <;> decide +kernel
def tyS (S : Store) (d : D) : Option Ty := match d with
  | .non => some .none
  | .bl _ => some .bool
  | .int _ => some .int
  | .str _ => some .str
  | .tup _ => some .tuple
  | .lst _ => some .list
  | .scr _ => some .list
  | .obj n => match S[n]? with
    | some (.lst _) => some .list
    | some (.dct _) => some .dict
    | _ => none
theorem tyS_of {K : PySem.W.Frag} {mg : Str → Option Value} {H : Hp} {μ : List Addr} {S : Store} {v : V} {d : D} {t : Ty} (s : Sim nm K mg μ S H) (r : RV K H μ v d) (h : tyS S d = some t) : TyX K H v (.type t.n) := by
  unfold tyS at h
  split at h
  · cases h; cases r; exact .base .non
  · cases h; cases r; exact .base (.bl _)
  · cases h; cases r; exact .base (.int _)
  · cases h; cases r; exact .base (.str _)
  · cases h; cases r with | tup t r =>
    rcases t with ⟨_, t | ⟨o, t⟩⟩ | ⟨o, its, n, k1, k2, _⟩
    · exact .base (.tup t)
    · exact .fTuple t
    · exact .kTuple k1 k2
  · cases h; cases r with | lst t r => exact .base (.lst t.2)
  · cases h; cases r with | scr t r =>
    rcases t with ⟨_, t | ⟨o, t⟩⟩ | ⟨o, its, n, k1, k2, _⟩
    · exact .base (.lst t)
    · exact .base (.frz t)
    · exact .kList k1 k2
  · cases r with | obj e =>
    split at h
    · rename_i hds; cases h
      obtain ⟨xs, e1, _⟩ := s.ob _ _ _ e hds
      exact .base (.lst e1)
    · rename_i hds; cases h
      obtain ⟨xs, e1, _⟩ := s.ob _ _ _ e hds
      exact .base (.dK e1)
    · cases h
def mIsi (T : Ty) (a : EM) : EM := mUn (fun S d => (tyS S d).map fun t => .bl (isTy t T)) a
theorem me_isi (T : Ty) {a : Expr} {m : EM} {p p2 : Pos} {x : Str} (ha : ME nm X a m) (hg : GlN X "isinstance") (hm : X.mg "isinstance" = none) (hgT : GlN X x) (hmT : X.mg x = none) (hb : bootBuiltins "isinstance" = some (.builtin "isinstance")) (hT : bootBuiltins x = some (.type T.n))
    (he : starEach (a :: [.Name x p2]) X.env = (false, eval a X.env) :: starEach [.Name x p2] X.env := by rfl) (he2 : starEach (.Name x p2 :: []) X.env = (false, eval (.Name x p2) X.env) :: starEach [] X.env := by rfl) (hpl : (backTo pos (starEach [.Name x p2] X.env)).any (·.1) = false := by rfl) :
    ME nm X (.Call (.Name "isinstance" p) [a, .Name x p2] [] pos) (mIsi T m) := by
  refine ⟨fun W tk => (pe_callB call_isi hg.g hm hb (pa_cons (ha.run W tk) (pa_cons (pe_bltn (v := .ty T.n) hgT.g hmT hT rfl hgT.n hgT.d) pa_nil he2) he) hg.n hg.d he hpl).imp fun σ H Q hh => ?_⟩
  obtain ⟨e, S, μ, E, s, p⟩ := hh
  refine ⟨e, S, μ, E, s, (Post.bind p).mono fun d S1 μ1 H1 x1 s1 p1 v rv => ?_⟩
  split at p1
  · rename_i d' hd
    obtain ⟨t, ht, rfl⟩ := Option.map_eq_some_iff.mp hd
    exact ⟨v, .ty T.n, .type t.n, .type T.n, isTy t T, rfl, .ty _, tyS_of s1 rv ht, kit_ty (kitB_ty t T), p1 μ1 H1 .refl s1 _ (.bl _)⟩
  · exact False.elim p1
def rMtD (nm : Nms) (X : Cx) (F : FM) : V → List V → Hp → VK → Prop := fun x xs H Q => rCallD nm X F (x :: xs) H Q
abbrev MtD (nm : Nms) (X : Cx) (id : String) (F : FM) : Prop := MtR X id (rMtD nm X F)
def mBm (T : Ty) (F : FM) (o : EM) (as : AM) : EM := fun e S => (o e S).bind fun x S => match tyS S x with
  | some t => if isTy t T = true then (as e S).bind fun ds S => F (x :: ds) S else .stuck
  | none => .stuck
theorem tyV_of {K : PySem.W.Frag} {mg : Str → Option Value} {H : Hp} {μ : List Addr} {S : Store} {v : V} {d : D} {t T : Ty} (hT : T = .str ∨ T = .list ∨ T = .dict) (s : Sim nm K mg μ S H) (r : RV K H μ v d) (h : tyS S d = some t) (ht : isTy t T = true) : tyV K T.n v H := by
  have e : t = T := by
    rcases hT with rfl | rfl | rfl <;> cases t <;> first | rfl | cases ht
  subst e
  clear ht
  unfold tyS at h
  split at h
  · cases h; rcases hT with z | z | z <;> cases z
  · cases h; rcases hT with z | z | z <;> cases z
  · cases h; rcases hT with z | z | z <;> cases z
  · cases h; cases r; rfl
  · cases h; rcases hT with z | z | z <;> cases z
  · cases h; cases r with | lst t r => exact .inl ⟨rfl, _, .of t.2⟩
  · cases h; cases r with | scr t r => exact .inl ⟨rfl, _, t.sq⟩
  · cases r with | obj e =>
    split at h
    · rename_i hds; cases h
      obtain ⟨xs, e1, _⟩ := s.ob _ _ _ e hds
      exact .inl ⟨rfl, _, .of e1⟩
    · rename_i hds; cases h
      obtain ⟨xs, e1, _⟩ := s.ob _ _ _ e hds
      exact .inr (.inr (.inl ⟨rfl, .inl ⟨_, e1⟩⟩))
    · cases h
theorem me_bm {T : Ty} {id : String} {name : Str} {F : FM} {o : Expr} {mo : EM} {apos : Pos} (pa : PlainAttrs T.n) (slot : Slot T.n name id) (hty : typeOf (.builtin id) = pure (.type "method_descriptor")) (hm : MtD nm X id F) (ho : ME nm X o mo) (ha : MA nm X (e :: es) ma) (hT : T = .str ∨ T = .list ∨ T = .dict := by simp)
    (hbase : attributeBase o name X.env (eval o X.env) = eval o X.env := by rfl)
    (hfew : ((backTo pos (starEach (e :: es) X.env)).all (fun x => !x.1) && (backToKw pos (keywordEach [] X.env)).all (fun x => x.1.isSome)
      && decide ((e :: es).length + ([] : List Keyword).length + (if ([] : List Keyword).isEmpty then 0 else 1) < 30)) = true := by rfl)
    (hline : (apos.endLine == pos.line) = true := by rfl) (hs : starEach (e :: es) X.env = (false, eval e X.env) :: starEach es X.env := by rfl) (hplain : (backTo pos (starEach es X.env)).any (·.1) = false := by rfl) :
    ME nm X (.Call (.Attribute o name apos) (e :: es) [] pos) (mBm T F mo ma) := by
  refine ⟨fun W tk => ⟨fun pins s σ H Q I h => ?_⟩⟩
  obtain ⟨ev, S, μ, E, sm, q⟩ := h
  refine wpAny_Call_method_late hbase hfew hline rfl (thn ((ho.run W tk).run pins s σ H (fun x H1 => ∃ S1 μ1 d, EvR nm X H1 μ1 ev σ ∧ Sim nm X.K X.mg μ1 S1 H1 ∧ RV X.K H1 μ1 x d ∧ tyV X.K T.n x H1 ∧ PostX nm X W μ1 H1 σ ((ma ev S1).bind fun ds S => F (d :: ds) S) fun d _ μ' H' => ∀ v, RV X.K H' μ' v d → Q v H') I
    ⟨ev, S, μ, E, sm, (Post.bind q).mono fun d S1 μ1 H1 x1 s1 q1 v rv => ?_⟩) fun v s1 ⟨x, H1, I1, r1, S1, μ1, d, E1, sm1, rd, ty, q1⟩ => ?_)
  · split at q1
    · rename_i t ht
      split at q1
      · rename_i hi; exact ⟨S1, μ1, d, E.ext x1, s1, rv, tyV_of hT s1 rv ht hi, q1⟩
      · exact False.elim q1
    · exact False.elim q1
  · obtain ⟨h1, h2⟩ := tyV_is I1 r1 ty
    refine ⟨T.n, id, pa, slot, hty, h1, h2, ?_⟩
    have hA := (ha.run W tk).run pos pins s1 σ H1 (fun vs H2 => ∃ ds S2 μ2, RVs X.K H2 μ2 (x :: vs) (d :: ds) ∧ Sim nm X.K X.mg μ2 S2 H2 ∧ PostX nm X W μ2 H2 σ (F (d :: ds) S2) fun d _ μ' H' => ∀ v, RV X.K H' μ' v d → Q v H') I1
      ⟨ev, S1, μ1, E1, sm1, (Post.bind q1).mono fun ds S2 μ2 H2 x2 s2 q2 vs rvs => ⟨ds, S2, μ2, .cons (rd.ext x2) rvs, s2, q2⟩⟩
    rw [hs] at hA ⊢
    refine Calls.callWith_builtin (by show (false || (backTo pos (starEach es X.env)).any (·.1)) = false; rw [hplain] <;> rfl) (Calls.evalArgs_plain ?_)
    exact thn hA fun us s2 ⟨vs, H2, I2, r2, ds, S2, μ2, rvs, sm2, q2⟩ => hm pins s2 σ H2 x vs v us Q I2 r1 r2 ⟨d :: ds, S2, μ2, _, rvs, sm2, q2⟩
theorem me_bm0 {T : Ty} {id : String} {name : Str} {F : FM} {o : Expr} {mo : EM} {apos : Pos} (pa : PlainAttrs T.n) (slot : Slot T.n name id) (hty : typeOf (.builtin id) = pure (.type "method_descriptor")) (hm : MtD nm X id F) (ho : ME nm X o mo) (hT : T = .str ∨ T = .list ∨ T = .dict := by simp)
    (hbase : attributeBase o name X.env (eval o X.env) = eval o X.env := by rfl) (hline : (apos.endLine == pos.line) = true := by rfl) :
    ME nm X (.Call (.Attribute o name apos) [] [] pos) (mBm T F mo mNil) := by
  refine ⟨fun W tk => (pe_bm0 pa slot hty hm (ho.run W tk) hbase hline).imp fun σ H Q h => ?_⟩
  obtain ⟨e, S, μ, E, s, p⟩ := h
  refine ⟨e, S, μ, E, s, (Post.bind p).mono fun d S1 μ1 H1 x1 s1 p1 v rv => ?_⟩
  split at p1
  · rename_i t ht
    split at p1
    · rename_i hi; exact ⟨tyV_of hT s1 rv ht hi, [d], S1, μ1, _, .cons rv .nil, s1, p1⟩
    · exact False.elim p1
  · exact False.elim p1
theorem rvs_cons {K : PySem.W.Frag} {H : Hp} {μ : List Addr} {x : V} {xs : List V} {d : D} {ds : List D} (r : RVs K H μ (x :: xs) (d :: ds)) : RV K H μ x d ∧ RVs K H μ xs ds := by
  cases r with | cons r t => exact ⟨r, t⟩
/-- a list of the store is written -/
theorem lst_wr {W : WX} {σ : St} {S S' : Store} {μ : List Addr} {H : Hp} {n : Nat} {a : Addr} {xs : List V} {ds : List D} {v : V} {d : D} {E : PX} {Q : VK} (sm : Sim nm X.K X.mg μ S H) (en : μ[n]? = some a) (nf : NF H a) (r : RVs X.K H μ xs ds) (rv : RV X.K H μ v d)
    (p : Post nm X.K X.mg μ H (.ok d (S.set n (.lst ds))) (fun d _ μ' H' => ∀ v, RV X.K H' μ' v d → Q v H') E) : Q v (upd H a (.lst xs)) := by
  have x := Ext.wrote (H := H) (u := .lst xs) (List.mem_of_getElem? en) nf
  exact p μ _ x (sm.wrote en ⟨xs, upd_same, RVs.ext x _ r⟩) v (rv.ext x)
def fnAppend : FM := fun ds S => match ds with
  | [.obj n, d] => match S[n]? with
    | some (.lst ds) => if ds.length < sizeLine then .ok .non (S.set n (.lst (ds ++ [d]))) else .stuck
    | _ => .stuck
  | _ => .stuck
theorem t_append : MtD nm X "list.append" fnAppend := by
  intro pins s σ H x xs v us Q I rx r h
  obtain ⟨ds, S, μ, E, rv, sm, p⟩ := h
  unfold fnAppend at p
  split at p
  · rename_i n d
    obtain ⟨r1, rt⟩ := rvs_cons rv
    obtain ⟨w, rfl, r2⟩ := one_rv rt
    clear rt
    split at p
    · rename_i ds hds
      split at p
      · rename_i hl
        cases r1 with | @obj a _ en =>
        obtain ⟨xs, e1, rs⟩ := sm.ob _ _ _ en hds
        exact mt_append pins s σ H _ _ v us Q I rx r ⟨a, xs, w, rfl, rfl, e1, by rw [rs.length]; exact hl, lst_wr (W := fun _ _ _ _ => False) (σ := σ) (S' := S) sm en (NF.of e1) (rs.append (.cons r2 .nil)) .non p⟩
      · exact False.elim p
    · exact False.elim p
  · exact False.elim p
def fnExtend : FM := fun ds S => match ds with
  | [.obj n, d] => match S[n]? with
    | some (.lst ds) => match d with
      | .scr _ => .stuck
      | _ => match lstOf S d with
        | some es => if ds.length + es.length ≤ sizeLine then .ok .non (S.set n (.lst (ds ++ es))) else .stuck
        | none => .stuck
    | _ => .stuck
  | _ => .stuck
theorem lstOf_at {K : PySem.W.Frag} {mg : Str → Option Value} {H : Hp} {μ : List Addr} {S : Store} {v : V} {d : D} {ds : List D} (s : Sim nm K mg μ S H) (r : RV K H μ v d) (hn : ∀ l, d ≠ .scr l) (h : lstOf S d = some ds) : ∃ a xs, v = .ref a ∧ H a = some (.lst xs) ∧ RVs K H μ xs ds := by
  unfold lstOf at h
  split at h
  · cases h; cases r with | lst t r => exact ⟨_, _, rfl, t.2, r⟩
  · exact absurd rfl (hn _)
  · split at h
    · rename_i hds
      cases h
      cases r with | obj e =>
        obtain ⟨xs, e1, r⟩ := s.ob _ _ _ e hds
        exact ⟨_, xs, rfl, e1, r⟩
    · cases h
  · cases h
theorem t_extend : MtD nm X "list.extend" fnExtend := by
  intro pins s σ H x xs v us Q I rx r h
  obtain ⟨ds, S, μ, E, rv, sm, p⟩ := h
  unfold fnExtend at p
  split at p
  · rename_i n d
    obtain ⟨r1, rt⟩ := rvs_cons rv
    obtain ⟨w, rfl, r2⟩ := one_rv rt
    clear rt
    split at p
    · rename_i ds hds
      split at p
      · exact False.elim p
      · rename_i hns
        split at p
        · rename_i es hes
          split at p
          · rename_i hl
            cases r1 with | @obj a _ en =>
            obtain ⟨xs, e1, rs⟩ := sm.ob _ _ _ en hds
            obtain ⟨b, zs, rfl, e2, rs2⟩ := lstOf_at sm r2 (fun l z => hns l z) hes
            exact mt_extend pins s σ H _ _ v us Q I rx r ⟨a, b, xs, zs, rfl, rfl, e1, e2, by rw [rs.length, rs2.length]; exact hl, lst_wr (W := fun _ _ _ _ => False) (σ := σ) (S' := S) sm en (NF.of e1) (rs.append rs2) .non p⟩
          · exact False.elim p
        · exact False.elim p
    · exact False.elim p
  · exact False.elim p
/-- xs.pop(i), d.pop(k), there -/
def fnPopL : FM := fun ds S => match ds with
  | [.obj n, .int i] => match S[n]? with
    | some (.lst ds) => match ixN ds.length i with
      | some k => match ds[k]? with
        | some d => if i < 2 ^ 62 then .ok d (S.set n (.lst (ds.eraseIdx k))) else .stuck
        | none => .stuck
      | none => .stuck
    | _ => .stuck
  | _ => .stuck
theorem t_popL : MtD nm X "list.pop" fnPopL := by
  intro pins s σ H x xs v us Q I rx r h
  obtain ⟨ds, S, μ, E, rv, sm, p⟩ := h
  unfold fnPopL at p
  split at p
  · rename_i n i
    obtain ⟨r1, rt⟩ := rvs_cons rv
    obtain ⟨w, rfl, r2⟩ := one_rv rt
    clear rt rv
    cases r2
    split at p
    · rename_i ds hds
      split at p
      · rename_i k hk
        split at p
        · rename_i d hd
          split at p
          · rename_i hl
            cases r1 with | @obj a _ en =>
            obtain ⟨xs, e1, rs⟩ := sm.ob _ _ _ en hds
            obtain ⟨y, e2, ry⟩ := rs.get hd
            obtain ⟨h1, h2, h3, h4⟩ := ixN_seq hk
            have hz : xs.length ≤ sizeLine := (I.lstM e1).1
            have := rs.length
            have h63 : (sizeLine : Int) < 2 ^ 62 := by decide
            exact mt_popAt pins s σ H _ _ v us Q I rx r ⟨a, xs, i, k, y, rfl, rfl, e1, by omega, by omega, by rw [rs.length]; exact h1, e2, lst_wr (W := fun _ _ _ _ => False) (σ := σ) (S' := S) sm en (NF.of e1) (rs.eraseIdx k) ry p⟩
          · exact False.elim p
        · exact False.elim p
      · exact False.elim p
    · exact False.elim p
  · exact False.elim p
def getX (ex : List (Nat × Nat × List (Nat × D))) (i c f : Nat) : Option D := match ex with
  | [(j, c', fs)] => if j = i ∧ c' = c then getN fs f else none
  | _ => none
def mXf (i c f : Nat) : EM := fun e S => match getX e.ex i c f with
  | some d => .ok d S
  | none => .stuck
/-- what the written part says of an exception class with fields -/
def XcOk (K : PySem.W.Frag) (mg : Str → Option Value) (nm : Nms) (c f : Nat) : Prop := f < nm.most ∧ ∃ C, mg (nm.cls c) = some (.ref C) ∧ PySem.W.findIn K (.ref C) "__getattribute__" = some (some (.builtin "BaseException.__getattribute__")) ∧ PySem.W.findIn K (.ref C) "__getattr__" = some none ∧
  PySem.W.subIn K (.ref C) (.type "BaseException") = some true ∧ PySem.W.findIn K (.ref C) (nm.fld f) = some none ∧ PySem.W.hasDictIn K C = true
theorem me_xf (i c f : Nat) {n fx : Str} {p : Pos} {is : List Nat} (h : XcOk X.K X.mg nm c f) (hv : visAll is X.N X.env.scope = true) (hf : nm.fld f = fx) (hN : X.N[i]? = some n := by rfl) (hi : is.contains i = true := by rfl) (hb : attributeBase (.Name n p) fx X.env (eval (.Name n p) X.env) = eval (.Name n p) X.env := by rfl) : ME nm X (.Attribute (.Name n p) fx pos) (mXf i c f) := by
  subst hf
  obtain ⟨hv, hd, hcd⟩ := vis_of hv hi hN
  obtain ⟨hl, C, h1, h2, h3, h4, h5, h6⟩ := h
  refine ⟨fun W tk => ⟨fun pins s σ H Q I hh => ?_⟩⟩
  obtain ⟨e, S, μ, E, sm, q⟩ := hh
  unfold mXf at q
  split at q
  · rename_i d hd'
    unfold getX at hd'
    split at hd'
    · rename_i j c' fs hex
      split at hd'
      · rename_i hc
        obtain ⟨a, oe, C', dd, g1, g2, ⟨g3, vs, g4⟩, g5⟩ := E.ex (j, c', fs) (by rw [hex]; exact List.mem_cons_self)
        obtain ⟨rfl, rfl⟩ := hc
        obtain ⟨k1, k2⟩ := g5
        rw [h1] at k1
        cases k1
        cases dd with
        | none =>
          have k2 : fs = [] := k2
          subst k2
          cases hd'
        | some dx =>
          obtain ⟨gs, n1, n2, n3, _⟩ := k2
          rcases rf_get f hl n3 with ⟨_, z⟩ | ⟨w, d2, z1, z2, z3⟩
          · rw [z] at hd'; cases hd'
          · rw [z2] at hd'; cases hd'
            refine attr_of hb (thn ((pe_var hN hv hd hcd).run pins s σ H (fun x H1 => x = .ref a ∧ H1 = H) I ⟨_, g1, rfl, rfl⟩) fun u s1 hh => ?_)
            obtain ⟨x, H1, I1, rx, rfl, rfl⟩ := hh
            obtain rfl : u = Value.ref a := rx
            obtain ⟨ha, _⟩ := I1.pin (a, oe) (List.mem_append_left _ g2)
            have hx : ObjOk X.prog X.w H1 s1.heap dx (.xd gs) := I1.hok dx _ n2
            obtain ⟨mA, hns, hr⟩ := hx
            obtain ⟨od, ho, hlk⟩ := lookIn_ns hns
            obtain ⟨u, hu, ru⟩ := RelO.some_of (v := w) (o := mA (nm.fld f)) (by rw [← z1]; exact hr (nm.fld f))
            have J : PySem.W.InstAt s1.heap a oe C (some od) := ⟨ha, g3.1, by unfold PySem.W.notCls; rw [g4] <;> rfl, by rw [g3.2]; exact ho⟩
            exact HandSPX.exc_get I1.kIn J h2 h3 h4 (PySem.W.findObj_own h6 h5 rfl (by rw [hlk, hu])) (handed_of ru) ⟨w, H1, I1.tok _, ru, q μ H1 .refl sm w z3⟩
      · cases hd'
    · cases hd'
  · exact False.elim q
def spX2 (K : PySem.W.Frag) (f1 f2 : Str) : Sp := fun vs H Q _ => ∃ (a C : Addr) (y1 y2 : V), vs = [.ref a, y1, y2] ∧ OexC K C ∧ PySem.W.findIn K (.ref C) f1 = some none ∧ PySem.W.findIn K (.ref C) f2 = some none ∧ H a = some (exo a C none) ∧
  ∀ dx, H dx = none → dx ≠ a → Q .non (upd (upd (upd H dx (exd dx [(f1, y1)])) a (exo a C (some dx))) dx (exd dx [(f2, y2), (f1, y1)]))
theorem exc2_den {P : Program} {w : World} {K : PySem.W.Frag} {mg : Str → Option Value} {base : Heap} {x qual : Str} {st : Stmt} {f : Addr} {fd : FuncData} {n0 n1 n2 f1 f2 : Str} {k : Nat} (F : Fun K x qual st f fd) (S : FnScope [n0, n1, n2] [n0, n1, n2] (defScope st))
    (hb : ∀ (cdv : Value) (A : Around) (outer : List Env) (s : Shared) (H : Hp) (E : XK), PSs (cxOf (L2.CX P w) P w K mg base [n0, n1, n2] qual (defScope st) f cdv A outer s H E) (defBody st) (tSeq (tOst K f1 (tVar 0) (tVar 1)) (tOst K f2 (tVar 0) (tVar 2)))) :
    FnOk P w K mg base (L2.CX P w) (k + 1) f fd [n0, n1, n2] (spX2 K f1 f2) := by
  refine F.okX S (fun vs H Q E h => ?_) fun cdv A outer s H vs Q E hr h => ?_
  · obtain ⟨a, C, y1, y2, rfl, _⟩ := h; rfl
  · obtain ⟨a, C, y1, y2, rfl, T, g1, g2, ea, q⟩ := h
    refine ⟨_, hb cdv A outer s H E, ?_⟩
    refine ⟨y1, rfl, .ref a, rfl, a, C, rfl, T, g1, .inl ⟨ea, fun dx nd ne => ?_⟩⟩
    refine ⟨y2, rfl, .ref a, rfl, a, C, rfl, T, g2, .inr ⟨dx, [(f1, y1)], upd_same, ?_, by simp, q dx nd ne⟩⟩
    rw [upd_ne ne, upd_same]
def Exc2Ok (P : Program) (w : World) (K : PySem.W.Frag) (mg : Str → Option Value) (base : Heap) (nm : Nms) (k c f1 f2 : Nat) : Prop := ∃ C fI fd ps, mg (nm.cls c) = some (.ref C) ∧ OexC K C ∧ PySem.W.findIn K (.ref C) "__init__" = some (some (.ref fI)) ∧
  PySem.W.typeIn K (.ref fI) = some (.type "function") ∧ ps.length = 3 ∧ Binds K fd ps [] ∧ FnOk P w K mg base (L2.CX P w) k fI fd ps (spX2 K (nm.fld f1) (nm.fld f2)) ∧ PySem.W.findIn K (.ref C) (nm.fld f1) = some none ∧ PySem.W.findIn K (.ref C) (nm.fld f2) = some none ∧ f1 < nm.most ∧ f2 < nm.most
def mRaise2 (c f1 f2 : Nat) (as : AM) : SM := fun e S => (as e S).toS e fun ds S => match ds with
  | [x, y] => .exc c [(f2, y), (f1, x)] e S
  | _ => .stuck
theorem ms_raise2 {k c f1 f2 : Nat} {x : Str} {p pos' : Pos} {a b : Expr} (h : Exc2Ok X.prog X.w X.K X.mg X.base nm k c f1 f2) (hr : Room (k + 1) X.A) (hc : X.calm = true) (hg : GlN X x) (ha : MA nm X [a, b] ma) (hx : nm.cls c = x)
    (he : starEach (a :: [b]) X.env = (false, eval a X.env) :: starEach [b] X.env := by rfl) (hpl : (backTo pos' (starEach [b] X.env)).any (·.1) = false := by rfl) : MS nm X (.Raise (some (.Call (.Name x p) [a, b] [] pos')) none pos) (mRaise2 c f1 f2 ma) := by
  subst hx
  obtain ⟨C, fI, fd, ps, h1, h2, h3, h4, hps, h5, h6, h7, h8, h9, h10⟩ := h
  exact ⟨fun W tk => (ps_raise hc tk (pmk_oex h2 h3 h4 h6 hr h5 .nil passL hg.g h1 (ha.run W tk) hg.d he hpl)).imp fun D σ H hh => by
    obtain ⟨e, S, μ, E, s, p⟩ := hh
    refine ⟨e, S, μ, E, s, (post_len ha (PostS.toS E p)).mono fun ds S1 μ1 H1 x1 s1 p1 vs rvs => ?_⟩
    obtain ⟨hl, p1⟩ := p1
    split at p1
    · rename_i d1 d2
      obtain ⟨v1, v2, rfl, r1, r2⟩ := two_rv rvs
      refine ⟨by simp, fun a na => ⟨a, C, v1, v2, rfl, h2, h7, h8, upd_same, fun dx nd ne => ⟨rfl, dx, _, ?_, upd_same, ?_, ?_⟩⟩⟩
      · rw [upd_ne ne.symm, upd_same]
      · rw [upd_ne ne] at nd; exact nd
      · have nd1 : H1 dx = none := by rw [upd_ne ne] at nd; exact nd
        have hE : ∀ b, b ≠ a → b ≠ dx → upd (del (upd (upd (upd (upd H1 a (exo a C none)) dx (exd dx [(nm.fld f1, v1)])) a (exo a C (some dx))) dx (exd dx [(nm.fld f2, v2), (nm.fld f1, v1)])) a) dx (.xd [(nm.fld f2, v2), (nm.fld f1, v1)]) b = H1 b := fun b hb1 hb2 => by
          rw [upd_ne hb2, del_ne hb1, upd_ne hb2, upd_ne hb1, upd_ne hb2, upd_ne hb1]
        have x : Ext μ1 H1 μ1 (upd (del (upd (upd (upd (upd H1 a (exo a C none)) dx (exd dx [(nm.fld f1, v1)])) a (exo a C (some dx))) dx (exd dx [(nm.fld f2, v2), (nm.fld f1, v1)])) a) dx (.xd [(nm.fld f2, v2), (nm.fld f1, v1)])) :=
          ⟨⟨⟨[], by simp⟩, fun b q n => absurd q n, fun b o n hb => by rw [hE b (ne_of_none hb na) (ne_of_none hb nd1)]; exact hb⟩, fun b o u hb => by rw [hE b (ne_of_none hb na) (ne_of_none hb nd1)]; exact hb⟩
        have s2 := s1.keep x fun b hb => by
          obtain ⟨u, e1⟩ := s1.there hb
          exact hE b (ne_of_none e1 na) (ne_of_none e1 nd1)
        exact p1 σ μ1 _ C (some dx) x s2 ((E.ext x1).ext x) ⟨h1, _, s1.fresh nd1, upd_same, .cons ⟨rfl, h10, r2.ext x⟩ (.cons ⟨rfl, h9, r1.ext x⟩ .nil), by simp⟩
    · exact False.elim p1⟩
end
end BS
namespace BS
open PySem PySem.Spec PyProof.Rows L2
/-- the law's own promise -/
def spLaw (K : PySem.W.Frag) : Sp := fun vs H Q _ => ∃ (a : Addr) (ns : List Int), vs = [.ref a] ∧ SqL K H a (ns.map V.int) ∧ ns.length ≤ 63 ∧ ∀ H', Q (.bl true) H'
theorem law_end {P : Program} {w : World} {K : PySem.W.Frag} {mg : Str → Option Value} {base : Heap} {nm : Nms} {k : Nat} {fa : Addr} {fd : FuncData} {x : Str} {F : FM} (h : FnOk P w K mg base (L2.CX P w) k fa fd [x] (spD nm K mg 1 F))
    (hF : ∀ ns : List Int, ns.length ≤ 63 → ∃ S, F [.scr (ns.map .int)] [] = .ok (.bl true) S) : FnOk P w K mg base (L2.CX P w) k fa fd [x] (spLaw K) := by
  refine h.imp fun vs H Q E hh => ?_
  obtain ⟨a, ns, rfl, hs, hl, q⟩ := hh
  obtain ⟨S, e⟩ := hF ns hl
  refine ⟨[.scr (ns.map .int)], [], [], .cons (.scr ?_ (rvs_ints ns)) .nil, rfl, ⟨rfl, List.nodup_nil, fun n a o h => by simp at h⟩, ?_⟩
  · rcases hs with hs | hs
    · exact .inl ⟨by simp, hs⟩
    · exact .inr hs
  · rw [e]
    intro μ' H' x s v r
    cases r
    exact q H'
theorem walk {l : PySem.W.OpenLaw} {q : Program} {loose : List Str} {XP : (Str → Option Value) → Heap → Prop} {YP : World → Heap → Prop} {d : DefRec} {K : Params → PySem.W.Frag} {k : Nat} {x : Str} (hn : l.most = some 63) (hdf : d.params.defaults = []) (hr : Room k callerA)
    (hY : ∀ (w : World) (h : Heap), YP w h → (K w.params).In h)
    (F : ∀ (w : World) (mg : Str → Option Value) (fa : Addr) (h : Heap), (K w.params).In h → h.Ns mainGlobals mg → mg d.name = some (.ref fa) →
      ∃ fd : FuncData, (∀ (s : Shared) (u : Value), BindsTo s fd ⟨[u], []⟩ [(x, u)]) ∧ ∀ base : Heap, (K w.params).In base → base.Ns mainGlobals mg → FnOk l.prog w (K w.params) mg base (L2.CX l.prog w) k fa fd [x] (spLaw (K w.params))) :
    PySem.W.WalkO q loose XP YP l.row.toRowW d [] (fun f vs => PySem.call f vs) :=
  L2.walk_of (n := 63) (k := k) (x := x) (CX := fun w => L2.CX l.prog w) (sp := fun w => spLaw (K w.params)) hn (by decide) hdf hr hY F (fun _ _ a ns hl _ hS => ⟨a, ns, rfl, hS, hl, fun _ => rfl⟩) fun _ _ _ _ _ z => by
    obtain ⟨_, _, _, _, _, _, _, _, _, _, _, _, z⟩ := z
    exact z.elim
section
variable {P : Program} {w : World} {K : PySem.W.Frag} {mg : Str → Option Value} {base : Heap} {nm : Nms} {h : Heap}
theorem gc_int {x : Str} {i : Int} {t : Tok} (X : K.In h) (G : h.Ns mainGlobals mg) (a : PySem.W.nsIn K mainGlobals x = some (some (.int i t))) : GC K mg x (.int i) := ⟨_, .int i, PySem.W.mg_of X G a, ⟨t, rfl⟩, fun _ _ => .int i⟩
theorem gc_str {x z : Str} {t : Tok} (X : K.In h) (G : h.Ns mainGlobals mg) (a : PySem.W.nsIn K mainGlobals x = some (some (.str z t))) : GC K mg x (.str z) := ⟨_, .str z, PySem.W.mg_of X G a, ⟨t, rfl⟩, fun _ _ => .str z⟩
theorem uniq {c : Nat} {x : Str} {C C' : Addr} (hx : nm.cls c = x) (g : mg x = some (.ref C)) (g' : mg (nm.cls c) = some (.ref C')) : C' = C := by
  rw [hx, g] at g'; cases g'; rfl
theorem fld_one {c f : Nat} {x fx : Str} {C : Addr} (hl : f < nm.most) (hx : nm.cls c = x) (hf : nm.fld f = fx) (g : mg x = some (.ref C)) (k : Cls K C) (n : PySem.W.findIn K (.ref C) fx = some none) : FldOk K mg nm [c] f := by
  subst hf
  refine ⟨hl, fun c' hc C' g' => ?_⟩
  rcases List.mem_singleton.mp hc with rfl
  rw [uniq hx g g']
  exact ⟨k, n⟩
theorem fld_cons {c f : Nat} {cs : List Nat} (h1 : FldOk K mg nm [c] f) (h2 : FldOk K mg nm cs f) : FldOk K mg nm (c :: cs) f := by
  refine ⟨h1.1, fun c' hc C' g' => ?_⟩
  rcases List.mem_cons.mp hc with rfl | hc
  · exact h1.2 _ (List.mem_singleton.mpr rfl) C' g'
  · exact h2.2 _ hc C' g'
theorem catch_of {x : Str} {cv : Value} {yes no : List Nat} (g : mg x = some cv) (hy : ∀ c ∈ yes, ∀ C, mg (nm.cls c) = some (.ref C) → PySem.W.exmOne K (.ref C) cv = some true) (hn : ∀ c ∈ no, ∀ C, mg (nm.cls c) = some (.ref C) → PySem.W.exmOne K (.ref C) cv = some false) : Catch K mg nm x yes no := ⟨⟨cv, g, hy, hn⟩⟩
theorem catch_cons {cv : Value} {b : Bool} {c : Nat} {cs : List Nat} {x : Str} {C : Addr} (hx : nm.cls c = x) (g : mg x = some (.ref C)) (e : PySem.W.exmOne K (.ref C) cv = some b) (h : ∀ c ∈ cs, ∀ C, mg (nm.cls c) = some (.ref C) → PySem.W.exmOne K (.ref C) cv = some b) :
    ∀ c' ∈ c :: cs, ∀ C, mg (nm.cls c') = some (.ref C) → PySem.W.exmOne K (.ref C) cv = some b := by
  intro c' hc C' g'
  rcases List.mem_cons.mp hc with rfl | hc
  · rw [uniq hx g g']; exact e
  · exact h c' hc C' g'
theorem catch_nil {cv : Value} {b : Bool} : ∀ c' ∈ ([] : List Nat), ∀ C, mg (nm.cls c') = some (.ref C) → PySem.W.exmOne K (.ref C) cv = some b := fun _ h => by cases h
/-- no field is called m -/
def noFld (nm : Nms) (m : Str) : Bool := (List.range nm.most).all fun i => !decide (nm.fld i = m)
theorem noFld_of {m : Str} (h : noFld nm m = true) : ∀ i, i < nm.most → nm.fld i ≠ m := fun i hi => by
  have := List.all_eq_true.mp h i (List.mem_range.mpr hi)
  simpa using this
end
end BS
namespace BS
open PySem PySem.Spec PyProof.Rows L2
theorem exm_of {K : PySem.W.Frag} {S C : Addr} {b : Bool} (h1 : PySem.W.subIn K (.ref C) (.type "BaseException") = some true) (h2 : PySem.W.isClsIn K C = true) (h3 : PySem.W.typeIn K (.ref C) = some (.type "type")) (h4 : PySem.W.subIn K (.ref S) (.ref C) = some b) :
    PySem.W.exmOne K (.ref S) (.ref C) = some b := by
  have e1 : (PySem.W.subIn K (.ref C) (.type "BaseException") == some true) = true := by rw [h1] <;> rfl
  have e2 : ((PySem.W.clsIn K C).isSome && PySem.W.typeIn K (.ref C) == some (.type "type")) = true := by
    have h2' : (PySem.W.clsIn K C).isSome = true := h2
    rw [h2', h3] <;> rfl
  show (if (PySem.W.subIn K (.ref C) (.type "BaseException") == some true) = true then (if ((PySem.W.clsIn K C).isSome && PySem.W.typeIn K (.ref C) == some (.type "type")) = true then PySem.W.subIn K (.ref S) (.ref C) else none) else none) = some b
  rw [if_pos e1, if_pos e2]
  exact h4
theorem refs_own {c : Addr} {r : List Value} (h : PySem.HandSPX.refsVE r = true) : PySem.HandSPX.refsVE (.ref c :: r) = true := h
theorem refs_end : PySem.HandSPX.refsVE [.type "ValueError", .type "Exception", .type "BaseException", .type "object"] = true := by decide +kernel
section
variable {P : Program} {w : World} {K : PySem.W.Frag} {mg : Str → Option Value} {base : Heap} {nm : Nms}
theorem meth_mk {k c n : Nat} {m cx : Str} {F : FM} {C f : Addr} {fd : FuncData} {ps : List Str} (hx : nm.cls c = cx) (g : mg cx = some (.ref C)) (kc : Cls K C) (a : PySem.W.findIn K (.ref C) m = some (some (.ref f))) (i : PySem.W.isFn K (.ref f) = true) (kp : PySem.W.keepIn K (.ref f) = true)
    (hps : ps.length = n) (b : Binds K fd ps []) (o : FnOk P w K mg base (L2.CX P w) k f fd ps (spD nm K mg n F)) (nf : noFld nm m = true) : MethOk P w K mg base nm k c m n F :=
  ⟨C, f, fd, ps, by rw [hx]; exact g, kc, ⟨a, i, kp⟩, hps, b, o, noFld_of nf⟩
theorem make_mk {k c n : Nat} {cx : Str} {F : FM} {C f : Addr} {fd : FuncData} {ps : List Str} (hx : nm.cls c = cx) (g : mg cx = some (.ref C)) (mk : PySem.W.makesIn K C = true) (a : PySem.W.findIn K (.ref C) "__init__" = some (some (.ref f))) (i : PySem.W.isFn K (.ref f) = true) (kp : PySem.W.keepIn K (.ref C) = true)
    (hps : ps.length = n + 1) (b : Binds K fd ps []) (o : FnOk P w K mg base (L2.CX P w) k f fd ps (spD nm K mg (n + 1) F)) : MakeOk P w K mg base nm k c n F :=
  ⟨C, f, fd, ps, by rw [hx]; exact g, ⟨mk, a, i, kp⟩, hps, b, o⟩
theorem def_mk {k n : Nat} {x : Str} {F : FM} {f : Addr} {fd : FuncData} {ps : List Str} (g : mg x = some (.ref f)) (kp : PySem.W.keepIn K (.ref f) = true) (hps : ps.length = n) (b : Binds K fd ps []) (o : FnOk P w K mg base (L2.CX P w) k f fd ps (spD nm K mg n F)) : DefOk P w K mg base nm k x n F :=
  ⟨f, fd, ps, g, kp, hps, b, o⟩
/-- nothing is said of a def whose value is stuck -/
theorem fnok_stuck {k n : Nat} {f : Addr} {fd : FuncData} {ps : List Str} (hps : ps.length = n) : FnOk P w K mg base (L2.CX P w) k f fd ps (spD nm K mg n fun _ _ => .stuck) :=
  ⟨fun vs H Q E h => by obtain ⟨ds, S, μ, r, hl, _⟩ := h; rw [r.length, hl, hps], fun A outer s H args us vs Q E _ _ _ _ h => by obtain ⟨_, _, _, _, _, _, p⟩ := h; exact False.elim p⟩
theorem exc2_mk {k c f1 f2 : Nat} {cx x1 x2 : Str} {C fI : Addr} {fd : FuncData} {ps : List Str} (hx : nm.cls c = cx) (g : mg cx = some (.ref C)) (T : OexC K C) (a : PySem.W.findIn K (.ref C) "__init__" = some (some (.ref fI))) (t : PySem.W.typeIn K (.ref fI) = some (.type "function"))
    (hps : ps.length = 3) (b : Binds K fd ps []) (o : FnOk P w K mg base (L2.CX P w) k fI fd ps (spX2 K (nm.fld f1) (nm.fld f2))) (h1 : nm.fld f1 = x1) (h2 : nm.fld f2 = x2) (n1 : PySem.W.findIn K (.ref C) x1 = some none) (n2 : PySem.W.findIn K (.ref C) x2 = some none) (l1 : f1 < nm.most) (l2 : f2 < nm.most) : Exc2Ok P w K mg base nm k c f1 f2 :=
  ⟨C, fI, fd, ps, by rw [hx]; exact g, T, a, t, hps, b, o, by rw [h1]; exact n1, by rw [h2]; exact n2, l1, l2⟩
theorem xc_mk {c f : Nat} {cx x1 : Str} {C : Addr} (hx : nm.cls c = cx) (g : mg cx = some (.ref C)) (ga : PySem.W.findIn K (.ref C) "__getattribute__" = some (some (.builtin "BaseException.__getattribute__"))) (gg : PySem.W.findIn K (.ref C) "__getattr__" = some none) (eC : PySem.W.subIn K (.ref C) (.type "BaseException") = some true) (h1 : nm.fld f = x1)
    (n1 : PySem.W.findIn K (.ref C) x1 = some none) (hd : PySem.W.hasDictIn K C = true) (l : f < nm.most) : XcOk K mg nm c f :=
  ⟨l, C, by rw [hx]; exact g, ga, gg, eC, by rw [h1]; exact n1, hd⟩
end
end BS
namespace BS
open PySem PySem.Spec PyProof.Rows L2
section
variable {nm : Nms} {X : Cx} {tg : Expr} {e : Expr} {me : EM} {pos : Pos}
def iAll (K : PySem.W.Frag) (tl : TE) : TI := fun σ H R => tl σ H fun x H1 => (∃ y, x = .str y ∧ R (Its y) H1) ∨ (∃ a, x = .ref a ∧ (∃ xs, SqL K H1 a xs) ∧ R (Itl K a) H1) ∨ ∃ a, x = .ref a ∧ (∃ xs, SqT K H1 a xs) ∧ R (Itt K a) H1
theorem pi_all {l : Expr} {tl : TE} (hl : PE X l tl) : PI X tg l (iAll X.K tl) := by
  refine ⟨fun pins s σ H R I h => ?_⟩
  refine thn (hl.run pins s σ H _ I h) fun v s1 ⟨x, H1, I1, r1, q1⟩ => ?_
  rcases q1 with ⟨y, ex, q⟩ | ⟨a, ex, ⟨xs, hq⟩, q⟩ | ⟨a, ex, ⟨xs, hq⟩, q⟩
  · subst ex
    obtain ⟨t, rfl⟩ := r1
    cases ha : y.cps.all (· < 128)
    · exact wpAny_pyIter_wide ha (pi_one (tk := s1.toks) I1 _ (turn_str _ y t "str_iterator" (.inr rfl)) ⟨_, Heap.get?_push_size _ rfl, rfl, rfl⟩ q)
    · exact wpAny_pyIter_ascii ha (pi_one (tk := s1.toks) I1 _ (turn_str _ y t "str_ascii_iterator" (.inl rfl)) ⟨_, Heap.get?_push_size _ rfl, rfl, rfl⟩ q)
  · subst ex
    cases r1
    obtain ⟨its, rv, p, hz⟩ := I1.list hq
    refine wpAny_pyIter_list p.isList ?_
    refine ⟨s1.heap.objs.size, [s1.heap.objs.size], _, _, H1, rfl, I1.kept (t' := s1.toks) fun b o e => Heap.get?_push_of_some _ e, turn_list a _, ⟨_, Heap.get?_push_size _ rfl, rfl, rfl⟩, fun b hb => ?_, q⟩
    have e : b = s1.heap.objs.size := by simpa using hb
    subst e
    exact I1.fpOk (Nat.le_refl _) (I1.hok.fresh (Nat.le_refl _))
  · subst ex
    cases r1
    obtain ⟨its, rv, p, hz⟩ := I1.tuple hq
    refine wpAny_pyIter_tuple (show s1.heap.IsTuple a its.toArray from p) ?_
    refine ⟨s1.heap.objs.size, [s1.heap.objs.size], _, _, H1, rfl, I1.kept (t' := s1.toks) fun b o e => Heap.get?_push_of_some _ e, turn_tuple a _, ⟨_, Heap.get?_push_size _ rfl, rfl, rfl⟩, fun b hb => ?_, q⟩
    have e : b = s1.heap.objs.size := by simpa using hb
    subst e
    exact I1.fpOk (Nat.le_refl _) (I1.hok.fresh (Nat.le_refl _))
theorem signs_get (x : Str) (i : Nat) : (signs x)[i]? = x.cps[i]?.map strAt := by
  simp [signs]
theorem wok_str {x : Str} {w : Wk} {C : Hp → List Addr → Prop} (hd : w.ds = signs x) : WOk nm X (Its x) w C := by
  intro i S μ H s c g
  rw [hd]
  refine ⟨fun d e => ?_, fun h => by simpa [signs, Its] using h⟩
  rw [signs_get] at e
  obtain ⟨k, hk, rfl⟩ := Option.map_eq_some_iff.mp e
  refine ⟨(Array.getElem?_eq_some_iff.mp hk).1, fun y H' q => ?_⟩
  obtain ⟨rfl, k', hk', rfl⟩ := q
  rw [hk] at hk'; cases hk'
  exact ⟨.refl, s, .str _⟩
def wkA (S : Store) (x : D) : R Wk := match x with
  | .str y => .ok ⟨signs y, fun _ => True⟩ S
  | .tup ds => .ok ⟨ds, fun _ => True⟩ S
  | .lst ds => .ok ⟨ds, fun _ => True⟩ S
  | .scr ds => .ok ⟨ds, fun _ => True⟩ S
  | .obj n => match S[n]? with
    | some (.lst ds) => .ok ⟨ds, fun S => S[n]? = some (.lst ds)⟩ S
    | _ => .stuck
  | _ => .stuck
def iAny (m : EM) : IM := fun e S => (m e S).bind fun x S => wkA S x
theorem mi_any (h : ME nm X e me) : MI nm X tg e (iAny me) := by
  refine ⟨fun W tk => (pi_all (h.run W tk)).imp fun σ H R hh => ?_⟩
  obtain ⟨ev, S, μ, E, s, p⟩ := hh
  refine ⟨ev, S, μ, E, s, (Post.bind p).mono fun d S1 μ1 H1 x1 s1 p1 v rv => ?_⟩
  unfold wkA at p1
  split at p1
  · rename_i y
    cases rv
    exact .inl ⟨y, rfl, p1 μ1 H1 .refl s1 (Its y) (fun _ _ => True) (fun _ _ _ _ _ _ => trivial) trivial (wok_str rfl)⟩
  · rename_i ds
    cases rv with | @tup a xs _ t r =>
    exact .inr (.inr ⟨a, rfl, ⟨xs, t.sq⟩, p1 μ1 H1 .refl s1 (Itt X.K a) (fun H μ => TupAt X.K H μ a xs ∧ RVs X.K H μ xs ds) (fun μ H μ' H' x c => ⟨c.1.ext x, RVs.ext x _ c.2⟩) ⟨t, r⟩ (wok_tup (xs := xs) rfl fun S μ H s c g => ⟨xs, c.1.sq, c.2⟩)⟩)
  · rename_i ds
    cases rv with | @lst a xs _ t r =>
    exact .inr (.inl ⟨a, rfl, ⟨xs, .of t.2⟩, p1 μ1 H1 .refl s1 (Itl X.K a) (fun H μ => LstAt H μ a xs ∧ RVs X.K H μ xs ds) (fun μ H μ' H' x c => ⟨c.1.ext x, RVs.ext x _ c.2⟩) ⟨t, r⟩ (wok_list (xs := xs) rfl fun S μ H s c g => ⟨xs, .of c.1.2, c.2⟩)⟩)
  · rename_i ds
    cases rv with | @scr a xs _ t r =>
    exact .inr (.inl ⟨a, rfl, ⟨xs, t.sq⟩, p1 μ1 H1 .refl s1 (Itl X.K a) (fun H μ => ScrAt X.K H μ a xs ∧ RVs X.K H μ xs ds) (fun μ H μ' H' x c => ⟨c.1.ext x, RVs.ext x _ c.2⟩) ⟨t, r⟩ (wok_list (xs := xs) rfl fun S μ H s c g => ⟨xs, c.1.sq, c.2⟩)⟩)
  · rename_i n
    split at p1
    · rename_i ds hds
      cases rv with | @obj a _ en =>
      obtain ⟨xs, e1, r⟩ := s1.ob _ _ _ en hds
      exact .inr (.inl ⟨a, rfl, ⟨xs, .of e1⟩, p1 μ1 H1 .refl s1 (Itl X.K a) (fun H μ => μ[n]? = some a) (fun μ H μ' H' x c => x.at c) en (wok_list (xs := xs) rfl fun S μ H s c g => by
        obtain ⟨xs, e1, r⟩ := s.ob _ _ _ c g
        exact ⟨xs, .of e1, r⟩)⟩)
    · exact False.elim p1
  · exact False.elim p1
end
def txt (v : Value) : Str := match v with
  | .str x _ => x
  | _ => Str.empty
section
variable {prog : Program} {w : World} {A : Around} {E : Value → Shared → Prop} {s : Shared}
theorem two_at {a b : Str} {t u : Tok} {i : Nat} {v : Value} (h : (#[Value.str a t, Value.str b u] : Array Value)[i]? = some v) : ∃ r, v = .str (txt ((#[Value.str a t, Value.str b u] : Array Value).getD i .none)) r := by
  match i, h with
  | 0, h => simp at h; subst h; exact ⟨_, rfl⟩
  | 1, h => simp at h; subst h; exact ⟨_, rfl⟩
  | n + 2, h => simp at h
theorem lt_strR {x y : Str} {t u : Tok} {Q : Value → Shared → Prop} (h : Q (.bool (ltS x y)) s) : wpAny (model prog w) A (richCompare .Lt (.str x t) (.str y u)) Q E s :=
  richCompare_gives (op := .Lt) (typeIs_str s x t) (typeIs_str s y u) F.slot_str_lt F.entry_str_lt (F.args_str_lt_2 _ _) (gives_str_lt x y t u) (fun e => nomatch e) h
theorem gt_strR {x y : Str} {t u : Tok} {Q : Value → Shared → Prop} (h : Q (.bool (ltS y x)) s) : wpAny (model prog w) A (richCompare .Gt (.str x t) (.str y u)) Q E s :=
  richCompare_gives (op := .Gt) (typeIs_str s x t) (typeIs_str s y u) F.slot_str_gt F.entry_str_gt (F.args_str_gt_2 _ _) (gives_str_gt x y t u) (fun e => nomatch e) h
theorem cmp_ltS (a b : Str) (t u : Tok) : CmpOf prog w A .Lt (fun i v => (#[Value.str a t, Value.str b u] : Array Value)[i]? = some v) (fun i j => ltS (txt ((#[Value.str a t, Value.str b u] : Array Value).getD i .none)) (txt ((#[Value.str a t, Value.str b u] : Array Value).getD j .none))) := fun i j vi vj s Q E hi hj h => by
  obtain ⟨t1, e1⟩ := two_at hi
  obtain ⟨t2, e2⟩ := two_at hj
  rw [e1, e2]
  exact lt_strR h
theorem cmp_gtS (a b : Str) (t u : Tok) : CmpOf prog w A .Gt (fun i v => (#[Value.str a t, Value.str b u] : Array Value)[i]? = some v) (fun i j => ltS (txt ((#[Value.str a t, Value.str b u] : Array Value).getD j .none)) (txt ((#[Value.str a t, Value.str b u] : Array Value).getD i .none))) := fun i j vi vj s Q E hi hj h => by
  obtain ⟨t1, e1⟩ := two_at hi
  obtain ⟨t2, e2⟩ := two_at hj
  rw [e1, e2]
  exact gt_strR h
theorem max_two_str {a b : Str} {t u : Tok} {Q : Value → Shared → Prop} (hh : A.handled = none)
    (h : ∀ h' tk, (∀ c o, s.heap.get? c = some o → h'.get? c = some o) → Q (if ltS a b = true then .str b u else .str a t) { s with heap := h', toks := tk }) :
    wpAny (model prog w) A (call (.builtin "max") [.str a t, .str b u]) Q E s := by
  have hT : (s.heap.push { cls := .type "tuple", data := .seq #[.str a t, .str b u] }).IsTuple s.heap.objs.size #[.str a t, .str b u] := ⟨_, Heap.get?_push_size _ rfl, rfl, 0, rfl⟩
  refine call_max_two (wpAny_pyIter_tuple hT ?_)
  have hsz : (s.heap.push { cls := .type "tuple", data := .seq #[.str a t, .str b u] }).objs.size = s.heap.objs.size + 1 := Heap.size_push ..
  refine ⟨_, [_, s.heap.objs.size], [_], _, _, _, _, rfl, Walks.tuple (A := A.in1) hh _ s.heap.objs.size (by rw [hsz]; exact Nat.ne_of_lt (Nat.lt_succ_self _)) #[.str a t, .str b u],
    ⟨⟨_, Heap.get?_push_size _ rfl, rfl, rfl⟩, hT.push _⟩, fun c hc => ?_, by simp, cmp_gtS a b t u, fun v h' tk hP hk => ?_⟩
  · show c < ((s.heap.push _).push _).objs.size
    rw [Heap.size_push, hsz]
    rcases List.mem_cons.mp hc with rfl | hc
    · rw [hsz]; exact Nat.lt_succ_self _
    · rcases List.mem_cons.mp hc with rfl | hc
      · exact Nat.lt_succ_of_lt (Nat.lt_succ_self _)
      · cases hc
  · have hold : ∀ c o, s.heap.get? c = some o → h'.get? c = some o := fun c o e => by
      refine hk c o (fun hm => ?_) (Heap.get?_push_of_some _ (Heap.get?_push_of_some _ e))
      rcases List.mem_cons.mp hm with e1 | hm
      · have := Heap.lt_size e; rw [e1, hsz] at this; exact Nat.lt_irrefl _ (Nat.lt_of_succ_lt this)
      · cases hm
    have := h h' tk hold
    have hv : v = if ltS a b = true then .str b u else .str a t := by
      cases hc : ltS a b <;> simp [argBest, txt, hc] at hP <;> simp [hP]
    rw [hv]; exact this
theorem min_two_str {a b : Str} {t u : Tok} {Q : Value → Shared → Prop} (hh : A.handled = none)
    (h : ∀ h' tk, (∀ c o, s.heap.get? c = some o → h'.get? c = some o) → Q (if ltS b a = true then .str b u else .str a t) { s with heap := h', toks := tk }) :
    wpAny (model prog w) A (call (.builtin "min") [.str a t, .str b u]) Q E s := by
  have hT : (s.heap.push { cls := .type "tuple", data := .seq #[.str a t, .str b u] }).IsTuple s.heap.objs.size #[.str a t, .str b u] := ⟨_, Heap.get?_push_size _ rfl, rfl, 0, rfl⟩
  refine call_min_two (wpAny_pyIter_tuple hT ?_)
  have hsz : (s.heap.push { cls := .type "tuple", data := .seq #[.str a t, .str b u] }).objs.size = s.heap.objs.size + 1 := Heap.size_push ..
  refine ⟨_, [_, s.heap.objs.size], [_], _, _, _, _, rfl, Walks.tuple (A := A.in1) hh _ s.heap.objs.size (by rw [hsz]; exact Nat.ne_of_lt (Nat.lt_succ_self _)) #[.str a t, .str b u],
    ⟨⟨_, Heap.get?_push_size _ rfl, rfl, rfl⟩, hT.push _⟩, fun c hc => ?_, by simp, cmp_ltS a b t u, fun v h' tk hP hk => ?_⟩
  · show c < ((s.heap.push _).push _).objs.size
    rw [Heap.size_push, hsz]
    rcases List.mem_cons.mp hc with rfl | hc
    · rw [hsz]; exact Nat.lt_succ_self _
    · rcases List.mem_cons.mp hc with rfl | hc
      · exact Nat.lt_succ_of_lt (Nat.lt_succ_self _)
      · cases hc
  · have hold : ∀ c o, s.heap.get? c = some o → h'.get? c = some o := fun c o e => by
      refine hk c o (fun hm => ?_) (Heap.get?_push_of_some _ (Heap.get?_push_of_some _ e))
      rcases List.mem_cons.mp hm with e1 | hm
      · have := Heap.lt_size e; rw [e1, hsz] at this; exact Nat.lt_irrefl _ (Nat.lt_of_succ_lt this)
      · cases hm
    have := h h' tk hold
    have hv : v = if ltS b a = true then .str b u else .str a t := by
      cases hc : ltS b a <;> simp [argBest, txt, hc] at hP <;> simp [hP]
    rw [hv]; exact this
end
section
variable {nm : Nms} {X : Cx}
def fnMax2 : FM := fun ds S => match ds with
  | [.int i, .int j] => .ok (.int (if i < j then j else i)) S
  | [.str a, .str b] => .ok (.str (if ltS a b = true then b else a)) S
  | _ => .stuck
def fnMin2 : FM := fun ds S => match ds with
  | [.int i, .int j] => .ok (.int (if j < i then j else i)) S
  | [.str a, .str b] => .ok (.str (if ltS b a = true then b else a)) S
  | _ => .stuck
theorem c_max2 (hc : X.calm = true) : CallD nm X (.builtin "max") fnMax2 := by
  intro pins s σ H xs us Q I r h
  obtain ⟨ds, S, μ, E, rv, sm, p⟩ := h
  unfold fnMax2 at p
  split at p
  · obtain ⟨v, u, rfl, r1, r2⟩ := two_rv rv
    cases r1; cases r2
    exact call_max2 hc pins s σ H _ us Q I r ⟨_, _, rfl, p μ H .refl sm _ (.int _)⟩
  · obtain ⟨v, u, rfl, r1, r2⟩ := two_rv rv
    cases r1; cases r2
    obtain ⟨u, w', rfl, ⟨t, rfl⟩, ⟨t', rfl⟩⟩ := vals2 r
    rename_i a b
    refine max_two_str (I.ok.hd hc) fun h' tk k => ⟨.str (if ltS a b = true then b else a), H, I.kept k, ?_, p μ H .refl sm _ (.str _)⟩
    cases ltS a b
    · exact ⟨_, rfl⟩
    · exact ⟨_, rfl⟩
  · exact False.elim p
theorem c_min2 (hc : X.calm = true) : CallD nm X (.builtin "min") fnMin2 := by
  intro pins s σ H xs us Q I r h
  obtain ⟨ds, S, μ, E, rv, sm, p⟩ := h
  unfold fnMin2 at p
  split at p
  · obtain ⟨v, u, rfl, r1, r2⟩ := two_rv rv
    cases r1; cases r2
    exact call_min2 hc pins s σ H _ us Q I r ⟨_, _, rfl, p μ H .refl sm _ (.int _)⟩
  · obtain ⟨v, u, rfl, r1, r2⟩ := two_rv rv
    cases r1; cases r2
    obtain ⟨u, w', rfl, ⟨t, rfl⟩, ⟨t', rfl⟩⟩ := vals2 r
    rename_i a b
    refine min_two_str (I.ok.hd hc) fun h' tk k => ⟨.str (if ltS b a = true then b else a), H, I.kept k, ?_, p μ H .refl sm _ (.str _)⟩
    cases ltS b a
    · exact ⟨_, rfl⟩
    · exact ⟨_, rfl⟩
  · exact False.elim p
end
end BS
namespace BS
open PySem PySem.Spec PyProof.Rows L2
section
variable {nm : Nms} {X : Cx} {e : Expr} {me : EM} {pos : Pos}
def evalPs : List (EM × EM) → Ev → Store → R (List (D × D))
  | [], _, S => .ok [] S
  | p :: r, e, S => (p.1 e S).bind fun x S => (p.2 e S).bind fun y S => (evalPs r e S).bind fun ps S => .ok ((x, y) :: ps) S
def psNil : List (EM × EM) := []
def psCons (a b : EM) (r : List (EM × EM)) : List (EM × EM) := (a, b) :: r
def RVP (K : PySem.W.Frag) (H : Hp) (μ : List Addr) (vs : List (V × V)) (ds : List (D × D)) : Prop := Paired (fun p q => RV K H μ p.1 q.1 ∧ RV K H μ p.2 q.2) vs ds
structure MPs (nm : Nms) (X : Cx) (pos : Pos) (keys : List (Option Expr)) (values : List Expr) (ms : List (EM × EM)) : Prop where
  run : ∀ W, Takes X W → PPs X pos keys values (ms.map fun p => (rdE nm X W p.1, rdE nm X W p.2))
theorem mps_nil : MPs nm X pos [] [] psNil := ⟨fun W tk => pps_nil⟩
theorem mps_cons {k v : Expr} {ks : List (Option Expr)} {vs : List Expr} {mk mv : EM} {ms : List (EM × EM)} (hk : ME nm X k mk) (hv : ME nm X v mv) (hr : MPs nm X pos ks vs ms) : MPs nm X pos (some k :: ks) (v :: vs) (psCons mk mv ms) :=
  ⟨fun W tk => pps_cons (hk.run W tk) (hv.run W tk) (hr.run W tk)⟩
theorem tPairs_rd {W : WX} : ∀ (ms : List (EM × EM)) (σ : St) (H : Hp) (Q : List (V × V) → Hp → Prop), (∃ e S μ, EvR nm X H μ e σ ∧ Sim nm X.K X.mg μ S H ∧ PostX nm X W μ H σ (evalPs ms e S) fun ps S' μ' H' => ∀ vps, RVP X.K H' μ' vps ps → Q vps H') →
    tPairs (ms.map fun p => (rdE nm X W p.1, rdE nm X W p.2)) σ H Q
  | [], σ, H, Q, ⟨e, S, μ, E, s, p⟩ => p μ H .refl s [] .nil
  | m :: r, σ, H, Q, ⟨e, S, μ, E, s, p⟩ =>
    ⟨e, S, μ, E, s, (Post.bind p).mono fun d S1 μ1 H1 x1 s1 p1 v rv => ⟨e, S1, μ1, E.ext x1, s1, (Post.bind p1).mono fun d2 S2 μ2 H2 x2 s2 p2 u ru =>
      tPairs_rd r σ H2 _ ⟨e, S2, μ2, (E.ext x1).ext x2, s2, (Post.bind p2).mono fun ps S3 μ3 H3 x3 s3 p3 vps rps => p3 μ3 H3 .refl s3 _ (.cons ⟨(rv.ext x2).ext x3, ru.ext x3⟩ rps)⟩⟩⟩
def keysOf : List (D × D) → Option (List (Key × D))
  | [] => some []
  | p :: r => match keyOf p.1, keysOf r with
    | some k, some kvs => some ((k, p.2) :: kvs)
    | _, _ => none
theorem keysOf_rk {K : PySem.W.Frag} {H : Hp} {μ : List Addr} : ∀ {vps : List (V × V)} {ps : List (D × D)} {kvs : List (Key × D)}, RVP K H μ vps ps → keysOf ps = some kvs → ∃ ws : List (Key × V), vps = ws.map (fun kv => (kV kv.1, kv.2)) ∧ RK K H μ ws kvs
  | _, _, _, .nil, h => by cases h; exact ⟨[], rfl, .nil⟩
  | v :: vps, p :: ps, kvs, .cons r t, h => by
    unfold keysOf at h
    split at h
    · rename_i k kvs' hk hks
      cases h
      obtain ⟨ws, e1, r1⟩ := keysOf_rk t hks
      refine ⟨(k, v.2) :: ws, ?_, .cons ⟨rfl, r.2⟩ r1⟩
      rw [List.map_cons, ← e1, ← keyOf_kV r.1 hk]
    · cases h
def mergeD (kvs : List (Key × D)) : List (Key × D) := kvs.foldl (fun acc kv => putD acc kv.1 kv.2) []
theorem merge_rk {K : PySem.W.Frag} {H : Hp} {μ : List Addr} : ∀ {ws : List (Key × V)} {kvs : List (Key × D)} {acc : List (Key × V)} {acd : List (Key × D)}, RK K H μ ws kvs → RK K H μ acc acd → RK K H μ (ws.foldl (fun acc kv => putK acc kv.1 kv.2) acc) (kvs.foldl (fun acc kv => putD acc kv.1 kv.2) acd)
  | _, _, _, _, .nil, h => h
  | p :: ws, q :: kvs, acc, acd, .cons r t, h => by
    rw [List.foldl_cons, List.foldl_cons]
    refine merge_rk t ?_
    rw [← r.1]
    exact put_rk r.2 h
def mDisp (ms : List (EM × EM)) : EM := fun e S => (evalPs ms e (S ++ [.dct []])).bind fun ps S2 => match keysOf ps with
  | some kvs => match S2[S.length]? with
    | some (.dct []) => if kvs.length ≤ 15 then .ok (.obj S.length) (S2.set S.length (.dct (mergeD kvs))) else .stuck
    | _ => .stuck
  | none => .stuck
theorem me_disp {keys : List (Option Expr)} {values : List Expr} {ms : List (EM × EM)} (h : MPs nm X pos keys values ms) (hall : keys.all (·.isSome) = true := by rfl) (hl : keys.length = values.length := by rfl) (h0 : keys ≠ [] := by simp) (h15 : keys.length ≤ 15 := by decide) :
    ME nm X (.Dict keys values pos) (mDisp ms) := by
  refine ⟨fun W tk => (pe_disp (h.run W tk) hall hl h0 h15).imp fun σ H Q hh => ?_⟩
  obtain ⟨e, S, μ, E, s, p⟩ := hh
  intro q nq
  refine tPairs_rd ms σ _ _ ⟨e, S ++ [.dct []], μ ++ [q], E.ext (Ext.made s nq), made_dct s nq, ?_⟩
  refine (Post.ext (Ext.made s nq) (Post.bind p)).mono fun ps S2 μ2 H2 x2 s2 p1 vps rps => ?_
  split at p1
  · rename_i kvs hk
    split at p1
    · rename_i hS
      split at p1
      · rename_i h15
        have eq := x2.at (new_at s)
        obtain ⟨ys, e1, r1⟩ := s2.ob _ _ _ eq hS
        cases r1
        obtain ⟨ws, e2, r2⟩ := keysOf_rk rps hk
        refine ⟨e1, ws, e2, by rw [rk_len r2]; exact h15, ?_⟩
        have x := Ext.wrote (H := H2) (u := .dK (mergeK [] ws)) (List.mem_of_getElem? eq) (NF.of e1)
        exact p1 μ2 _ x (s2.wrote eq ⟨_, upd_same, RK.ext x (merge_rk r2 .nil)⟩) _ (.obj eq)
      · exact False.elim p1
    · exact False.elim p1
  · exact False.elim p1
def fnGet2 : FM := fun ds S => match ds with
  | [x, k, d] => match dctOf S x with
    | some kvs => match keyOf k with
      | some key => .ok ((getK kvs key).getD d) S
      | none => .stuck
    | none => .stuck
  | _ => .stuck
theorem t_get2 {k : Nat} (hr : L2H.RoomH k X.A) : MtD nm X "dict.get" fnGet2 := by
  intro pins s σ H x xs v us Q I rx r h
  obtain ⟨ds, S, μ, E, rv, sm, p⟩ := h
  unfold fnGet2 at p
  split at p
  · rename_i dx dk dd
    split at p
    · rename_i kvs hk
      split at p
      · rename_i key hkey
        obtain ⟨r1, rt⟩ := rvs_cons rv
        obtain ⟨y, z, rfl, r2, r3⟩ := two_rv rt
        obtain ⟨n, a, ys, rfl, rfl, _, _, e1, rk⟩ := dctOf_at sm r1 hk
        have ek := keyOf_kV r2 hkey
        subst ek
        cases rx
        obtain ⟨u, w', rfl, ru, rw'⟩ := vals2 r
        refine d_get2 (by have := hr.un; omega) I (DGet.k e1) ru rw' fun w2 s' I' rl => ⟨_, H, I', rl, ?_⟩
        rcases getK_val key rk with ⟨h1, h2⟩ | ⟨w3, d', h1, h2, h3⟩
        · rw [h1]; rw [h2] at p; exact p μ H .refl sm _ r3
        · rw [h1]; rw [h2] at p; exact p μ H .refl sm _ h3
      · exact False.elim p
    · exact False.elim p
  · exact False.elim p
def truS (S : Store) (d : D) : Option Bool := match d with
  | .non => some false
  | .bl b => some b
  | .int i => some (i != 0)
  | .str z => if z.length ≤ sizeLine then some ((z.length : Int) != 0) else none
  | _ => match seqOf S d with
    | some ds => some (!ds.isEmpty)
    | none => (dctOf S d).map fun kvs => !kvs.isEmpty
theorem emp_rvs {K : PySem.W.Frag} {H : Hp} {μ : List Addr} {xs : List V} {ds : List D} (r : RVs K H μ xs ds) : (!ds.isEmpty) = !xs.isEmpty := by
  cases r <;> rfl
theorem tru_of {S : Store} {μ : List Addr} {H : Hp} {v : V} {d : D} {b : Bool} (s : Sim nm X.K X.mg μ S H) (r : RV X.K H μ v d) (h : truS S d = some b) : TruV X.K v H b := by
  unfold truS at h
  split at h
  · cases h; cases r; exact (rfl : (false : Bool) = false)
  · cases h; cases r; exact (rfl : _ = _)
  · cases h; cases r; exact (rfl : _ = _)
  · split at h
    · cases h; cases r; exact ⟨by assumption, rfl⟩
    · cases h
  · split at h
    · rename_i ds hds
      cases h
      obtain ⟨a, xs, rfl, hs, rr⟩ := seqOf_sq s r hds
      rcases hs with hs | hs
      · exact .inl ⟨xs, hs, emp_rvs rr⟩
      · exact .inr (.inl ⟨xs, hs, emp_rvs rr⟩)
    · obtain ⟨kvs, hk, rfl⟩ := Option.map_eq_some_iff.mp h
      obtain ⟨n, a, ys, rfl, rfl, _, _, e1, rk⟩ := dctOf_at s r hk
      exact .inr (.inr ⟨ys, e1, by cases rk <;> rfl⟩)
def mTru (m : EM) : TM := fun e S => (m e S).bind fun d S => match truS S d with
  | some b => .ok b S
  | none => .stuck
theorem mt_tru {e : Expr} {m : EM} (h : ME nm X e m) (he : ∀ whole, isTrue e X.env whole = (do let v ← whole; standAt e.pos; holding [v] (truthy v)) := by intro _; rfl) : MT nm X e (mTru m) := by
  refine ⟨fun W tk => (pt_truth (h.run W tk) he).imp fun σ H Q hh => ?_⟩
  obtain ⟨e, S, μ, E, s, p⟩ := hh
  refine ⟨e, S, μ, E, s, (Post.bind p).mono fun d S1 μ1 H1 x1 s1 p1 v rv => ?_⟩
  split at p1
  · rename_i b hb
    exact ⟨b, tru_of s1 rv hb, p1 μ1 H1 .refl s1⟩
  · exact False.elim p1
/-- what a table holds: constants -/
def TV (K : PySem.W.Frag) (p : Key × D) (q : Key × Value) : Prop := p.1 = q.1 ∧ ∃ v, RelV v q.2 ∧ ∀ H μ, RV K H μ v p.2
def TC (P : Program) (w : World) (K : PySem.W.Frag) (mg : Str → Option Value) (x : Str) (kvs : List (Key × D)) : Prop :=
  ∃ (a : Addr) (o : Obj) (es : Array DictEntry) (ep : Nat) (vs : List (Key × Value)), mg x = some (.ref a) ∧ K.lookup a = some o ∧ (a == sysModules) = false ∧ o.ExactDict ∧ o.data = .dict es ep ∧ KeysOf (mixKind P w) es ∧ Pairs (mixKind P w) es.toList vs ∧ (vs.map (·.1)).Nodup ∧ Paired (TV K) kvs vs
theorem tv_get {K : PySem.W.Frag} : ∀ {kvs : List (Key × D)} {vs : List (Key × Value)} (k : Key), Paired (TV K) kvs vs → (getK kvs k = none ∧ valueAt vs k = none) ∨ ∃ d v u, getK kvs k = some d ∧ valueAt vs k = some u ∧ RelV v u ∧ ∀ H μ, RV K H μ v d
  | _, _, k, .nil => .inl ⟨rfl, rfl⟩
  | p :: kvs, q :: vs, k, .cons r t => by
    obtain ⟨e, v, r1, r2⟩ := r
    by_cases h : p.1 = k
    · refine .inr ⟨p.2, v, q.2, ?_, ?_, r1, r2⟩
      · simp [getK, h]
      · simp [valueAt, ← e, h]
    · rcases tv_get k t with ⟨h1, h2⟩ | ⟨d, v', u, h1, h2, h3⟩
      · refine .inl ⟨?_, ?_⟩
        · simp only [getK, List.find?_cons, decide_eq_false h] at h1 ⊢; exact h1
        · have h' : ¬ q.1 = k := fun z => h (e.trans z)
          simp only [valueAt, List.find?_cons, decide_eq_false h'] at h2 ⊢; exact h2
      · refine .inr ⟨d, v', u, ?_, ?_, h3⟩
        · simp only [getK, List.find?_cons, decide_eq_false h] at h1 ⊢; exact h1
        · have h' : ¬ q.1 = k := fun z => h (e.trans z)
          simp only [valueAt, List.find?_cons, decide_eq_false h'] at h2 ⊢; exact h2
theorem tab_dict {K : PySem.W.Frag} {a : Addr} {o : Obj} {es : Array DictEntry} {ep : Nat} {vs : List (Key × Value)} {pins : List (Addr × Obj)} {σ : St} {H : Hp} {s : Shared} (I : Inv X pins σ H s) (hk : X.K.lookup a = some o) (h1 : o.ExactDict) (h2 : o.data = .dict es ep) (h3 : KeysOf (mixKind X.prog X.w) es) (h4 : Pairs (mixKind X.prog X.w) es.toList vs) (h5 : (vs.map (·.1)).Nodup) :
    s.heap.DictOf (mixKind X.prog X.w) a vs := ⟨o, es, ep, I.kIn a o hk, h1, h2, h3, h4, h5⟩
def mTabIn (neg : Bool) (kvs : List (Key × D)) (m : EM) : TM := fun e S => (m e S).bind fun d S => match keyOf d with
  | some k => .ok (if neg = true then !(getK kvs k).isSome else (getK kvs k).isSome) S
  | none => .stuck
theorem tabin_core {neg : Bool} {op : CmpOp} (hop : op = if neg = true then .NotIn else .In) {kvs : List (Key × D)} {a : Addr} {o : Obj} {es : Array DictEntry} {ep : Nat} {vs : List (Key × Value)} (hk : X.K.lookup a = some o) (hs : (a == sysModules) = false) (h1 : o.ExactDict) (h2 : o.data = .dict es ep) (h3 : KeysOf (mixKind X.prog X.w) es) (h4 : Pairs (mixKind X.prog X.w) es.toList vs) (h5 : (vs.map (·.1)).Nodup) (tv : Paired (TV X.K) kvs vs) :
    OpR X (compareOp op) (fun x y H Q => y = .ref a ∧ ∃ k, x = kV k ∧ Q (.bl (if neg = true then !(getK kvs k).isSome else (getK kvs k).isSome)) H) := by
  intro pins s σ H x y v u Q I rx ry h
  obtain ⟨rfl, k, rfl, q⟩ := h
  cases ry
  have dd := tab_dict (K := X.K) I hk h1 h2 h3 h4 h5
  have e : (valueAt vs k).isSome = (getK kvs k).isSome := by
    rcases tv_get k tv with ⟨e1, e2⟩ | ⟨d, v', u, e1, e2, _⟩ <;> rw [e1, e2] <;> rfl
  subst hop
  cases neg with
  | true => exact wpAny_notIn_of (kV_is rx) hs dd.mapOf ⟨.bl _, H, I.tok _, rfl, by rw [e]; exact q⟩
  | false => exact wpAny_in_of (kV_is rx) hs dd.mapOf ⟨.bl _, H, I.tok _, rfl, by rw [e]; exact q⟩
theorem tabin_rd {neg : Bool} {kvs : List (Key × D)} {a : Addr} {W : WX} {σ : St} {H : Hp} {Q : Bool → Hp → Prop} (hh : rdT nm X W (mTabIn neg kvs me) σ H Q) :
    tTest (tOp (fun x y H Q => y = .ref a ∧ ∃ k, x = kV k ∧ Q (.bl (if neg = true then !(getK kvs k).isSome else (getK kvs k).isSome)) H) (rdE nm X W me) fun _ H Q => Q (.ref a) H) σ H Q := by
  obtain ⟨e, S, μ, E, s, p⟩ := hh
  refine ⟨e, S, μ, E, s, (Post.bind p).mono fun d S1 μ1 H1 x1 s1 p1 v rv => ?_⟩
  split at p1
  · rename_i k hk
    exact ⟨rfl, k, keyOf_kV rv hk, _, rfl, p1 μ1 H1 .refl s1⟩
  · exact False.elim p1
theorem mt_tabinN {k : Nat} {x : Str} {p : Pos} {kvs : List (Key × D)} (_ : L2H.RoomH k X.A) (h : TC X.prog X.w X.K X.mg x kvs) (hg : GlN X x) (he : ME nm X e me) (hm : behindInMarks .NotIn (.Name x p) = false := by rfl) : MT nm X (.Compare e [.NotIn] [.Name x p] pos) (mTabIn true kvs me) := by
  obtain ⟨a, o, es, ep, vs, h1, h2, h3, h4, h5, h6, h7, h8, h9⟩ := h
  exact ⟨fun W tk => (pt_cmpR (tabin_core (neg := true) rfl h2 h3 h4 h5 h6 h7 h8 h9) (he.run W tk) (pe_glob (v := .ref a) hg.g h1 rfl hg.d) hm).imp fun σ H Q hh => tabin_rd hh⟩
theorem mt_tabin {k : Nat} {x : Str} {p : Pos} {kvs : List (Key × D)} (_ : L2H.RoomH k X.A) (h : TC X.prog X.w X.K X.mg x kvs) (hg : GlN X x) (he : ME nm X e me) (hm : behindInMarks .In (.Name x p) = false := by rfl) : MT nm X (.Compare e [.In] [.Name x p] pos) (mTabIn false kvs me) := by
  obtain ⟨a, o, es, ep, vs, h1, h2, h3, h4, h5, h6, h7, h8, h9⟩ := h
  exact ⟨fun W tk => (pt_cmpR (tabin_core (neg := false) rfl h2 h3 h4 h5 h6 h7 h8 h9) (he.run W tk) (pe_glob (v := .ref a) hg.g h1 rfl hg.d) hm).imp fun σ H Q hh => tabin_rd hh⟩
def mTabGet (kvs : List (Key × D)) (m : EM) : EM := fun e S => (m e S).bind fun d S => match keyOf d with
  | some k => match getK kvs k with
    | some d => .ok d S
    | none => .stuck
  | none => .stuck
theorem me_tabget {k : Nat} {x : Str} {p : Pos} {kvs : List (Key × D)} (hr : L2H.RoomH k X.A) (h : TC X.prog X.w X.K X.mg x kvs) (hg : GlN X x) (he : ME nm X e me) (hs : PlainIx e := by exact fun _ _ => rfl) : ME nm X (.Subscript (.Name x p) e pos) (mTabGet kvs me) := by
  obtain ⟨a, o, es, ep, vs, h1, h2, h3, h4, h5, h6, h7, h8, h9⟩ := h
  refine ⟨fun W tk => ⟨fun pins s σ H Q I hh => ?_⟩⟩
  obtain ⟨ev, S, μ, E, sm, p⟩ := hh
  refine Subscript_ (thn ((pe_glob (v := .ref a) hg.g h1 rfl hg.d).run pins s σ H (fun x H1 => x = .ref a ∧ H1 = H) I ⟨rfl, rfl⟩) fun v s1 ⟨x, H1, I1, r1, q1⟩ => ?_)
  obtain ⟨rfl, rfl⟩ := q1
  cases r1
  refine thn ((he.run W tk).run pins s1 σ H1 (fun y H2 => ∃ key u v, y = kV key ∧ valueAt vs key = some u ∧ RelV v u ∧ Q v H2) I1 ⟨ev, S, μ, E, sm, (Post.bind p).mono fun d S1 μ1 H2 x1 s2 p1 v rv => ?_⟩) fun u s2 ⟨y, H2, I2, r2, q2⟩ => ?_
  · split at p1
    · rename_i key hk
      split at p1
      · rename_i d' hd
        rcases tv_get key h9 with ⟨e1, e2⟩ | ⟨d2, v', u, e1, e2, e3, e4⟩
        · rw [e1] at hd; cases hd
        · rw [e1] at hd; cases hd
          exact ⟨key, u, v', keyOf_kV rv hk, e2, e3, p1 μ1 H2 .refl s2 _ (e4 _ _)⟩
      · exact False.elim p1
    · exact False.elim p1
  · obtain ⟨key, u', v', rfl, e2, e3, q⟩ := q2
    have dd := tab_dict (K := X.K) I2 h2 h4 h5 h6 h7 h8
    exact dict_tail dd.typeIs (hs _ _) (wpAny_getItem_of (kV_is r2) dd.mapOf e2 ⟨v', H2, I2.tok _, e3, q⟩)
def lvOf (S : Store) (d : D) : Option (List D) := match d with
  | .lst ds => some ds
  | .obj n => match S[n]? with
    | some (.lst ds) => some ds
    | _ => none
  | _ => none
theorem lv_at {K : PySem.W.Frag} {mg : Str → Option Value} {H : Hp} {μ : List Addr} {S : Store} {v : V} {d : D} {ds : List D} (s : Sim nm K mg μ S H) (r : RV K H μ v d) (h : lvOf S d = some ds) : ∃ a xs, v = .ref a ∧ H a = some (.lst xs) ∧ RVs K H μ xs ds := by
  unfold lvOf at h
  split at h
  · cases h; cases r with | lst t r => exact ⟨_, _, rfl, t.2, r⟩
  · split at h
    · rename_i hds
      cases h
      cases r with | obj e =>
        obtain ⟨xs, e1, r⟩ := s.ob _ _ _ e hds
        exact ⟨_, xs, rfl, e1, r⟩
    · cases h
  · cases h
def catS (new : Bool) (S : Store) (x y : D) : R D := match lvOf S x with
  | some xs => match lvOf S y with
    | some ys => if xs.length + ys.length ≤ sizeLine then fin new (xs ++ ys) S else .stuck
    | none => .stuck
  | none => .stuck
def mCat (new : Bool) (a b : EM) : EM := fun e S => (a e S).bind fun x S => (b e S).bind fun y S => catS new S x y
theorem me_cat (new : Bool) {a b : Expr} {ma mb : EM} (ha : ME nm X a ma) (hb : ME nm X b mb) : ME nm X (.BinOp a .Add b pos) (mCat new ma mb) := by
  refine ⟨fun W tk => (pe_op op_cat (ha.run W tk) (hb.run W tk)).imp fun σ H Q h => ?_⟩
  obtain ⟨e, S, μ, E, s, p⟩ := h
  refine ⟨e, S, μ, E, s, (Post.bind p).mono fun dx S1 μ1 H1 x1 s1 p1 v rv => ?_⟩
  refine ⟨e, S1, μ1, E.ext x1, s1, (Post.bind p1).mono fun dy S2 μ2 H2 x2 s2 p2 u ru => ?_⟩
  have rv := rv.ext x2
  unfold catS at p2
  split at p2
  · rename_i xs hx
    split at p2
    · rename_i ys hy
      split at p2
      · rename_i hl
        obtain ⟨a, vs, rfl, e1, r1⟩ := lv_at s2 rv hx
        obtain ⟨b, us, rfl, e2, r2⟩ := lv_at s2 ru hy
        exact ⟨a, b, vs, us, rfl, rfl, e1, e2, by rw [r1.length, r2.length]; exact hl, fun p np => fin_post s2 (r1.append r2) np p2⟩
      · exact False.elim p2
    · exact False.elim p2
  · exact False.elim p2
theorem rvs_rep {K : PySem.W.Frag} {H : Hp} {μ : List Addr} {xs : List V} {ds : List D} (r : RVs K H μ xs ds) : ∀ n : Nat, RVs K H μ (List.replicate n xs).flatten (List.replicate n ds).flatten
  | 0 => .nil
  | n + 1 => by
    rw [List.replicate_succ, List.replicate_succ, List.flatten_cons, List.flatten_cons]
    exact r.append (rvs_rep r n)
def repS (new : Bool) (S : Store) (x y : D) : R D := match y with
  | .int k => match lvOf S x with
    | some xs => if -(2 ^ 63) ≤ k ∧ k < 2 ^ 63 ∧ xs.length * k.toNat ≤ sizeLine then fin new (List.replicate k.toNat xs).flatten S else .stuck
    | none => .stuck
  | _ => .stuck
def mRep (new : Bool) (a b : EM) : EM := fun e S => (a e S).bind fun x S => (b e S).bind fun y S => repS new S x y
theorem me_rep (new : Bool) {a b : Expr} {ma mb : EM} (ha : ME nm X a ma) (hb : ME nm X b mb) : ME nm X (.BinOp a .Mult b pos) (mRep new ma mb) := by
  refine ⟨fun W tk => (pe_op op_rep (ha.run W tk) (hb.run W tk)).imp fun σ H Q h => ?_⟩
  obtain ⟨e, S, μ, E, s, p⟩ := h
  refine ⟨e, S, μ, E, s, (Post.bind p).mono fun dx S1 μ1 H1 x1 s1 p1 v rv => ?_⟩
  refine ⟨e, S1, μ1, E.ext x1, s1, (Post.bind p1).mono fun dy S2 μ2 H2 x2 s2 p2 u ru => ?_⟩
  have rv := rv.ext x2
  unfold repS at p2
  split at p2
  · rename_i k
    split at p2
    · rename_i xs hx
      split at p2
      · rename_i hl
        obtain ⟨a, vs, rfl, e1, r1⟩ := lv_at s2 rv hx
        cases ru
        exact ⟨a, k, vs, rfl, rfl, e1, hl.1, hl.2.1, by rw [r1.length]; exact hl.2.2, fun p np => fin_post s2 (rvs_rep r1 _) np p2⟩
      · exact False.elim p2
    · exact False.elim p2
  · exact False.elim p2
/-- a table, from its entries -/
theorem tc_mk {P : Program} {w : World} {K : PySem.W.Frag} {mg : Str → Option Value} {x : Str} {a : Addr} {ep : Nat} {es : Array DictEntry} {L : List (Key × Value × Value)} {kvs : List (Key × D)} (g : mg x = some (.ref a)) (l : K.lookup a = some ⟨.type "dict", none, .dict es ep, #[]⟩)
    (he : es = (L.map fun x => (⟨keyH w x.1, x.2.1, x.2.2⟩ : DictEntry)).toArray) (z : (a == sysModules) = false) (hk : ∀ x ∈ L, keyIs x.1 x.2.1 = true) (nd : (L.map (·.1)).Nodup) (tv : Paired (TV K) kvs (L.map fun x => (x.1, x.2.2))) : TC P w K mg x kvs := by
  subst he
  refine ⟨a, _, _, ep, L.map fun x => (x.1, x.2.2), g, l, z, ⟨rfl, rfl, rfl⟩, rfl, fun e h => ?_, ?_, by rw [List.map_map]; exact nd, tv⟩
  · have h' : e ∈ L.map fun x => (⟨keyH w x.1, x.2.1, x.2.2⟩ : DictEntry) := by simpa using h
    obtain ⟨q, hq, rfl⟩ := List.mem_map.mp h'
    exact ⟨q.1, hk q hq, rfl⟩
  · have : ∀ M : List (Key × Value × Value), (∀ x ∈ M, keyIs x.1 x.2.1 = true) → Pairs (mixKind P w) (M.map fun x => (⟨keyH w x.1, x.2.1, x.2.2⟩ : DictEntry)) (M.map fun x => (x.1, x.2.2)) := by
      intro M
      induction M with
      | nil => intro _; exact .nil
      | cons q M ih => intro hM; exact .cons (hM q (by simp)) rfl (ih fun x hx => hM x (by simp [hx]))
    exact this L hk
theorem tv_int {K : PySem.W.Frag} {k : Key} {i : Int} {t : Tok} : TV K (k, .int i) (k, .int i t) := ⟨rfl, .int i, ⟨t, rfl⟩, fun _ _ => .int i⟩
theorem tv_str {K : PySem.W.Frag} {k : Key} {i : Str} {t : Tok} : TV K (k, .str i) (k, .str i t) := ⟨rfl, .str i, ⟨t, rfl⟩, fun _ _ => .str i⟩
/-- what a written tuple holds: constants -/
def CV (d : D) (q : Value) : Prop := ∃ v, RelV v q ∧ ∀ K H μ, RV K H μ v d
theorem cv_int {i : Int} {t : Tok} : CV (.int i) (.int i t) := ⟨.int i, ⟨t, rfl⟩, fun _ _ _ => .int i⟩
theorem cv_str {i : Str} {t : Tok} : CV (.str i) (.str i t) := ⟨.str i, ⟨t, rfl⟩, fun _ _ _ => .str i⟩
theorem cv_vals : ∀ {ds : List D} {qs : List Value}, Paired CV ds qs → ∃ vs, Vals vs qs ∧ ∀ K H μ, RVs K H μ vs ds
  | _, _, .nil => ⟨[], .nil, fun _ _ _ => .nil⟩
  | _, _, .cons r t => by
    obtain ⟨v, r1, r2⟩ := r
    obtain ⟨vs, h1, h2⟩ := cv_vals t
    exact ⟨v :: vs, .cons r1 h1, fun K H μ => .cons (r2 K H μ) (h2 K H μ)⟩
theorem tv_tup {K : PySem.W.Frag} {k : Key} {a : Addr} {n : Nat} {ds : List D} {qs : List Value} (l : K.lookup a = some ⟨.type "tuple", none, .seq qs.toArray n, #[]⟩) (c : Paired CV ds qs) (h : qs.length ≤ 100 := by simp) : TV K (k, .tup ds) (k, .ref a) := by
  obtain ⟨vs, h1, h2⟩ := cv_vals c
  exact ⟨rfl, .ref a, rfl, fun H μ => .tup (.inr ⟨_, _, n, l, rfl, rfl, by simp; exact Nat.le_trans h (by decide), by simpa using h1⟩) (h2 K H μ)⟩
end
end BS
namespace BS
open PySem PySem.Spec PyProof.Rows L2
def wipeD (l : List (Option D)) : List Nat → List (Option D)
  | [] => l
  | v :: vs => (wipeD l vs).set v none
def Ev.wip (e : Ev) (vs : List Nat) : Ev := ⟨wipeD e.sl vs, []⟩
@[simp] theorem Ev.wip_mk (l : List (Option D)) (vs : List Nat) : Ev.wip ⟨l, []⟩ vs = ⟨wipeD l vs, []⟩ := rfl
@[simp] theorem wipeD_nil (l : List (Option D)) : wipeD l [] = l := rfl
@[simp] theorem wipeD_cons (l : List (Option D)) (v : Nat) (vs : List Nat) : wipeD l (v :: vs) = (wipeD l vs).set v none := rfl
theorem wipeD_len (l : List (Option D)) : ∀ vs, (wipeD l vs).length = l.length
  | [] => rfl
  | v :: vs => by rw [wipeD_cons, List.length_set, wipeD_len l vs]
theorem wipeD_some {l : List (Option D)} {i : Nat} {d : D} : ∀ {vs : List Nat}, (wipeD l vs)[i]? = some (some d) → l[i]? = some (some d) ∧ i ∉ vs
  | [], h => ⟨h, by simp⟩
  | v :: vs, h => by
    rw [wipeD_cons] at h
    by_cases hi : v = i
    · subst hi
      by_cases hv : v < (wipeD l vs).length
      · rw [List.getElem?_set_self hv] at h; cases h
      · rw [List.getElem?_eq_none (by simpa using hv)] at h; cases h
    · rw [List.getElem?_set_ne hi] at h
      obtain ⟨h1, h2⟩ := wipeD_some h
      exact ⟨h1, by simp only [List.mem_cons, not_or]; exact ⟨fun e => hi e.symm, h2⟩⟩
def setAll {α : Type} (l : List (Option α)) : List Nat → List α → List (Option α)
  | i :: is, x :: xs => setAll (l.set i (some x)) is xs
  | _, _ => l
@[simp] theorem setAll_nil {α : Type} (l : List (Option α)) (xs : List α) : setAll l [] xs = l := by cases xs <;> rfl
@[simp] theorem setAll_cons {α : Type} (l : List (Option α)) (i : Nat) (is : List Nat) (x : α) (xs : List α) : setAll l (i :: is) (x :: xs) = setAll (l.set i (some x)) is xs := rfl
theorem wipe_in {σ : St} {i : Nat} : ∀ {vs : List Nat}, i ∈ vs → (wipe σ vs)[i]? = if i < σ.length then some none else none
  | v :: vs, h => by
    unfold wipe
    by_cases hi : v = i
    · subst hi
      rw [List.getElem?_set]
      simp [wipe_length]
    · rw [List.getElem?_set_ne hi]
      have h' : i ∈ vs := by
        rcases List.mem_cons.mp h with z | z
        · exact absurd z.symm hi
        · exact z
      exact wipe_in h'
theorem wipe_ext {σ σ' : St} {vs : List Nat} (hl : σ.length = σ'.length) (h : ∀ i, i ∉ vs → σ[i]? = σ'[i]?) : wipe σ vs = wipe σ' vs := by
  refine List.ext_getElem? fun i => ?_
  by_cases hi : i ∈ vs
  · rw [wipe_in hi, wipe_in hi, hl]
  · rw [wipe_out hi, wipe_out hi, h i hi]
theorem setAll_len {α : Type} : ∀ (is : List Nat) (l : List (Option α)) (xs : List α), (setAll l is xs).length = l.length
  | [], l, xs => by rw [setAll_nil]
  | i :: is, l, [] => rfl
  | i :: is, l, x :: xs => by rw [setAll_cons, setAll_len is, List.length_set]
theorem setAll_out {α : Type} {j : Nat} : ∀ (is : List Nat) (l : List (Option α)) (xs : List α), j ∉ is → (setAll l is xs)[j]? = l[j]?
  | [], l, xs, _ => by rw [setAll_nil]
  | i :: is, l, [], _ => rfl
  | i :: is, l, x :: xs, h => by
    rw [setAll_cons, setAll_out is _ xs (fun z => h (by simp [z])), List.getElem?_set_ne (fun z => h (by simp [z]))]
theorem wipe_setAll {σ : St} {vs is : List Nat} (xs : List V) (hs : ∀ i ∈ is, i ∈ vs) : wipe (setAll (wipe σ vs) is xs) vs = wipe σ vs := by
  refine wipe_ext (by rw [setAll_len, wipe_length]) fun i hi => ?_
  rw [setAll_out is _ xs (fun z => hi (hs i z)), wipe_out hi]
section
variable {nm : Nms} {X : Cx}
theorem evr_wip {X' : Cx} {H : Hp} {μ : List Addr} {e : Ev} {σ : St} (hK : X'.K = X.K) (vs : List Nat) (E : EvR nm X H μ e σ) : EvR nm X' H μ (e.wip vs) (wipe σ vs) := by
  refine ⟨by show (wipeD e.sl vs).length = _; rw [wipeD_len, wipe_length, E.len], fun i d h => ?_, fun p hp => absurd (show p ∈ ([] : List _) from hp) (by simp)⟩
  obtain ⟨h1, h2⟩ := wipeD_some h
  obtain ⟨v, hv, r⟩ := E.at_ i d h1
  exact ⟨v, by rw [wipe_out h2]; exact hv, by rw [hK]; exact r⟩
theorem evr_setAll {H : Hp} {μ : List Addr} : ∀ (is : List Nat) {l : List (Option D)} {σ : St} {xs : List V} {ds : List D}, RVs X.K H μ xs ds → EvR nm X H μ ⟨l, []⟩ σ → EvR nm X H μ ⟨setAll l is ds, []⟩ (setAll σ is xs)
  | [], l, σ, xs, ds, r, E => by rw [setAll_nil, setAll_nil]; exact E
  | i :: is, l, σ, _, _, .nil, E => E
  | i :: is, l, σ, _, _, .cons r t, E => by
    rw [setAll_cons, setAll_cons]
    exact evr_setAll is t (E.set r)
inductive LT where
  | one (i : Nat) | many (is : List Nat)
def LT.ix (t : LT) : List Nat := match t with
  | .one i => [i]
  | .many is => is
@[simp] theorem LT.ix_one (i : Nat) : (LT.one i).ix = [i] := rfl
@[simp] theorem LT.ix_many (is : List Nat) : (LT.many is).ix = is := rfl
def LT.items (t : LT) (d : D) : Option (List D) := match t with
  | .one _ => some [d]
  | .many is => match tupOf d with
    | some ds => if ds.length = is.length then some ds else none
    | none => none
def gNs : List Nat → TGs
  | [] => gNil
  | i :: is => gCons (gName i) (gNs is)
def LT.tg (K : PySem.W.Frag) (t : LT) : TG := match t with
  | .one i => gName i
  | .many is => gTup K is.length (gNs is)
theorem gNs_run {H : Hp} {Q : St → Hp → Prop} : ∀ (is : List Nat) (xs : List V) (σ : St), xs.length = is.length → Q (setAll σ is xs) H → gNs is xs σ H Q
  | [], [], σ, _, h => ⟨rfl, h⟩
  | i :: is, x :: xs, σ, hl, h => ⟨x, xs, rfl, gNs_run is xs _ (by simpa using hl) h⟩
theorem lt_run {t : LT} {d : D} {ds : List D} {x : V} {H : Hp} {μ : List Addr} (h : t.items d = some ds) (r : RV X.K H μ x d) : ∃ xs, RVs X.K H μ xs ds ∧ ∀ σ Q, Q (setAll σ t.ix xs) H → t.tg X.K x σ H Q := by
  cases t with
  | one i => cases h; exact ⟨[x], .cons r .nil, fun σ Q q => q⟩
  | many is =>
    unfold LT.items at h
    dsimp only at h
    split at h
    · rename_i ds' hds
      split at h
      · rename_i hl
        cases h
        obtain ⟨a, xs, rfl, hs, rs⟩ := tupOf_sq r hds
        exact ⟨xs, rs, fun σ Q q => ⟨a, xs, rfl, hs, by rw [rs.length, hl], gNs_run is xs σ (by rw [rs.length, hl]) q⟩⟩
      · cases h
    · cases h
structure MTs (nm : Nms) (X : Cx) (ifs : List Expr) (m : TM) : Prop where
  run : ∀ W, Takes X W → PTs X ifs (rdT nm X W m)
def mYes : TM := fun _ S => .ok true S
theorem mts_nil : MTs nm X [] mYes := ⟨fun W tk => ⟨fun pins s σ H Q I hh => by
  obtain ⟨e, S, μ, E, sm, p⟩ := hh
  exact pts_nil.run pins s σ H Q I (p μ H .refl sm)⟩⟩
theorem mts_one {c : Expr} {m : TM} (h : MT nm X c m) : MTs nm X [c] m := ⟨fun W tk => pts_one (h.run W tk)⟩
def R.nox {α : Type} (r : R α) : R α := match r with
  | .ok a S => .ok a S
  | _ => .stuck
@[simp] theorem R.nox_ok {α : Type} (a : α) (S : Store) : (R.ok a S).nox = .ok a S := rfl
theorem post_nox {α : Type} {K : PySem.W.Frag} {mg : Str → Option Value} {μ : List Addr} {H : Hp} {r : R α} {P : PA α} {E E' : PX} (h : Post nm K mg μ H r.nox P E) : Post nm K mg μ H r P E' := by
  cases r with
  | ok a S => exact h
  | exc c fs S => exact False.elim h
  | stuck => exact h
theorem bind_assoc {α β γ : Type} (r : R α) (f : α → Store → R β) (g : β → Store → R γ) : (r.bind f).bind g = r.bind fun a S => (f a S).bind g := by cases r <;> rfl
open Classical in
noncomputable def lcL (n : Nat) (G : Store → Prop) (t : LT) (e0 : Ev) (tt : TM) (el : EM) : List D → Store → R Unit
  | [], S => if G S then .ok () S else .stuck
  | d :: ds, S => if G S then match t.items d with
    | some xs => ((tt ⟨setAll e0.sl t.ix xs, []⟩ S).nox).bind fun b S2 => if b = true then ((el ⟨setAll e0.sl t.ix xs, []⟩ S2).nox).bind fun y S3 => match S3[n]? with
        | some (.lst acc) => if acc.length < sizeLine then lcL n G t e0 tt el ds (S3.set n (.lst (acc ++ [y]))) else .stuck
        | _ => .stuck
      else lcL n G t e0 tt el ds S2
    | none => .stuck
    else .stuck
noncomputable def mLc (vs : List Nat) (t : LT) (it : IM) (tt : TM) (el : EM) : EM := fun e S => (it e S).bind fun w S1 => (lcL S1.length w.G t (e.wip vs) tt el w.ds (S1 ++ [.lst []])).bind fun _ S2 => .ok (.obj S1.length) S2
/-- the block's context, for the names alone -/
abbrev blk0 (X : Cx) (scope : Scope) : Cx := X.blk X.s_0 X.H_0 scope X.env []
theorem lc_rd {W : WX} {tg iter : Expr} {scope : Scope} {it : IM} {tt : TM} {el : EM} {vs : List Nat} (t : LT) (hsub : ∀ i ∈ t.ix, i ∈ vs) {σ : St} {H : Hp} {Q : VK} (hh : rdE nm X W (mLc vs t it tt el) σ H Q) :
    tLc (fun σ H R => ∃ e S μ, EvR nm X H μ e σ ∧ Sim nm X.K X.mg μ S H ∧ PostX nm X W μ H σ (it e S) fun w S' μ' H' => ∀ J C, Stable C → C H' μ' → WOk nm X J w C → R J H') (t.tg X.K)
      (rdT nm (blk0 X scope) (fun _ _ _ _ => False) tt) (rdE nm (blk0 X scope) (fun _ _ _ _ => False) el) vs σ H Q := by
  obtain ⟨e, S, μ, E, s, p⟩ := hh
  refine ⟨e, S, μ, E, s, (Post.bind p).mono fun w S1 μ1 H1 x1 s1 p1 J C st c0 ok' => ?_⟩
  intro D nD
  refine ⟨fun i m H' => m = w.ds.length - i ∧ i ≤ w.ds.length ∧ ∃ S μ', EvR nm X H' μ' e σ ∧ Sim nm X.K X.mg μ' S H' ∧ C H' μ' ∧ μ'[S1.length]? = some D ∧ PostX nm X W μ' H' σ ((lcL S1.length w.G t (e.wip vs) tt el (w.ds.drop i) S).bind fun _ S2 => .ok (.obj S1.length) S2) (fun d _ μ' H' => ∀ v, RV X.K H' μ' v d → Q v H'),
    ⟨w.ds.length, rfl, Nat.zero_le _, S1 ++ [.lst []], μ1 ++ [D], (E.ext x1).ext (Ext.made s1 nD), s1.made (o := .lst []) nD ⟨[], upd_same, .nil⟩, st _ _ _ _ (Ext.made s1 nD) c0, new_at s1, by rw [List.drop_zero]; exact Post.ext (Ext.made s1 nD) p1⟩, ?_⟩
  rintro i m H' ⟨rfl, hi, S, μ', E', s', c', eD, p'⟩
  by_cases hlt : i < w.ds.length
  · obtain ⟨d, hd⟩ : ∃ d, w.ds[i]? = some d := ⟨_, List.getElem?_eq_getElem hlt⟩
    have hdr : w.ds.drop i = d :: w.ds.drop (i + 1) := by
      rw [List.drop_eq_getElem_cons hlt]
      rw [List.getElem?_eq_getElem hlt] at hd
      cases hd; rfl
    rw [hdr] at p'
    unfold lcL at p'
    split at p'
    · rename_i hG
      obtain ⟨go, yl⟩ := (ok' i S μ' H' s' c' hG).1 d hd
      refine .inr ⟨go, fun H2 => ∃ m', m' < w.ds.length - i ∧ m' = w.ds.length - (i + 1) ∧ i + 1 ≤ w.ds.length ∧ ∃ S μ', EvR nm X H2 μ' e σ ∧ Sim nm X.K X.mg μ' S H2 ∧ C H2 μ' ∧ μ'[S1.length]? = some D ∧ PostX nm X W μ' H2 σ ((lcL S1.length w.G t (e.wip vs) tt el (w.ds.drop (i + 1)) S).bind fun _ S2 => .ok (.obj S1.length) S2) (fun d _ μ' H' => ∀ v, RV X.K H' μ' v d → Q v H'), fun H2 h => h, fun x H2 y => ?_⟩
      obtain ⟨x2, s2, r2⟩ := yl x H2 y
      split at p'
      · rename_i xs hxs
        obtain ⟨ws, rws, run⟩ := lt_run hxs r2
        refine run _ _ ⟨wipe_setAll ws hsub, ⟨setAll (e.wip vs).sl t.ix xs, []⟩, S, μ', ?_, s2, ?_⟩
        · exact evr_setAll (X := X.blk X.s_0 X.H_0 scope X.env []) t.ix rws (evr_wip (X := X) (X' := X.blk X.s_0 X.H_0 scope X.env []) rfl _ (E'.ext x2))
        · rw [bind_assoc] at p'
          refine post_nox ((Post.bind (Post.ext x2 p')).mono fun b S3 μ3 H3 x3 s3 p3 => ?_)
          have E3 := (E'.ext x2).ext x3
          have c3 := st _ _ _ _ (x2.trans x3) c'
          have eD3 := (x2.trans x3).at eD
          cases b with
          | true =>
            rw [if_pos rfl] at p3
            dsimp only
            rw [if_pos rfl]
            refine ⟨⟨setAll (e.wip vs).sl t.ix xs, []⟩, S3, μ3, ?_, s3, ?_⟩
            · exact evr_setAll (X := X.blk X.s_0 X.H_0 scope X.env []) t.ix (RVs.ext x3 _ rws) (evr_wip (X := X) (X' := X.blk X.s_0 X.H_0 scope X.env []) rfl _ E3)
            · rw [bind_assoc] at p3
              refine post_nox ((Post.bind p3).mono fun y S4 μ4 H4 x4 s4 p4 v rv => ?_)
              have eD4 := x4.at eD3
              split at p4
              · rename_i acc hacc
                split at p4
                · rename_i hl
                  obtain ⟨zs, e1, rz⟩ := s4.ob _ _ _ eD4 hacc
                  have x5 := Ext.wrote (H := H4) (u := .lst (zs ++ [v])) (List.mem_of_getElem? eD4) (NF.of e1)
                  exact ⟨zs, e1, by rw [rz.length]; exact hl, w.ds.length - (i + 1), by omega, rfl, hlt, S4.set S1.length (.lst (acc ++ [y])), μ4, (E3.ext x4).ext x5, s4.wrote eD4 ⟨zs ++ [v], upd_same, RVs.ext x5 _ (rz.append (.cons rv .nil))⟩, st _ _ _ _ (x4.trans x5) c3, eD4, Post.ext x5 p4⟩
                · exact False.elim p4
              · exact False.elim p4
          | false =>
            rw [if_neg Bool.false_ne_true] at p3
            dsimp only
            rw [if_neg Bool.false_ne_true]
            exact ⟨w.ds.length - (i + 1), by omega, rfl, hlt, S3, μ3, E3, s3, c3, eD3, p3⟩
      · exact False.elim p'
    · exact False.elim p'
  · have hz : w.ds.drop i = [] := List.drop_eq_nil_of_le (Nat.le_of_not_lt hlt)
    rw [hz] at p'
    unfold lcL at p'
    split at p'
    · rename_i hG
      exact .inl ⟨(ok' i S μ' H' s' c' hG).2 (Nat.le_of_not_lt hlt), p' μ' H' .refl s' _ (.obj eD)⟩
    · exact False.elim p'
theorem tk_blk {s : Shared} {H : Hp} {scope : Scope} {cenv : Env} {fp : List Addr} : Takes (X.blk s H scope cenv fp) (fun _ _ _ _ => False) := fun u s' x => by
  obtain ⟨_, _, _, _, _, _, _, _, _, _, _, _, _, _, _, _, w⟩ := x
  exact w.elim
theorem pts_blk {s : Shared} {H : Hp} {scope : Scope} {cenv : Env} {fp : List Addr} {ifs : List Expr} {tt : TM} (h : MTs nm (X.blk s H scope cenv fp) ifs tt) : PTs (X.blk s H scope cenv fp) ifs (rdT nm (blk0 X scope) (fun _ _ _ _ => False) tt) :=
  ⟨fun pins s1 σ H1 Q I hh => (h.run _ tk_blk).run pins s1 σ H1 Q I (by obtain ⟨e, S, μ, E, sm, p⟩ := hh; exact ⟨e, S, μ, ⟨E.len, E.at_, E.ex⟩, sm, p⟩)⟩
theorem pe_blk {s : Shared} {H : Hp} {scope : Scope} {cenv : Env} {fp : List Addr} {e : Expr} {el : EM} (h : ME nm (X.blk s H scope cenv fp) e el) : PE (X.blk s H scope cenv fp) e (rdE nm (blk0 X scope) (fun _ _ _ _ => False) el) :=
  (h.run _ tk_blk).imp fun σ H1 Q hh => by obtain ⟨e, S, μ, E, sm, p⟩ := hh; exact ⟨e, S, μ, ⟨E.len, E.at_, E.ex⟩, sm, p⟩
theorem me_lc {elt tg iter : Expr} {ifs : List Expr} {scope : Scope} {own : List (Str × Nat)} {pos : Pos} {it : IM} {tt : TM} {el : EM} {vs : List Nat} (t : LT) (hc : X.calm = true) (hN : X.N.Nodup) (hi : MI nm X tg iter it) (ok : BlkOk X.N X.env.scope scope own) (hv : own.map (·.2) = vs) (hsub : ∀ i ∈ t.ix, i ∈ vs)
    (hg : ∀ (s : Shared) (H : Hp) (C : Addr) (cl : List (Str × Addr)) (fp : List Addr), PG (X.blk s H scope (compEnvC scope cl C X.env) fp) tg (t.tg X.K))
    (ht : ∀ (s : Shared) (H : Hp) (C : Addr) (cl : List (Str × Addr)) (fp : List Addr), MTs nm (X.blk s H scope (compEnvC scope cl C X.env) fp) ifs tt)
    (he : ∀ (s : Shared) (H : Hp) (C : Addr) (cl : List (Str × Addr)) (fp : List Addr), ME nm (X.blk s H scope (compEnvC scope cl C X.env) fp) elt el)
    (hs : ∀ x, foldedSetIterable iter X.env x = pure x := by intro _; rfl) : ME nm X (.ListComp elt [⟨tg, iter, ifs, 0⟩] scope pos) (mLc vs t it tt el) := by
  subst hv
  exact ⟨fun W tk => (pe_lc hc hN (hi.run W tk) ok hg (fun s H C cl fp => pts_blk (ht s H C cl fp)) (fun s H C cl fp => pe_blk (he s H C cl fp)) hs).imp fun σ H Q hh => lc_rd (tg := tg) (iter := iter) t hsub hh⟩
/-- name = [..] -/
theorem ms_setLc (i : Nat) {y : Str} {py spos : Pos} {elt tg iter : Expr} {ifs : List Expr} {scope : Scope} {own : List (Str × Nat)} {pos : Pos} {it : IM} {tt : TM} {el : EM} {vs : List Nat} (t : LT) (hc : X.calm = true) (hN : X.N.Nodup) (hy : X.N[i]? = some y) (hyl : X.env.scope.names.lookup y = some .local)
    (hk : X.env.scope.kind = .function) (hl : (py.line == pos.line) = true) (ha : (scope.names.any fun (n, k) => n == y && (k == .local || k == .cell)) = false)
    (hi : MI nm X tg iter it) (ok : BlkOk X.N X.env.scope scope own) (hv : own.map (·.2) = vs) (hsub : ∀ i ∈ t.ix, i ∈ vs)
    (hg : ∀ (s : Shared) (H : Hp) (C : Addr) (cl : List (Str × Addr)) (fp : List Addr), PG (X.blk s H scope (compEnvC scope cl C X.env) fp) tg (t.tg X.K))
    (ht : ∀ (s : Shared) (H : Hp) (C : Addr) (cl : List (Str × Addr)) (fp : List Addr), MTs nm (X.blk s H scope (compEnvC scope cl C X.env) fp) ifs tt)
    (he : ∀ (s : Shared) (H : Hp) (C : Addr) (cl : List (Str × Addr)) (fp : List Addr), ME nm (X.blk s H scope (compEnvC scope cl C X.env) fp) elt el)
    (hs : ∀ x, foldedSetIterable iter X.env x = pure x := by intro _; rfl) : MS nm X (.Assign [.Name y py] (.ListComp elt [⟨tg, iter, ifs, 0⟩] scope pos) spos) (mSet i (mLc vs t it tt el)) := by
  subst hv
  refine ⟨fun W tk => (ps_setLc hc hN hy hyl (sw_true hk hyl hl ha) (hi.run W tk) ok hg (fun s H C cl fp => pts_blk (ht s H C cl fp)) (fun s H C cl fp => pe_blk (he s H C cl fp)) hs).imp fun D σ H h => ?_⟩
  obtain ⟨e, S, μ, E, s, p⟩ := h
  exact lc_rd (tg := tg) (iter := iter) t hsub ⟨e, S, μ, E, s, (PostS.toS E p).mono fun d S' μ' H' x s' q v r => q _ μ' H' .refl s' ((E.ext x).set r)⟩
theorem pg_one {s : Shared} {H : Hp} {scope : Scope} {cenv : Env} {fp : List Addr} {pos : Pos} (i : Nat) {x : Str} (hN : X.N.Nodup) (hi : X.N[i]? = some x) (hl : Loc cenv.scope x) (hf : (scope.names.lookup x == some .cell) = true ∨ cenv.scope.names.lookup x = some .local) :
    PG (X.blk s H scope cenv fp) (.Name x pos) ((LT.one i).tg X.K) := pg_name (X := X.blk s H scope cenv fp) hN hi hl hf
end
end BS
namespace BS
open PySem PySem.Spec PyProof.Rows L2
def kids : Expr → List Expr
  | .Call f as ks _ => f :: as ++ ks.map (·.value)
  | .Attribute o _ _ => [o]
  | .Tuple es _ _ => es
  | .List es _ => es
  | .BinOp a _ b _ => [a, b]
  | .Compare a _ bs _ => a :: bs
  | .BoolOp _ es _ => es
  | .UnaryOp _ a _ => [a]
  | .Subscript a b _ => [a, b]
  | .IfExp c a b _ => [c, a, b]
  | .ListComp elt gs _ _ => elt :: gs.map (·.iter) ++ gs.flatMap (·.ifs)
  | .Dict ks vs _ => ks.filterMap id ++ vs
  | _ => []
def kid (e : Expr) (i : Nat) : Expr := (kids e).getD i e
def skids : Stmt → List Expr
  | .Assign ts e _ => e :: ts
  | .Expr e _ => [e]
  | .Return (some e) _ => [e]
  | .If c _ _ _ => [c]
  | .For _ it _ _ _ => [it]
  | .While c _ _ _ => [c]
  | .AugAssign t _ v _ => [v, t]
  | .Raise (some e) _ _ => [e]
  | _ => []
def skid (s : Stmt) (i : Nat) : Expr := (skids s).getD i (.Constant .none 0 ⟨0, 0, 0, 0⟩)
def hbody : ExceptHandler → List Stmt
  | .ExceptHandler _ _ b _ => b
def subs : Stmt → List Stmt
  | .If _ a b _ => a ++ b
  | .For _ _ b _ _ => b
  | .While _ b _ _ => b
  | .Try b hs o f _ => b ++ hs.flatMap hbody ++ o ++ f
  | _ => []
def stm (l : List Stmt) (i : Nat) : Stmt := l.getD i (.Pass ⟨0, 0, 0, 0⟩)
def lcOf : Expr → Scope
  | .ListComp _ _ s _ => s
  | _ => { kind := .module, names := [], isGenerator := false, isCoroutine := false, more := [] }
end BS
namespace BS
open PySem PySem.Spec PyProof.Rows L2
section
variable {nm : Nms} {X : Cx}
def blsOf : List D → Option (List Bool)
  | [] => some []
  | .bl b :: r => (blsOf r).map (b :: ·)
  | _ :: _ => none
theorem bls_rv {K : PySem.W.Frag} {H : Hp} {μ : List Addr} : ∀ {ds : List D} {xs : List V} {bs : List Bool}, RVs K H μ xs ds → blsOf ds = some bs → xs = bs.map V.bl
  | [], _, _, .nil, h => by cases h; rfl
  | d :: ds, _, bs, .cons r t, h => by
    cases d with
    | bl b =>
      obtain ⟨bs', h', rfl⟩ := Option.map_eq_some_iff.mp h
      cases r
      rw [bls_rv t h']; rfl
    | _ => cases h
def fnAll : FM := fun ds S => match ds with
  | [d] => match lstOf S d with
    | some xs => match blsOf xs with
      | some bs => .ok (.bl (bs.all id)) S
      | none => .stuck
    | none => .stuck
  | _ => .stuck
theorem c_all (hc : X.calm = true) : CallD nm X (.builtin "all") fnAll := by
  intro pins s σ H xs us Q I r h
  obtain ⟨ds, S, μ, E, rv, sm, p⟩ := h
  unfold fnAll at p
  split at p
  · rename_i d
    split at p
    · rename_i xs' hl
      split at p
      · rename_i bs hb
        obtain ⟨v, rfl, r1⟩ := one_rv rv
        obtain ⟨a, ys, rfl, hs, r2⟩ := lstOf_sq sm r1 hl
        exact cr_all hc pins s σ H _ us Q I r ⟨a, bs, rfl, by rw [← bls_rv r2 hb]; exact hs, p μ H .refl sm _ (.bl _)⟩
      · exact False.elim p
    · exact False.elim p
  · exact False.elim p
def fnAny : FM := fun ds S => match ds with
  | [d] => match lstOf S d with
    | some xs => match blsOf xs with
      | some bs => .ok (.bl (bs.any id)) S
      | none => .stuck
    | none => .stuck
  | _ => .stuck
theorem c_any (hc : X.calm = true) : CallD nm X (.builtin "any") fnAny := by
  intro pins s σ H xs us Q I r h
  obtain ⟨ds, S, μ, E, rv, sm, p⟩ := h
  unfold fnAny at p
  split at p
  · rename_i d
    split at p
    · rename_i xs' hl
      split at p
      · rename_i bs hb
        obtain ⟨v, rfl, r1⟩ := one_rv rv
        obtain ⟨a, ys, rfl, hs, r2⟩ := lstOf_sq sm r1 hl
        exact cr_any hc pins s σ H _ us Q I r ⟨a, bs, rfl, by rw [← bls_rv r2 hb]; exact hs, p μ H .refl sm _ (.bl _)⟩
      · exact False.elim p
    · exact False.elim p
  · exact False.elim p
def fSmul : Store → D → D → Option D := fun _ x y => match x, y with
  | .str z, .int n => if z.length ≤ 16 ∧ -(2 ^ 63) ≤ n ∧ n ≤ 1048576 then some (.str (PySem.Txt.mul z n)) else none
  | _, _ => none
theorem o_smul : OpD nm X (binaryOp .Mult) fSmul := by
  intro pins s σ H x y v u Q I rx ry hh
  obtain ⟨S, μ, dx, dy, d, sm, r1, r2, e, q⟩ := hh
  unfold fSmul at e
  split at e
  · split at e
    · rename_i h
      cases e; cases r1; cases r2
      obtain ⟨t, rfl⟩ := rx
      obtain ⟨t', rfl⟩ := ry
      exact PySem.W.KXi.mul rfl h.1 h.2.1 (by have := h.2.2; omega) fun t' k _ _ => ⟨.str _, H, I.tok k, ⟨t', rfl⟩, q _ μ H .refl sm (.str _)⟩
    · cases e
  · cases e
theorem call_isEx : CallR X (.builtin "isinstance") (fun xs H Q => ∃ (a : Addr) (oe : Obj) (D : Addr) (c : V) (cv : Value) (b : Bool), xs = [.ref a, c] ∧ (a, oe) ∈ X.pn ∧ Zc (.ref D) none oe ∧ (∃ vs, oe.data = .fields vs) ∧ ExcC X.K D ∧ (∀ u, RelV c u → u = cv) ∧ PySem.W.kitOne X.K (.ref D) cv = some b ∧ Q (.bl b) H) := by
  intro pins s σ H xs us Q I r h
  obtain ⟨a, oe, D, c, cv, b, rfl, hp, hz, ⟨vs, hv⟩, C, hcv, e, q⟩ := h
  cases r with
  | cons rx rr =>
    cases rr with
    | cons rt rr =>
      cases rr
      cases rx
      have ec := hcv _ rt
      subst ec
      obtain ⟨hget, _⟩ := I.pin (a, oe) (List.mem_append_left _ hp)
      have J : PySem.W.InstAt s.heap a oe D none := by
        obtain ⟨oc, od, oda, osl⟩ := oe
        obtain ⟨h1, h2⟩ := hz
        dsimp only at h1 h2 hv
        subst h1 h2 hv
        exact ⟨hget, rfl, rfl, trivial⟩
      exact PySem.W.kia_one (PySem.W.handS_kitx_exc C.hg C.hk C.hs C.hd C.ha C.hn C.ht C.hm) I.kIn J e (fun z => nomatch z) fun tk => ⟨.bl b, H, I.kept (t' := tk) fun _ _ z => z, rfl, q⟩
/-- what the written part says: class x is (not) above the classes -/
def IsE (K : PySem.W.Frag) (mg : Str → Option Value) (nm : Nms) (x : Str) (yes no : List Nat) : Prop := ∃ C2, mg x = some (.ref C2) ∧ (∀ c ∈ yes, ∀ C, mg (nm.cls c) = some (.ref C) → ExcC K C ∧ PySem.W.kitOne K (.ref C) (.ref C2) = some true) ∧ (∀ c ∈ no, ∀ C, mg (nm.cls c) = some (.ref C) → ExcC K C ∧ PySem.W.kitOne K (.ref C) (.ref C2) = some false)
theorem all_cons {K : PySem.W.Frag} {mg : Str → Option Value} {P : Addr → Prop} {c : Nat} {cs : List Nat} {x : Str} {C : Addr} (hx : nm.cls c = x) (g : mg x = some (.ref C)) (e : P C) (h : ∀ c ∈ cs, ∀ C, mg (nm.cls c) = some (.ref C) → P C) :
    ∀ c' ∈ c :: cs, ∀ C, mg (nm.cls c') = some (.ref C) → P C := by
  intro c' hc C' g'
  rcases List.mem_cons.mp hc with rfl | hc
  · rw [uniq hx g g']; exact e
  · exact h c' hc C' g'
theorem all_nil {mg : Str → Option Value} {P : Addr → Prop} : ∀ c' ∈ ([] : List Nat), ∀ C, mg (nm.cls c') = some (.ref C) → P C := fun _ h => by cases h
theorem kit_self {K : PySem.W.Frag} {S : Addr} : PySem.W.kitOne K (.ref S) (.ref S) = some true := by
  unfold PySem.W.kitOne
  rw [if_pos (by simp)]
theorem kit_of {K : PySem.W.Frag} {S C : Addr} {b : Bool} (hz : (S == C) = false) (h1 : PySem.W.subIn K (.ref C) (.type "BaseException") = some true) (h2 : PySem.W.isClsIn K C = true) (h3 : PySem.W.typeIn K (.ref C) = some (.type "type")) (h4 : PySem.W.subIn K (.ref S) (.ref C) = some b) : PySem.W.kitOne K (.ref S) (.ref C) = some b := by
  have e := exm_of h1 h2 h3 h4
  unfold PySem.W.exmOne at e
  rw [if_pos (by rw [h1]; rfl)] at e
  unfold PySem.W.kitOne
  rw [if_neg (by intro z; have : S = C := by simpa using z
                 rw [this] at hz; simp at hz)]
  exact e
def isX (ex : List (Nat × Nat × List (Nat × D))) (i : Nat) (yes no : List Nat) : Option Bool := match ex with
  | [(j, c, [])] => if j = i then if yes.contains c = true then some true else if no.contains c = true then some false else none else none
  | _ => none
def mIsE (i : Nat) (yes no : List Nat) : EM := fun e S => match isX e.ex i yes no with
  | some b => .ok (.bl b) S
  | none => .stuck
theorem me_ise (i : Nat) {yes no : List Nat} {n x : Str} {p p1 p2 pos : Pos} {is : List Nat} (h : IsE X.K X.mg nm x yes no) (hv : visAll is X.N X.env.scope = true) (hg : GlN X "isinstance") (hm : X.mg "isinstance" = none) (hgx : GlN X x) (hb : bootBuiltins "isinstance" = some (.builtin "isinstance"))
    (hN : X.N[i]? = some n := by rfl) (hi : is.contains i = true := by rfl)
    (he : starEach (.Name n p1 :: [.Name x p2]) X.env = (false, eval (.Name n p1) X.env) :: starEach [.Name x p2] X.env := by rfl) (he2 : starEach (.Name x p2 :: []) X.env = (false, eval (.Name x p2) X.env) :: starEach [] X.env := by rfl)
    (hpl : (backTo pos (starEach [.Name x p2] X.env)).any (·.1) = false := by rfl) :
    ME nm X (.Call (.Name "isinstance" p) [.Name n p1, .Name x p2] [] pos) (mIsE i yes no) := by
  obtain ⟨hvi, hd, hcd⟩ := vis_of hv hi hN
  obtain ⟨C2, g, hy, hno⟩ := h
  refine ⟨fun W tk => (pe_callB call_isEx hg.g hm hb (pa_cons (pe_var hN hvi hd hcd) (pa_cons (pe_glob (v := .ref C2) hgx.g g rfl hgx.d) pa_nil he2) he) hg.n hg.d he hpl).imp fun σ H Q hh => ?_⟩
  obtain ⟨e, S, μ, E, sm, q⟩ := hh
  unfold mIsE at q
  split at q
  · rename_i b hx
    unfold isX at hx
    split at hx
    · rename_i j c hex
      split at hx
      · rename_i hji
        subst hji
        obtain ⟨a, oe, C, dd, g1, g2, g3, g5⟩ := E.ex (j, c, []) (by rw [hex]; exact List.mem_cons_self)
        obtain ⟨k1, k2⟩ := g5
        have hdd : dd = none := by
          cases dd with
          | none => rfl
          | some dx => obtain ⟨_, _, _, _, z⟩ := k2; exact absurd rfl z
        subst hdd
        have fin : ∀ b', ExcC X.K C ∧ PySem.W.kitOne X.K (.ref C) (.ref C2) = some b' → b' = b → tCB (fun xs H Q => ∃ (a : Addr) (oe : Obj) (D : Addr) (c : V) (cv : Value) (b : Bool), xs = [.ref a, c] ∧ (a, oe) ∈ X.pn ∧ Zc (.ref D) none oe ∧ (∃ vs, oe.data = .fields vs) ∧ ExcC X.K D ∧ (∀ u, RelV c u → u = cv) ∧ PySem.W.kitOne X.K (.ref D) cv = some b ∧ Q (.bl b) H) (tCons (tVar j) (tCons (fun _ H Q => Q (.ref C2) H) tNil)) σ H Q := by
          rintro b' ⟨hc, hk⟩ rfl
          exact ⟨_, g1, a, oe, C, .ref C2, .ref C2, b', rfl, g2, g3.1, g3.2, hc, fun u r => r, hk, q μ H .refl sm _ (.bl _)⟩
        split at hx
        · rename_i hc
          cases hx
          exact fin true (hy c (by simpa using hc) C k1) rfl
        · split at hx
          · rename_i hc
            cases hx
            exact fin false (hno c (by simpa using hc) C k1) rfl
          · cases hx
      · cases hx
    · cases hx
  · exact False.elim q
end
end BS
namespace BS
open PySem PySem.Spec PyProof.Rows L2
section
variable {nm : Nms} {X : Cx}
def popS (S : Store) (n : Nat) (k : D) (x : Option D) : R D := match S[n]? with
  | some (.dct kvs) => match keyOf k with
    | some key => match getK kvs key with
      | some d => .ok d (S.set n (.dct (dropD kvs key)))
      | none => match x with
        | some x => .ok x S
        | none => .stuck
    | none => .stuck
  | _ => .stuck
def fnPopD : FM := fun ds S => match ds with
  | [.obj n, k] => popS S n k none
  | [.obj n, k, x] => popS S n k (some x)
  | _ => .stuck
theorem t_popD : MtD nm X "dict.pop" fnPopD := by
  intro pins s σ H x xs v us Q I rx r h
  obtain ⟨ds, S, μ, E, rv, sm, p⟩ := h
  unfold fnPopD at p
  split at p
  · rename_i n dk
    obtain ⟨r1, rt⟩ := rvs_cons rv
    obtain ⟨y, rfl, r2⟩ := one_rv rt
    obtain ⟨u, rfl, ru⟩ := vals1 r
    unfold popS at p
    split at p
    · rename_i kvs hS
      split at p
      · rename_i key hk
        cases r1 with | @obj a _ en =>
        obtain ⟨ys, e1, rk⟩ := sm.ob _ _ _ en hS
        have ek := keyOf_kV r2 hk
        subst ek
        cases rx
        rcases getK_val key rk with ⟨h1, h2⟩ | ⟨w, d, h1, h2, h3⟩
        · rw [h2] at p; exact False.elim p
        · rw [h2] at p
          have x := Ext.wrote (H := H) (u := .dK (dropK ys key)) (List.mem_of_getElem? en) (NF.of e1)
          exact d_pop I e1 ru h1 (.inl rfl) fun w' s3 I3 rw' => ⟨w, _, I3, rw', p μ _ x (sm.wrote en ⟨_, upd_same, RK.ext x (drop_rk rk)⟩) w (h3.ext x)⟩
      · exact False.elim p
    · exact False.elim p
  · rename_i n dk dx
    obtain ⟨r1, rt⟩ := rvs_cons rv
    obtain ⟨y, z, rfl, r2, r4⟩ := two_rv rt
    obtain ⟨u, f, rfl, ru, rf⟩ := vals2 r
    unfold popS at p
    split at p
    · rename_i kvs hS
      split at p
      · rename_i key hk
        cases r1 with | @obj a _ en =>
        obtain ⟨ys, e1, rk⟩ := sm.ob _ _ _ en hS
        have ek := keyOf_kV r2 hk
        subst ek
        cases rx
        rcases getK_val key rk with ⟨h1, h2⟩ | ⟨w, d, h1, h2, h3⟩
        · rw [h2] at p
          exact d_popD I e1 ru h1 fun s4 I4 => ⟨z, H, I4, rf, p μ H .refl sm z r4⟩
        · rw [h2] at p
          have x := Ext.wrote (H := H) (u := .dK (dropK ys key)) (List.mem_of_getElem? en) (NF.of e1)
          exact d_pop I e1 ru h1 (.inr ⟨f, rfl⟩) fun w' s3 I3 rw' => ⟨w, _, I3, rw', p μ _ x (sm.wrote en ⟨_, upd_same, RK.ext x (drop_rk rk)⟩) w (h3.ext x)⟩
      · exact False.elim p
    · exact False.elim p
  · exact False.elim p
def fnDict : FM := fun ds S => match ds with
  | [d] => match dctOf S d with
    | some kvs => .ok (.obj S.length) (S ++ [.dct kvs])
    | none => .stuck
  | _ => .stuck
theorem c_dict : CallD nm X (.type "dict") fnDict := by
  intro pins s σ H xs us Q I r h
  obtain ⟨ds, S, μ, E, rv, sm, p⟩ := h
  unfold fnDict at p
  split at p
  · rename_i d
    split at p
    · rename_i kvs hk
      obtain ⟨v, rfl, r1⟩ := one_rv rv
      obtain ⟨n, a, ys, rfl, rfl, _, _, e1, rk⟩ := dctOf_at sm r1 hk
      rw [Vals.ref1 r]
      exact d_copyOf I (.inl e1) fun q s' nq I' => ⟨.ref q, _, I', rfl, p _ _ (Ext.made sm nq) (sm.made (o := .dct kvs) nq ⟨ys, upd_same, RK.ext (Ext.made sm nq) rk⟩) _ (.obj (new_at sm))⟩
    · exact False.elim p
  · exact False.elim p
end
end BS
namespace BS
open PySem PySem.Spec PyProof.Rows L2
theorem sorted_one {α : Type} {r : α → α → Prop} (anti : ∀ a b, r a b → r b a → a = b) : ∀ {l1 l2 : List α}, l1.Perm l2 → l1.Pairwise r → l2.Pairwise r → l1 = l2
  | [], l2, p, _, _ => (List.nil_perm.mp p).symm
  | a :: l1, [], p, _, _ => absurd p.symm (by simp)
  | a :: l1, b :: l2, p, h1, h2 => by
    have e : a = b := by
      have ha : a ∈ b :: l2 := p.subset (by simp)
      have hb : b ∈ a :: l1 := p.symm.subset (by simp)
      rcases List.mem_cons.mp ha with e | ha
      · exact e
      · rcases List.mem_cons.mp hb with e | hb
        · exact e.symm
        · exact anti a b ((List.pairwise_cons.mp h1).1 b hb) ((List.pairwise_cons.mp h2).1 a ha)
    subst e
    rw [sorted_one anti (List.Perm.cons_inv p) (List.pairwise_cons.mp h1).2 (List.pairwise_cons.mp h2).2]
def sortI (ns : List Int) : List Int := ns.mergeSort (fun a b => decide (a ≤ b))
theorem sortI_perm (ns : List Int) : (sortI ns).Perm ns := List.mergeSort_perm _ _
theorem sortI_sorted (ns : List Int) : (sortI ns).Pairwise (· ≤ ·) := by
  have h := List.pairwise_mergeSort (le := fun a b : Int => decide (a ≤ b)) (fun a b c h1 h2 => by simp at *; omega) (fun a b => by simp; omega) ns
  exact h.imp fun h => by simpa using h
theorem sortI_one {ns ns' : List Int} (p : ns'.Perm ns) (h : ns'.Pairwise (· ≤ ·)) : ns' = sortI ns :=
  sorted_one (fun a b h1 h2 => Int.le_antisymm h1 h2) (p.trans (sortI_perm ns).symm) h (sortI_sorted ns)
def intsOf : List D → Option (List Int)
  | [] => some []
  | .int i :: r => (intsOf r).map (i :: ·)
  | _ :: _ => none
def keysI : List (Key × D) → Option (List Int)
  | [] => some []
  | (.inl i, _) :: r => (keysI r).map (i :: ·)
  | _ :: _ => none
theorem intsOf_rv {K : PySem.W.Frag} {H : Hp} {μ : List Addr} : ∀ {ds : List D} {xs : List V} {ns : List Int}, RVs K H μ xs ds → BS.intsOf ds = some ns → xs = ns.map V.int
  | [], _, _, .nil, h => by cases h; rfl
  | d :: ds, _, ns, .cons r t, h => by
    cases d with
    | int i =>
      obtain ⟨ns', h', rfl⟩ := Option.map_eq_some_iff.mp h
      cases r
      rw [intsOf_rv t h']; rfl
    | _ => cases h
theorem keysI_rk {K : PySem.W.Frag} {H : Hp} {μ : List Addr} : ∀ {kvs : List (Key × D)} {ys : List (Key × V)} {ns : List Int}, RK K H μ ys kvs → keysI kvs = some ns → ys.map (·.1) = ns.map Sum.inl
  | [], _, _, .nil, h => by cases h; rfl
  | (k, d) :: kvs, y :: ys, ns, .cons r t, h => by
    cases k with
    | inl i =>
      obtain ⟨ns', h', rfl⟩ := Option.map_eq_some_iff.mp h
      rw [List.map_cons, List.map_cons, keysI_rk t h', r.1]
    | inr _ => cases h
theorem rvs_intsD {K : PySem.W.Frag} {H : Hp} {μ : List Addr} : ∀ ns : List Int, RVs K H μ (ns.map V.int) (ns.map D.int)
  | [] => .nil
  | n :: ns => .cons (.int n) (rvs_intsD ns)
def leS (a b : Str) : Prop := ltS b a = false
theorem leS_iff {a b : Str} : leS a b ↔ a.cps.toList ≤ b.cps.toList := by
  unfold leS ltS
  rw [decide_eq_false_iff_not]
  exact List.not_lt
theorem leS_trans {a b c : Str} (h1 : leS a b) (h2 : leS b c) : leS a c := leS_iff.mpr (List.le_trans (leS_iff.mp h1) (leS_iff.mp h2))
theorem leS_anti {a b : Str} (h1 : leS a b) (h2 : leS b a) : a = b := by
  have e := List.le_antisymm (leS_iff.mp h1) (leS_iff.mp h2)
  cases a; cases b
  simpa using e
theorem leS_total (a b : Str) : leS a b ∨ leS b a := by
  rcases List.le_total a.cps.toList b.cps.toList with h | h
  · exact .inl (leS_iff.mpr h)
  · exact .inr (leS_iff.mpr h)
theorem rising_pw : ∀ (r : List Str) (p : Str), risingS p r = true → (∀ x ∈ r, leS p x) ∧ r.Pairwise leS
  | [], p, _ => ⟨by simp, .nil⟩
  | x :: r, p, h => by
    unfold risingS at h
    rw [Bool.and_eq_true] at h
    have hx : leS p x := by
      unfold leS ltS
      have := h.1
      rw [ltCps_eq] at this
      simpa using this
    obtain ⟨h1, h2⟩ := rising_pw r x h.2
    exact ⟨fun y hy => by
      rcases List.mem_cons.mp hy with rfl | hy
      · exact hx
      · exact leS_trans hx (h1 y hy), List.pairwise_cons.mpr ⟨h1, h2⟩⟩
theorem sorted_pw {ys : List Str} (h : sortedS ys = true) : ys.Pairwise leS := by
  cases ys with
  | nil => exact .nil
  | cons x r =>
    obtain ⟨h1, h2⟩ := rising_pw r x h
    exact List.pairwise_cons.mpr ⟨h1, h2⟩
def sortT (zs : List Str) : List Str := zs.mergeSort (fun a b => !ltS b a)
theorem sortT_perm (zs : List Str) : (sortT zs).Perm zs := List.mergeSort_perm _ _
theorem sortT_sorted (zs : List Str) : (sortT zs).Pairwise leS := by
  have h := List.pairwise_mergeSort (le := fun a b : Str => !ltS b a) (fun a b c h1 h2 => by
    simp only [Bool.not_eq_true'] at *
    exact leS_trans (a := a) (b := b) (c := c) h1 h2) (fun a b => by
    rcases leS_total a b with h | h
    · simp only [Bool.or_eq_true, Bool.not_eq_true']; exact .inl h
    · simp only [Bool.or_eq_true, Bool.not_eq_true']; exact .inr h) zs
  exact h.imp fun h => by simpa [leS] using h
theorem sortT_one {zs ys : List Str} (p : ys.Perm zs) (h : sortedS ys = true) : ys = sortT zs :=
  sorted_one (fun a b h1 h2 => leS_anti h1 h2) (p.trans (sortT_perm zs).symm) (sorted_pw h) (sortT_sorted zs)
def strsOf : List D → Option (List Str)
  | [] => some []
  | .str i :: r => (strsOf r).map (i :: ·)
  | _ :: _ => none
def keysT : List (Key × D) → Option (List Str)
  | [] => some []
  | (.inr i, _) :: r => (keysT r).map (i :: ·)
  | _ :: _ => none
theorem strsOf_rv {K : PySem.W.Frag} {H : Hp} {μ : List Addr} : ∀ {ds : List D} {xs : List V} {ns : List Str}, RVs K H μ xs ds → BS.strsOf ds = some ns → xs = ns.map V.str
  | [], _, _, .nil, h => by cases h; rfl
  | d :: ds, _, ns, .cons r t, h => by
    cases d with
    | str i =>
      obtain ⟨ns', h', rfl⟩ := Option.map_eq_some_iff.mp h
      cases r
      rw [strsOf_rv t h']; rfl
    | _ => cases h
theorem keysT_rk {K : PySem.W.Frag} {H : Hp} {μ : List Addr} : ∀ {kvs : List (Key × D)} {ys : List (Key × V)} {ns : List Str}, RK K H μ ys kvs → keysT kvs = some ns → ys.map (·.1) = ns.map Sum.inr
  | [], _, _, .nil, h => by cases h; rfl
  | (k, d) :: kvs, y :: ys, ns, .cons r t, h => by
    cases k with
    | inr i =>
      obtain ⟨ns', h', rfl⟩ := Option.map_eq_some_iff.mp h
      rw [List.map_cons, List.map_cons, keysT_rk t h', r.1]
    | inl _ => cases h
theorem rvs_strsD {K : PySem.W.Frag} {H : Hp} {μ : List Addr} : ∀ ns : List Str, RVs K H μ (ns.map V.str) (ns.map D.str)
  | [] => .nil
  | n :: ns => .cons (.str n) (rvs_strsD ns)
def sv (v : Value) : Str := strOf v
def ltSv (v u : Value) : Bool := ltS (sv v) (sv u)
theorem ltS_asym {a b : Str} (h : ltS a b = true) : ltS b a = false := by
  unfold ltS at *
  rw [decide_eq_true_eq] at h
  rw [decide_eq_false_iff_not]
  exact fun g => (List.lt_asymm h) g
theorem swo_str : SrtO.Swo ltSv := ⟨fun x y h => ltS_asym h, fun x y z h1 h2 => leS_trans (a := sv x) (b := sv y) (c := sv z) h1 h2⟩
section
variable {prog : Program} {w : World} {A : Around} {E : Value → Shared → Prop} {s : Shared}
theorem strs_mem {vs : List Value} {zs : List Str} (h : StrsAre vs zs) (v : Value) (m : v ∈ vs) : ∃ x t, v = .str x t := h.all v m
theorem str_cmp {vs : List Value} {ns : List Str} (hI : StrsAre vs ns) : SrtO.Cmp prog w A s oneType' (fun p => p.1 ∈ vs) (SrtO.lt2 ltSv) := by
  intro p q hm hm'
  obtain ⟨a, t, e⟩ := strs_mem hI _ hm
  obtain ⟨b, u, e'⟩ := strs_mem hI _ hm'
  show wpAny (model prog w) A (keyLt' oneType' p.1 q.1) (fun r s' => s' = s ∧ r = ltSv p.1 q.1) (fun _ _ => False) s
  rw [e, e', keyLt'_oneType]
  exact oneLt_str ⟨rfl, rfl⟩
theorem strs_sortable {a : Addr} {vs : List Value} {ns : List Str} (hI : StrsAre vs ns) (h2 : 2 ≤ vs.length) : SrtO.SortableO prog w A s a vs ltSv := by
  intro h' _
  refine ⟨oneType', fun Q E hq => ?_, str_cmp hI⟩
  match vs, hI, h2 with
  | v1 :: v2 :: rest, hI, _ =>
    rw [keyKind_strs hI]
    exact wpAny_pure hq
  | [], _, h => exact absurd h (by decide)
  | [v], _, h => exact absurd h (by simp)
end
theorem strs_outF {vs out : List Value} {ns : List Str} (hI : StrsAre vs ns) (hs : SrtO.Srtd ltSv out) (hb : SrtO.Stb ltSv out vs) : StrsAre out (sortT ns) := by
  have h1 : StrsAre out (out.map strOf) := strsAre_map out fun v m => hI.all v (hb.perm.mem_iff.mp m)
  have h2 : (out.map strOf).Perm ns := by
    have q := hb.perm.map strOf
    rwa [hI.strs] at q
  have h3 : (out.map strOf).Pairwise leS := List.pairwise_map.mpr (hs.imp fun {x y} h => h)
  have h4 : out.map strOf = sortT ns := sorted_one (fun a b => leS_anti) (h2.trans (sortT_perm ns).symm) h3 (sortT_sorted ns)
  rwa [← h4]
section
variable {X : Cx}
/-- sorted(d), texts, any number of them -/
theorem call_sortedDT (hcalm : X.calm = true) : CallR X (.builtin "sorted") (fun xs H Q => ∃ (a : Addr) (kvs : List (Key × V)) (ks : List Str), xs = [.ref a] ∧ Rd H a (.dK kvs) ∧ kvs.map (·.1) = ks.map Sum.inr ∧
    ∀ p, H p = none → Q (.ref p) (upd H p (.lst ((sortT ks).map V.str)))) := by
  intro pins s σ H xs us Q I r q
  obtain ⟨a, kvs, ks, ex, hd, hks, q⟩ := q
  subst ex
  obtain ⟨u, eu, rx⟩ := vals1 r
  subst eu
  cases rx
  obtain ⟨z, lo, vs, rel, dd⟩ := dk_rd I.hok hd
  obtain ⟨ep, hat⟩ := dd.dictAt
  have hkeys : vs.map (·.1) = ks.map Sum.inr := rel.keys.symm.trans hks
  have hl : vs.length = ks.length := by
    have e := congrArg List.length hkeys
    rw [List.length_map, List.length_map] at e
    exact e
  have h16 : vs.length ≤ sizeLine := by rw [← rel.length]; exact z
  refine Calls.call_function_entry PyProof.Rows.kind_sorted PyProof.Rows.plain_sorted PyProof.Rows.entry_sorted (PyProof.Rows.args_sorted1 _) ?_
  unfold Builtin.«sorted»
  refine wpAny_bind (m := checkCount "sorted" 1 1 _) (wpAny_pure ?_)
  refine wpAny_bind (PySem.W.kdu_collect (A := X.A.in1) (PySem.W.kdl_dict (knd := mixKind X.prog X.w) (kvs := vs) (ep := ep) lo) (I.ok.hd hcalm) hat h16 fun h' tk acc hk hacc => ?_)
  have hal : acc.toList.length = ks.length := by rw [Array.length_toList, hacc.1, hl]
  have hS : StrsAre acc.toList ks := L2.strs_at hal fun j v e => by
    obtain ⟨k, x, e1, e2⟩ := hacc.2 j v (by rw [← Array.getElem?_toList]; exact e)
    have e3 : (vs.map (·.1))[j]? = some k := by rw [List.getElem?_map, e1]; all_goals rfl
    rw [hkeys, List.getElem?_map] at e3
    cases e4 : ks[j]? with
    | none => rw [e4] at e3; cases e3
    | some y =>
      rw [e4] at e3
      have e5 : Sum.inr y = k := Option.some.inj e3
      subst e5
      obtain ⟨t, ev⟩ := Value.isStrOf_shape (x := y) (v := v) e2
      exact ⟨y, t, rfl, ev⟩
  have I1 : Inv X pins σ H { s with heap := h', toks := tk } := I.kept hk
  refine wpAny_bind (wpAny_newList ?_ (by rw [hal, ← hl]; exact h16))
  have hoL : (h'.push (seqObj "list" acc.toList.toArray 0)).get? h'.objs.size = some (seqObj "list" acc.toList.toArray 0) := Heap.get?_push_size _ rfl
  show wpAny _ _ _ _ _ { s with heap := h'.push (seqObj "list" acc.toList.toArray 0), toks := tk }
  refine wpAny_bind (wpAny_holding (wpAny_call_entry PyProof.Rows.slot_list_sort ⟨_, hoL, rfl⟩ PyProof.Rows.entry_list_sort ?_ (PyProof.Rows.args_list_sort _)))
  refine SrtO.list_sort_ord swo_str hoL (by rw [hal, ← hl]; exact h16) (fun h2 => strs_sortable hS h2) fun out k1 k2 => ⟨_, rfl, ?_⟩
  have g1 := strs_outF hS k1 k2
  obtain ⟨e', he'⟩ := PyProof.Rows.sortedHeap_at (vs := acc.toList) (out := out.toArray) hoL
  have hlen : ((sortT ks).map V.str).length ≤ sizeLine := by
    rw [List.length_map, (sortT_perm ks).length_eq, ← hl]
    exact h16
  refine wpAny_pure ⟨_, rfl, .ref h'.objs.size, upd H h'.objs.size (.lst ((sortT ks).map V.str)), I1.laid (t' := tk) (fun b u e => ?_) (Nat.le_refl _)
    (show ObjOk X.prog X.w _ _ _ (.lst ((sortT ks).map V.str)) from ⟨hlen, out, e', vals_of_strs g1, he'⟩), rfl, q _ (I1.hok.fresh (Nat.le_refl _))⟩
  have hb : b < h'.objs.size := Heap.lt_size e
  rw [PyProof.Rows.sortedHeap_old (Nat.ne_of_lt hb) (by rw [size_push']; exact Nat.lt_succ_of_lt hb)]
  exact Heap.get?_push_of_some _ e
end
section
variable {nm : Nms} {X : Cx}
def fnSorted (new : Bool) : FM := fun ds S => match ds with
  | [d] => match lstOf S d with
    | some xs => match BS.intsOf xs with
      | some ns => fin new ((sortI ns).map .int) S
      | none => match BS.strsOf xs with
        | some zs => if zs.length < 64 then fin new ((sortT zs).map .str) S else .stuck
        | none => .stuck
    | none => match dctOf S d with
      | some kvs => match keysI kvs with
        | some ns => if ns.length < 64 then fin new ((sortI ns).map .int) S else .stuck
        | none => match keysT kvs with
          | some zs => fin new ((sortT zs).map .str) S
          | none => .stuck
      | none => .stuck
  | _ => .stuck
theorem c_sorted (new : Bool) (hc : X.calm = true) : CallD nm X (.builtin "sorted") (fnSorted new) := by
  intro pins s σ H xs us Q I r h
  obtain ⟨ds, S, μ, E, rv, sm, p⟩ := h
  unfold fnSorted at p
  split at p
  · rename_i d
    obtain ⟨v, rfl, r1⟩ := one_rv rv
    split at p
    · rename_i xs' hl
      split at p
      · rename_i ns hb
        obtain ⟨a, ys, rfl, hs, r2⟩ := lstOf_sq sm r1 hl
        refine cr_sortedI pins s σ H _ us Q I r ⟨a, ns, rfl, by rw [← intsOf_rv r2 hb]; exact hs, fun ns' q hp hs' nq => ?_⟩
        rw [sortI_one hp hs']
        exact fin_post sm (rvs_intsD _) nq p
      · split at p
        · rename_i zs hb
          split at p
          · rename_i h64
            obtain ⟨a, ys, rfl, hs, r2⟩ := lstOf_sq sm r1 hl
            refine cr_sortedS pins s σ H _ us Q I r ⟨a, zs, rfl, by rw [← strsOf_rv r2 hb]; exact hs, h64, fun ns' q hp hs' nq => ?_⟩
            rw [sortT_one hp hs']
            exact fin_post sm (rvs_strsD _) nq p
          · exact False.elim p
        · exact False.elim p
    · split at p
      · rename_i kvs hk
        split at p
        · rename_i ns hb
          split at p
          · rename_i h64
            obtain ⟨n, a, ys, rfl, rfl, _, _, e1, rk⟩ := dctOf_at sm r1 hk
            refine call_sortedDI hc pins s σ H _ us Q I r ⟨a, ys, ns, rfl, .inl e1, keysI_rk rk hb, h64, fun ns' q hp hs' nq => ?_⟩
            rw [sortI_one hp hs']
            exact fin_post sm (rvs_intsD _) nq p
          · exact False.elim p
        · split at p
          · rename_i zs hb
            obtain ⟨n, a, ys, rfl, rfl, _, _, e1, rk⟩ := dctOf_at sm r1 hk
            exact call_sortedDT hc pins s σ H _ us Q I r ⟨a, ys, zs, rfl, .inl e1, keysT_rk rk hb, fun q nq => fin_post sm (rvs_strsD _) nq p⟩
          · exact False.elim p
      · exact False.elim p
  · exact False.elim p
end
end BS
namespace BS
open PySem PySem.Spec PyProof.Rows L2
def sameF (x y : D) : Bool := match x, y with
  | .non, .non => true
  | .bl a, .bl b => a == b
  | .int a, .int b => decide (a = b)
  | .str a, .str b => decide (a = b)
  | _, _ => false
def eqK (ks ls : List (Key × D)) : Bool := decide (ks.length = ls.length) && ks.all fun p => match getK ls p.1 with
  | some d => sameF p.2 d
  | none => false
def fEqD : Store → D → D → Option D := fun S x y => match dctOf S x with
  | some ks => match dctOf S y with
    | some ls => if eqK ks ls = true then some (.bl true) else none
    | none => none
  | none => none
def fNeD : Store → D → D → Option D := fun S x y => match dctOf S x with
  | some ks => match dctOf S y with
    | some ls => if eqK ks ls = true then some (.bl false) else none
    | none => none
  | none => none
section
variable {nm : Nms} {X : Cx}
theorem same_rv {K : PySem.W.Frag} {H : Hp} {μ : List Addr} {v u : V} {x y : D} (rx : RV K H μ v x) (ry : RV K H μ u y) (h : sameF x y = true) : u = v ∧ flatB v = true := by
  unfold sameF at h
  split at h
  · cases rx; cases ry; exact ⟨rfl, rfl⟩
  · cases rx; cases ry; simp at h; subst h; exact ⟨rfl, rfl⟩
  · cases rx; cases ry; simp at h; subst h; exact ⟨rfl, rfl⟩
  · cases rx; cases ry; simp at h; subst h; exact ⟨rfl, rfl⟩
  · cases h
theorem eqK_rk {K : PySem.W.Frag} {H : Hp} {μ : List Addr} {ys zs : List (Key × V)} {ks ls : List (Key × D)} (ry : RK K H μ ys ks) (rz : RK K H μ zs ls) (h : eqK ks ls = true) :
    ys.length = zs.length ∧ ∀ p ∈ ys, valV zs p.1 = some p.2 ∧ flatB p.2 = true := by
  unfold eqK at h
  rw [Bool.and_eq_true, decide_eq_true_eq] at h
  refine ⟨by rw [Paired.length ry, Paired.length rz, h.1], ?_⟩
  have hall := h.2
  clear h
  induction ry with
  | nil => intro p hp; simp at hp
  | @cons p q ys ks r t ih =>
    rw [List.all_cons, Bool.and_eq_true] at hall
    intro p' hp
    rcases List.mem_cons.mp hp with rfl | hp
    · have h1 := hall.1
      split at h1
      · rename_i d hd
        rcases getK_val q.1 rz with ⟨e1, e2⟩ | ⟨v, d', e1, e2, r2⟩
        · rw [e2] at hd; cases hd
        · rw [e2] at hd; cases hd
          obtain ⟨e, f⟩ := same_rv r.2 r2 h1
          subst e
          exact ⟨by rw [r.1]; exact e1, f⟩
      · cases h1
    · exact ih hall.2 p' hp
theorem dct_two {K : PySem.W.Frag} {mg : Str → Option Value} {H : Hp} {μ : List Addr} {S : Store} {v : V} {d : D} {ks : List (Key × D)} (s : Sim nm K mg μ S H) (r : RV K H μ v d) (h : dctOf S d = some ks) : ∃ a ys, v = .ref a ∧ H a = some (.dK ys) ∧ RK K H μ ys ks := by
  unfold dctOf at h
  split at h
  · split at h
    · rename_i hds
      cases h
      cases r with | obj e =>
        obtain ⟨ys, e1, r⟩ := s.ob _ _ _ e hds
        exact ⟨_, ys, rfl, e1, r⟩
    · cases h
  · cases h
theorem o_eqD {k : Nat} (hr : L2H.RoomH k X.A) : OpD nm X (compareOp .Eq) fEqD := by
  intro pins s σ H x y v u Q I rv ru hh
  obtain ⟨S, μ, dx, dy, d, sm, rx, ry, e, q⟩ := hh
  unfold fEqD at e
  split at e
  · rename_i ks hk
    split at e
    · rename_i ls hl
      split at e
      · rename_i c
        cases e
        obtain ⟨a, ys, rfl, h1, r1⟩ := dct_two sm rx hk
        obtain ⟨b, zs, rfl, h2, r2⟩ := dct_two sm ry hl
        obtain ⟨c1, c2⟩ := eqK_rk r1 r2 c
        have := hr.un
        exact op_eq_dictA (by omega) pins s σ H _ _ v u Q I rv ru ⟨a, b, ys, zs, rfl, rfl, h1, h2, c1, c2, q _ μ H .refl sm (.bl _)⟩
      · cases e
    · cases e
  · cases e
theorem o_neD {k : Nat} (hr : L2H.RoomH k X.A) : OpD nm X (compareOp .NotEq) fNeD := by
  intro pins s σ H x y v u Q I rv ru hh
  obtain ⟨S, μ, dx, dy, d, sm, rx, ry, e, q⟩ := hh
  unfold fNeD at e
  split at e
  · rename_i ks hk
    split at e
    · rename_i ls hl
      split at e
      · rename_i c
        cases e
        obtain ⟨a, ys, rfl, h1, r1⟩ := dct_two sm rx hk
        obtain ⟨b, zs, rfl, h2, r2⟩ := dct_two sm ry hl
        obtain ⟨c1, c2⟩ := eqK_rk r1 r2 c
        have := hr.un
        exact op_ne_dictA (by omega) pins s σ H _ _ v u Q I rv ru ⟨a, b, ys, zs, rfl, rfl, h1, h2, c1, c2, q _ μ H .refl sm (.bl _)⟩
      · cases e
    · cases e
  · cases e
/-- x is True -/
def fIsB : Store → D → D → Option D := fun _ x y => match x, y with
  | .bl a, .bl b => some (.bl (decide (a = b)))
  | _, _ => none
def fIsNotB : Store → D → D → Option D := fun _ x y => match x, y with
  | .bl a, .bl b => some (.bl (!decide (a = b)))
  | _, _ => none
theorem o_isB : OpD nm X (compareOp .Is) fIsB := by
  intro pins s σ H x y v u Q I rv ru hh
  obtain ⟨S, μ, dx, dy, d, sm, rx, ry, e, q⟩ := hh
  unfold fIsB at e
  split at e
  · cases rx; cases ry; cases e
    exact op_isBl pins s σ H _ _ v u Q I rv ru ⟨_, _, rfl, rfl, q _ μ H .refl sm (.bl _)⟩
  · cases e
theorem o_isnotB : OpD nm X (compareOp .IsNot) fIsNotB := by
  intro pins s σ H x y v u Q I rv ru hh
  obtain ⟨S, μ, dx, dy, d, sm, rx, ry, e, q⟩ := hh
  unfold fIsNotB at e
  split at e
  · cases rx; cases ry; cases e
    exact op_notBl pins s σ H _ _ v u Q I rv ru ⟨_, _, rfl, rfl, q _ μ H .refl sm (.bl _)⟩
  · cases e
variable {pos : Pos}
def mPar3 (i j l : Nat) (m : AM) : SM := fun e S => (m e S).toS e fun ds S => match ds with
  | [a, b, c] => .nx (((e.set i a).set j b).set l c) S
  | _ => .stuck
theorem ms_par3 (i j l : Nat) {x y z : Str} {a b c : Expr} {ma : AM} {px py pz pt : Pos} {kt k2 pt2} (hc : X.calm = true) (hN : X.N.Nodup) (ha : MA nm X [a, b, c] ma) (hi : X.N[i]? = some x := by rfl) (hj : X.N[j]? = some y := by rfl) (hl : X.N[l]? = some z := by rfl) (hij : i ≠ j := by decide) (hil : i ≠ l := by decide) (hjl : j ≠ l := by decide)
    (hx : X.env.scope.names.lookup x = some .local := by rfl) (hy : X.env.scope.names.lookup y = some .local := by rfl) (hz : X.env.scope.names.lookup z = some .local := by rfl)
    (hw : swappedStores [.Tuple [.Name x px, .Name y py, .Name z pz] kt pt] (.Tuple [a, b, c] k2 pt2) X.env = pure (some [x, y, z]) := by rfl)
    (hs : swapsWithSole [.Tuple [.Name x px, .Name y py, .Name z pz] kt pt] (.Tuple [a, b, c] k2 pt2) pos.line X.env = pure false := by rfl) : MS nm X (.Assign [.Tuple [.Name x px, .Name y py, .Name z pz] kt pt] (.Tuple [a, b, c] k2 pt2) pos) (mPar3 i j l ma) :=
  ⟨fun W tk => (ps_par3 hc hN hi hj hl hij hil hjl hx hy hz (ha.run W tk) hw hs).imp fun D σ H h => by
    obtain ⟨e, S, μ, E, s, p⟩ := h
    refine ⟨e, S, μ, E, s, (PostS.toS E p).mono fun ds S' μ' H' x s' q vs r => ?_⟩
    split at q
    · cases r with | cons r1 r =>
      cases r with | cons r2 r =>
      cases r with | cons r3 r =>
      cases r
      exact ⟨_, _, _, rfl, q _ μ' H' .refl s' ((((E.ext x).set r1).set r2).set r3)⟩
    · exact False.elim q⟩
end
end BS
namespace BS
open PySem PySem.Spec PyProof.Rows L2
theorem ExcAt.extW {nm : Nms} {K : PySem.W.Frag} {mg : Str → Option Value} {H H' : Hp} {μ μ' : List Addr} {c : Nat} {fs : List (Nat × D)} {C : Addr} {d : Option Addr} (x : ExtW μ H μ' H') (h : ExcAt nm K mg H μ c fs C d) : ExcAt nm K mg H' μ' c fs C d := by
  refine ⟨h.1, ?_⟩
  cases d with
  | none => exact h.2
  | some dd =>
    obtain ⟨gs, n, e, r, ne⟩ := h.2
    exact ⟨gs, x.out n (.inl e), x.keep dd _ n e, RF.extW x r, ne⟩
theorem EvR.extW {nm : Nms} {X : Cx} {H H' : Hp} {μ μ' : List Addr} {e : Ev} {σ : St} (x : ExtW μ H μ' H') (h : EvR nm X H μ e σ) : EvR nm X H' μ' e σ :=
  ⟨h.len, fun i d e => let ⟨v, a, b⟩ := h.at_ i d e; ⟨v, a, b.extW x⟩, fun p hp => let ⟨a, oe, C, d, h1, h2, h3, h4⟩ := h.ex p hp; ⟨a, oe, C, d, h1, h2, h3, h4.extW x⟩⟩
/-- the loop over a dict is over: the dict may be written again -/
def RS.unl (n : Nat) (r : RS) : RS := match r with
  | .nx e S => match S[n]? with
    | some (.lck ks) => .nx e (S.set n (.dct ks))
    | _ => .stuck
  | .rt d S => match S[n]? with
    | some (.lck ks) => .rt d (S.set n (.dct ks))
    | _ => .stuck
  | .bk e S => match S[n]? with
    | some (.lck ks) => .bk e (S.set n (.dct ks))
    | _ => .stuck
  | .ct e S => match S[n]? with
    | some (.lck ks) => .ct e (S.set n (.dct ks))
    | _ => .stuck
  | .exc c fs e S => .exc c fs e S
  | .stuck => .stuck
def dkey (k : Key) : D := match k with
  | .inl i => .int i
  | .inr x => .str x
noncomputable def mForK (i : EM) (g : GM) (b : SM) : SM := fun e S => match i e S with
  | .ok (.obj n) _ => match S[n]? with
    | some (.dct kvs) => RS.unl n ((i e (S.set n (.lck kvs))).toS e fun x S1 => match x with
      | .obj m => if m = n then (match S1[n]? with
        | some (.lck ks) => forL (fun _ => True) g b (ks.map fun kv => dkey kv.1) e S1
        | _ => .stuck) else .stuck
      | _ => .stuck)
    | _ => .stuck
  | _ => .stuck
section
variable {nm : Nms} {X : Cx} {tg iter : Expr} {im : EM} {g : GM} {body : List Stmt} {mb : SM} {pos : Pos}
def lkEnds (D : Ends) (a : Addr) (od : Obj) (u : HO) : Ends := ⟨fun σ' H' => H' a = some (.frz od u) ∧ D.nx σ' (upd H' a u), fun v H' => H' a = some (.frz od u) ∧ D.rt v (upd H' a u), fun σ' H' => H' a = some (.frz od u) ∧ D.bk σ' (upd H' a u), fun σ' H' => H' a = some (.frz od u) ∧ D.ct σ' (upd H' a u)⟩
theorem unl_sim {S' : Store} {μ μ' : List Addr} {H H' : Hp} {n : Nat} {a : Addr} {od : Obj} {ys : List (Key × V)} {ks : List (Key × D)} (ea : μ[n]? = some a) (x : Ext μ (upd H a (.frz od (.dK ys))) μ' H') (s : Sim nm X.K X.mg μ' S' H') (h : S'[n]? = some (.lck ks)) :
    H' a = some (.frz od (.dK ys)) ∧ Sim nm X.K X.mg μ' (S'.set n (.dct ks)) (upd H' a (.dK ys)) ∧ ExtW μ' H' μ' (upd H' a (.dK ys)) := by
  have e1 := x.fz a od (.dK ys) upd_same
  have ea' := x.at ea
  have w : ExtW μ' H' μ' (upd H' a (.dK ys)) := ExtW.wrote (List.mem_of_getElem? ea')
  obtain ⟨od', ys', e2, r⟩ := s.ob _ _ _ ea' h
  rw [e1] at e2
  cases e2
  exact ⟨e1, s.wrote ea' ⟨ys, upd_same, RK.extW w r⟩, w⟩
theorem unl_post {W : WX} {D : Ends} {r : RS} {μ : List Addr} {H : Hp} {n : Nat} {a : Addr} {od : Obj} {ys : List (Key × V)} (ea : μ[n]? = some a) (nf : NF H a) (p : PostS nm X W μ H (r.unl n) D) : PostS nm X W μ (upd H a (.frz od (.dK ys))) r (lkEnds D a od (.dK ys)) := by
  have hm := List.mem_of_getElem? ea
  have x0 : Ext μ H μ (upd H a (.frz od (.dK ys))) := Ext.wrote hm nf
  cases r with
  | nx e S =>
    unfold RS.unl at p
    dsimp only at p
    split at p
    · rename_i ks hk
      intro σ' μ' H' x s E
      obtain ⟨h1, h2, w⟩ := unl_sim ea x s hk
      exact ⟨h1, p σ' μ' _ (x.unlock hm nf) h2 (E.extW w)⟩
    · exact False.elim p
  | bk e S =>
    unfold RS.unl at p
    dsimp only at p
    split at p
    · rename_i ks hk
      intro σ' μ' H' x s E
      obtain ⟨h1, h2, w⟩ := unl_sim ea x s hk
      exact ⟨h1, p σ' μ' _ (x.unlock hm nf) h2 (E.extW w)⟩
    · exact False.elim p
  | ct e S =>
    unfold RS.unl at p
    dsimp only at p
    split at p
    · rename_i ks hk
      intro σ' μ' H' x s E
      obtain ⟨h1, h2, w⟩ := unl_sim ea x s hk
      exact ⟨h1, p σ' μ' _ (x.unlock hm nf) h2 (E.extW w)⟩
    · exact False.elim p
  | rt d S =>
    unfold RS.unl at p
    dsimp only at p
    split at p
    · rename_i ks hk
      intro v μ' H' x s rv
      obtain ⟨h1, h2, w⟩ := unl_sim ea x s hk
      exact ⟨h1, p v μ' _ (x.unlock hm nf) h2 (rv.extW w)⟩
    · exact False.elim p
  | exc c fs e S => exact fun σ' μ' H' C d x s E ea => p σ' μ' H' C d (x0.trans x) s E ea
  | stuck => exact p
theorem rk_keys {K : PySem.W.Frag} {H : Hp} {μ : List Addr} : ∀ {ys : List (Key × V)} {ks : List (Key × D)} {i : Nat} {p : Key × V}, RK K H μ ys ks → ys[i]? = some p → ∃ q, ks[i]? = some q ∧ p.1 = q.1
  | _, _, _, _, .nil, h => by simp at h
  | _, _, 0, _, .cons r _, h => by simp at h; subst h; exact ⟨_, rfl, r.1⟩
  | _, _, i + 1, _, .cons _ t, h => by
    obtain ⟨q, h1, h2⟩ := rk_keys (i := i) t (by simpa using h)
    exact ⟨q, by simpa using h1, h2⟩
theorem dkey_rv {K : PySem.W.Frag} {H : Hp} {μ : List Addr} (k : Key) : RV K H μ (kV k) (dkey k) := by
  cases k with
  | inl i => exact .int i
  | inr x => exact .str x
theorem ms_forK (hp : PassesOwn (model X.prog X.w) X.A X.env X.xe) (hc : X.calm = true) (hi : ME nm X iter im) (hg : MG nm X tg g) (ok : GOk g) (hb : MB nm X body mb) (hs : ∀ x, foldedSetIterable iter X.env x = pure x := by intro _; rfl) : MS nm X (.For tg iter body [] pos) (mForK im g mb) := by
  refine ⟨fun W tk => (ps_lock (ps_for hp hc (pi_keys (hi.run W tk)) (hg.run W tk) (hb.run W tk) hs)).imp fun D σ H h => ?_⟩
  obtain ⟨e, S, μ, E, s, p⟩ := h
  unfold mForK at p
  split at p
  · rename_i n S0 hi0
    split at p
    · rename_i kvs hS
      have hn : n < μ.length := by rw [s.len]; exact (List.getElem?_eq_some_iff.mp hS).1
      have ea : μ[n]? = some μ[n] := List.getElem?_eq_getElem hn
      generalize μ[n] = a at ea
      obtain ⟨ys, e1, r⟩ := s.ob _ _ _ ea hS
      have nf : NF H a := NF.of e1
      refine ⟨a, .dK ys, e1, trivial, fun od => ?_⟩
      have x0 : Ext μ H μ (upd H a (.frz od (.dK ys))) := Ext.wrote (List.mem_of_getElem? ea) nf
      have s0 : Sim nm X.K X.mg μ (S.set n (.lck kvs)) (upd H a (.frz od (.dK ys))) := s.wrote ea ⟨od, ys, upd_same, RK.ext x0 r⟩
      have p0 := unl_post (od := od) (ys := ys) ea nf p
      refine ⟨e, S.set n (.lck kvs), μ, E.ext x0, s0, (PostS.toS (E.ext x0) p0).mono fun x S1 μ1 H1 x1 s1 p1 v rv => ?_⟩
      split at p1
      · rename_i m
        split at p1
        · rename_i hmn
          subst hmn
          split at p1
          · rename_i ks hk
            have ea1 := x1.at ea
            cases rv with | obj e' =>
            rw [ea1] at e'
            cases e'
            have f1 := x1.fz a od (.dK ys) upd_same
            obtain ⟨od1, ys1, f2, rk⟩ := s1.ob _ _ _ ea1 hk
            rw [f1] at f2
            cases f2
            refine ⟨a, od, rfl, .inl ⟨ys, f1, ?_⟩⟩
            refine for_tail (w := ⟨ks.map fun kv => dkey kv.1, fun _ => True⟩) (C := fun H _ => H a = some (.frz od (.dK ys))) ((E.ext x0).ext x1) s1 p1 ok (fun μ H μ' H' x h => x.fz _ _ _ h) f1 ?_
            intro i S3 μ3 H3 s3 c3 _
            refine ⟨fun d hd => ⟨⟨c3, ?_⟩, ?_⟩, fun hl => ⟨c3, ?_⟩⟩
            · have := (List.getElem?_eq_some_iff.mp hd).1
              rw [List.length_map] at this
              rw [rk_len rk]; exact this
            · rintro x H' ⟨rfl, k, v, hk1, rfl⟩
              obtain ⟨q, hq, hkq⟩ := rk_keys rk hk1
              have hd' : (ks.map fun kv => dkey kv.1)[i]? = some (dkey q.1) := by rw [List.getElem?_map, hq]; rfl
              have : some d = some (dkey q.1) := hd.symm.trans hd'
              cases this
              refine ⟨.refl, s3, ?_⟩
              rw [← hkq]
              exact dkey_rv k
            · rw [List.length_map] at hl
              rw [rk_len rk]; exact hl
          · exact False.elim p1
        · exact False.elim p1
      · exact False.elim p1
    · exact False.elim p
  · exact False.elim p
end
end BS
namespace BS
open PySem PySem.Spec PyProof.Rows L2
theorem strs_rev {vs : List Value} {ss : List Str} (h : StrsAre vs ss) : StrsAre vs.reverse ss.reverse := by
  have e := strsAre_map vs.reverse fun v m => h.all v (List.mem_reverse.mp m)
  rwa [List.map_reverse, h.strs] at e
theorem strs_outR {vs out : List Value} {ns : List Str} (hI : StrsAre vs ns) (hs : SrtO.Srtd ltSv out) (hb : SrtO.Stb ltSv out vs.reverse) :
    StrsAre (out.toArray.reverse).toList (sortT ns).reverse := by
  have h1 : StrsAre out (out.map strOf) := strsAre_map out fun v m => hI.all v (List.mem_reverse.mp (hb.perm.mem_iff.mp m))
  have h2 : (out.map strOf).Perm ns := by
    have q := (hb.perm.map strOf).trans ((List.reverse_perm vs).map strOf)
    rwa [hI.strs] at q
  have h3 : (out.map strOf).Pairwise leS := List.pairwise_map.mpr (hs.imp fun {x y} h => h)
  have h4 : out.map strOf = sortT ns := sorted_one (fun a b => leS_anti) (h2.trans (sortT_perm ns).symm) h3 (sortT_sorted ns)
  rw [Array.toList_reverse, ← h4]
  exact strs_rev h1
section
variable {X : Cx}
theorem call_sortedDR (hcalm : X.calm = true) : CallRK X (.builtin "sorted") [Str.ofString "reverse"] (fun xs zs H Q => ∃ (a : Addr) (kvs : List (Key × V)) (ks : List Str), xs = [.ref a] ∧ zs = [.bl true] ∧ Rd H a (.dK kvs) ∧ kvs.map (·.1) = ks.map Sum.inr ∧ True ∧
    ∀ p, H p = none → Q (.ref p) (upd H p (.lst ((sortT ks).reverse.map V.str)))) := by
  intro pins s σ H xs zs us ws Q I r rz q
  obtain ⟨a, kvs, ks, ex, rfl, hd, hks, h64, q⟩ := q
  subst ex
  obtain ⟨u, eu, rx⟩ := vals1 r
  subst eu
  cases rx
  obtain ⟨w1, rfl, e1⟩ := vals1 rz
  obtain rfl : w1 = Value.bool true := e1
  obtain ⟨z, lo, vs, rel, dd⟩ := dk_rd I.hok hd
  obtain ⟨ep, hat⟩ := dd.dictAt
  have hkeys : vs.map (·.1) = ks.map Sum.inr := rel.keys.symm.trans hks
  have hl : vs.length = ks.length := by
    have e := congrArg List.length hkeys
    rw [List.length_map, List.length_map] at e
    exact e
  have h16 : vs.length ≤ sizeLine := by rw [← rel.length]; exact z
  show wpAny _ _ (call (.builtin "sorted") [.ref a] [(Str.ofString "reverse", .bool true)]) _ _ _
  refine PyProof.Rows.call_function_entry_kw PyProof.Rows.kind_sorted PyProof.Rows.plain_sorted PyProof.Rows.entry_sorted (PyProof.Rows.args_sorted_rev _ _) ?_
  unfold Builtin.«sorted»
  refine wpAny_bind (m := checkCount "sorted" 1 1 _) (wpAny_pure ?_)
  refine wpAny_bind (PySem.W.kdu_collect (A := X.A.in1) (PySem.W.kdl_dict (knd := mixKind X.prog X.w) (kvs := vs) (ep := ep) lo) (I.ok.hd hcalm) hat h16 fun h' tk acc hk hacc => ?_)
  have hal : acc.toList.length = ks.length := by rw [Array.length_toList, hacc.1, hl]
  have hS : StrsAre acc.toList ks := L2.strs_at hal fun j v e => by
    obtain ⟨k, x, e1, e2⟩ := hacc.2 j v (by rw [← Array.getElem?_toList]; exact e)
    have e3 : (vs.map (·.1))[j]? = some k := by rw [List.getElem?_map, e1]; all_goals rfl
    rw [hkeys, List.getElem?_map] at e3
    cases e4 : ks[j]? with
    | none => rw [e4] at e3; cases e3
    | some y =>
      rw [e4] at e3
      have e5 : Sum.inr y = k := Option.some.inj e3
      subst e5
      obtain ⟨t, ev⟩ := Value.isStrOf_shape (x := y) (v := v) e2
      exact ⟨y, t, rfl, ev⟩
  have I1 : Inv X pins σ H { s with heap := h', toks := tk } := I.kept hk
  refine wpAny_bind (wpAny_newList ?_ (by rw [hal, ← hl]; exact h16))
  have hoL : (h'.push (seqObj "list" acc.toList.toArray 0)).get? h'.objs.size = some (seqObj "list" acc.toList.toArray 0) := Heap.get?_push_size _ rfl
  show wpAny _ _ _ _ _ { s with heap := h'.push (seqObj "list" acc.toList.toArray 0), toks := tk }
  refine wpAny_bind (wpAny_holding (PyProof.Rows.wpAny_call_entry_kw PyProof.Rows.slot_list_sort ⟨_, hoL, rfl⟩ PyProof.Rows.entry_list_sort ?_ (PyProof.Rows.args_list_sort_rev _ _)))
  refine SrtR.list_sort_ordR (b := true) swo_str hoL (by rw [hal, ← hl]; exact h16) (fun h2 => strs_sortable hS h2) fun out k1 k2 => ⟨_, rfl, ?_⟩
  have g1 := strs_outR hS k1 k2
  obtain ⟨e', he'⟩ := PyProof.Rows.sortedHeap_at (vs := acc.toList) (out := out.toArray.reverse) hoL
  have hlen : ((sortT ks).reverse.map V.str).length ≤ sizeLine := by
    rw [List.length_map, List.length_reverse, (sortT_perm ks).length_eq, ← hl]
    exact h16
  refine wpAny_pure ⟨_, rfl, .ref h'.objs.size, upd H h'.objs.size (.lst ((sortT ks).reverse.map V.str)), I1.laid (t' := tk) (fun b u e => ?_) (Nat.le_refl _)
    (show ObjOk X.prog X.w _ _ _ (.lst ((sortT ks).reverse.map V.str)) from ⟨hlen, (out.toArray.reverse).toList, e', vals_of_strs g1, by rw [Array.toArray_toList]; exact he'⟩), rfl, q _ (I1.hok.fresh (Nat.le_refl _))⟩
  have hb : b < h'.objs.size := Heap.lt_size e
  rw [PyProof.Rows.sortedHeap_old (Nat.ne_of_lt hb) (by rw [size_push']; exact Nat.lt_succ_of_lt hb)]
  exact Heap.get?_push_of_some _ e
end
section
variable {nm : Nms} {X : Cx} {e : Expr} {m : EM} {pos p kpos cpos : Pos} {j : Nat}
def fnSortedR (new : Bool) : FM := fun ds S => match ds with
  | [d] => match dctOf S d with
    | some kvs => match keysT kvs with
      | some zs => fin new ((sortT zs).reverse.map .str) S
      | none => .stuck
    | none => .stuck
  | _ => .stuck
theorem me_sortedR (new : Bool) (hc : X.calm = true) (hg : GlN X "sorted") (hm : X.mg "sorted" = none) (hv : bootBuiltins "sorted" = some (.builtin "sorted")) (ha : MA nm X [e] ma)
    (he : backTo pos (starEach [e] X.env) = (false, eval e X.env) :: backTo pos (starEach [] X.env) := by rfl) (hpl : (backTo pos (starEach [e] X.env)).any (·.1) = false := by rfl) :
    ME nm X (.Call (.Name "sorted" p) [e] [⟨some (Str.ofString "reverse"), .Constant (.bool true) j cpos, kpos⟩] pos) (mCall (fnSortedR new) ma) :=
  ⟨fun W tk => (pe_callBK (call_sortedDR hc) hg.g hm hv (ha.run W tk) (pk_cons pe_bl pk_nil) hg.n hg.d he hpl).imp fun σ H Q h => by
    obtain ⟨e, S, μ, E, s, q⟩ := h
    refine ⟨e, S, μ, E, s, (Post.bind q).mono fun ds S1 μ1 H1 x1 s1 p1 vs rvs => ?_⟩
    unfold fnSortedR at p1
    split at p1
    · rename_i d
      obtain ⟨v, rfl, r1⟩ := one_rv rvs
      split at p1
      · rename_i kvs hk
        split at p1
        · rename_i zs hb
          obtain ⟨n, a, ys, rfl, rfl, _, _, e1, rk⟩ := dctOf_at s1 r1 hk
          exact ⟨a, ys, zs, rfl, rfl, .inl e1, keysT_rk rk hb, True.intro, fun q hp => fin_post s1 (rvs_strsD _) hp p1⟩
        · exact False.elim p1
      · exact False.elim p1
    · exact False.elim p1⟩
end
end BS
namespace BSR
open PySem PySem.Spec PyProof.Rows HT L2
section
variable {prog : Program} {w : World} {A : Around} {E : Value → Shared → Prop} {s : Shared}
theorem places_rev (n : Nat) : Builtin.Slice.slicePlaces ((n : Int) - 1) (-1) (-1) = n := by
  unfold Builtin.Slice.slicePlaces
  have h1 : ¬ (-1 : Int) > 0 := by omega
  have e : (- -1 : Int) = 1 := by decide
  simp only [h1, if_false, e, Int.ediv_one]
  split <;> omega
theorem sliceApplied_rev {sl : Addr} {vs : Value} {n : Nat} {Q : Int × Int × Nat → Shared → Prop} (hs : s.heap.IsSliceOf sl .none .none vs) (ps : IsPart vs (some (-1)))
    (h : Q ((n : Int) - 1, -1, n) s) : wpAny (model prog w) A (Builtin.Slice.sliceApplied (.ref sl) (pure (n : Int))) Q E s := by
  obtain ⟨os, hos, hcs, hds⟩ := id hs
  unfold Builtin.Slice.sliceApplied Builtin.Slice.sliceFields
  refine wpAny_bind (wpAny_bind (wpAny_field hos hds (x := .none) rfl (wpAny_bind (wpAny_field hos hds (x := .none) rfl (wpAny_bind (wpAny_field hos hds (x := vs) rfl (wpAny_pure ?_)))))))
  refine wpAny_bind (slicePart_ ps ?_)
  show wpAny _ _ (if ((-1 : Int) == 0) = true then _ else _) _ _ s
  rw [if_neg (by decide)]
  refine wpAny_bind (slicePart_none (wpAny_bind (slicePart_none (wpAny_bind (wpAny_pure ?_)))))
  show wpAny _ _ (match Builtin.Slice.sliceAdjust none none (-1) (n : Int) with | (lo, hi) => pure (lo, (-1 : Int), Builtin.Slice.slicePlaces lo hi (-1))) _ _ s
  have e : Builtin.Slice.sliceAdjust none none (-1) (n : Int) = ((n : Int) - 1, -1) := rfl
  rw [e]
  show wpAny _ _ (pure (((n : Int) - 1), (-1 : Int), Builtin.Slice.slicePlaces ((n : Int) - 1) (-1) (-1))) _ _ s
  rw [places_rev]
  exact wpAny_pure h
theorem fm_congr {α β : Type} {f g : α → Option β} : ∀ {l : List α}, (∀ x ∈ l, f x = g x) → l.filterMap f = l.filterMap g
  | [], _ => rfl
  | x :: l, h => by
    rw [List.filterMap_cons, List.filterMap_cons, h x (by simp), fm_congr fun y hy => h y (by simp [hy])]
theorem pick_rev (xs : Array Value) : ((List.range xs.size).filterMap fun (m : Nat) => xs[(((xs.size : Int) - 1) + (m : Int) * (-1)).toNat]?).toArray = xs.toList.reverse.toArray := by
  have e : ((List.range xs.size).filterMap fun (m : Nat) => xs[(((xs.size : Int) - 1) + (m : Int) * (-1)).toNat]?) = ((List.range xs.size).map fun k => xs.size - 1 - k).filterMap (xs[·]?) := by
    rw [List.filterMap_map]
    apply fm_congr
    intro m hm
    have := List.mem_range.mp hm
    have e2 : (((xs.size : Int) - 1) + (m : Int) * (-1)).toNat = xs.size - 1 - m := by omega
    show xs[_]? = xs[_]?
    rw [e2]
  rw [e, PySem.W.krv_range, List.filterMap_reverse, PySem.W.krv_all]
theorem getItem_tuple_rev {t sl : Addr} {items : Array Value} {vs : Value} {Q : Value → Shared → Prop} (ht : IsTup s.heap t items) (hs : s.heap.IsSliceOf sl .none .none vs) (ps : IsPart vs (some (-1)))
    (h : Q (.ref s.heap.objs.size) { s with heap := s.heap.push { cls := .type "tuple", data := .seq items.toList.reverse.toArray } })
    (hsz : items.size ≤ sizeLine) : wpAny (model prog w) A (getItem (.ref t) (.ref sl)) Q E s := by
  have htake : sizeOk (.seq items.toList.reverse.toArray) := by
    show items.toList.reverse.toArray.size ≤ sizeLine
    rw [List.size_toArray, List.length_reverse, Array.length_toList]
    exact hsz
  obtain ⟨os, hos, hcs, hds⟩ := id hs
  have hTs : s.TypeIs (.ref sl) "slice" := ⟨os, hos, hcs⟩
  unfold getItem
  try with_reducible refine wpAny_holding ?_
  first | refine wpAny_bind (wpAny_pure ?_) | skip
  refine wpAny_bind (wpAny_sequenceKey ht.typeIs (by decide) ?_)
  refine wpAny_bind (wpAny_callSpecial?_slot (name := Str.ofString "__getitem__") ht.typeIs PyProof.Rows.slot_tuple_getitem
    (wpAny_call_entry PyProof.Rows.slot_tuple_getitem ht.typeIs entry_tuple_getitem ?_ (args_tuple_getitem _ _)))
  show wpAny _ _ (Builtin.Tuple.tupleItemsOf (.ref t) >>= _) _ _ s
  refine wpAny_bind (tupleItemsOf_ ht ?_)
  refine wpAny_bind (wpAny_typeOf hTs ?_)
  rw [if_pos (by decide)]
  refine wpAny_bind (sliceApplied_rev hs ps ?_)
  have hno : ¬ ((((items.size : Int) - 1) == 0 && (-1 : Int) == 1 && items.size == items.size) = true) := by
    intro q
    rw [Bool.and_eq_true, Bool.and_eq_true] at q
    exact absurd (eq_of_beq q.1.2) (by decide)
  show wpAny _ _ (if (((items.size : Int) - 1) == 0 && (-1 : Int) == 1 && items.size == items.size) = true then _ else _) _ _ s
  rw [if_neg hno, pick_rev]
  first
    | exact wpAny_bind (m := Builtin.Tuple.tupleExact _) (wpAny_newObj_type (wpAny_pure ⟨_, rfl, wpAny_pure h⟩) htake)
    | exact wpAny_bind (m := Builtin.Tuple.tupleExact _) (wpAny_newObj_type (wpAny_bind (wpAny_pure (wpAny_pure ⟨_, rfl, wpAny_pure h⟩))) htake)
    | exact wpAny_bind (wpAny_bind (m := Builtin.Tuple.tupleExact _) (wpAny_newObj_type (wpAny_pure (wpAny_pure ⟨_, rfl, wpAny_pure h⟩)) htake))
    | exact wpAny_bind (wpAny_bind (m := Builtin.Tuple.tupleExact _) (wpAny_newObj_type (wpAny_pure ⟨_, rfl, wpAny_pure h⟩) htake))
end
section
variable {X : Cx}
/-- x[::-1], a list or a tuple -/
def tRev (K : PySem.W.Frag) (te : TE) : TE := fun σ H Q => te σ H fun x H1 => ∃ a xs, x = .ref a ∧ ((SqL K H1 a xs ∧ ∀ p, H1 p = none → Q (.ref p) (upd H1 p (.lst xs.reverse))) ∨ (SqT K H1 a xs ∧ ∀ p, H1 p = none → Q (.ref p) (upd H1 p (.tup xs.reverse))))
theorem pe_rev {e : Expr} {te : TE} {k : Nat} {p1 p2 p3 pos : Pos} (he : PE X e te) : PE X (.Subscript e (.Slice none none (some (.UnaryOp .USub (.Constant (.int 1) k p1) p2)) p3) pos) (tRev X.K te) := by
  refine ⟨fun pins s σ H Q I h => ?_⟩
  refine Subscript_ (thn (he.run pins s σ H _ I h) fun v s1 ⟨x, H1, I1, r1, q1⟩ => ?_)
  obtain ⟨a, xs, ex, q⟩ := q1
  subst ex
  cases r1
  have hst : PO X (some (.UnaryOp .USub (.Constant (.int 1) k p1) p2)) (tPart (tUn (rU fun i => .int (-i)) (tC (.int 1)))) := po_some (pe_un un_neg pe_int)
  refine wpAny_Slice (thn (po_none.run pins s1 σ H1 (fun o H2 => o = none ∧ H2 = H1) I1 ⟨rfl, rfl⟩) fun vl s2 ⟨l, H2, I2, pl, el, e2⟩ => ?_)
  subst el e2
  refine thn (po_none.run pins s2 σ H2 (fun o H3 => o = none ∧ H3 = H2) I2 ⟨rfl, rfl⟩) fun vu s3 ⟨u, H3, I3, pu, eu, e3⟩ => ?_
  subst eu e3
  refine thn (hst.run pins s3 σ H3 (fun o H4 => o = some (-1) ∧ H4 = H3) I3 ⟨1, rfl, -1, rfl, rfl, rfl⟩) fun vs s4 ⟨o, H4, I4, ps, eo, e4⟩ => ?_
  subst eo e4
  have I5 : Inv X pins σ H4 { s4 with heap := s4.heap.push { cls := .type "slice", data := .fields #[vl, vu, vs] } } := I4.kept (t' := s4.toks) fun b ob q => Heap.get?_push_of_some _ q
  show wpAny (model X.prog X.w) X.A (subscriptTail e (.Slice none none (some (.UnaryOp .USub (.Constant (.int 1) k p1) p2)) p3) (.ref a) (.ref s4.heap.objs.size)) (EP X pins σ Q) X.xe { s4 with heap := s4.heap.push { cls := .type "slice", data := .fields #[vl, vu, vs] } }
  rcases q with ⟨hx, q⟩ | ⟨hx, q⟩
  · obtain ⟨its, r, ht, hz⟩ := I5.list hx
    have hlen := r.length
    refine tail_any (ops := [.ref a, .ref s4.heap.objs.size]) ht.isList.typeIs (PySem.slot_list_getitem.lookup) ?_ (by with_unfolding_all rfl)
    refine wpAny_getItem_list_slice ht.isList (Heap.IsSliceOf.new _ vl vu vs) pl pu ps (by decide) ?_ (by rw [List.size_toArray]; omega)
    rw [PySem.W.krv_pick]
    refine ⟨.ref _, _, I5.laid (t' := s4.toks) (o := .lst xs.reverse) (fun b ob q => Heap.get?_push_of_some _ q) (Nat.le_refl _) ?_, rfl, q _ (I5.hok.fresh (Nat.le_refl _))⟩
    exact ⟨by rw [List.length_reverse]; exact hz, _, 0, r.reverse, Heap.get?_push_size _ rfl⟩
  · obtain ⟨its, r, ht, hz⟩ := I5.tuple hx
    have hlen := r.length
    cases pl
    cases pu
    refine tail_any (ops := [.ref a, .ref s4.heap.objs.size]) ht.typeIs (PyProof.Rows.slot_tuple_getitem.lookup) ?_ (by with_unfolding_all rfl)
    refine getItem_tuple_rev ht (Heap.IsSliceOf.new _ _ _ vs) ps ?_ (by rw [List.size_toArray]; omega)
    refine ⟨.ref _, _, I5.laid (t' := s4.toks) (o := .tup xs.reverse) (fun b ob q => Heap.get?_push_of_some _ q) (Nat.le_refl _) ?_, rfl, q _ (I5.hok.fresh (Nat.le_refl _))⟩
    exact ⟨by rw [List.length_reverse]; exact hz, _, r.reverse, IsTup.new _ _⟩
end
end BSR
namespace BS
open PySem PySem.Spec PyProof.Rows L2
theorem RVs.rev {K : PySem.W.Frag} {H : Hp} {μ : List Addr} : ∀ {xs : List V} {ds : List D}, RVs K H μ xs ds → RVs K H μ xs.reverse ds.reverse
  | _, _, .nil => .nil
  | _, _, .cons r t => by
    rw [List.reverse_cons, List.reverse_cons]
    exact (RVs.rev t).append (.cons r .nil)
section
variable {nm : Nms} {X : Cx} {e : Expr} {me : EM} {pos p1 p2 p3 : Pos} {k : Nat}
def slRev (new : Bool) (S : Store) (x : D) : R D := match x with
  | .tup ds => .ok (.tup ds.reverse) S
  | _ => match lstOf S x with
    | some ds => fin new ds.reverse S
    | none => .stuck
def mRev (new : Bool) (a : EM) : EM := fun e S => (a e S).bind fun x S => slRev new S x
theorem me_rev (new : Bool) (he : ME nm X e me) : ME nm X (.Subscript e (.Slice none none (some (.UnaryOp .USub (.Constant (.int 1) k p1) p2)) p3) pos) (mRev new me) := by
  refine ⟨fun W tk => (BSR.pe_rev (he.run W tk)).imp fun σ H Q h => ?_⟩
  obtain ⟨e, S, μ, E, s, p⟩ := h
  refine ⟨e, S, μ, E, s, (Post.bind p).mono fun d S1 μ1 H1 x1 s1 p1 v rv => ?_⟩
  unfold slRev at p1
  split at p1
  · cases rv with | tup t r =>
    exact ⟨_, _, rfl, .inr ⟨t.sq, fun p np => tup_post s1 (RVs.rev r) np p1⟩⟩
  · split at p1
    · rename_i ds hds
      obtain ⟨a, xs, rfl, hs, r⟩ := lstOf_sq s1 rv hds
      exact ⟨a, xs, rfl, .inl ⟨hs, fun p np => fin_post s1 (RVs.rev r) np p1⟩⟩
    · exact False.elim p1
end
section
variable {nm : Nms} {X : Cx}
def fnGet1 : FM := fun ds S => match ds with
  | [x, k] => match dctOf S x with
    | some kvs => match keyOf k with
      | some key => .ok ((getK kvs key).getD .non) S
      | none => .stuck
    | none => .stuck
  | _ => .stuck
theorem t_get1 {k : Nat} (hr : L2H.RoomH k X.A) : MtD nm X "dict.get" fnGet1 := by
  intro pins s σ H x xs v us Q I rx r h
  obtain ⟨ds, S, μ, E, rv, sm, p⟩ := h
  unfold fnGet1 at p
  split at p
  · rename_i dx dk
    split at p
    · rename_i kvs hk
      split at p
      · rename_i key hkey
        obtain ⟨r1, rt⟩ := rvs_cons rv
        obtain ⟨y, rfl, r2⟩ := one_rv rt
        obtain ⟨n, a, ys, rfl, rfl, _, _, e1, rk⟩ := dctOf_at sm r1 hk
        have ek := keyOf_kV r2 hkey
        subst ek
        cases rx
        obtain ⟨u, rfl, ru⟩ := vals1 r
        refine d_get1 (by have := hr.un; omega) I (DGet.k e1) ru fun w2 s' I' rl => ⟨_, H, I', rl, ?_⟩
        rcases getK_val key rk with ⟨h1, h2⟩ | ⟨w3, d', h1, h2, h3⟩
        · rw [h1]; rw [h2] at p; exact p μ H .refl sm _ .non
        · rw [h1]; rw [h2] at p; exact p μ H .refl sm _ h3
      · exact False.elim p
    · exact False.elim p
  · exact False.elim p
end
end BS
namespace BS
open PySem PySem.Spec PyProof.Rows L2
section
variable {nm : Nms} {X : Cx}
theorem three_rv {K : PySem.W.Frag} {H : Hp} {μ : List Addr} {xs : List V} {d d' d'' : D} (r : RVs K H μ xs [d, d', d'']) : ∃ v w z, xs = [v, w, z] ∧ RV K H μ v d ∧ RV K H μ w d' ∧ RV K H μ z d'' := by
  cases r with | cons r t => obtain ⟨w, z, rfl, r', r''⟩ := two_rv t; exact ⟨_, _, _, rfl, r, r', r''⟩
def fnFind1 : FM := fun ds S => match ds with
  | [.str a, .str b] => .ok (.int (Txt.find a b)) S
  | _ => .stuck
theorem t_find1 : MtD nm X "str.find" fnFind1 := by
  intro pins s σ H x xs v us Q I rx r h
  obtain ⟨ds, S, μ, E, rv, sm, p⟩ := h
  unfold fnFind1 at p
  split at p
  · obtain ⟨w, z, e, r1, r2⟩ := two_rv rv
    cases r1; cases r2; cases e
    exact mt_find pins s σ H _ _ v us Q I rx r ⟨_, _, rfl, rfl, p μ H .refl sm _ (.int _)⟩
  · exact False.elim p
def fnFind2 : FM := fun ds S => match ds with
  | [.str a, .str b, .int i] => .ok (.int (Txt.find3 a b i)) S
  | _ => .stuck
theorem t_find2 : MtD nm X "str.find" fnFind2 := by
  intro pins s σ H x xs v us Q I rx r h
  obtain ⟨ds, S, μ, E, rv, sm, p⟩ := h
  unfold fnFind2 at p
  split at p
  · obtain ⟨w, z, u, e, r1, r2, r3⟩ := three_rv rv
    cases r1; cases r2; cases r3; cases e
    exact mt_find3 pins s σ H _ _ v us Q I rx r ⟨_, _, _, rfl, rfl, p μ H .refl sm _ (.int _)⟩
  · exact False.elim p
def fnStartswith : FM := fun ds S => match ds with
  | [.str a, .str b] => .ok (.bl (Txt.startswith a b)) S
  | _ => .stuck
theorem t_startswith : MtD nm X "str.startswith" fnStartswith := by
  intro pins s σ H x xs v us Q I rx r h
  obtain ⟨ds, S, μ, E, rv, sm, p⟩ := h
  unfold fnStartswith at p
  split at p
  · obtain ⟨w, z, e, r1, r2⟩ := two_rv rv
    cases r1; cases r2; cases e
    exact mt_startswith pins s σ H _ _ v us Q I rx r ⟨_, _, rfl, rfl, p μ H .refl sm _ (.bl _)⟩
  · exact False.elim p
def txtsOf : List D → Option (List Str)
  | [] => some []
  | .str a :: r => (txtsOf r).map (a :: ·)
  | _ :: _ => none
theorem txtsOf_rv {K : PySem.W.Frag} {H : Hp} {μ : List Addr} : ∀ {ds : List D} {xs : List V} {ys : List Str}, RVs K H μ xs ds → txtsOf ds = some ys → xs = ys.map V.str
  | [], _, ys, .nil, h => by cases h; rfl
  | d :: ds, _, ys, .cons r t, h => by
    cases d with
    | str a =>
      obtain ⟨zs, e, rfl⟩ := Option.map_eq_some_iff.mp (show (txtsOf ds).map (a :: ·) = some ys from h)
      cases r
      rw [txtsOf_rv t e]
      rfl
    | _ => cases h
def fnJoin : FM := fun ds S => match ds with
  | [.str a, d] => match seqOf S d with
    | some ds => match txtsOf ds with
      | some ys => if (ys.map (·.length)).sum + ys.length * a.length ≤ 16777216 then .ok (.str (Str.join a ys)) S else .stuck
      | none => .stuck
    | none => .stuck
  | _ => .stuck
theorem t_join : MtD nm X "str.join" fnJoin := by
  intro pins s σ H x xs v us Q I rx r h
  obtain ⟨ds, S, μ, E, rv, sm, p⟩ := h
  unfold fnJoin at p
  split at p
  · obtain ⟨w, z, e, r1, r2⟩ := two_rv rv
    cases r1; cases e
    split at p
    · rename_i ds hds
      obtain ⟨l, zs, rfl, hs, r3⟩ := seqOf_sq sm r2 hds
      split at p
      · rename_i ys hy
        split at p
        · rename_i hz
          rw [txtsOf_rv r3 hy] at hs
          refine mt_join pins s σ H _ _ v us Q I rx r ⟨_, _, ys, rfl, rfl, hs, hz, ?_⟩
          rw [TL.join_eq]
          exact p μ H .refl sm _ (.str _)
        · exact False.elim p
      · exact False.elim p
    · exact False.elim p
  · exact False.elim p
/-- e.replace of two written texts -/
def mRepl (y z : Str) (mo : EM) : EM := fun e S => (mo e S).bind fun d S => match d with
  | .str x => if x.length + (x.length + 1) * z.length ≤ 16777216 then .ok (.str (Txt.replace x y z)) S else .stuck
  | _ => .stuck
/-- a written text, + e.replace of two written texts -/
theorem me_catRepl {o : Expr} {mo : EM} {c y z : Str} {j j1 j2 : Nat} {p0 c0 c1 apos pos p1 : Pos} (ho : ME nm X o mo) (hyz : (y == z) = false := by decide +kernel)
    (hst : starEach [.Constant (.str y) j1 c0, .Constant (.str z) j2 c1] X.env = [(false, eval (.Constant (.str y) j1 c0) X.env), (false, eval (.Constant (.str z) j2 c1) X.env)] := by rfl)
    (hbase : attributeBase o "replace" X.env (eval o X.env) = eval o X.env := by rfl) (hline : (apos.endLine == pos.line) = true := by rfl) :
    ME nm X (.BinOp (.Constant (.str c) j p0) .Add (.Call (.Attribute o "replace" apos) [.Constant (.str y) j1 c0, .Constant (.str z) j2 c1] [] pos) p1) (mBin fAdd (mC (.str c)) (mRepl y z mo)) := by
  refine ⟨fun W tk => ⟨fun pins s σ H Q I h => ?_⟩⟩
  obtain ⟨e, S, μ, E, sm, p⟩ := bin_rd h
  have q := p μ H .refl sm (.str c) (.str c)
  refine wpAny_BinOp (Calls.Constant_str ?_)
  refine thn (CwR.pet_replC (ho.run W tk) hyz hst hbase hline pins { s with toks := s.toks + 1 } σ H (fun y2 H2 => rOpD nm X fAdd (.str c) y2 H2 Q) (by show 1 ≤ s.toks + 1; omega) (I.tok _) ?_) fun u s2 ⟨y2, H2, I2, r2, q2⟩ => o_add pins s2 σ H2 (.str c) y2 _ u Q I2 ⟨_, rfl⟩ r2 q2
  obtain ⟨e2, S2, μ2, E2, sm2, p2⟩ := q
  refine ⟨e2, S2, μ2, E2, sm2, (Post.bind p2).mono fun d S3 μ3 H3 x3 s3 p3 v rv => ?_⟩
  split at p3
  · rename_i x
    split at p3
    · rename_i hz
      cases rv
      exact ⟨x, rfl, hz, p3 μ3 H3 .refl s3 _ (.str _)⟩
    · exact False.elim p3
  · exact False.elim p3
def mFmt (m : EM) : EM := fun e S => (m e S).bind fun d S => match d with
  | .str y => if y.length ≤ sizeLine then .ok (.str y) S else .stuck
  | .int i => if i.natAbs.log2 < 1920 then .ok (.str (Str.ofString (toString i))) S else .stuck
  | _ => .stuck
theorem me_fmt {e : Expr} {m : EM} {pos : Pos} (h : ME nm X e m) : ME nm X (.FormattedValue e (-1) none pos) (mFmt m) := by
  refine ⟨fun W tk => (pe_fmt (h.run W tk)).imp fun σ H Q h => ?_⟩
  obtain ⟨e, S, μ, E, sm, p⟩ := h
  refine ⟨e, S, μ, E, sm, (Post.bind p).mono fun d S3 μ3 H3 x3 s3 p3 v rv => ?_⟩
  split at p3
  · split at p3
    · rename_i hz; cases rv; exact .inl ⟨_, rfl, hz, p3 μ3 H3 .refl s3 _ (.str _)⟩
    · exact False.elim p3
  · split at p3
    · rename_i hz; cases rv; exact .inr ⟨_, rfl, hz, p3 μ3 H3 .refl s3 _ (.str _)⟩
    · exact False.elim p3
  · exact False.elim p3
abbrev JM := Str → Ev → Store → R D
def mjNil : JM := fun acc _ S => .ok (.str acc) S
def mjCons (m : EM) (r : JM) : JM := fun acc e S => (m e S).bind fun d S => match d with
  | .str y => if (acc ++ y).length ≤ sizeLine then r (acc ++ y) e S else .stuck
  | _ => .stuck
structure MJ (nm : Nms) (X : Cx) (es : List Expr) (m : JM) : Prop where
  run : ∀ W, Takes X W → ∃ ts, PJ X es ts ∧ ∀ acc σ H Q, rdE nm X W (m acc) σ H Q → tJs ts acc σ H (fun out H1 => Q (.str out) H1)
theorem mj_nil : MJ nm X [] mjNil := ⟨fun W tk => ⟨[], .nil, fun acc σ H Q h => by
  obtain ⟨e, S, μ, E, sm, p⟩ := h
  exact p μ H .refl sm _ (.str _)⟩⟩
theorem mj_cons {e : Expr} {es : List Expr} {m : EM} {r : JM} (h : ME nm X e m) (hr : MJ nm X es r) : MJ nm X (e :: es) (mjCons m r) := ⟨fun W tk => by
  obtain ⟨ts, h1, h2⟩ := hr.run W tk
  refine ⟨_, .cons (h.run W tk) h1, fun acc σ H Q h => ?_⟩
  obtain ⟨e, S, μ, E, sm, p⟩ := h
  refine ⟨e, S, μ, E, sm, (Post.bind p).mono fun d S3 μ3 H3 x3 s3 p3 v rv => ?_⟩
  split at p3
  · rename_i y
    split at p3
    · rename_i hz
      cases rv
      exact ⟨y, rfl, hz, h2 _ σ H3 Q ⟨e, S3, μ3, E.ext x3, s3, p3⟩⟩
    · exact False.elim p3
  · exact False.elim p3⟩
def mJoined (m : JM) : EM := fun e S => m Str.empty e S
theorem me_joined {v1 v2 : Expr} {rest : List Expr} {m : JM} {pos : Pos} (h : MJ nm X (v1 :: v2 :: rest) m) : ME nm X (.JoinedStr (v1 :: v2 :: rest) pos) (mJoined m) := ⟨fun W tk => by
  obtain ⟨ts, h1, h2⟩ := h.run W tk
  exact (pe_joined h1).imp fun σ H Q h => h2 _ σ H Q h⟩
end
end BS
namespace BS
open PySem PySem.Spec PyProof.Rows L2
structure FnS (P : Program) (w : World) (K : PySem.W.Frag) (mg : Str → Option Value) (base : Heap) (CX : CXT) (k : Nat) (f : Addr) (fd : FuncData) (ps : List Str) (sp : Sp) : Prop where
  len : ∀ vs H Q E, sp vs H Q E → vs.length = ps.length
  run : ∀ (A : Around) (outer : List Env) (s : Shared) (H : Hp) (args : Args) (us : List Value) (vs : List V) (Q : VK) (E : XK), L2H.RoomH k A → Env0 P w K mg base A outer s H → BindsTo s fd args (ps.zip us) → Vals vs us → sp vs H Q E →
    codeAny (model P w) A (.call (.ref f) args) (CR CX outer P w H s Q E) s
def cxS (CX : CXT) (P : Program) (w : World) (K : PySem.W.Frag) (mg : Str → Option Value) (base : Heap) (N : List Str) (qual : Str) (scope : Scope) (f : Addr) (cd : Value) (A : Around) (outer : List Env) (s : Shared) (H : Hp) (E : XK) : Cx :=
  { cxOf CX P w K mg base N qual scope f cd A outer s H E with calm := false }
theorem inv_startS {CX : CXT} {P : Program} {w : World} {K : PySem.W.Frag} {mg : Str → Option Value} {base : Heap} {N ps : List Str} {qual : Str} {scope : Scope} {f : Addr} {cd : Value} {A : Around} {outer : List Env} {s s1 : Shared} {H : Hp} {E : XK} {us : List Value} {vs : List V}
    (S : FnScope N ps scope) (e0 : Env0 P w K mg base A outer s H) (hl : vs.length = ps.length) (r : Vals vs us)
    (x : InCallC s s.heap.objs.size (bindL (envOfC qual scope s.heap.objs.size f cd).kindOf (ps.zip us) fun _ => none) (cellsFrom (s.heap.objs.size + 1) scope.names []) (bindC (envOfC qual scope s.heap.objs.size f cd).kindOf (ps.zip us) fun _ => none) s1) :
    Inv (cxS CX P w K mg base N qual scope f cd A outer s H E) [] (L2.start N vs) H s1 := by
  have hpl : ps.length ≤ N.length := by have := congrArg List.length S.pre; rw [List.length_take] at this; omega
  obtain ⟨h1, tk, rfl, hk⟩ := x.done
  have noA : ∀ b : Addr, b ∉ (cxS CX P w K mg base N qual scope f cd A outer s H E).ex := fun b z => absurd (show b ∈ ([] : List Addr) from z) (by simp)
  refine ⟨⟨e0.mod, S.kind, rfl, rfl, Nat.le_refl _, fun y z c h1 h2 => ?_, fun y hy => ?_, fun y c _ h => ?_, (fun z => Bool.noConfusion (show false = true from z)), Around.frames_deeper e0.frames, .inr ⟨rfl, rfl⟩, fun b z => absurd z (noA b), e0.bs, e0.bsz, fun b _ _ => noA b, fun b z => absurd z (noA b), e0.funs, e0.frf⟩,
    rfl, e0.bare, Un.kept hk, ⟨_, x.toInCall.ns, fun i y v h1 h2 h3 => ?_⟩, fun y c h => ⟨_, x.cell y c h⟩, e0.hok.fresh (Nat.le_refl _), fun y c h => ?_, fun p hp => absurd (show p ∈ ([] : List (Addr × Obj)) from hp) (by simp), e0.hok.kept hk, ?_⟩
  · exact name_of_addr x.apart (PySem.mem_of_lookup h1) (PySem.mem_of_lookup h2)
  · have hy : scope.names.lookup y = some .cell ∨ scope.names.lookup y = some .free := hy
    rcases hy with hy | hy
    · exact cell_has hy
    · exact absurd rfl (S.nofree _ (PySem.mem_of_lookup hy))
  · exact Nat.le_of_lt (x.above y c (PySem.mem_of_lookup h))
  · have hi : i < vs.length := by
      unfold L2.start at h2
      by_cases hi : i < vs.length
      · exact hi
      · rw [List.getElem?_append_right (by simpa using hi)] at h2
        rw [List.getElem?_replicate] at h2
        split at h2 <;> cases h2
    have ha : vs[i]? = some v := by
      unfold L2.start at h2
      rw [List.getElem?_append_left (by simpa using hi), List.getElem?_map] at h2
      cases e : vs[i]? with
      | none => rw [e] at h2; cases h2
      | some a => rw [e] at h2; cases h2; rfl
    obtain ⟨u, hu, rv⟩ := r.get ha
    have hp : ps[i]? = some y := by
      rw [← S.pre, List.getElem?_take_of_lt (by omega)]; exact h1
    have ndP : ps.Nodup := by rw [← S.pre]; exact S.nd.sublist (List.take_sublist _ _)
    refine ⟨u, rv, ?_⟩
    rcases S.par y (List.mem_of_getElem? hp) with k | k
    · exact .inl ⟨k, bindL_get ndP hp hu k⟩
    · obtain ⟨c, e⟩ := cell_has (n := s.heap.objs.size + 1) k
      refine .inr ⟨.inl k, c, e, ?_⟩
      have q := x.cell y c e
      rw [bindC_get ndP hp hu (by show scope.names.lookup y ≠ _; rw [k]; decide)] at q
      exact q
  · exact e0.hok.fresh (Nat.le_of_lt (x.above y c (PySem.mem_of_lookup h)))
  · unfold L2.start
    show _ = N.length
    rw [List.length_append, List.length_map, List.length_replicate]
    omega
theorem fn_ofS {CX : CXT} {P : Program} {w : World} {K : PySem.W.Frag} {mg : Str → Option Value} {base : Heap} {k : Nat} {f : Addr} {name qual : Str} {params : Arguments} {body : List Stmt} {scope : Scope} {dV kV doc pm cdv ct oc : Value} {an od : Option Addr}
    {osl : Array (Option Value)} {N ps : List Str} {sp : Sp} (lk : K.lookup f = some ⟨oc, od, .func (PySem.W.fnOf name qual params body scope dV kV doc pm an cdv ct), osl⟩) (hcd : PySem.W.codeIn K cdv qual = true) (S : FnScope N ps scope)
    (len : ∀ vs H Q E, sp vs H Q E → vs.length = ps.length)
    (hbody : ∀ (A : Around) (outer : List Env) (s : Shared) (H : Hp) (vs : List V) (Q : VK) (E : XK), L2H.RoomH k (A.deeper (envOfC qual scope s.heap.objs.size f cdv)) → sp vs H Q E →
      ∃ t, PSs (cxS CX P w K mg base N qual scope f cdv A outer s H E) body t ∧ t { nx := fun _ H' => Q .non H', rt := Q } (L2.start N vs) H) :
    FnS P w K mg base CX (k + 1) f (PySem.W.fnOf name qual params body scope dV kV doc pm an cdv ct) ps sp := by
  refine ⟨len, fun A outer s H args us vs Q E hr e0 hb r hsp => ?_⟩
  have hl := len _ _ _ _ hsp
  have KX : K.In s.heap := e0.mod.kin.keeps fun b o e => (e0.bs b o e).1
  have lim : s.heap.NoLimit := e0.mod.nolimit.keeps fun b o e => (e0.bs b o e).1
  have hkind : ∀ y ∈ ps.zip us, scope.names.lookup y.1 = some .local ∨ (scope.names.lookup y.1 = some .cell ∧ ((cellsFrom (s.heap.objs.size + 1) scope.names []).lookup y.1).isSome = true) := fun ⟨n, v⟩ hy => by
    rcases S.par n (List.of_mem_zip hy).1 with q | q
    · exact .inl q
    · exact .inr ⟨q, PySem.W.cellsFrom_some _ _ _ (.inl q)⟩
  refine codeAny_call_function hr.depth (KX _ _ lk) rfl S.co S.gen rfl (PySem.W.codeRec_of KX hcd) (hb _ _ _ _ ?_)
  refine wpAny_newFunctionEnv_cells S.kind hkind fun env he s1 x => ?_
  subst he
  refine ⟨lim.keeps x.toInCall.keep, codeAny_func ?_⟩
  obtain ⟨t, ht, hq⟩ := hbody A outer s H vs Q E (hr.deeper _) hsp
  have I : Inv (cxS CX P w K mg base N qual scope f cdv A outer s H E) [] (L2.start N vs) H s1 := inv_startS S e0 hl r x
  refine wpAny_mono (ht.run [] s1 (L2.start N vs) H _ I hq) (fun fl s' hs => ?_) fun e s' hs => hs
  have fin : ∀ {σ' : St} {H' : Hp} {v : V} {u : Value}, Inv (cxS CX P w K mg base N qual scope f cdv A outer s H E) [] σ' H' s' → RelV v u → Q v H' → CE outer P w H s Q u s' :=
    fun {σ' H' v u} J rv q => ⟨v, H', J.os, J.bare, J.base, J.hok, rv, q⟩
  cases fl with
  | ret u =>
    obtain ⟨v, σ', H', J, rv, q⟩ := hs
    exact fin J rv q
  | next =>
    obtain ⟨σ', H', J, q⟩ := hs
    exact fin (v := V.non) (u := Value.none) J rfl q
  | brk =>
    obtain ⟨_, _, _, q⟩ := hs
    exact False.elim q
  | cont =>
    obtain ⟨_, _, _, q⟩ := hs
    exact False.elim q
theorem den_okS {nm : Nms} {P : Program} {w : World} {K : PySem.W.Frag} {mg : Str → Option Value} {base : Heap} {x qual : Str} {st : Stmt} {f : Addr} {fd : FuncData} {N ps : List Str} {k : Nat} {m : SM} (F : Fun K x qual st f fd) (S : FnScope N ps (defScope st))
    (hb : ∀ (cdv : Value) (A : Around) (outer : List Env) (s : Shared) (H : Hp) (E : XK), L2H.RoomH k (A.deeper (envOfC qual (defScope st) s.heap.objs.size f cdv)) → MB nm (cxS (L2.CX P w) P w K mg base N qual (defScope st) f cdv A outer s H E) (defBody st) m) {V : FM} {n : Nat} (hV : den N.length m = V) (hn : ps.length = n) :
    FnS P w K mg base (L2.CX P w) (k + 1) f fd ps (spD nm K mg n V) := by
  subst hV hn
  obtain ⟨oc, od, kV, doc, pm, an, cdv, ct, osl, rfl, lk, hcd⟩ := F.ex
  refine fn_ofS lk hcd S (fun vs H Q E h => ?_) fun A outer s H vs Q E hr h => ?_
  · obtain ⟨ds, S, μ, r, hl, _⟩ := h
    rw [r.length, hl]
  · obtain ⟨ds, S', μ, r, hl, sm, p⟩ := h
    refine ⟨_, (hb cdv A outer s H E hr).run (fun cls d _ H => E cls d H) (takes_of rfl rfl rfl rfl), ⟨ds.map some ++ List.replicate (N.length - ds.length) none, []⟩, S', μ, evr_start r ?_, sm, ?_⟩
    · have := congrArg List.length S.pre
      rw [List.length_take] at this
      omega
    · unfold den at p
      cases hr : m ⟨ds.map some ++ List.replicate (N.length - ds.length) none, []⟩ S' with
      | nx e S2 => rw [hr] at p; exact fun σ' μ' H' x s _ => p μ' H' x s _ .non
      | bk e S2 => rw [hr] at p; exact False.elim p
      | ct e S2 => rw [hr] at p; exact False.elim p
      | rt d S2 => rw [hr] at p; exact fun v μ' H' x s r => p μ' H' x s v r
      | exc c fs e S2 => rw [hr] at p; exact fun σ' μ' H' C d x s _ a => p μ' H' C d x s a
      | stuck => rw [hr] at p; exact False.elim p
section
variable (P : Program) (w : World) (K : PySem.W.Frag) (mg : Str → Option Value) (base : Heap) (nm : Nms)
def MethOkS (k : Nat) (c : Nat) (m : Str) (n : Nat) (F : FM) : Prop :=
  ∃ C f fd ps, mg (nm.cls c) = some (.ref C) ∧ Cls K C ∧ Meth K C m f ∧ ps.length = n ∧ Binds K fd ps [] ∧ FnS P w K mg base (L2.CX P w) k f fd ps (spD nm K mg n F) ∧ ∀ i, i < nm.most → nm.fld i ≠ m
end
section
variable {nm : Nms} {X : Cx} {pins : List (Addr × Obj)} {σ : St} {H : Hp} {s : Shared} {W : WX} {k n : Nat} {x m : Str} {F : FM} {vs : List V} {us : List Value} {ds : List D} {S : Store} {μ : List Addr} {Q : VK} {p apos pos : Pos}
theorem run_spDS {f : Addr} {fd : FuncData} {ps : List Str} (F' : FnS X.prog X.w X.K X.mg X.base (L2.CX X.prog X.w) k f fd ps (spD nm X.K X.mg n F)) (hb : Binds X.K fd ps []) (hr : L2H.RoomH k X.A) (tk : Takes X W) (I : Inv X pins σ H s) (r : Vals vs us) (rv : RVs X.K H μ vs ds) (hl : ds.length = n)
    (sm : Sim nm X.K X.mg μ S H) (q : PostX nm X W μ H σ (F ds S) fun d _ μ' H' => ∀ v, RV X.K H' μ' v d → Q v H') : wpAny (model X.prog X.w) X.A (call (.ref f) us) (EP X pins σ Q) X.xe s := by
  have h : spD nm X.K X.mg n F vs H Q (WE W σ) := ⟨ds, S, μ, rv, hl, sm, q⟩
  have hl : us.length = ps.length := by rw [← r.length]; exact F'.len _ _ _ _ h
  have b := hb s us I.kIn (by rw [List.append_nil]; exact hl)
  rw [List.append_nil] at b
  refine wpAny_call (codeAny_mono (F'.run X.A X.stack s H ⟨us, []⟩ us vs Q (WE W σ) hr I.env0 b r h) fun r s' hq => ?_)
  cases r with
  | error e => exact passAt tk σ pins H s e s' I hq
  | ok fl =>
    cases fl with
    | ret u => exact I.after hq
    | next => exact False.elim hq
    | brk => exact False.elim hq
    | cont => exact False.elim hq
theorem me_methS {c : Nat} {o e : Expr} {es : List Expr} {mo : EM} {ma : AM} {pl : Sem Bool} (h : MethOkS X.prog X.w X.K X.mg X.base nm k c m n F) (hr : L2H.RoomH k X.A) (ho : ME nm X o mo) (ha : MA nm X (e :: es) ma) (hn : (e :: es).length + 1 = n := by rfl)
    (hst : starEach (e :: es) X.env = (false, eval e X.env) :: starEach es X.env := by rfl) (hpl : (backTo pos (starEach es X.env)).any (·.1) = false := by rfl)
    (ht : eval (.Call (.Attribute o m apos) (e :: es) [] pos) X.env = (do
      let ov ← eval o X.env
      standAt apos.atName
      let (f, first) ← holding [ov] (getMethod ov m pl)
      callWith pos f first (backTo pos (starEach (e :: es) X.env)) (backToKw pos (keywordEach [] X.env))) := by rfl) : ME nm X (.Call (.Attribute o m apos) (e :: es) [] pos) (mMeth c F mo ma) := by
  obtain ⟨C, f, fd, ps, g1, g2, g3, g4, g5, g6, g7⟩ := h
  refine ⟨fun W tk => ⟨fun pins s σ H Q I hh => ?_⟩⟩
  obtain ⟨ev, S, μ, E, sm, q⟩ := hh
  refine PySem.W.methodCall_KW (pl := pl) (thn ((ho.run W tk).run pins s σ H (fun x H1 => ∃ S1 μ1 d, EvR nm X H1 μ1 ev σ ∧ Sim nm X.K X.mg μ1 S1 H1 ∧ RV X.K H1 μ1 x d ∧ isIns c S1 d = true ∧ PostX nm X W μ1 H1 σ ((ma ev S1).bind fun ds S => F (d :: ds) S) fun d _ μ' H' => ∀ v, RV X.K H' μ' v d → Q v H') I
    ⟨ev, S, μ, E, sm, (Post.bind q).mono fun d S1 μ1 H1 x1 s1 q1 v rv => ?_⟩) fun u s1 ⟨x, H1, I1, rx, S1, μ1, d, E1, sm1, rd, hi, q1⟩ => ?_) ht
  · split at q1
    · rename_i hi; exact ⟨S1, μ1, d, E.ext x1, s1, rv, hi, q1⟩
    · exact False.elim q1
  · obtain ⟨a, dx, gs, rfl, ea, l⟩ := ins_meth g1 g7 sm1 rd hi
    obtain rfl : u = Value.ref a := rx
    refine getmeth_ok I1 ea g2 g3 l ?_
    refine PySem.W.callWith_K (first := [.ref a]) (h₀ := X.base) I1.ok.mod.kin g3.kp (thn ((ha.run W tk).run pos pins s1 σ H1 (fun vs H2 => ∃ ds S2 μ2, RVs X.K H2 μ2 (.ref a :: vs) (d :: ds) ∧ (d :: ds).length = n ∧ Sim nm X.K X.mg μ2 S2 H2 ∧ PostX nm X W μ2 H2 σ (F (d :: ds) S2) fun d _ μ' H' => ∀ v, RV X.K H' μ' v d → Q v H') I1
      ⟨ev, S1, μ1, E1, sm1, (post_len ha (Post.bind q1)).mono fun ds S2 μ2 H2 x2 s2 q2 vs rvs => ⟨ds, S2, μ2, .cons (rd.ext x2) rvs, by rw [List.length_cons, q2.1, hn], s2, q2.2⟩⟩) fun us s2 ⟨vs, H2, I2, r, ds, S2, μ2, rvs, hl, sm2, q2⟩ => ⟨I2.kIn, ?_⟩) hst hpl
    exact run_spDS (us := .ref a :: us) (vs := .ref a :: vs) g6 g5 hr tk I2 (.cons rfl r) rvs hl sm2 q2
theorem methS_mk {K : PySem.W.Frag} {P : Program} {w : World} {mg : Str → Option Value} {base : Heap} {c : Nat} {C f : Addr} {cx : Str} {fd : FuncData} {ps : List Str} (hx : nm.cls c = cx) (g : mg cx = some (.ref C)) (kc : Cls K C) (a : PySem.W.findIn K (.ref C) m = some (some (.ref f))) (i : PySem.W.isFn K (.ref f) = true) (kp : PySem.W.keepIn K (.ref f) = true)
    (hps : ps.length = n) (b : Binds K fd ps []) (o : FnS P w K mg base (L2.CX P w) k f fd ps (spD nm K mg n F)) (nf : noFld nm m = true) : MethOkS P w K mg base nm k c m n F :=
  ⟨C, f, fd, ps, by rw [hx]; exact g, kc, ⟨a, i, kp⟩, hps, b, o, noFld_of nf⟩
end
/-- what the clauses wish of an exception of the body, one after the other; with a name: slot i is its -/
def wManyN (K : PySem.W.Frag) (Wout : WX) (D : Ends) : List (Value × Option Nat × (Addr → Value → Option Addr → TS)) → WX
  | [] => Wout
  | (c, none, ts) :: r => fun cls d σ H => ∃ b, PySem.W.exmOne K cls c = some b ∧ (b = true → ∀ a, H a = none → ts a cls d D σ H) ∧ (b = false → wManyN K Wout D r cls d σ H)
  | (c, some i, ts) :: r => fun cls d σ H => ∃ b, PySem.W.exmOne K cls c = some b ∧ (b = true → ∀ a, H a = none → ts a cls d { nx := fun σ' H' => D.nx (σ'.set i none) H', rt := D.rt, bk := fun σ' H' => D.bk (σ'.set i none) H', ct := fun σ' H' => D.ct (σ'.set i none) H' } (σ.set i (some (.ref a))) H) ∧
      (b = false → wManyN K Wout D r cls d σ H)
inductive HdsN (X : Cx) : List ExceptHandler → List (Value × Option Nat × (Addr → Value → Option Addr → TS)) → Prop
  | nil : HdsN X [] []
  | plain {x : Str} {c : Value} {ts : Addr → Value → Option Addr → TS} {b₀ : Stmt} {suite : List Stmt} {np pos' : Pos} {hds : List ExceptHandler} {l : List (Value × Option Nat × (Addr → Value → Option Addr → TS))} (hc : Names X x c)
      (hsu : ∀ (a : Addr) (oe : Obj) (cls : Value) (d : Option Addr) (pn : List (Addr × Obj)), Zc cls d oe → (∃ vs, oe.data = .fields vs) → PSs (X.suite a ((a, oe) :: pn)) (b₀ :: suite) (ts a cls d)) (r : HdsN X hds l) :
      HdsN X (.ExceptHandler (some (.Name x np)) none (b₀ :: suite) pos' :: hds) ((c, none, ts) :: l)
  | named {x n : Str} {i : Nat} {c : Value} {ts : Addr → Value → Option Addr → TS} {b₀ : Stmt} {suite : List Stmt} {np pos' : Pos} {hds : List ExceptHandler} {l : List (Value × Option Nat × (Addr → Value → Option Addr → TS))} (hi : X.N[i]? = some n) (hln : X.env.kindOf n = some .local) (hc : Names X x c)
      (hsu : ∀ (a : Addr) (oe : Obj) (cls : Value) (d : Option Addr) (pn : List (Addr × Obj)), Zc cls d oe → (∃ vs, oe.data = .fields vs) → PSs (X.suite a ((a, oe) :: pn)) (b₀ :: suite) (ts a cls d)) (r : HdsN X hds l) :
      HdsN X (.ExceptHandler (some (.Name x np)) (some n) (b₀ :: suite) pos' :: hds) ((c, some i, ts) :: l)
section
variable {X : Cx} {body : List Stmt} {h₀ : ExceptHandler} {hds : List ExceptHandler} {l : List (Value × Option Nat × (Addr → Value → Option Addr → TS))} {pos : Pos} {tb : WX → TS} {Wout : WX}
theorem ps_try_manyN (hs : X.stack = X.env :: X.outer) (hf : X.env.frame = some X.env.locals) (hN : X.N.Nodup) (tk : Takes X Wout)
    (hb : ∀ (W : WX) (pn : List (Addr × Obj)) (xe : Value → Shared → Prop), Takes (X.tr pn xe) W → PassesOwn (model X.prog X.w) X.A X.env xe → PSs (X.tr pn xe) body (tb W))
    (hh : HdsN X (h₀ :: hds) l) : PS X (.Try body (h₀ :: hds) [] [] pos) (fun D σ H => tb (wManyN X.K Wout D l) D σ H) := by
  refine ⟨fun pins s σ H D I h => ?_⟩
  have ok := I.ok
  have hfr : X.A.frames = some (X.env :: X.outer) := by rw [ok.frames, hs]
  refine wpAny_Try_except ?_
  refine wpAny_mono ((hb (wManyN X.K Wout D l) (X.pn ++ pins) (fun e s₁ => wpAny (model X.prog X.w) X.A (noteFrame e X.env) (fun _ s₂ => wpAny (model X.prog X.w) X.A (setFlight e none) (fun _ s₃ =>
    wpAny (model X.prog X.w) X.A (handleBy e X.env (h₀ :: hds)) (SP X pins D) X.xe s₃) X.xe s₂) X.xe s₁) (fun u s' xx => ?_) PassesOwn.looking).run [] s σ H D (I.toTry _) h) (fun f s1 hsp => ?_) (fun e s1 he => he)
  · -- the catch
    obtain ⟨a, B, sI, pins', σ', H', cls, d, rfl, J', nb, up, sky, na, os, ag, w⟩ := xx
    have J : Inv X pins σ' H' sI := J'.ofTry ok
    have sky' : Sky B (X.env :: X.outer) a (Zc cls d) X.env.locals s'.heap := by rw [← hs]; exact sky
    show wpAny (model X.prog X.w) X.A (noteFrame (.ref a) X.env) _ _ _
    refine Sky.land Zc.steady hfr hf sky' fun h3 fl3 up3 => ?_
    have J3 : Inv X pins σ' H' { s' with heap := h3 } := J.landed nb fl3.1 (up.trans up3) os ag
    obtain ⟨oe3, vs3, he3, hz3, hd3⟩ := fl3.there
    have notFr : ∀ {h : Heap} {o : Obj} {vs : Array Value}, h.FunFrames B (X.env :: X.outer) → h.get? a = some o → o.data = .fields vs → a ∉ frs (X.env :: X.outer) := fun {h o vs} ff e dd hm => by
      obtain ⟨_, o', e', hnf⟩ := ff.mem hm
      rw [e] at e'; cases e'
      exact hnf _ dd
    have nfr := notFr fl3.2.2.1 he3 hd3
    have nL : a ≠ X.env.locals := fun z => nfr (List.mem_filterMap.mpr ⟨X.env, List.mem_cons_self, by rw [hf, z]⟩)
    have nF : a ∉ X.fs := fun hm => by
      obtain ⟨e, he, q⟩ := List.mem_filterMap.mp hm
      exact nfr (List.mem_filterMap.mpr ⟨e, List.mem_cons_of_mem _ he, q⟩)
    have S3 := J3.suite he3 hd3 na nL nF
    have go : ∀ {hds' : List ExceptHandler} {l' : List (Value × Option Nat × (Addr → Value → Option Addr → TS))}, HdsN X hds' l' → wManyN X.K Wout D l' cls d σ' H' →
        wpAny (model X.prog X.w) X.A (handleBy (.ref a) X.env hds') (SP X pins D) X.xe { s' with heap := h3 } := by
      intro hds' l' hk
      induction hk with
      | nil =>
        intro w
        refine wpAny_handleBy_nil ?_
        obtain ⟨k1, k2, k3, oe, vs, T, oT, ts', he, hz, hd, h1, hr⟩ := id fl3
        unfold PySem.passOn
        refine wpAny_bind (wpAny_field he hd h1 ?_)
        rw [if_neg (show ¬ ((Value.ref T == Value.none) = true) from by simp)]
        have fin : wpAny (model X.prog X.w) X.A (setFlight (.ref a) X.env.frame) (fun _ s4 => wpAny (model X.prog X.w) X.A (throw (.ref a) : Sem Flow) (SP X pins D) X.xe s4) X.xe { s' with heap := h3 } := by
          rw [hf]
          refine HandSPX.setFlight_upZ fl3 fun h4 hh4 up4 => wpAny_throw (tk _ _ ?_)
          exact ⟨a, B, sI, pins, σ', H', cls, d, rfl, J, nb, (up.trans up3).trans up4, .inr (.inr (by rw [hs]; exact hh4)), na, os, ag, w⟩
        first
          | exact wpAny_bind (wpAny_pure (wpAny_bind fin))
          | exact wpAny_bind fin
      | @plain x c ts b₀ suite np pos' hds2 l2 hc hsu r ih =>
        intro w
        obtain ⟨b, hb1, hyes, hno⟩ := w
        refine wpAny_handleBy_cons (codeAny_handlers_test ?_) (by intro q; cases q)
        have LT : PySem.W.Looks (model X.prog X.w) h3 (typeOf (.ref a)) cls := fun A Q E s k q => wpAny_typeOf_ref (k _ _ he3) (by rw [hz3.1]; exact q)
        have LM := PySem.W.exm_one (M := model X.prog X.w) (J3.kIn) LT hb1
        have test : ∀ {Q : Value → Shared → Prop} {E : Value → Shared → Prop}, Q c { s' with heap := h3 } → wpAny (model X.prog X.w) (X.A.mark (some (.ref a))) (eval (.Name x np) X.env) Q E { s' with heap := h3 } := fun {Q E} q => by
          obtain ⟨hg, hdbg, hm | ⟨hm, hv, hnn⟩⟩ := hc
          · exact ld_glob (X := X.suite a ((a, oe3) :: (X.pn ++ pins))) S3 hg hm q hdbg
          · exact ld_blt (X := X.suite a ((a, oe3) :: (X.pn ++ pins))) S3 hg hm hv q hnn hdbg
        refine test (LM.here ?_)
        cases b with
        | true =>
          refine codeAny_handlers_suite ?_
          refine HandSPX.lands_againZ fl3 fun h4 fl4 up4 => ?_
          have J4 : Inv X pins σ' H' { s' with heap := h4 } := J.landed nb fl4.1 ((up.trans up3).trans up4) os ag
          obtain ⟨oe4, vs4, he4, hz4, hd4⟩ := fl4.there
          have S4 := J4.suite he4 hd4 na nL nF
          refine wpAny_mono ((hsu a oe4 cls d (X.pn ++ pins) hz4 ⟨_, hd4⟩).run [] _ _ H' _ S4 (hyes rfl a na)) (fun f s6 hsp => ?_) (fun _ _ z => False.elim z)
          cases f with
          | next =>
            obtain ⟨σ6, H6, S6, q6⟩ := hsp
            exact ⟨_, _, S6.unsuite ok, q6⟩
          | brk =>
            obtain ⟨σ6, H6, S6, q6⟩ := hsp
            exact ⟨_, _, S6.unsuite ok, q6⟩
          | cont =>
            obtain ⟨σ6, H6, S6, q6⟩ := hsp
            exact ⟨_, _, S6.unsuite ok, q6⟩
          | ret u =>
            obtain ⟨v6, σ6, H6, S6, r6, q6⟩ := hsp
            exact ⟨_, _, _, S6.unsuite ok, r6, q6⟩
        | false =>
          show wpAny _ X.A (handleBy (.ref a) X.env hds2) _ _ _
          exact ih (hno rfl)
      | @named x n i c ts b₀ suite np pos' hds2 l2 hi hln hc hsu r ih =>
        intro w
        obtain ⟨b, hb1, hyes, hno⟩ := w
        have hloc : Loc X.env.scope n := .inl hln
        refine wpAny_handleBy_cons (codeAny_handlers_test ?_) (by intro q; cases q)
        have LT : PySem.W.Looks (model X.prog X.w) h3 (typeOf (.ref a)) cls := fun A Q E s k q => wpAny_typeOf_ref (k _ _ he3) (by rw [hz3.1]; exact q)
        have LM := PySem.W.exm_one (M := model X.prog X.w) (J3.kIn) LT hb1
        have test : ∀ {Q : Value → Shared → Prop} {E : Value → Shared → Prop}, Q c { s' with heap := h3 } → wpAny (model X.prog X.w) (X.A.mark (some (.ref a))) (eval (.Name x np) X.env) Q E { s' with heap := h3 } := fun {Q E} q => by
          obtain ⟨hg, hdbg, hm | ⟨hm, hv, hnn⟩⟩ := hc
          · exact ld_glob (X := X.suite a ((a, oe3) :: (X.pn ++ pins))) S3 hg hm q hdbg
          · exact ld_blt (X := X.suite a ((a, oe3) :: (X.pn ++ pins))) S3 hg hm hv q hnn hdbg
        refine test (LM.here ?_)
        cases b with
        | true =>
          refine codeAny_handlers_suite_as ?_
          refine HandSPX.lands_againZ fl3 fun h4 fl4 up4 => ?_
          have J4 : Inv X pins σ' H' { s' with heap := h4 } := J.landed nb fl4.1 ((up.trans up3).trans up4) os ag
          obtain ⟨oe4, vs4, he4, hz4, hd4⟩ := fl4.there
          have S4 := J4.suite he4 hd4 na nL nF
          refine store_ok (X := X.suite a ((a, oe4) :: (X.pn ++ pins))) (v := .ref a) S4 hN hi hloc rfl (fun s5 S5 => ?_) (.inr hln)
          refine wpAny_mono ((hsu a oe4 cls d (X.pn ++ pins) hz4 ⟨_, hd4⟩).run [] s5 _ H' _ S5 (hyes rfl a na)) (fun f s6 hsp => ?_) (fun _ _ z => False.elim z)
          have end_ : ∀ {σ6 : St} {H6 : Hp} {Q : Shared → Prop}, Inv (X.suite a ((a, oe4) :: (X.pn ++ pins))) [] σ6 H6 s6 → (∀ s7, Inv X pins (σ6.set i none) H6 s7 → Q s7) →
              wpAny (model X.prog X.w) X.A (do bindName X.env n .none; unbindBehindTheSuite X.env n pos') (fun _ s7 => Q s7) X.xe s6 := fun {σ6 H6 Q} S6 hq => gone_ok (S6.unsuite ok) hN hi hln hq
          cases f with
          | next =>
            obtain ⟨σ6, H6, S6, q6⟩ := hsp
            exact end_ S6 fun s7 J7 => ⟨_, _, J7, q6⟩
          | brk =>
            obtain ⟨σ6, H6, S6, q6⟩ := hsp
            exact end_ S6 fun s7 J7 => ⟨_, _, J7, q6⟩
          | cont =>
            obtain ⟨σ6, H6, S6, q6⟩ := hsp
            exact end_ S6 fun s7 J7 => ⟨_, _, J7, q6⟩
          | ret u =>
            obtain ⟨v6, σ6, H6, S6, r6, q6⟩ := hsp
            exact end_ S6 fun s7 J7 => ⟨_, _, _, J7, r6, q6⟩
        | false =>
          show wpAny _ X.A (handleBy (.ref a) X.env hds2) _ _ _
          exact ih (hno rfl)
    exact go hh w
  · cases f with
    | next =>
      obtain ⟨σ', H', J', q⟩ := hsp
      exact wpAny_execs_nil ⟨σ', H', J'.ofTry ok, q⟩
    | brk =>
      obtain ⟨σ', H', J', q⟩ := hsp
      exact ⟨σ', H', J'.ofTry ok, q⟩
    | cont =>
      obtain ⟨σ', H', J', q⟩ := hsp
      exact ⟨σ', H', J'.ofTry ok, q⟩
    | ret u =>
      obtain ⟨v, σ', H', J', r, q⟩ := hsp
      exact ⟨v, σ', H', J'.ofTry ok, r, q⟩
end
def mTry2 (i : Nat) (y1 n1 y2 n2 : List Nat) (b s1 s2 : SM) : SM := fun e S => (b e.clr S).caught (y1 ++ n1) [] fun c fs e S => if y1.contains c = true then (if i < e.sl.length then (s1 (e.exn i c fs) S).gone i else .stuck) else if y2.contains c = true then (s2 e S).nox else if n2.contains c = true then .exc c fs e S else .stuck
section
variable {nm : Nms} {X : Cx} {pos : Pos}
theorem ms_try2 (i : Nat) {x n x2 : Str} {body suite suite2 : List Stmt} {b₀ b₂ : Stmt} {np pos' np2 pos2 : Pos} {mb ms ms2 : SM} {y1 n1 y2 n2 : List Nat} (hs : X.stack = X.env :: X.outer) (hf : X.env.frame = some X.env.locals) (hN : X.N.Nodup) (hg : GlN X x) (hc : Catch X.K X.mg nm x y1 n1) (hg2 : GlN X x2) (hc2 : Catch X.K X.mg nm x2 y2 n2)
    (hb : ∀ (pn : List (Addr × Obj)) (xe : Value → Shared → Prop), PassesOwn (model X.prog X.w) X.A X.env xe → MB nm (X.tr pn xe) body mb)
    (hsu : ∀ (a : Addr) (oe : Obj) (pn : List (Addr × Obj)), MB nm (X.suite a ((a, oe) :: pn)) (b₀ :: suite) ms)
    (hsu2 : ∀ (a : Addr) (oe : Obj) (pn : List (Addr × Obj)), MB nm (X.suite a ((a, oe) :: pn)) (b₂ :: suite2) ms2) (hln : X.env.kindOf n = some .local) (hi : X.N[i]? = some n := by rfl) :
    MS nm X (.Try body [.ExceptHandler (some (.Name x np)) (some n) (b₀ :: suite) pos', .ExceptHandler (some (.Name x2 np2)) none (b₂ :: suite2) pos2] [] [] pos) (mTry2 i y1 n1 y2 n2 mb ms ms2) := by
  obtain ⟨cv, h1, h2, h3⟩ := hc
  obtain ⟨cv2, k1, k2, k3⟩ := hc2
  let ts : Addr → Value → Option Addr → TS := fun a cls d D σ H => ∃ c fs, ∃ e : Ev, ∃ S μ C, cls = .ref C ∧ EvR nm X H μ ⟨e.sl.set i none, []⟩ σ ∧ σ[i]? = some (some (.ref a)) ∧ Sim nm X.K X.mg μ S H ∧ ExcAt nm X.K X.mg H μ c fs C d ∧
    ∀ X', X'.K = X.K → X'.mg = X.mg → PostS nm X' (fun _ _ _ _ => False) μ H (ms (e.exn i c fs) S) D
  have hh0 : HdsN X [.ExceptHandler (some (.Name x np)) (some n) (b₀ :: suite) pos', .ExceptHandler (some (.Name x2 np2)) none (b₂ :: suite2) pos2] [(cv, some i, ts), (cv2, none, fun a _ _ => rdC nm X (fun _ _ _ _ => False) ms2)] := by
    refine .named hi hln ⟨hg.g, hg.d, .inl h1⟩ (fun a oe cls d pn hz hv => ((hsu a oe pn).run _ takes0).imp fun D σ H hh => ?_) (.plain ⟨hg2.g, hg2.d, .inl k1⟩ (fun a oe cls d pn hz hv => ((hsu2 a oe pn).run _ takes0).imp fun D σ H hh => rdC_to X rfl rfl hh) .nil)
    obtain ⟨c, fs, e, S, μ, C, rfl, E, ha, s, ea, p⟩ := hh
    refine ⟨e.exn i c fs, S, μ, ⟨E.len, E.at_, fun q hq => ?_⟩, s, p _ rfl rfl⟩
    rcases List.mem_singleton.mp (show q ∈ [(i, c, fs)] from hq) with rfl
    exact ⟨a, oe, C, d, ha, List.mem_cons_self, ⟨hz, hv⟩, ea⟩
  refine ⟨fun W tk => (ps_try_manyN (tb := fun W => rdC nm X W mb) hs hf hN tk (fun W' pn xe tk' hp => ((hb pn xe hp).run W' tk').imp fun D σ H hh => rdC_to X rfl rfl hh) hh0).imp fun D σ H hh => ?_⟩
  refine try_rd hh (fun c hc fs e S σ' μ' H' C d g s E ea p => ?_) fun c hc => absurd hc (by simp)
  by_cases hy : y1.contains c = true
  · have p : PostS nm X W μ' H' (if y1.contains c = true then (if i < e.clr.sl.length then (ms (e.clr.exn i c fs) S).gone i else .stuck) else if y2.contains c = true then (ms2 e.clr S).nox else if n2.contains c = true then .exc c fs e.clr S else .stuck) D := p
    rw [if_pos hy] at p
    split at p
    · rename_i hl
      have hl2 : i < σ'.length := by rw [← E.len]; exact hl
      refine ⟨true, h2 c (by simpa using hy) C g, fun _ a na => ⟨c, fs, e.clr, S, μ', C, rfl, E.weak i _ rfl, List.getElem?_set_self hl2, s, ea, fun X' hK hm => ?_⟩, fun q => (nomatch q)⟩
      cases hr : ms (e.clr.exn i c fs) S with
      | nx e' S' => rw [hr] at p; exact fun σ2 μ2 H2 x s E => p _ μ2 H2 x (by rw [← hK, ← hm]; exact s) (E.unset i hK.symm)
      | bk e' S' => rw [hr] at p; exact fun σ2 μ2 H2 x s E => p _ μ2 H2 x (by rw [← hK, ← hm]; exact s) (E.unset i hK.symm)
      | ct e' S' => rw [hr] at p; exact fun σ2 μ2 H2 x s E => p _ μ2 H2 x (by rw [← hK, ← hm]; exact s) (E.unset i hK.symm)
      | rt d' S' => rw [hr] at p; exact fun v μ2 H2 x s r => p v μ2 H2 x (by rw [← hK, ← hm]; exact s) (by rw [← hK]; exact r)
      | exc c' fs' e' S' => rw [hr] at p; exact False.elim p
      | stuck => rw [hr] at p; exact False.elim p
    · exact False.elim p
  · have p : PostS nm X W μ' H' (if y1.contains c = true then (if i < e.clr.sl.length then (ms (e.clr.exn i c fs) S).gone i else .stuck) else if y2.contains c = true then (ms2 e.clr S).nox else if n2.contains c = true then .exc c fs e.clr S else .stuck) D := p
    rw [if_neg hy] at p
    have hn1 : c ∈ n1 := by
      rcases List.mem_append.mp hc with z | z
      · exact absurd (by simpa using z) hy
      · exact z
    refine ⟨false, h3 c hn1 C g, fun q => (nomatch q), fun _ => ?_⟩
    split at p
    · rename_i hy2
      exact ⟨true, k2 c (by simpa using hy2) C g, fun _ a na => ⟨e.clr, S, μ', E, s, rfl, PostS.noW p⟩, fun q => (nomatch q)⟩
    · split at p
      · rename_i hn2
        exact ⟨false, k3 c (by simpa using hn2) C g, fun q => (nomatch q), fun _ => p σ' μ' H' C d .refl s E ea⟩
      · exact False.elim p
end
end BS
namespace BS
open PySem PySem.Spec PyProof.Rows L2
section
variable {nm : Nms} {X : Cx} {pos : Pos}
/-- o[i] of an object of the store -/
def fIxA : Store → D → D → Option D := fun S x i => match x with
  | .obj n => match S[n]? with
    | some (.lst ds) => match i with
      | .int k => atI ds k
      | _ => none
    | some (.dct kvs) => match keyOf i with
      | some k => getK kvs k
      | none => none
    | _ => none
  | _ => none
theorem get_A {k : Nat} (hr : L2H.RoomH k X.A) : PGet X (rOpD nm X fIxA) := by
  intro pins s σ H o i ov iv Q I ro ri h
  obtain ⟨S, μ, dx, dy, d, sm, rx, ry, e, q⟩ := h
  have q : ∀ v, RV X.K H μ v d → Q v H := fun v r => q v μ H .refl sm r
  have hun := hr.un
  unfold fIxA at e
  split at e
  · rename_i n
    cases rx with | @obj a _ en =>
    split at e
    · rename_i ds hds
      split at e
      · rename_i i
        cases ry
        obtain ⟨xs, e1, r⟩ := sm.ob _ _ _ en hds
        obtain ⟨w, h1, h2⟩ := atI_rvs r e
        cases ro
        obtain ⟨t, rfl⟩ := ri
        obtain ⟨its, rr, pl, hz⟩ := I.list (.of e1)
        obtain ⟨j, g1, g2, g3, g4, g5⟩ := atI_get h1
        obtain ⟨w', ew, rw'⟩ := rr.get g2
        have hl := rr.length
        have hn := line63
        have fin : EP X pins σ Q w' s := ⟨w, H, I, rw', q _ h2⟩
        by_cases h0 : 0 ≤ i
        · have hj : i.toNat = j := by
            rw [seqIndex_of h0 g5] at g1
            exact Option.some.inj g1
          exact wpAny_getItem_list pl.isList h0 (by omega) (by rw [hj]; simpa using ew) fin
        · have hj : (i + (its.toArray.size : Int)).toNat = j := by
            rw [seqIndex_neg (by omega) g4] at g1
            rw [List.size_toArray, ← hl]
            exact Option.some.inj g1
          exact wpAny_getItem_list_neg pl.isList (by omega) (by rw [List.size_toArray] <;> omega) (by omega) (by rw [hj]; simpa using ew) fin
      · cases e
    · rename_i kvs hds
      split at e
      · rename_i k hk
        have ek := keyOf_kV ry hk
        subst ek
        obtain ⟨ys, e1, r1⟩ := sm.ob _ _ _ en hds
        cases ro
        rcases getK_val _ r1 with ⟨h1, h2⟩ | ⟨w, d', h1, h2, h3⟩
        · rw [h2] at e; cases e
        · rw [h2] at e; cases e
          exact d_getItem (by omega) I (h1 ▸ (.inl ⟨ys, k, .inl e1, rfl, rfl⟩ : DGet H a (kV k) (valV ys k))) ri fun w' s' I' rw' => ⟨w, H, I', rw', q _ h3⟩
      · cases e
    · cases e
  · cases e
def mAugI (f : Store → D → D → Option D) (o i m : EM) : SM := fun e S => (o e S).toS e fun x S => (i e S).toS e fun y S => match fIxA S x y with
  | some z => (m e S).toS e fun u S => (lift2 f S z u).toS e fun v S => match setS S x y v with
    | some S => .nx e S
    | none => .stuck
  | none => .stuck
theorem ms_augI {k : Nat} (hr : L2H.RoomH k X.A) {op : Operator} {f : Store → D → D → Option D} {o i e : Expr} {mo mi me : EM} {tpos : Pos} (hop : OpD nm X (inplaceOp op) f) (ho : ME nm X o mo) (hi : ME nm X i mi) (he : ME nm X e me)
    (ha : ∀ ov iv new, augStore i ov iv new = (do holding [new, ov, iv] (setItem ov iv new); release [new, ov, iv] []; pure .next) := by intros; rfl) : MS nm X (.AugAssign (.Subscript o i tpos) op e pos) (mAugI f mo mi me) :=
  ⟨fun W tk => (ps_augS (tget := rOpD nm X fIxA) (tip := rOpD nm X f) (tset := rSetD nm X) (ho.run W tk) (hi.run W tk) (get_A hr) (he.run W tk) (fun pins s σ H x y v u Q I rx ry q => hop pins s σ H x y v u Q I rx ry q) (set_D hr) ha).imp fun D σ H h => by
    obtain ⟨e, S, μ, E, s, p⟩ := h
    refine ⟨e, S, μ, E, s, (PostS.toS E p).mono fun ox S1 μ1 H1 x1 s1 p1 vo ro => ?_⟩
    refine ⟨e, S1, μ1, E.ext x1, s1, (PostS.toS (E.ext x1) p1).mono fun ix S2 μ2 H2 x2 s2 p2 vi ri => ?_⟩
    split at p2
    · rename_i z hz
      refine ⟨S2, μ2, ox, ix, z, s2, ro.ext x2, ri, hz, fun vz μ3 H3 x3 s3 rz => ?_⟩
      have E3 := ((E.ext x1).ext x2).ext x3
      have p3 : PostS nm X W μ3 H3 ((me e S2).toS e fun u S => (lift2 f S z u).toS e fun v S => match setS S ox ix v with
        | some S => .nx e S
        | none => .stuck) D := PostS.ext x3 p2
      refine ⟨e, S2, μ3, E3, s3, (PostS.toS E3 p3).mono fun u S4 μ4 H4 x4 s4 p4 vu ru => ?_⟩
      unfold lift2 at p4
      split at p4
      · rename_i v hv
        refine ⟨S4, μ4, z, u, v, s4, rz.ext x4, ru, hv, fun w μ5 H5 x5 s5 rw => ?_⟩
        have p5 : PostS nm X W μ5 H5 (match setS S4 ox ix v with
          | some S => .nx e S
          | none => .stuck) D := PostS.ext x5 p4
        split at p5
        · rename_i S6 hS
          exact ⟨S4, μ5, ox, ix, v, S6, s5, (((ro.ext x2).ext x3).ext x4).ext x5, ((ri.ext x3).ext x4).ext x5, rw, hS, fun H6 x6 s6 => p5 σ μ5 H6 x6 s6 (((E3.ext x4).ext x5).ext x6)⟩
        · exact False.elim p5
      · exact False.elim p4
    · exact False.elim p2⟩
def idxI : List Int → Int → Option Nat
  | [], _ => none
  | a :: r, k => if a = k then some 0 else (idxI r k).map (· + 1)
theorem idxI_at : ∀ {ns : List Int} {k : Int} {j : Nat}, idxI ns k = some j → ns[j]? = some k ∧ ∀ m, m < j → ∃ a, ns[m]? = some a ∧ a ≠ k
  | a :: r, k, j, h => by
    unfold idxI at h
    split at h
    · rename_i e; cases h; exact ⟨by rw [e]; rfl, fun m hm => absurd hm (Nat.not_lt_zero _)⟩
    · rename_i e
      obtain ⟨i, hi, rfl⟩ := Option.map_eq_some_iff.mp h
      obtain ⟨h1, h2⟩ := idxI_at hi
      refine ⟨by simpa using h1, fun m hm => ?_⟩
      cases m with
      | zero => exact ⟨a, rfl, e⟩
      | succ m => obtain ⟨b, q1, q2⟩ := h2 m (by omega); exact ⟨b, by simpa using q1, q2⟩
def fnIndex : FM := fun ds S => match ds with
  | [x, .int k] => match lstOf S x with
    | some es => match BS.intsOf es with
      | some ns => match idxI ns k with
        | some j => .ok (.int j) S
        | none => .stuck
      | none => .stuck
    | none => .stuck
  | _ => .stuck
theorem t_index : MtD nm X "list.index" fnIndex := by
  intro pins s σ H x xs v us Q I rx r h
  obtain ⟨ds, S, μ, E, rv, sm, p⟩ := h
  unfold fnIndex at p
  split at p
  · rename_i d k
    obtain ⟨r1, rt⟩ := rvs_cons rv
    obtain ⟨w, rfl, r2⟩ := one_rv rt
    cases r2
    split at p
    · rename_i es hes
      split at p
      · rename_i ns hns
        split at p
        · rename_i j hj
          obtain ⟨a, ys, rfl, hs, rs⟩ := lstOf_sq sm r1 hes
          have e := intsOf_rv rs hns
          subst e
          obtain ⟨h1, h2⟩ := idxI_at hj
          refine mt_index pins s σ H _ _ v us Q I rx r ⟨a, _, _, j, .int k, rfl, rfl, hs, rfl, ?_, by rw [List.getElem?_map, h1]; rfl, by simp [eqV], fun m z' hm hz => ?_, p μ H .refl sm _ (.int _)⟩
          · exact List.all_eq_true.mpr fun y hy => by obtain ⟨n, _, rfl⟩ := List.mem_map.mp hy; rfl
          · obtain ⟨b, q1, q2⟩ := h2 m hm
            rw [List.getElem?_map, q1] at hz
            cases hz
            simp [eqV, q2]
        · exact False.elim p
      · exact False.elim p
    · exact False.elim p
  · exact False.elim p
def maxI : List Int → Int
  | [] => 0
  | [a] => a
  | a :: b :: r => if a < maxI (b :: r) then maxI (b :: r) else a
def minI : List Int → Int
  | [] => 0
  | [a] => a
  | a :: b :: r => if minI (b :: r) < a then minI (b :: r) else a
theorem maxI_ok : ∀ {ns : List Int}, 0 < ns.length → maxI ns ∈ ns ∧ ∀ y ∈ ns, y ≤ maxI ns
  | [a], _ => ⟨by simp [maxI], fun y h => by simp at h; subst h; exact Int.le_refl _⟩
  | a :: b :: r, _ => by
    obtain ⟨h1, h2⟩ := maxI_ok (ns := b :: r) (by simp)
    unfold maxI
    split
    · exact ⟨List.mem_cons_of_mem _ h1, fun y hy => (List.mem_cons.mp hy).elim (fun e => by subst e; omega) (fun hy => h2 y hy)⟩
    · exact ⟨List.mem_cons_self, fun y hy => (List.mem_cons.mp hy).elim (fun e => by subst e; omega) (fun hy => by have := h2 y hy; omega)⟩
theorem minI_ok : ∀ {ns : List Int}, 0 < ns.length → minI ns ∈ ns ∧ ∀ y ∈ ns, minI ns ≤ y
  | [a], _ => ⟨by simp [minI], fun y h => by simp at h; subst h; exact Int.le_refl _⟩
  | a :: b :: r, _ => by
    obtain ⟨h1, h2⟩ := minI_ok (ns := b :: r) (by simp)
    unfold minI
    split
    · exact ⟨List.mem_cons_of_mem _ h1, fun y hy => (List.mem_cons.mp hy).elim (fun e => by subst e; omega) (fun hy => h2 y hy)⟩
    · exact ⟨List.mem_cons_self, fun y hy => (List.mem_cons.mp hy).elim (fun e => by subst e; omega) (fun hy => by have := h2 y hy; omega)⟩
def fnMM (g : List Int → Int) : FM := fun ds S => match ds with
  | [x] => match lstOf S x with
    | some es => match BS.intsOf es with
      | some ns => if 0 < ns.length then .ok (.int (g ns)) S else .stuck
      | none => .stuck
    | none => .stuck
  | _ => .stuck
abbrev fnMax1 : FM := fnMM maxI
abbrev fnMin1 : FM := fnMM minI
theorem c_max1 (hc : X.calm = true) : CallD nm X (.builtin "max") fnMax1 := by
  intro pins s σ H vs us Q I r h
  obtain ⟨ds, S, μ, E, rv, sm, p⟩ := h
  unfold fnMax1 fnMM at p
  split at p
  · rename_i d
    obtain ⟨w, rfl, r1⟩ := one_rv rv
    split at p
    · rename_i es hes
      split at p
      · rename_i ns hns
        split at p
        · rename_i hl
          obtain ⟨a, ys, rfl, hs, rs⟩ := lstOf_sq sm r1 hes
          have e := intsOf_rv rs hns
          subst e
          obtain ⟨h1, h2⟩ := maxI_ok hl
          refine cr_max hc pins s σ H _ us Q I r ⟨a, ns, rfl, hs, hl, fun m hm hy => ?_⟩
          have : m = maxI ns := Int.le_antisymm (h2 m hm) (hy _ h1)
          subst this
          exact p μ H .refl sm _ (.int _)
        · exact False.elim p
      · exact False.elim p
    · exact False.elim p
  · exact False.elim p
theorem c_min1 (hc : X.calm = true) : CallD nm X (.builtin "min") fnMin1 := by
  intro pins s σ H vs us Q I r h
  obtain ⟨ds, S, μ, E, rv, sm, p⟩ := h
  unfold fnMin1 fnMM at p
  split at p
  · rename_i d
    obtain ⟨w, rfl, r1⟩ := one_rv rv
    split at p
    · rename_i es hes
      split at p
      · rename_i ns hns
        split at p
        · rename_i hl
          obtain ⟨a, ys, rfl, hs, rs⟩ := lstOf_sq sm r1 hes
          have e := intsOf_rv rs hns
          subst e
          obtain ⟨h1, h2⟩ := minI_ok hl
          refine cr_min hc pins s σ H _ us Q I r ⟨a, ns, rfl, hs, hl, fun m hm hy => ?_⟩
          have : m = minI ns := Int.le_antisymm (hy _ h1) (h2 m hm)
          subst this
          exact p μ H .refl sm _ (.int _)
        · exact False.elim p
      · exact False.elim p
    · exact False.elim p
  · exact False.elim p
end
end BS
namespace BS
open PySem PySem.Spec PyProof.Rows L2
section
variable {M : Model} {A : Around} {E : Value → Shared → Prop} {s : Shared} {env : Env}
def compPostX (M : Model) (A : Around) (E : Value → Shared → Prop) (use : Option (Value → Sem Unit)) (Q : Value → Shared → Prop) (acc : Value) (C : Addr) (fr : Option Addr) (r : Result) (s' : Shared) : Prop :=
  match r, use with
  | .ok _, none => ∃ m, s'.heap.Ns C m ∧ ∀ h', Heap.SameBut C s'.heap h' → Q acc { s' with heap := h' }
  | .ok _, some u => wpAny M A (u acc) (fun _ s'' => ∃ m, s''.heap.Ns C m ∧ ∀ h', Heap.SameBut C s''.heap h' → Q .none { s'' with heap := h' }) E s'
  | .error x, _ => ∃ m, s'.heap.Ns C m ∧ ∀ h', Heap.SameBut C s'.heap h' → ∀ cenv : Env, cenv.locals = C → cenv.frame = fr → wpAny M A (passOn "comprehension.variables-let-go" x cenv : Sem Value) (fun _ _ => False) E { s' with heap := h' }
theorem compX {e : Expr} {scope : Scope} {pos : Pos} {newAcc first : Sem Value} {g : Comprehension} {gs : List Comprehension} {cl : List (Str × Addr)} {use : Option (Value → Sem Unit)}
    {Q : Value → Shared → Prop}
    (hcl : clausesOf e = g :: gs) (hs : ∀ x, foldedSetIterable g.iter env x = pure x) (hclos : closureFor scope env = pure cl)
    (hkind : scope.kind = .function) (hnames : ∀ x ∈ scope.names, x.2 = .local → scope.names.lookup x.1 = some .local)
    (h : wpAny M A first (fun x s₁ => wpAny M A (pyIter x) (fun it s₂ => wpAny M A newAcc (fun acc s₃ =>
      wpAny M A (newFunctionEnv scope env.globals cl [] env.qual none .none (some env)) (fun cenv s₄ => cenv.frame = env.frame ∧
        codeAny M A (.compStart e 0 it acc { cenv with scope := relabel scope env }) (compPostX M A E use Q acc cenv.locals env.frame) s₄) E s₃) E s₂) E s₁) E s) :
    wpAny M A (comprehension e scope env pos newAcc false first use) Q E s := by
  unfold comprehension
  rw [hclos, hcl]
  refine wpAny_bind (wpAny_mono h (fun x s₁ h₁ => wpAny_bind (wpAny_standAt (wpAny_bind (wpAny_of_eq (hs x) (wpAny_bind (wpAny_holding (wpAny_mono h₁ (fun it s₂ h₂ =>
    wpAny_standIf (wpAny_bind (wpAny_mono h₂ (fun acc s₃ h₃ => wpAny_bind (wpAny_pure (wpAny_bind (wpAny_mono h₃ (fun cenv s₄ h₄ => ?_) fun _ _ h' => h')))) fun _ _ h' => h')))
      fun _ _ h' => h'))))))) fun _ _ h' => h')
  obtain ⟨hfr, h₄⟩ := h₄
  dsimp only
  have hv : ∀ x ∈ (scope.names.filter fun x => (x.2 == .local || x.2 == .cell) && x.1 != (".0" : Str)).reverse, x.2 = .local →
      Env.kindOf { cenv with scope := relabel scope env } x.1 = some .local := fun x hx hl => lookup_relabel_local (hnames x (List.mem_filter.mp (List.mem_reverse.mp hx)).1 hl)
  have hv' : ∀ x ∈ (scope.names.filter fun x => (x.2 == .local || x.2 == .cell) && x.1 != (".0" : Str)).reverse.drop 1 ++ (scope.names.filter fun x => (x.2 == .local || x.2 == .cell) && x.1 != (".0" : Str)).reverse.take 1,
      x.2 = .local → Env.kindOf { cenv with scope := relabel scope env } x.1 = some .local := fun x hx hl => by
    rcases List.mem_append.mp hx with h1 | h1
    · exact hv x (List.mem_of_mem_drop h1) hl
    · exact hv x (List.mem_of_mem_take h1) hl
  refine wpAny_holding (wpAny_bind (wpAny_attempt (wpAny_holding (wpAny_run (codeAny_mono h₄ fun r s' hr => ?_)))))
  cases r with
  | ok f =>
    cases use with
    | none =>
      obtain ⟨m, hn, hr⟩ := hr
      exact wpAny_bind (wpAny_holding (wpAny_comp_letGo (cenv := { cenv with scope := relabel scope env }) hkind _ s' m hv hn fun h' m' _ hs' => wpAny_pure (hr h' hs')))
    | some u =>
      refine wpAny_bind (wpAny_rule (wpAny_bind (wpAny_holding (wpAny_mono hr (fun _ s'' hr' => ?_) fun _ _ h' => h'))))
      obtain ⟨m, hn, hr'⟩ := hr'
      exact wpAny_bind (wpAny_comp_letGo (cenv := { cenv with scope := relabel scope env }) hkind _ s'' m hv' hn fun h' m' _ hs' => wpAny_pure (hr' h' hs'))
  | error x =>
    have hr' : ∃ m, s'.heap.Ns cenv.locals m ∧ ∀ h', Heap.SameBut cenv.locals s'.heap h' → ∀ cenv' : Env, cenv'.locals = cenv.locals → cenv'.frame = env.frame → wpAny M A (passOn "comprehension.variables-let-go" x cenv' : Sem Value) (fun _ _ => False) E { s' with heap := h' } := by cases use <;> exact hr
    obtain ⟨m, hn, hr⟩ := hr'
    exact wpAny_bind (wpAny_holding (wpAny_comp_letGo (cenv := { cenv with scope := relabel scope env }) hkind _ s' m hv hn fun h' m' _ hs' => wpAny_mono (hr h' hs' _ rfl hfr) (fun _ _ f => f.elim) fun _ _ y => y))
theorem noteFrame_same {e : Value} {env env' : Env} (h : env.frame = env'.frame) : noteFrame e env = noteFrame e env' := by
  unfold noteFrame PySem.frameOf
  rw [h]
end
section
open PySem.HandSPX
variable {M : Model} {A : Around} {E : Value → Shared → Prop} {s : Shared} {Z : Obj → Prop} {base : Heap} {env : Env} {outer l : List Env} {L e : Addr}
theorem looks_anyZ {fl : Value} {Q : Unit → Shared → Prop} (hZ : Steady Z) (hfr : A.frames = some (env :: outer)) (hf : env.frame = some L) (hne : (fl == rawInt L) = false)
    (hkb : base.StaysIn s.heap) (hen : base.get? e = none) (hl : s.heap.FunFrames base (env :: outer)) (ht : TracedZ s.heap base e Z fl)
    (hQ : ∀ h', HeldZ base (env :: outer) e Z L h' → s.heap.UpToSlots h' → Q () { s with heap := h' }) : wpAny M A (noteFrame (.ref e) env) Q E s := by
  obtain ⟨oe, vs, T, oT, ts, he, hz, hd, h1, hnT, hTe, hT, hdT, h3⟩ := ht
  unfold noteFrame
  simp only [hf]
  refine wpAny_bind (wpAny_field he hd h1 ?_)
  rw [if_pos (show (Value.ref T != Value.none) = true from by simp)]
  refine wpAny_bind (wpAny_field hT hdT h3 ?_)
  rw [if_neg (show ¬ ((fl == rawInt L) = true) from by rw [hne]; decide)]
  refine wpAny_bind (wpAny_setField hT hdT (Array.getElem?_eq_some_iff.mp h3).1 ?_)
  have other : ∀ b, b ≠ T → (s.heap.update T (Obj.mapFields (·.setIfInBounds 3 Value.none))).get? b = s.heap.get? b := fun b hb => Heap.get?_update_other _ _ (Ne.symm hb)
  have noRecord : ∀ b o, s.heap.get? b = some o → (∀ vs, o.data ≠ .fields vs) → b ≠ T := fun b o hb hnf q => by
    rw [q, hT] at hb; injection hb with hb; subst hb; exact hnf ts hdT
  refine wpAny_entryZ hZ hfr (hl.of_keeps fun b o hb hnf => ⟨o, (other b (noRecord b o hb hnf)).trans hb, rfl⟩) hf ((other e (Ne.symm hTe)).trans he)
    (fun b o hbo => (other b fun q => by rw [q, hnT] at hbo; cases hbo).trans (hkb b o hbo)) hen hd (Array.getElem?_eq_some_iff.mp h1).1 hz fun h' hN => ?_
  obtain ⟨x1, x2, x3, x4⟩ := hN
  exact hQ h' ⟨x1, hen, x2, x3⟩ fun b o hb hnf => x4 b o ((other b (noRecord b o hb hnf)).trans hb) hnf
theorem funFrames_hide {h h' : Heap} {C : Addr} (hC : ∃ o, base.get? C = some o) (hs : Heap.SameBut C h h') : ∀ {l : List Env}, h.FunFrames base l → h'.FunFrames (PySem.W.hideAll base [C]) l
  | [], _ => trivial
  | env :: l, hl => by
    obtain ⟨hk, ⟨L, o, hf, hb, ho, hd⟩, hr⟩ := hl
    have hne : L ≠ C := fun q => by obtain ⟨o', e⟩ := hC; rw [q, e] at hb; cases hb
    refine ⟨hk, ⟨L, o, hf, ?_, (hs.2 L hne).trans ho, hd⟩, funFrames_hide hC hs hr⟩
    cases q : (PySem.W.hideAll base [C]).get? L with
    | none => rfl
    | some o' =>
      have z := PySem.W.of_hideAll _ q
      rw [hb] at z; cases z
theorem hide_none {C x : Addr} (h : base.get? x = none) : (PySem.W.hideAll base [C]).get? x = none := by
  cases q : (PySem.W.hideAll base [C]).get? x with
  | none => rfl
  | some o' =>
    have z := PySem.W.of_hideAll _ q
    rw [h] at z; cases z
theorem heldZ_hide {h h' : Heap} {C : Addr} (hC : ∃ o, base.get? C = some o) (hs : Heap.SameBut C h h') (x : HeldZ base l e Z L h) : HeldZ (PySem.W.hideAll base [C]) l e Z L h' := by
  obtain ⟨f1, f2, f3, oe, vs, T, oT, ts, he, hz, hd, h1, hnT, hTe, hT, hdT, h3⟩ := x
  obtain ⟨o, eC⟩ := hC
  have heC : e ≠ C := fun q => by rw [q, eC] at f2; cases f2
  have hTC : T ≠ C := fun q => by rw [q, eC] at hnT; cases hnT
  refine ⟨fun b ob hb => ?_, hide_none f2, funFrames_hide ⟨o, eC⟩ hs f3, oe, vs, T, oT, ts, (hs.2 e heC).trans he, hz, hd, h1, hide_none hnT, hTe, (hs.2 T hTC).trans hT, hdT, h3⟩
  have hb1 := PySem.W.of_hideAll _ hb
  have hbC : b ≠ C := fun q => by
    rw [q, PySem.W.hideAll_none [C] (by simp)] at hb; cases hb
  exact (hs.2 b hbC).trans (f1 b ob hb1)
end
abbrev _root_.L2.Cx.blkX (X : Cx) (s : Shared) (H : Hp) (scope : Scope) (cenv : Env) (fp : List Addr) (xe : Value → Shared → Prop) : Cx := { X.blk s H scope cenv fp with xe := xe }
/-- the frame is the def's own -/
structure OwnFrame (X : Cx) : Prop where
  stk : X.stack = X.env :: X.outer
  frm : X.env.frame = some X.env.locals
section
variable {X : Cx}
def tLcX (wi : TI) (g : TG) (tt : St → TT) (te : St → TE) (vs : List Nat) : TE := fun σ H Q => tLc wi g (tt σ) (te σ) vs σ H Q
theorem blk_takes {pins : List (Addr × Obj)} {σ : St} {H3 : Hp} {s3 : Shared} {scope : Scope} {ce : Env} {fp : List Addr} {W : WX} {Qf : Value → Shared → Prop} {use : Option (Value → Sem Unit)} {acc : Value} {xe : Value → Shared → Prop}
    (of : OwnFrame X) (tk : Takes X W) (I3 : Inv X pins σ H3 s3) (f3 : ∀ b ∈ fp, FpOk X pins H3 b ∧ b < s3.heap.objs.size) (cL : ce.locals = s3.heap.objs.size) (cF : ce.frame = X.env.frame)
    (hxe : xe = notedBy (model X.prog X.w) X.A ce fun e s' => compPostX (model X.prog X.w) X.A X.xe use Qf acc s3.heap.objs.size X.env.frame (.error e) s') :
    Takes (X.blkX s3 H3 scope ce fp xe) (fun c d _ H => W c d σ H) := by
  rintro u s' ⟨a, B, sI, pins', σ', H', cls, d, rfl, I', nb, up, sky, na, os, ag, w⟩
  subst hxe
  show wpAny _ _ (noteFrame (.ref a) ce) _ _ s'
  rw [noteFrame_same cF]
  have hfr : X.A.frames = some (X.env :: X.outer) := by rw [I3.ok.frames, of.stk]
  have cLn : (X.env.locals : Addr) ≠ s3.heap.objs.size := Nat.ne_of_lt I3.lt
  -- the names of the block
  obtain ⟨m, hn, _⟩ := I'.loc
  have hn : sI.heap.Ns ce.locals m := hn
  rw [cL] at hn
  have hnf : s3.heap.objs.size ∉ frs X.stack := fun hm => by
    rcases List.mem_cons.mp (I3.stkSub _ hm) with z | z
    · exact cLn z.symm
    · exact I3.nofs (Nat.le_refl _) z
  obtain ⟨oC, eC⟩ : ∃ o, sI.heap.get? s3.heap.objs.size = some o := by
    obtain ⟨o, _, _, ho, _⟩ := hn
    exact ⟨o, ho⟩
  have bC : B.get? s3.heap.objs.size = some oC := nb _ _ eC hnf
  have nC : H' s3.heap.objs.size = none := by
    have z : H' ce.locals = none := I'.free
    rw [cL] at z
    exact z
  have I7 : Inv X pins σ H' sI := I3.call' (ch := fp) I'.os I'.base I'.hok I'.bare fun b hb => ⟨(f3 b hb).1.2.2.2.1, (f3 b hb).1.2.1, (f3 b hb).1.2.2.2.2.1, (f3 b hb).1.2.2.2.2.2⟩
  obtain ⟨f0, f1, f2, f4, f5, f6⟩ := I3.fpOk (Nat.le_refl _) nC
  have fin : ∀ h1, HandSPX.HeldZ B X.stack a (Zc cls d) X.env.locals h1 → s'.heap.UpToSlots h1 → compPostX (model X.prog X.w) X.A X.xe use Qf acc s3.heap.objs.size X.env.frame (.error (.ref a)) { s' with heap := h1 } := by
    intro h1 hh up1
    show ∃ m, h1.Ns s3.heap.objs.size m ∧ _
    refine ⟨m, (up.trans up1).ns hn, fun h2 sb cenv hc1 hc2 => ?_⟩
    have hh2 := heldZ_hide ⟨oC, bC⟩ sb hh
    have I8 : Inv X pins σ H' { sI with heap := PySem.W.hideAll sI.heap [s3.heap.objs.size], toks := sI.toks } :=
      I7.turned (t' := sI.toks) (fun b o hb e => PySem.W.hideAll_get _ e (by simpa using hb)) f0 f1 f4 f5 f6
    have nb2 : ∀ b o, (PySem.W.hideAll sI.heap [s3.heap.objs.size]).get? b = some o → b ∉ frs X.stack → (PySem.W.hideAll B [s3.heap.objs.size]).get? b = some o := fun b o e hb => by
      have e1 := PySem.W.of_hideAll _ e
      have hbC : b ≠ s3.heap.objs.size := fun q => by rw [q, PySem.W.hideAll_none [s3.heap.objs.size] (by simp)] at e; cases e
      exact PySem.W.hideAll_get _ (nb b o e1 hb) (by simpa using hbC)
    have up2 : (PySem.W.hideAll sI.heap [s3.heap.objs.size]).UpToSlots h2 := fun b o e hnf' => by
      have e1 := PySem.W.of_hideAll _ e
      have hbC : b ≠ s3.heap.objs.size := fun q => by rw [q, PySem.W.hideAll_none [s3.heap.objs.size] (by simp)] at e; cases e
      obtain ⟨sl, e2⟩ := (up.trans up1) b o e1 hnf'
      exact ⟨sl, (sb.2 b hbC).trans e2⟩
    have fin2 : wpAny (model X.prog X.w) X.A (setFlight (.ref a) cenv.frame) (fun _ s4 => wpAny (model X.prog X.w) X.A (throw (.ref a) : Sem Value) (fun _ _ => False) X.xe s4) X.xe { s' with heap := h2 } := by
      rw [hc2, of.frm]
      refine HandSPX.setFlight_onZ hh2 fun h4 hh4 up4 => wpAny_throw (tk _ _ ?_)
      exact ⟨a, _, _, pins, σ, H', cls, d, rfl, I8, nb2, up2.trans up4, .inr (.inr hh4), na, os, ag, w⟩
    obtain ⟨g1, g2, g3, oe, vs, T, oT, ts, he, hz, hd, h1', hnT, hTe, hT, hdT, h3⟩ := hh2
    unfold PySem.passOn
    refine wpAny_bind (wpAny_field (s := { s' with heap := h2 }) he hd h1' ?_)
    rw [if_neg (show ¬ ((Value.ref T == Value.none) = true) from by simp)]
    first
      | exact wpAny_bind (wpAny_pure (wpAny_bind fin2))
      | exact wpAny_bind fin2
  rw [of.stk] at sky fin
  have sky : Sky B (X.env :: X.outer) a (Zc cls d) s3.heap.objs.size s'.heap := by
    have z : Sky B (X.env :: X.outer) a (Zc cls d) ce.locals s'.heap := sky
    rwa [cL] at z
  rcases sky with ⟨hB, hnone, hl, oe, vs, he, hz, hd, h1⟩ | ⟨k1, k2, k3, k4⟩ | ⟨k1, k2, k3, k4⟩
  · exact HandSPX.look_newZ Zc.steady hfr hl of.frm he hB hnone hd h1 hz fin
  · exact looks_anyZ Zc.steady hfr of.frm (by simp [rawInt]) k1 k2 k3 k4 fin
  · refine looks_anyZ Zc.steady hfr of.frm ?_ k1 k2 k3 k4 fin
    have : s3.heap.objs.size ≠ X.env.locals := Ne.symm cLn
    simp only [rawInt]
    simp
    omega
theorem inv_blkX {pins : List (Addr × Obj)} {σ : St} {H H3 : Hp} {s s3 : Shared} {scope : Scope} {ce : Env} {fp : List Addr} (I : Inv (X.blk s3 H3 scope ce fp) pins σ H s) (xe : Value → Shared → Prop) : Inv (X.blkX s3 H3 scope ce fp xe) pins σ H s :=
  { I with ok := { I.ok with } }
theorem lc_coreX {W : WX} {pins : List (Addr × Obj)} {s : Shared} {σ : St} {H : Hp} {Q : VK} {elt tg iter : Expr} {ifs : List Expr} {scope : Scope} {own : List (Str × Nat)} {pos pos' : Pos} {wi : TI} {g : TG} {tt : TT} {te : TE} {use : Option (Value → Sem Unit)} {Qf : Value → Shared → Prop}
    (of : OwnFrame X) (tk : Takes X W) (hc : X.calm = true) (hN : X.N.Nodup) (I : Inv X pins σ H s) (hi : PI X tg iter wi) (ok : BlkOk X.N X.env.scope scope own)
    (hg : ∀ (s : Shared) (H : Hp) (C : Addr) (cl : List (Str × Addr)) (fp : List Addr) (xe : Value → Shared → Prop), PG (X.blkX s H scope (compEnvC scope cl C X.env) fp xe) tg g)
    (ht : ∀ (s : Shared) (H : Hp) (C : Addr) (cl : List (Str × Addr)) (fp : List Addr) (xe : Value → Shared → Prop), Takes (X.blkX s H scope (compEnvC scope cl C X.env) fp xe) (fun c d _ H => W c d σ H) → PTs (X.blkX s H scope (compEnvC scope cl C X.env) fp xe) ifs tt)
    (he : ∀ (s : Shared) (H : Hp) (C : Addr) (cl : List (Str × Addr)) (fp : List Addr) (xe : Value → Shared → Prop), Takes (X.blkX s H scope (compEnvC scope cl C X.env) fp xe) (fun c d _ H => W c d σ H) → PE (X.blkX s H scope (compEnvC scope cl C X.env) fp xe) elt te) (hs : ∀ x, foldedSetIterable iter X.env x = pure x)
    (h : tLc wi g tt te (own.map (·.2)) σ H Q)
    (hRR : ∀ D C s' m H', Inv X pins σ H' s' → Q (.ref D) H' → s'.heap.Ns C m → FpOk X pins H' C → compPostX (model X.prog X.w) X.A X.xe use Qf (.ref D) C X.env.frame (.ok .next) s') :
    wpAny (model X.prog X.w) X.A (comprehension (.ListComp elt [⟨tg, iter, ifs, 0⟩] scope pos) scope X.env pos' (newList []) false (eval iter X.env) use) Qf X.xe s := by
  have hfree : ∀ y ∈ scope.names, y.2 = .free → ∃ c, X.env.cells.lookup y.1 = some c := fun y hy e => by
    rcases ok.free y hy e with k | k
    · exact I.ok.has _ (.inl k)
    · exact I.ok.has _ (.inr k)
  refine compX (use := use) rfl hs (closure_ok hfree) ok.kind (fun y hy e => by rw [ok.uniq y hy, e])
    (thn (hi.run pins s σ H _ I h) fun xv s1 hx => thn hx fun itv s2 h2 => ?_)
  obtain ⟨it, fp, tn, J, H2, e, I2, T, st2, f2, q⟩ := h2
  subst e
  refine wpAny_newObj_type (newEnv_comp ⟨rfl, ?_⟩) (by show 0 ≤ sizeLine; decide)
  generalize hD : s2.heap.objs.size = D
  have hDn : H2 D = none := I2.hok.fresh (Nat.le_of_eq hD)
  obtain ⟨Wm, ⟨m0, w0⟩, turn⟩ := q D hDn
  -- the new list
  generalize hs3 : ({ s2 with heap := s2.heap.push { cls := .type "list", data := .seq ([] : List Value).toArray } } : Shared) = s3
  have I3 : Inv X pins σ (upd H2 D (.lst [])) s3 := by
    rw [← hs3]
    refine I2.laid (t' := s2.toks) (fun b o e => Heap.get?_push_of_some _ e) (Nat.le_of_eq hD) ⟨Nat.zero_le _, [], 0, .nil, ?_⟩
    rw [← hD]
    exact Heap.get?_push_size _ rfl
  have h3 : s3.heap = s2.heap.push { cls := .type "list", data := .seq ([] : List Value).toArray } := by rw [← hs3]
  have sz : ∀ b ∈ fp, b < s2.heap.objs.size := fun b hb => by
    obtain ⟨o, e, _⟩ := T.obj _ _ st2 b hb
    exact Heap.lt_size e
  have f3 : ∀ b ∈ fp, FpOk X pins (upd H2 D (.lst [])) b ∧ b < s3.heap.objs.size := fun b hb => by
    have hlt := sz b hb
    refine ⟨⟨?_, (f2 b hb).2⟩, by rw [h3, Heap.size_push]; exact Nat.lt_succ_of_lt hlt⟩
    rw [upd_ne (by rw [← hD]; exact Nat.ne_of_lt hlt)]
    exact (f2 b hb).1
  have st3 : tn 0 s3.heap := T.keep _ _ _ st2 fun b _ o e => by rw [h3]; exact Heap.get?_push_of_some _ e
  have I4 := block_start I3 ok hN f3
  have pg := hg s3 (upd H2 D (.lst [])) s3.heap.objs.size (cellsFrom (s3.heap.objs.size + 1) scope.names (cloFrom X.env.cells scope.names [])) fp
  have pt := ht s3 (upd H2 D (.lst [])) s3.heap.objs.size (cellsFrom (s3.heap.objs.size + 1) scope.names (cloFrom X.env.cells scope.names [])) fp
  have pe := he s3 (upd H2 D (.lst [])) s3.heap.objs.size (cellsFrom (s3.heap.objs.size + 1) scope.names (cloFrom X.env.cells scope.names [])) fp
  show codeAny _ _ (.compStart (.ListComp elt [⟨tg, iter, ifs, 0⟩] scope pos) 0 (.ref it) (.ref D) (compEnvC scope (cellsFrom (s3.heap.objs.size + 1) scope.names (cloFrom X.env.cells scope.names [])) s3.heap.objs.size X.env)) (compPostX (model X.prog X.w) X.A X.xe use Qf (.ref D) s3.heap.objs.size X.env.frame) { s3 with heap := pushCells (s3.heap.push { cls := .type "dict", data := .dict #[] }) scope.names }
  have nfp : ∀ b ∈ fp, (upd H2 D (.lst [])) b = none := fun b hb => (f3 b hb).1.1
  have cF : (compEnvC scope (cellsFrom (s3.heap.objs.size + 1) scope.names (cloFrom X.env.cells scope.names [])) s3.heap.objs.size X.env).frame = X.env.frame := rfl
  have cL : (compEnvC scope (cellsFrom (s3.heap.objs.size + 1) scope.names (cloFrom X.env.cells scope.names [])) s3.heap.objs.size X.env).locals = s3.heap.objs.size := rfl
  generalize hce : compEnvC scope (cellsFrom (s3.heap.objs.size + 1) scope.names (cloFrom X.env.cells scope.names [])) s3.heap.objs.size X.env = ce at I4 pg pt pe cF cL ⊢
  generalize hH3 : upd H2 D (.lst []) = H3 at I3 I4 pg pt pe w0 nfp f3
  obtain ⟨xe, hxe⟩ : ∃ xe, xe = notedBy (model X.prog X.w) X.A ce fun e s' => compPostX (model X.prog X.w) X.A X.xe use Qf (.ref D) s3.heap.objs.size X.env.frame (.error e) s' := ⟨_, rfl⟩
  have tkb : Takes (X.blkX s3 H3 scope ce fp xe) (fun c d _ H => W c d σ H) := blk_takes of tk I3 f3 cL cF hxe
  have pg := pg xe
  have pt := pt xe tkb
  have pe := pe xe tkb
  have I4 : Inv (X.blkX s3 H3 scope ce fp xe) [] (wipe σ (own.map (·.2))) H3 { s3 with heap := pushCells (s3.heap.push { cls := .type "dict", data := .dict #[] }) scope.names } := inv_blkX I4 xe
  generalize hs4 : ({ s3 with heap := pushCells (s3.heap.push { cls := .type "dict", data := .dict #[] }) scope.names } : Shared) = s4 at I4 ⊢
  have st4 : tn 0 s4.heap := T.keep _ _ _ st3 fun b _ o e => by rw [← hs4]; exact pushCells_keeps _ _ _ _ (Heap.get?_push_of_some _ e)
  have stat : ∀ {σ' : St} {H' : Hp} {s' : Shared}, Inv (X.blkX s3 H3 scope ce fp xe) [] σ' H' s' → (∀ b ∈ fp, H' b = none) → ∀ b ∈ fp, FpOk (X.blkX s3 H3 scope ce fp xe) [] H' b := fun {σ' H' s'} I' hn b hb =>
    ⟨hn b hb, (I'.ok.exf b hb).1, I'.ok.exfs b hb, .inl hb, fun x c e => (I'.ok.exf b hb).2 x c e, fun p hp => absurd (show p ∈ ([] : List (Addr × Obj)) ++ [] from hp) (by simp)⟩
  have loop : codeAny (model X.prog X.w) X.A (.compLoop (.ListComp elt [⟨tg, iter, ifs, 0⟩] scope pos) 0 (.ref it) (.ref D) ce) (compPostX (model X.prog X.w) X.A X.xe use Qf (.ref D) s3.heap.objs.size X.env.frame) s4 := by
    refine compLoop_any (fun n s' => ∃ i H', Inv (X.blkX s3 H3 scope ce fp xe) [] (wipe σ (own.map (·.2))) H' s' ∧ tn i s'.heap ∧ (∀ b ∈ fp, H' b = none) ∧ Wm i n H') ?_ m0 ⟨0, H3, I4, st4, nfp, w0⟩
    rintro n s5 ⟨i, H5, I5, st5, n5, w5⟩
    rw [← hxe]
    rcases turn i n H5 w5 with ⟨stop, qq⟩ | ⟨go, Nx, hNx, step⟩
    · have td := T.done (X.blkX s3 H3 scope ce fp xe) rfl rfl rfl hc i [] s5 _ H5 (fun _ _ => False) I5 (stat I5 n5) st5 stop
      refine thnF td fun r s6 ⟨hr, I6⟩ => ?_
      subst hr
      have I7 : Inv X pins σ H5 s6 := I3.call' (ch := fp) I6.os I6.base I6.hok I6.bare fun b hb => ⟨(f3 b hb).1.2.2.2.1, (f3 b hb).1.2.1, (f3 b hb).1.2.2.2.2.1, (f3 b hb).1.2.2.2.2.2⟩
      have nC : H5 s3.heap.objs.size = none := by
        have z : H5 ce.locals = none := I6.free
        rw [cL] at z
        exact z
      obtain ⟨m, hn, _⟩ := I6.loc
      have hn : s6.heap.Ns ce.locals m := hn
      rw [cL] at hn
      exact hRR D s3.heap.objs.size s6 m H5 I7 qq hn (I3.fpOk (Nat.le_refl _) nC)
    · have ti := T.item (X.blkX s3 H3 scope ce fp xe) rfl rfl rfl hc i [] s5 _ H5 (fun _ _ => False) I5 (stat I5 n5) st5 go
      refine thnF ti fun r s6 ⟨u, hr, h6⟩ => ?_
      subst hr
      refine thnF h6 fun _ s7 ⟨x, H7, I7, r7, y7, st7, n7⟩ => ?_
      have I7' := I7.pinned (stat I7 n7) (T.obj _ _ st7)
      refine thn (pg.run _ s7 _ H7 x u _ I7' r7 (step x H7 y7)) fun _ s8 ⟨σ8, H8, I8, hw8, q8⟩ => ?_
      refine thn (pt.run _ s8 σ8 H8 _ I8 q8) fun b s9 ⟨H9, I9, q9⟩ => ?_
      have fin : ∀ {s' : Shared} {H' : Hp}, Inv (X.blkX s3 H3 scope ce fp xe) ([] ++ pinsAt fp s7.heap) σ8 H' s' → Nx H' → ∃ m, m < n ∧ ∃ i H', Inv (X.blkX s3 H3 scope ce fp xe) [] (wipe σ (own.map (·.2))) H' s' ∧ tn i s'.heap ∧ (∀ b ∈ fp, H' b = none) ∧ Wm i m H' := fun {s' H'} I' nx => by
        obtain ⟨m', hm, w'⟩ := hNx H' nx
        have pin' : ∀ b ∈ fp, ∀ o, s7.heap.get? b = some o → s'.heap.get? b = some o ∧ H' b = none := fun b hb o e =>
          let z := I'.pin (b, o) (List.mem_append_right _ (List.mem_append_right _ (mem_pinsAt hb e)))
          ⟨z.1, z.2.1⟩
        have hl : (wipe σ (own.map (·.2))).length = σ8.length := by rw [← hw8, wipe_length]
        refine ⟨m', hm, i + 1, H', (I'.unpinned (pins := [])).weak hl (fun j v e => ?_), T.keep _ _ _ st7 fun b hb o e => (pin' b hb o e).1, fun b hb => ?_, w'⟩
        · rw [← hw8] at e
          exact (wipe_some e).1
        · obtain ⟨o, e, _⟩ := T.obj _ _ st7 b hb
          exact (pin' b hb o e).2
      cases b with
      | false =>
        simp only [Bool.false_eq_true, if_false] at q9 ⊢
        exact fin I9 q9
      | true =>
        simp only [if_true] at q9 ⊢
        refine thn (pe.run _ s9 σ8 H9 _ I9 q9) fun z s10 ⟨yv, H10, I10, r10, acc, hD10, hz10, nx⟩ => ?_
        exact app_ok (X := X.blkX s3 H3 scope ce fp xe) I10 hD10 hz10 r10 fun s11 I11 => fin I11 nx
  exact codeAny_compStart_list loop (T.self X.A 0 _ _ _ st4 loop)
theorem pe_lcX {W : WX} {elt tg iter : Expr} {ifs : List Expr} {scope : Scope} {own : List (Str × Nat)} {pos : Pos} {wi : TI} {g : TG} {tt : St → TT} {te : St → TE} (of : OwnFrame X) (tk : Takes X W) (hc : X.calm = true) (hN : X.N.Nodup) (hi : PI X tg iter wi) (ok : BlkOk X.N X.env.scope scope own)
    (hg : ∀ (s : Shared) (H : Hp) (C : Addr) (cl : List (Str × Addr)) (fp : List Addr) (xe : Value → Shared → Prop), PG (X.blkX s H scope (compEnvC scope cl C X.env) fp xe) tg g)
    (ht : ∀ (σ : St) (s : Shared) (H : Hp) (C : Addr) (cl : List (Str × Addr)) (fp : List Addr) (xe : Value → Shared → Prop), Takes (X.blkX s H scope (compEnvC scope cl C X.env) fp xe) (fun c d _ H => W c d σ H) → PTs (X.blkX s H scope (compEnvC scope cl C X.env) fp xe) ifs (tt σ))
    (he : ∀ (σ : St) (s : Shared) (H : Hp) (C : Addr) (cl : List (Str × Addr)) (fp : List Addr) (xe : Value → Shared → Prop), Takes (X.blkX s H scope (compEnvC scope cl C X.env) fp xe) (fun c d _ H => W c d σ H) → PE (X.blkX s H scope (compEnvC scope cl C X.env) fp xe) elt (te σ)) (hs : ∀ x, foldedSetIterable iter X.env x = pure x := by intro _; rfl) :
    PE X (.ListComp elt [⟨tg, iter, ifs, 0⟩] scope pos) (tLcX wi g tt te (own.map (·.2))) := by
  refine ⟨fun pins s σ H Q I h => ?_⟩
  rw [eval_ListComp]
  refine lc_coreX of tk hc hN I hi ok hg (ht σ) (he σ) hs h fun D C s' m H' I' q hn f => ⟨m, hn, fun h'' sb => ?_⟩
  obtain ⟨f0, f1, f2, f3, f4, f5⟩ := f
  exact ⟨.ref D, H', I'.turned (t' := s'.toks) (fun b o hb e => (sb.2 b hb).trans e) f0 f1 f3 f4 f5, rfl, q⟩
theorem ps_setLcX {W : WX} {i : Nat} {y : Str} {py : Pos} {elt tg iter : Expr} {ifs : List Expr} {scope : Scope} {own : List (Str × Nat)} {pos spos : Pos} {wi : TI} {g : TG} {tt : St → TT} {te : St → TE} (of : OwnFrame X) (tk : Takes X W) (hc : X.calm = true) (hN : X.N.Nodup) (hy : X.N[i]? = some y) (hyl : X.env.scope.names.lookup y = some .local)
    (hsw : swapsWith (.ListComp elt [⟨tg, iter, ifs, 0⟩] scope pos) (some (.Name y py)) spos.line X.env = pure true) (hi : PI X tg iter wi) (ok : BlkOk X.N X.env.scope scope own)
    (hg : ∀ (s : Shared) (H : Hp) (C : Addr) (cl : List (Str × Addr)) (fp : List Addr) (xe : Value → Shared → Prop), PG (X.blkX s H scope (compEnvC scope cl C X.env) fp xe) tg g)
    (ht : ∀ (σ : St) (s : Shared) (H : Hp) (C : Addr) (cl : List (Str × Addr)) (fp : List Addr) (xe : Value → Shared → Prop), Takes (X.blkX s H scope (compEnvC scope cl C X.env) fp xe) (fun c d _ H => W c d σ H) → PTs (X.blkX s H scope (compEnvC scope cl C X.env) fp xe) ifs (tt σ))
    (he : ∀ (σ : St) (s : Shared) (H : Hp) (C : Addr) (cl : List (Str × Addr)) (fp : List Addr) (xe : Value → Shared → Prop), Takes (X.blkX s H scope (compEnvC scope cl C X.env) fp xe) (fun c d _ H => W c d σ H) → PE (X.blkX s H scope (compEnvC scope cl C X.env) fp xe) elt (te σ)) (hs : ∀ x, foldedSetIterable iter X.env x = pure x := by intro _; rfl) :
    PS X (.Assign [.Name y py] (.ListComp elt [⟨tg, iter, ifs, 0⟩] scope pos) spos) (tAsg (tLcX wi g tt te (own.map (·.2))) (gName i)) := by
  refine ⟨fun pins s σ H D I h => ?_⟩
  rw [exec_Assign_Name_used _ _ _ _ hsw]
  refine wpAny_bind (wpAny_standAt (wpAny_bind ?_))
  show wpAny _ X.A (do let _ ← comprehension (.ListComp elt [⟨tg, iter, ifs, 0⟩] scope pos) scope X.env (firstIterPos [⟨tg, iter, ifs, 0⟩] pos) (newList []) false (eval iter X.env) (some (assign (.Name y py) X.env))) _ _ s
  have h : tLc wi g (tt σ) (te σ) (own.map (·.2)) σ H (fun x H1 => gName i x σ H1 D.nx) := h
  refine wpAny_bind (thn (lc_coreX (Qf := fun _ s' => SP X pins D .next s') of tk hc hN I hi ok hg (ht σ) (he σ) hs h fun L C s' m H' I' q hn f => ?_) fun _ s' hq => wpAny_pure (wpAny_pure hq))
  show wpAny _ _ (assign (.Name y py) X.env (.ref L)) _ _ _
  refine wpAny_assign_Name (store_ok2 (v := V.ref L) I' hN hy (.inl hyl) rfl (fun s2 I2 ⟨a, sb, ha⟩ => ?_) (.inr hyl))
  obtain ⟨f0, f1, f2, f3, f4, f5⟩ := f
  have haC : C ≠ a := by
    rcases ha with z | z
    · rw [z]; exact f1
    · exact fun e => f4 y a z e.symm
  refine ⟨m, hn.sameBut sb haC, fun h3 sb3 => ?_⟩
  exact ⟨_, H', I2.turned (t' := s2.toks) (fun b o hb e => (sb3.2 b hb).trans e) f0 f1 f3 f4 f5, q⟩
end
open Classical in
noncomputable def lcLX (n : Nat) (G : Store → Prop) (t : LT) (e0 : Ev) (tt : TM) (el : EM) : List D → Store → R Unit
  | [], S => if G S then .ok () S else .stuck
  | d :: ds, S => if G S then match t.items d with
    | some xs => (tt ⟨setAll e0.sl t.ix xs, []⟩ S).bind fun b S2 => if b = true then (el ⟨setAll e0.sl t.ix xs, []⟩ S2).bind fun y S3 => match S3[n]? with
        | some (.lst acc) => if acc.length < sizeLine then lcLX n G t e0 tt el ds (S3.set n (.lst (acc ++ [y]))) else .stuck
        | _ => .stuck
      else lcLX n G t e0 tt el ds S2
    | none => .stuck
    else .stuck
noncomputable def mLcX (vs : List Nat) (t : LT) (it : IM) (tt : TM) (el : EM) : EM := fun e S => (it e S).bind fun w S1 => (lcLX S1.length w.G t (e.wip vs) tt el w.ds (S1 ++ [.lst []])).bind fun _ S2 => .ok (.obj S1.length) S2
section
variable {nm : Nms} {X : Cx}
theorem lc_rdX {W : WX} {tg iter : Expr} {scope : Scope} {it : IM} {tt : TM} {el : EM} {vs : List Nat} (t : LT) (hsub : ∀ i ∈ t.ix, i ∈ vs) {σ : St} {H : Hp} {Q : VK} (hh : rdE nm X W (mLcX vs t it tt el) σ H Q) :
    tLc (fun σ H R => ∃ e S μ, EvR nm X H μ e σ ∧ Sim nm X.K X.mg μ S H ∧ PostX nm X W μ H σ (it e S) fun w S' μ' H' => ∀ J C, Stable C → C H' μ' → WOk nm X J w C → R J H') (t.tg X.K)
      (rdT nm (blk0 X scope) (fun c d _ H => W c d σ H) tt) (rdE nm (blk0 X scope) (fun c d _ H => W c d σ H) el) vs σ H Q := by
  obtain ⟨e, S, μ, E, s, p⟩ := hh
  refine ⟨e, S, μ, E, s, (Post.bind p).mono fun w S1 μ1 H1 x1 s1 p1 J C st c0 ok' => ?_⟩
  intro D nD
  refine ⟨fun i m H' => m = w.ds.length - i ∧ i ≤ w.ds.length ∧ ∃ S μ', EvR nm X H' μ' e σ ∧ Sim nm X.K X.mg μ' S H' ∧ C H' μ' ∧ μ'[S1.length]? = some D ∧ PostX nm X W μ' H' σ ((lcLX S1.length w.G t (e.wip vs) tt el (w.ds.drop i) S).bind fun _ S2 => .ok (.obj S1.length) S2) (fun d _ μ' H' => ∀ v, RV X.K H' μ' v d → Q v H'),
    ⟨w.ds.length, rfl, Nat.zero_le _, S1 ++ [.lst []], μ1 ++ [D], (E.ext x1).ext (Ext.made s1 nD), s1.made (o := .lst []) nD ⟨[], upd_same, .nil⟩, st _ _ _ _ (Ext.made s1 nD) c0, new_at s1, by rw [List.drop_zero]; exact Post.ext (Ext.made s1 nD) p1⟩, ?_⟩
  rintro i m H' ⟨rfl, hi, S, μ', E', s', c', eD, p'⟩
  by_cases hlt : i < w.ds.length
  · obtain ⟨d, hd⟩ : ∃ d, w.ds[i]? = some d := ⟨_, List.getElem?_eq_getElem hlt⟩
    have hdr : w.ds.drop i = d :: w.ds.drop (i + 1) := by
      rw [List.drop_eq_getElem_cons hlt]
      rw [List.getElem?_eq_getElem hlt] at hd
      cases hd; rfl
    rw [hdr] at p'
    unfold lcLX at p'
    split at p'
    · rename_i hG
      obtain ⟨go, yl⟩ := (ok' i S μ' H' s' c' hG).1 d hd
      refine .inr ⟨go, fun H2 => ∃ m', m' < w.ds.length - i ∧ m' = w.ds.length - (i + 1) ∧ i + 1 ≤ w.ds.length ∧ ∃ S μ', EvR nm X H2 μ' e σ ∧ Sim nm X.K X.mg μ' S H2 ∧ C H2 μ' ∧ μ'[S1.length]? = some D ∧ PostX nm X W μ' H2 σ ((lcLX S1.length w.G t (e.wip vs) tt el (w.ds.drop (i + 1)) S).bind fun _ S2 => .ok (.obj S1.length) S2) (fun d _ μ' H' => ∀ v, RV X.K H' μ' v d → Q v H'), fun H2 h => h, fun x H2 y => ?_⟩
      obtain ⟨x2, s2, r2⟩ := yl x H2 y
      split at p'
      · rename_i xs hxs
        obtain ⟨ws, rws, run⟩ := lt_run hxs r2
        refine run _ _ ⟨wipe_setAll ws hsub, ⟨setAll (e.wip vs).sl t.ix xs, []⟩, S, μ', ?_, s2, ?_⟩
        · exact evr_setAll (X := X.blk X.s_0 X.H_0 scope X.env []) t.ix rws (evr_wip (X := X) (X' := X.blk X.s_0 X.H_0 scope X.env []) rfl _ (E'.ext x2))
        · rw [bind_assoc] at p'
          refine (Post.bind (Post.ext x2 p')).mono fun b S3 μ3 H3 x3 s3 p3 => ?_
          have E3 := (E'.ext x2).ext x3
          have c3 := st _ _ _ _ (x2.trans x3) c'
          have eD3 := (x2.trans x3).at eD
          cases b with
          | true =>
            rw [if_pos rfl] at p3
            dsimp only
            rw [if_pos rfl]
            refine ⟨⟨setAll (e.wip vs).sl t.ix xs, []⟩, S3, μ3, ?_, s3, ?_⟩
            · exact evr_setAll (X := X.blk X.s_0 X.H_0 scope X.env []) t.ix (RVs.ext x3 _ rws) (evr_wip (X := X) (X' := X.blk X.s_0 X.H_0 scope X.env []) rfl _ E3)
            · rw [bind_assoc] at p3
              refine (Post.bind p3).mono fun y S4 μ4 H4 x4 s4 p4 v rv => ?_
              have eD4 := x4.at eD3
              split at p4
              · rename_i acc hacc
                split at p4
                · rename_i hl
                  obtain ⟨zs, e1, rz⟩ := s4.ob _ _ _ eD4 hacc
                  have x5 := Ext.wrote (H := H4) (u := .lst (zs ++ [v])) (List.mem_of_getElem? eD4) (NF.of e1)
                  exact ⟨zs, e1, by rw [rz.length]; exact hl, w.ds.length - (i + 1), by omega, rfl, hlt, S4.set S1.length (.lst (acc ++ [y])), μ4, (E3.ext x4).ext x5, s4.wrote eD4 ⟨zs ++ [v], upd_same, RVs.ext x5 _ (rz.append (.cons rv .nil))⟩, st _ _ _ _ (x4.trans x5) c3, eD4, Post.ext x5 p4⟩
                · exact False.elim p4
              · exact False.elim p4
          | false =>
            rw [if_neg Bool.false_ne_true] at p3
            dsimp only
            rw [if_neg Bool.false_ne_true]
            exact ⟨w.ds.length - (i + 1), by omega, rfl, hlt, S3, μ3, E3, s3, c3, eD3, p3⟩
      · exact False.elim p'
    · exact False.elim p'
  · have hz : w.ds.drop i = [] := List.drop_eq_nil_of_le (Nat.le_of_not_lt hlt)
    rw [hz] at p'
    unfold lcLX at p'
    split at p'
    · rename_i hG
      exact .inl ⟨(ok' i S μ' H' s' c' hG).2 (Nat.le_of_not_lt hlt), p' μ' H' .refl s' _ (.obj eD)⟩
    · exact False.elim p'
theorem pts_blkX {W : WX} {σ : St} {s : Shared} {H : Hp} {scope : Scope} {cenv : Env} {fp : List Addr} {xe : Value → Shared → Prop} {ifs : List Expr} {tt : TM} (h : MTs nm (X.blkX s H scope cenv fp xe) ifs tt) (tk : Takes (X.blkX s H scope cenv fp xe) (fun c d _ H => W c d σ H)) : PTs (X.blkX s H scope cenv fp xe) ifs (rdT nm (blk0 X scope) (fun c d _ H => W c d σ H) tt) :=
  ⟨fun pins s1 σ1 H1 Q I hh => (h.run _ tk).run pins s1 σ1 H1 Q I (by obtain ⟨e, S, μ, E, sm, p⟩ := hh; exact ⟨e, S, μ, ⟨E.len, E.at_, E.ex⟩, sm, p⟩)⟩
theorem pe_blkX {W : WX} {σ : St} {s : Shared} {H : Hp} {scope : Scope} {cenv : Env} {fp : List Addr} {xe : Value → Shared → Prop} {e : Expr} {el : EM} (h : ME nm (X.blkX s H scope cenv fp xe) e el) (tk : Takes (X.blkX s H scope cenv fp xe) (fun c d _ H => W c d σ H)) : PE (X.blkX s H scope cenv fp xe) e (rdE nm (blk0 X scope) (fun c d _ H => W c d σ H) el) :=
  (h.run _ tk).imp fun σ1 H1 Q hh => by obtain ⟨e, S, μ, E, sm, p⟩ := hh; exact ⟨e, S, μ, ⟨E.len, E.at_, E.ex⟩, sm, p⟩
theorem me_lcX {elt tg iter : Expr} {ifs : List Expr} {scope : Scope} {own : List (Str × Nat)} {pos : Pos} {it : IM} {tt : TM} {el : EM} {vs : List Nat} (of : OwnFrame X) (t : LT) (hc : X.calm = true) (hN : X.N.Nodup) (hi : MI nm X tg iter it) (ok : BlkOk X.N X.env.scope scope own) (hv : own.map (·.2) = vs) (hsub : ∀ i ∈ t.ix, i ∈ vs)
    (hg : ∀ (s : Shared) (H : Hp) (C : Addr) (cl : List (Str × Addr)) (fp : List Addr) (xe : Value → Shared → Prop), PG (X.blkX s H scope (compEnvC scope cl C X.env) fp xe) tg (t.tg X.K))
    (ht : ∀ (s : Shared) (H : Hp) (C : Addr) (cl : List (Str × Addr)) (fp : List Addr) (xe : Value → Shared → Prop), MTs nm (X.blkX s H scope (compEnvC scope cl C X.env) fp xe) ifs tt)
    (he : ∀ (s : Shared) (H : Hp) (C : Addr) (cl : List (Str × Addr)) (fp : List Addr) (xe : Value → Shared → Prop), ME nm (X.blkX s H scope (compEnvC scope cl C X.env) fp xe) elt el)
    (hs : ∀ x, foldedSetIterable iter X.env x = pure x := by intro _; rfl) : ME nm X (.ListComp elt [⟨tg, iter, ifs, 0⟩] scope pos) (mLcX vs t it tt el) := by
  subst hv
  exact ⟨fun W tk => (pe_lcX of tk hc hN (hi.run W tk) ok hg (fun σ s H C cl fp xe tkb => pts_blkX (σ := σ) (ht s H C cl fp xe) tkb) (fun σ s H C cl fp xe tkb => pe_blkX (σ := σ) (he s H C cl fp xe) tkb) hs).imp fun σ H Q hh => lc_rdX (tg := tg) (iter := iter) t hsub hh⟩
theorem ms_setLcX (of : OwnFrame X) (i : Nat) {y : Str} {py spos : Pos} {elt tg iter : Expr} {ifs : List Expr} {scope : Scope} {own : List (Str × Nat)} {pos : Pos} {it : IM} {tt : TM} {el : EM} {vs : List Nat} (t : LT) (hc : X.calm = true) (hN : X.N.Nodup) (hy : X.N[i]? = some y) (hyl : X.env.scope.names.lookup y = some .local)
    (hk : X.env.scope.kind = .function) (hl : (py.line == pos.line) = true) (ha : (scope.names.any fun (n, k) => n == y && (k == .local || k == .cell)) = false)
    (hi : MI nm X tg iter it) (ok : BlkOk X.N X.env.scope scope own) (hv : own.map (·.2) = vs) (hsub : ∀ i ∈ t.ix, i ∈ vs)
    (hg : ∀ (s : Shared) (H : Hp) (C : Addr) (cl : List (Str × Addr)) (fp : List Addr) (xe : Value → Shared → Prop), PG (X.blkX s H scope (compEnvC scope cl C X.env) fp xe) tg (t.tg X.K))
    (ht : ∀ (s : Shared) (H : Hp) (C : Addr) (cl : List (Str × Addr)) (fp : List Addr) (xe : Value → Shared → Prop), MTs nm (X.blkX s H scope (compEnvC scope cl C X.env) fp xe) ifs tt)
    (he : ∀ (s : Shared) (H : Hp) (C : Addr) (cl : List (Str × Addr)) (fp : List Addr) (xe : Value → Shared → Prop), ME nm (X.blkX s H scope (compEnvC scope cl C X.env) fp xe) elt el)
    (hs : ∀ x, foldedSetIterable iter X.env x = pure x := by intro _; rfl) : MS nm X (.Assign [.Name y py] (.ListComp elt [⟨tg, iter, ifs, 0⟩] scope pos) spos) (mSet i (mLcX vs t it tt el)) := by
  subst hv
  refine ⟨fun W tk => (ps_setLcX of tk hc hN hy hyl (sw_true hk hyl hl ha) (hi.run W tk) ok hg (fun σ s H C cl fp xe tkb => pts_blkX (σ := σ) (ht s H C cl fp xe) tkb) (fun σ s H C cl fp xe tkb => pe_blkX (σ := σ) (he s H C cl fp xe) tkb) hs).imp fun D σ H h => ?_⟩
  obtain ⟨e, S, μ, E, s, p⟩ := h
  exact lc_rdX (tg := tg) (iter := iter) t hsub ⟨e, S, μ, E, s, (PostS.toS E p).mono fun d S' μ' H' x s' q v r => q _ μ' H' .refl s' ((E.ext x).set r)⟩
theorem pg_oneX {s : Shared} {H : Hp} {scope : Scope} {cenv : Env} {fp : List Addr} {xe : Value → Shared → Prop} {pos : Pos} (i : Nat) {x : Str} (hN : X.N.Nodup) (hi : X.N[i]? = some x) (hl : Loc cenv.scope x) (hf : (scope.names.lookup x == some .cell) = true ∨ cenv.scope.names.lookup x = some .local) :
    PG (X.blkX s H scope cenv fp xe) (.Name x pos) ((LT.one i).tg X.K) := pg_name (X := X.blkX s H scope cenv fp xe) hN hi hl hf
end
theorem lcX_of {n : Nat} {G : Store → Prop} {t : LT} {e0 : Ev} {tt : TM} {el : EM} : ∀ {ds : List D} {S S' : Store}, lcL n G t e0 tt el ds S = .ok () S' → lcLX n G t e0 tt el ds S = .ok () S'
  | [], S, S', h => h
  | d :: ds, S, S', h => by
    unfold lcL at h
    unfold lcLX
    split at h
    · rename_i hG
      rw [if_pos hG]
      split at h
      · rename_i xs hx
        try rw [hx]
        try dsimp only
        cases ht : tt ⟨setAll e0.sl t.ix xs, []⟩ S with
        | ok b S2 =>
          rw [ht, R.nox_ok, R.bind_ok] at h
          rw [R.bind_ok]
          cases b with
          | false =>
            rw [if_neg Bool.false_ne_true] at h ⊢
            exact lcX_of h
          | true =>
            rw [if_pos rfl] at h ⊢
            cases hy : el ⟨setAll e0.sl t.ix xs, []⟩ S2 with
            | ok y S3 =>
              rw [hy, R.nox_ok, R.bind_ok] at h
              rw [R.bind_ok]
              split at h
              · rename_i acc hacc
                try rw [hacc]
                try dsimp only
                split at h
                · rename_i hlt
                  rw [if_pos hlt]
                  exact lcX_of h
                · cases h
              · cases h
            | exc c fs S3 => rw [hy] at h; cases h
            | stuck => rw [hy] at h; cases h
        | exc c fs S2 => rw [ht] at h; cases h
        | stuck => rw [ht] at h; cases h
      · cases h
    · cases h
/-- the items of ds are served, the next one raises -/
theorem lcX_exc {n : Nat} {G : Store → Prop} {t : LT} {e0 : Ev} {tt : TM} {el : EM} {c : Nat} {fs : List (Nat × D)} {Se : Store} {d : D} {xs : List D} {r : List D} : ∀ {ds : List D} {S S' : Store}, lcL n G t e0 tt el ds S = .ok () S' → G S' → t.items d = some xs →
    (tt ⟨setAll e0.sl t.ix xs, []⟩ S').bind (fun b S2 => if b = true then (el ⟨setAll e0.sl t.ix xs, []⟩ S2).bind fun _ S3 => .ok () S3 else .ok () S2) = .exc c fs Se → lcLX n G t e0 tt el (ds ++ d :: r) S = .exc c fs Se
  | [], S, S', h, hG, hx, he => by
    unfold lcL at h
    split at h
    · cases h
      rw [List.nil_append]
      unfold lcLX
      rw [if_pos hG, hx]
      dsimp only
      cases ht : tt ⟨setAll e0.sl t.ix xs, []⟩ S with
      | ok b S2 =>
        rw [ht, R.bind_ok] at he
        rw [R.bind_ok]
        cases b with
        | false => rw [if_neg Bool.false_ne_true] at he; cases he
        | true =>
          rw [if_pos rfl] at he ⊢
          cases hy : el ⟨setAll e0.sl t.ix xs, []⟩ S2 with
          | ok y S3 => rw [hy] at he; cases he
          | exc c2 fs2 S3 => rw [hy] at he; exact he
          | stuck => rw [hy] at he; cases he
      | exc c2 fs2 S2 => rw [ht] at he; exact he
      | stuck => rw [ht] at he; cases he
    · cases h
  | d0 :: ds, S, S', h, hG, hx, he => by
    unfold lcL at h
    rw [List.cons_append]
    unfold lcLX
    split at h
    · rename_i hG0
      rw [if_pos hG0]
      split at h
      · rename_i xs0 hx0
        try rw [hx0]
        try dsimp only
        cases ht : tt ⟨setAll e0.sl t.ix xs0, []⟩ S with
        | ok b S2 =>
          rw [ht, R.nox_ok, R.bind_ok] at h
          rw [R.bind_ok]
          cases b with
          | false =>
            rw [if_neg Bool.false_ne_true] at h ⊢
            exact lcX_exc h hG hx he
          | true =>
            rw [if_pos rfl] at h ⊢
            cases hy : el ⟨setAll e0.sl t.ix xs0, []⟩ S2 with
            | ok y S3 =>
              rw [hy, R.nox_ok, R.bind_ok] at h
              rw [R.bind_ok]
              split at h
              · rename_i acc hacc
                try rw [hacc]
                try dsimp only
                split at h
                · rename_i hlt
                  rw [if_pos hlt]
                  exact lcX_exc h hG hx he
                · cases h
              · cases h
            | exc c2 fs2 S3 => rw [hy] at h; cases h
            | stuck => rw [hy] at h; cases h
        | exc c2 fs2 S2 => rw [ht] at h; cases h
        | stuck => rw [ht] at h; cases h
      · cases h
    · cases h
section
variable {nm : Nms} {X : Cx} {pos : Pos}
def gAttr (K : PySem.W.Frag) (ta : TE) (f : Str) : TG := fun v σ H Q => ta σ H fun x H2 => ∃ a C dx fs, x = .ref a ∧ H2 a = some (.ins C dx fs) ∧ Cls K C ∧ NoAttr K C f ∧ fs.length < 1000 ∧ Q σ (upd H2 a (.ins C dx (putF f v fs)))
theorem pg_attr {o : Expr} {f : Str} {ta : TE} (ha : PE X o ta) : PG X (.Attribute o f pos) (gAttr X.K ta f) := by
  refine ⟨fun pins s σ H v u Q I r h => ?_⟩
  rw [assign_Attribute]
  refine wpAny_bind (wpAny_holding (thn (ha.run pins s σ H _ I h) fun ov s2 ⟨x, H2, I2, rx, a, C, dx, fs, ex, ea, c, n, l, q2⟩ => ?_))
  subst ex
  obtain rfl : ov = Value.ref a := rx
  refine wpAny_bind (wpAny_standAt (wpAny_bind (wpAny_holding ?_)))
  exact setattr_ok I2 ea c n l r fun s3 I3 => wpAny_release ⟨σ, _, I3, q2⟩
def gFd (cs : List Nat) (f : Nat) (o : EM) : GM := fun d e S => (o e S).toS e fun x S => match putF_ cs f S x d with
  | some S => .nx e S
  | none => .stuck
theorem mg_fld {cs : List Nat} {f : Nat} {fx : Str} {o : Expr} {mo : EM} (h : FldOk X.K X.mg nm cs f) (ho : ME nm X o mo) (hf : nm.fld f = fx := by decide +kernel) : MG nm X (.Attribute o fx pos) (gFd cs f mo) := by
  subst hf
  exact ⟨fun W tk => (pg_attr (ho.run W tk)).imp fun v σ H Q hh => by
    obtain ⟨d, e, S, μ, r, E, s, p⟩ := hh
    refine ⟨e, S, μ, E, s, (PostS.toS E p).mono fun d2 S2 μ2 H2 x2 s2 q2 v2 r2 => ?_⟩
    split at q2
    · rename_i S3 hp
      obtain ⟨a, C, dx, gs, h1, h2, h3, h4, h5, h6, h7, _⟩ := putF_at h s2 r2 (r.ext x2) hp
      exact ⟨a, C, dx, gs, h1, h2, h3, h4, h5, q2 _ _ _ h6 h7 ((E.ext x2).ext h6)⟩
    · exact False.elim q2⟩
theorem gok_fd {cs : List Nat} {f : Nat} {o : EM} : GOk (gFd cs f o) := fun d e S d' S' => by
  unfold gFd
  cases h1 : o e S with
  | ok x S1 =>
    rw [R.toS_ok]
    split <;> exact ⟨fun h => (nomatch h), fun e' => ⟨fun h => (nomatch h), fun h => (nomatch h)⟩⟩
  | exc c fs S2 => exact ⟨fun h => (nomatch h), fun e' => ⟨fun h => (nomatch h), fun h => (nomatch h)⟩⟩
  | stuck => exact ⟨fun h => (nomatch h), fun e' => ⟨fun h => (nomatch h), fun h => (nomatch h)⟩⟩
end
end BS
namespace BS
open PySem PySem.Spec PyProof.Rows L2
def tKey (e : Int × Value) : Str := match e.2 with | .str z _ => z | _ => ⟨#[]⟩
def GoodT (w : World) (e : Int × Value) : Prop := ∃ z tk, e.2 = Value.str z tk ∧ e.1 = hashStr w z
def SetT (w : World) (h : Heap) (a : Addr) (S : Str → Bool) (n : Nat) : Prop :=
  ∃ o es ep t, h.get? a = some o ∧ o.ExactSet ∧ o.data = .set es ep t ∧ (∀ e ∈ es.toList, GoodT w e) ∧ (es.toList.map tKey).Nodup ∧ (∀ k, S k = true ↔ k ∈ es.toList.map tKey) ∧
    es.size < scanBound ∧ t.fits es.size = true ∧ es.size = n ∧ Ris t.place.toList ∧ (w.params.followText "set-order" = true ∨ t.led = true)
section
variable {P : Program} {w : World}
theorem goodT_elems {l : List (Int × Value)} (g : ∀ e ∈ l, GoodT w e) : ElemsOf (strKind P w) l := fun e he => by
  obtain ⟨k, tk, h1, h2⟩ := g e he
  exact ⟨⟨k, by rw [h1]; exact strKind_is P w k tk, h2⟩, by rw [h1] <;> rfl⟩
theorem goodT_is {e : Int × Value} (g : GoodT w e) (k : Str) : (strKind P w).is k e.2 = true ↔ tKey e = k := by
  obtain ⟨k0, tk, h1, _⟩ := g
  unfold tKey
  rw [h1]
  show ((k0 == k) = true) ↔ k0 = k
  exact beq_iff_eq
theorem goodT_mem {l : List (Int × Value)} (g : ∀ e ∈ l, GoodT w e) (k : Str) : k ∈ l.map tKey ↔ ∃ e ∈ l, (strKind P w).is k e.2 = true := by
  rw [List.mem_map]
  constructor
  · rintro ⟨e, he, q⟩
    exact ⟨e, he, (goodT_is (g e he) k).2 q⟩
  · rintro ⟨e, he, q⟩
    exact ⟨e, he, (goodT_is (g e he) k).1 q⟩
end
section
variable {P : Program} {w : World} {A : Around} {E : Value → Shared → Prop} {s : Shared} {a : Addr} {S : Str → Bool} {n : Nat}
theorem setT_add_tail {g : Bool → Sem Unit} (hg : ∀ (b : Bool) (s₁ : Shared) (Q' : Unit → Shared → Prop), Q' () s₁ → wpAny (model P w) A (g b) Q' E s₁)
    {o : Obj} {es : Array (Int × Value)} {ep : Nat} {t : SetTable} (ho : s.heap.get? a = some o) (hex : o.ExactSet) (hd : o.data = .set es ep t)
    {es1 : Array (Int × Value)} {t2 : SetTable} {S' : Str → Bool} (g1 : ∀ e ∈ es1.toList, GoodT w e) (nd1 : (es1.toList.map tKey).Nodup) (m1 : ∀ k, S' k = true ↔ k ∈ es1.toList.map tKey)
    (hb1 : es1.size < scanBound) (hf2 : t2.fits es1.size = true) (hr : Ris t2.place.toList) (hl : w.params.followText "set-order" = true ∨ t2.led = true) {wasDummy : Bool} {R : Option Bool → Shared → Prop}
    (hR : ∀ h', Heap.SameBut a s.heap h' → SetT w h' a S' es1.size → R (some true) { s with heap := h' }) :
    wpAny (model P w) A (do
        storeSet a es1 t2
        if (!wasDummy && t2.tooFull) = true then do
            g (relayAll t2 es1 (SetTable.grown es1.size)).2.2
            storeSet a (relayAll t2 es1 (SetTable.grown es1.size)).1 (relayAll t2 es1 (SetTable.grown es1.size)).2.1
            pure (some true)
          else pure (some true)) R E s := by
  refine wpAny_bind (wpAny_storeSet_of ho hd ?_ (fits_of_scanBound hb1))
  have ho1 := store_at (es' := es1) (t' := t2) ho hd
  have sb1 := Heap.SameBut.update s.heap a (Obj.putSet es1 t2)
  split
  · have pm := relayAll_perm t2 es1 (SetTable.grown es1.size)
    have hf3 := relayAll_fits t2 es1 (SetTable.grown es1.size)
    have hr3 := relayAll_ris t2 es1 (SetTable.grown es1.size)
    have hl3 := relayAll_led t2 es1 (SetTable.grown es1.size)
    generalize relayAll t2 es1 (SetTable.grown es1.size) = Z at pm hf3 hr3 hl3 ⊢
    obtain ⟨es2, t3, gave⟩ := Z
    dsimp only at pm hf3 hr3 hl3 ⊢
    have hsz : es2.size = es1.size := by rw [← Array.length_toList, pm.length_eq, Array.length_toList]
    have hb2 : es2.size < scanBound := by rw [hsz]; exact hb1
    refine wpAny_bind (hg _ _ _ ?_)
    refine wpAny_bind (wpAny_storeSet_of ho1 rfl ?_ (fits_of_scanBound hb2))
    have ho2 := store_at (es' := es2) (t' := t3) ho1 rfl
    refine wpAny_pure (hR _ (sb1.trans (Heap.SameBut.update _ a _)) ?_)
    exact ⟨_, es2, _, t3, ho2, hex, rfl, fun e he => g1 e (pm.mem_iff.mp he), (pm.map tKey).nodup_iff.mpr nd1, fun k => (m1 k).trans (pm.map tKey).mem_iff.symm, hb2, hf3, hsz, hr3,
      hl.imp id fun z => by rw [hl3]; exact z⟩
  · exact wpAny_pure (hR _ sb1 ⟨_, es1, _, t2, ho1, hex, rfl, g1, nd1, m1, hb1, hf2, rfl, hr, hl⟩)
theorem setT_add_hashed {k : Str} {tk : Tok} {Q : Bool → Shared → Prop} (R : SetT w s.heap a S n) (room : n + 1 < scanBound)
    (hQ : ∀ h', Heap.SameBut a s.heap h' → SetT w h' a (fun j => S j || decide (j = k)) (if S k = true then n else n + 1) → Q (!S k) { s with heap := h' }) :
    wpAny (model P w) A (setAddHashed a (.str k tk) ((strKind P w).hash k)) Q E s := by
  obtain ⟨o, es, ep, t, ho, hex, hd, g, nd, hm, hb, hf, hn, hr, hl⟩ := R
  have hkey : (strKind P w).is k (.str k tk) = true := strKind_is P w k tk
  have hsc : (Value.str k tk).scannable = true := rfl
  have hel : ElemsOf (strKind P w) es.toList := goodT_elems g
  unfold setAddHashed setAddHashedIn
  refine wpAny_holding (wpAny_bind (wpAny_setState_of ho hd hf ?_))
  dsimp only
  rw [byScan_of hsc hb hel]
  simp only [↓reduceIte]
  unfold setAddByScan
  refine wpAny_bind ?_
  refine wpAny_bind (wpAny_rule ?_)
  refine wpAny_bind (wpAny_setScan_of hkey ho hd hf hel ?_)
  cases hfi : List.findIdx? (fun e => (strKind P w).is k e.2) es.toList with
  | some j =>
    dsimp only
    obtain ⟨hj, pj, _⟩ := List.findIdx?_eq_some_iff_getElem.mp hfi
    have hSk : S k = true := (hm k).2 ((goodT_mem (P := P) (w := w) g k).2 ⟨es.toList[j], List.getElem_mem hj, pj⟩)
    refine wpAny_pure (wpAny_pure ?_)
    have q := hQ s.heap (Heap.SameBut.refl a s.heap) ⟨o, es, ep, t, ho, hex, hd, g, nd, fun i => by
      rw [Bool.or_eq_true, decide_eq_true_eq, ← hm i]
      exact ⟨fun z => z.elim id (fun e => e ▸ hSk), .inl⟩, hb, hf, by rw [if_pos hSk]; exact hn, hr, hl⟩
    rw [hSk] at q
    exact q
  | none =>
    dsimp only
    have hnk : k ∉ es.toList.map tKey := fun z => by
      obtain ⟨e, he, q⟩ := (goodT_mem (P := P) (w := w) g k).1 z
      have c := List.findIdx?_eq_none_iff.mp hfi e he
      rw [q] at c
      cases c
    have hSk : S k = false := by
      cases q : S k with
      | false => rfl
      | true => exact absurd ((hm k).1 q) hnk
    have hgw : ∀ (b : Bool) {s₁ : Shared} {Q' : Unit → Shared → Prop}, Q' () s₁ → wpAny (model P w) A (match b with | true => rule "set.scan.the-table-gave-way" | false => pure ()) Q' E s₁ :=
      fun b s₁ Q' q => by cases b <;> first | exact wpAny_pure q | exact wpAny_rule q
    have pm := layNew_perm t es ((strKind P w).hash k) (.str k tk)
    have hf1 := layNew_fits t es ((strKind P w).hash k) (.str k tk)
    have hr1 := layNew_ris t es ((strKind P w).hash k) (.str k tk) hr
    have hl1 := layNew_led t es ((strKind P w).hash k) (.str k tk)
    generalize layNew t es ((strKind P w).hash k) (.str k tk) = Z at pm hf1 hr1 hl1 ⊢
    obtain ⟨es1, t1, wasDummy, gave⟩ := Z
    dsimp only at pm hf1 hr1 hl1 ⊢
    rw [Array.toList_push] at pm
    have pc : es1.toList.Perm (((strKind P w).hash k, Value.str k tk) :: es.toList) := pm.trans (List.perm_append_singleton _ _)
    have pk : (es1.toList.map tKey).Perm (k :: es.toList.map tKey) := pc.map tKey
    have g1 : ∀ e ∈ es1.toList, GoodT w e := fun e he => by
      rcases List.mem_cons.mp (pc.mem_iff.mp he) with z | z
      · rw [z]; exact ⟨k, tk, rfl, rfl⟩
      · exact g e z
    have nd1 : (es1.toList.map tKey).Nodup := pk.nodup_iff.mpr (List.nodup_cons.mpr ⟨hnk, nd⟩)
    have m1 : ∀ i, (S i || decide (i = k)) = true ↔ i ∈ es1.toList.map tKey := fun i => by
      rw [Bool.or_eq_true, decide_eq_true_eq, hm i, pk.mem_iff, List.mem_cons]
      exact Or.comm
    have hsz : es1.size = n + 1 := by rw [← Array.length_toList, pc.length_eq, List.length_cons, Array.length_toList, hn]
    have hb1 : es1.size < scanBound := by rw [hsz]; exact room
    have hled : w.params.followText "set-order" = true ∨ t1.led = true := hl.imp id fun z => by rw [hl1]; exact z
    have fin : ∀ h', Heap.SameBut a s.heap h' → SetT w h' a (fun j => S j || decide (j = k)) es1.size → Q true { s with heap := h' } := fun h' sb r => by
      have q := hQ h' sb
      rw [hSk] at q
      rw [hsz] at r
      exact q r
    refine wpAny_bind (hgw _ ?_)
    split
    · refine wpAny_bind ?_
      rw [hashByValue_scannable 8 hsc]
      refine wpAny_pure ?_
      refine setT_add_tail ?_ ho hex hd g1 nd1 m1 hb1 ?_ ?_ ?_ ?_
      · intro b s₁ Q' q; cases b <;> first | exact wpAny_pure q | exact wpAny_rule q
      · first | (split <;> first | exact hf1 | exact SetTable.fits_plain_off hf1) | exact hf1
      · first | (split <;> exact hr1) | exact hr1
      · first | (split <;> exact hled) | exact hled
      · intro h' sb r; dsimp only; exact wpAny_pure (fin h' sb r)
    · refine wpAny_bind (wpAny_pure ?_)
      simp only [↓reduceIte]
      refine setT_add_tail ?_ ho hex hd g1 nd1 m1 hb1 hf1 hr1 hled ?_
      · intro b s₁ Q' q; cases b <;> first | exact wpAny_pure q | exact wpAny_rule q
      · intro h' sb r; dsimp only; exact wpAny_pure (fin h' sb r)
end
theorem SetT.at {w : World} {h h' : Heap} {a : Addr} {S : Str → Bool} {n : Nat} (R : SetT w h a S n) (k : ∀ o, h.get? a = some o → h'.get? a = some o) : SetT w h' a S n := by
  obtain ⟨o, es, ep, t, ho, r⟩ := R
  exact ⟨o, es, ep, t, k o ho, r⟩
theorem SetT.congr {w : World} {h : Heap} {a : Addr} {S S' : Str → Bool} {n : Nat} (R : SetT w h a S n) (e : ∀ k, S' k = S k) : SetT w h a S' n := by
  have q : S' = S := funext e
  rw [q]; exact R
theorem setT_new_at {w : World} {h : Heap} {a : Addr} {ns : List Str} (ho : h.get? a = some { cls := .type "set", dict := none, data := .set #[] 0 (.fresh 0 0 (!w.params.followText "set-order")) }) : SetT w h a (fun j => decide (j ∈ ns.take 0)) 0 :=
  ⟨_, #[], 0, _, ho, ⟨rfl, rfl, rfl⟩, rfl, (fun e he => by simp at he), (by simp), (fun k => by simp), (by decide), (by rfl), rfl, List.Pairwise.nil, by
    show _ ∨ (!w.params.followText "set-order") = true
    cases w.params.followText "set-order"
    · exact .inr rfl
    · exact .inl rfl⟩
section
variable {P : Program} {w : World} {A : Around} {E : Value → Shared → Prop} {s : Shared}
theorem set_update_strs {I : Addr} {fp wr : List Addr} {G : Array GenState → Array GenState → Prop} {n : Nat} {Pv : Nat → Value → Prop} {St : Nat → Shared → Prop} {R : Result → Shared → Prop}
    (W : WalksS P w A.in1 I fp wr G n Pv St) (S : Addr) (hSf : S ∉ fp) (ns : List Str) (hn : n = ns.length) (hb : ns.length + 1 < scanBound) (hval : ∀ i v, Pv i v → ∃ k t, ns[i]? = some k ∧ v = .str k t) :
    ∀ (k i : Nat) (s : Shared), n - i = k → i ≤ n → St i s → (∃ c, c ≤ i ∧ SetT w s.heap S (fun j => decide (j ∈ ns.take i)) c) →
      (∀ s' c, Moved (S :: wr) G s s' → c ≤ n → SetT w s'.heap S (fun j => decide (j ∈ ns)) c → R (.ok (.ret .none)) s') →
      codeAny (model P w) A (.builtin "set.update.loop" ⟨[.ref S, .ref I], []⟩) R s := by
  have hSw : S ∉ wr := fun h => hSf (W.sub _ h)
  have hsub : ∀ b ∈ wr, b ∈ S :: wr := fun b hb => List.mem_cons_of_mem _ hb
  intro k
  induction k with
  | zero =>
    intro i s hk' hi hst ⟨c, hc, hS⟩ hR
    have hin : i = n := by omega
    subst hin
    refine codeAny_builtin F.entry_set_update_loop ?_
    rw [Around.under_plainId F.plain_set_update_loop _]
    show wpAny _ A.in1 (pyNext (.ref I) >>= _) _ _ s
    refine wpAny_bind (W.done s _ _ hst fun s' hm => ?_)
    show wpAny _ A.in1 (ret Value.none) _ _ s'
    have e : ns.take i = ns := List.take_of_length_le (by omega)
    rw [e] at hS
    exact wpAny_pure (hR s' c (hm.mono hsub) hc (hS.at fun o e => hm.heap S o hSw e))
  | succ k ih =>
    intro i s hk' hi hst ⟨c, hc, hS⟩ hR
    have hlt : i < n := by omega
    refine codeAny_builtin F.entry_set_update_loop ?_
    rw [Around.under_plainId F.plain_set_update_loop _]
    show wpAny _ A.in1 (pyNext (.ref I) >>= _) _ _ s
    refine wpAny_bind (W.item i s _ _ hlt hst fun v s' hP hst' hm => ?_)
    obtain ⟨z, t, hz, rfl⟩ := hval i v hP
    have hS' : SetT w s'.heap S (fun j => decide (j ∈ ns.take i)) c := hS.at fun o e => hm.heap S o hSw e
    show wpAny _ A.in1 (holding [Value.str z t] (setAdd S (.str z t)) >>= _) _ _ s'
    refine wpAny_bind (wpAny_holding ?_)
    unfold setAdd
    refine wpAny_holding ?_
    refine wpAny_bind ((strKind P w).pyHash (k := z) (strKind_is _ _ _ _) ?_)
    refine setT_add_hashed (s := { s' with toks := s'.toks + 1 }) hS' (by omega) fun h' hsb hS2 => ?_
    have hS3 : SetT w h' S (fun j => decide (j ∈ ns.take (i + 1))) (if decide (z ∈ ns.take i) = true then c else c + 1) := hS2.congr fun j => by
      rw [List.take_add_one, hz]
      simp [List.mem_append]
    have hc3 : (if decide (z ∈ ns.take i) = true then c else c + 1) ≤ i + 1 := by
      split <;> omega
    refine wpAny_pure ⟨plainId_quiet F.plain_set_update_loop _, ih (i + 1) _ (by omega) hlt (W.frame _ s' _ _ hst' (Nat.le_succ _) fun b hb o e => ?_) ⟨_, hc3, hS3⟩ fun s'' c2 hm'' hc'' hS'' => ?_⟩
    · rw [hsb.2 b (fun h : b = S => hSf (by rw [← h]; exact hb))]; exact e
    · refine hR s'' c2 (Moved.trans W.gtrans ((hm.mono hsub).then_heap (Nat.le_succ _) fun b o hb e => ?_) hm'') hc'' hS''
      rw [hsb.2 b (fun h : b = S => hb (by rw [h]; exact List.mem_cons_self))]; exact e
set_option maxRecDepth 100000 in
set_option maxHeartbeats 3200000 in
theorem call_set_strs {l : Addr} {items : Array Value} (ns : List Str) {Q : Value → Shared → Prop} (hh : A.handled = none) (hl : s.heap.IsList l items) (hit : StrsAre items.toList ns) (hb : ns.length + 1 < scanBound)
    (h : ∀ (h' : Heap) (tk c : Nat), SetT w h' s.heap.objs.size (fun j => decide (j ∈ ns)) c → c ≤ ns.length → (∀ b o, s.heap.get? b = some o → h'.get? b = some o) → Q (.ref s.heap.objs.size) { s with heap := h', toks := tk }) :
    wpAny (model P w) A (call (.type "set") [.ref l]) Q E s := by
  have hisz : items.size = ns.length := by
    have q := StrsAre.length hit
    rw [Array.length_toList] at q
    exact q
  obtain ⟨c, tl, hmro⟩ := F.called_set.mro
  have hmade := F.called_set.made
  have hsub := F.called_set.sub
  refine wpAny_call (codeAny_of_tree ?_)
  show wpAny _ _ (callAny (.type "set") _) _ _ _
  refine wpAny_pure ⟨Code.quiet_builtin _ (by decide +kernel), codeAny_builtin F.entry_type_call ?_⟩
  rw [Around.under_plain (weight_type_call_type "set" [.ref l] []) rfl]
  have h1 := F.called_set.notType
  have h2 := F.called_set.canCreate
  have hct := F.typeCall_set_1 (.ref l)
  repeat (any_goals (first | assumption | wp_step))
  refine codeAny_mono (code_set_led1 (.ref l) (E := E) (Q₁ := fun obj s₁ => obj = .ref s.heap.objs.size ∧ s₁ = { s with heap := s.heap.push { cls := .type "set", dict := none, data := .set #[] 0 (.fresh 0 0 (!w.params.followText "set-order")) } }) ⟨rfl, rfl⟩) fun r s₁ hr => ?_
  cases r with
  | error e => exact hr
  | ok fl =>
    cases fl with
    | ret obj =>
      obtain ⟨rfl, rfl⟩ := hr
      have hS : (s.heap.push { cls := .type "set", dict := none, data := .set #[] 0 (.fresh 0 0 (!w.params.followText "set-order")) }).get? s.heap.objs.size = some { cls := .type "set", dict := none, data := .set #[] 0 (.fresh 0 0 (!w.params.followText "set-order")) } := Heap.get?_push_size _ rfl
      have hT : Shared.TypeIs { s with heap := s.heap.push { cls := .type "set", dict := none, data := .set #[] 0 (.fresh 0 0 (!w.params.followText "set-order")) } } (.ref s.heap.objs.size) "set" := ⟨_, hS, rfl⟩
      have hli := F.called_set.init.lookup
      have hbi := F.called_set.init.bind (.ref s.heap.objs.size)
      repeat (any_goals (first | assumption | wp_step))
      refine codeAny_mono (codeAny_call_builtin (R := wants (fun r s₂ => r = .none ∧ ∃ h' tk c, s₂ = { s with heap := h', toks := tk } ∧ SetT w h' s.heap.objs.size (fun j => decide (j ∈ ns)) c ∧ c ≤ ns.length ∧
          (∀ b o, s.heap.get? b = some o → h'.get? b = some o)) E) F.called_set.init.plain F.entry_set_init (check_set_init_1 hT ?_)) fun r₂ s₂ hr₂ => ?_
      · obtain ⟨ol, hol, hcl, nl, hdl⟩ := hl
        obtain ⟨ocls, odict, odata, oslots⟩ := ol
        simp only at hcl hdl
        subst hcl; subst hdl
        have hol' : (s.heap.push { cls := .type "set", dict := none, data := .set #[] 0 (.fresh 0 0 (!w.params.followText "set-order")) }).get? l = some { cls := .type "list", dict := odict, data := .seq items nl, slots := oslots } := Heap.get?_push_of_some _ hol
        have hsls := F.sub_list_set
        have hslf := F.sub_list_frozenset
        have hne : (Value.type "list" == Value.type "dict") = false := by decide
        have hl1 : (s.heap.push { cls := .type "set", dict := none, data := .set #[] 0 (.fresh 0 0 (!w.params.followText "set-order")) }).IsList l items := ⟨_, hol', rfl, nl, rfl⟩
        unfold Builtin.«set.__init__» noKeywords Builtin.Frozenset.updateFrom
        generalize hPI : pyIter = PI
        wp_walk
        subst hPI
        refine wpAny_pyIter_list hl1 ?_
        refine wpAny_bind (wpAny_runValue ?_)
        have hlS : l < s.heap.objs.size := Heap.lt_size hol
        have hh3 : A.in1.in1.in1.handled = none := by simp [hh]
        have hz1 : (s.heap.push { cls := .type "set", dict := none, data := .set #[] 0 (.fresh 0 0 (!w.params.followText "set-order")) }).objs.size = s.heap.objs.size + 1 := Heap.size_push ..
        have hneI : l ≠ (s.heap.push { cls := .type "set", dict := none, data := .set #[] 0 (.fresh 0 0 (!w.params.followText "set-order")) }).objs.size := by
          rw [Heap.size_push]; exact Nat.ne_of_lt (Nat.lt_succ_of_lt hlS)
        have hSf : s.heap.objs.size ∉ [(s.heap.push { cls := .type "set", dict := none, data := .set #[] 0 (.fresh 0 0 (!w.params.followText "set-order")) }).objs.size, l] := by
          rw [Heap.size_push]; simp only [List.mem_cons, List.mem_singleton, List.not_mem_nil, or_false, not_or]
          exact ⟨Nat.ne_of_lt (Nat.lt_succ_self _), Nat.ne_of_gt hlS⟩
        have hval : ∀ (i : Nat) (v : Value), items[i]? = some v → ∃ k t, ns[i]? = some k ∧ v = .str k t := fun i v hv => by
          have hi : i < ns.length := by rw [← hisz]; exact (Array.getElem?_eq_some_iff.mp hv).1
          obtain ⟨t, e⟩ := SS.strs_at hit i v (by rw [Array.getElem?_toList]; exact hv)
          refine ⟨ns[i], t, List.getElem?_eq_getElem hi, ?_⟩
          rw [e, List.getD_eq_getElem?_getD, List.getElem?_eq_getElem hi] <;> rfl
        refine set_update_strs ((Walks.list hh3 _ l hneI items).toS) s.heap.objs.size
          hSf ns hisz hb hval (items.size - 0) 0 _ (by omega) (Nat.zero_le _)
          ⟨⟨_, Heap.get?_push_size _ rfl, rfl, rfl⟩, (hl1.push _)⟩ ?hS0 ?hR
        case hS0 =>
          have hget : ((s.heap.push { cls := .type "set", dict := none, data := .set #[] 0 (.fresh 0 0 (!w.params.followText "set-order")) }).push { cls := .type "list_iterator", data := .fields #[.ref l, .int 0 0] }).get? s.heap.objs.size
              = some { cls := .type "set", dict := none, data := .set #[] 0 (.fresh 0 0 (!w.params.followText "set-order")) } := Heap.get?_push_of_some _ hS
          exact ⟨0, Nat.le_refl 0, setT_new_at hget⟩
        case hR =>
          intro s' c' hm hc' hS'
          obtain ⟨h', g2, d', tk', os'⟩ := s'
          have eg : g2 = s.gens := hm.gens
          have ed : d' = s.drawn := hm.drawn
          have eo : os' = s.os := hm.os
          subst eg; subst ed; subst eo
          show wpAny _ _ _ _ _ _
          refine wpAny_pure ?_
          show wpAny _ _ (ret Value.none) _ _ _
          rw [hisz] at hc'
          refine wpAny_pure ⟨rfl, h', tk', c', rfl, hS', hc', fun b o e => ?_⟩
          have hb0 : b < s.heap.objs.size := Heap.lt_size e
          have hb1 : b ≠ s.heap.objs.size := Nat.ne_of_lt hb0
          have hb2 : b ≠ (s.heap.push { cls := .type "set", dict := none, data := .set #[] 0 (.fresh 0 0 (!w.params.followText "set-order")) }).objs.size := by
            rw [Heap.size_push]; exact Nat.ne_of_lt (Nat.lt_succ_of_lt hb0)
          exact hm.heap b o (by simp only [List.mem_cons, List.mem_singleton, List.not_mem_nil, or_false, not_or]; exact ⟨hb1, hb2⟩) (Heap.get?_push_of_some _ (Heap.get?_push_of_some _ e))
      · cases r₂ with
        | error e => exact hr₂
        | ok fl₂ =>
          cases fl₂ with
          | ret r =>
            obtain ⟨rfl, h', tk, c', rfl, hS', hc', hk'⟩ := hr₂
            repeat (any_goals (first | assumption | wp_step))
            exact h _ _ _ hS' hc' hk'
          | _ => exact hr₂.elim
    | _ => exact hr.elim
end
/-- the texts of a list, each once -/
def dedT : List Str → List Str
  | [] => []
  | x :: xs => if x ∈ xs then dedT xs else x :: dedT xs
theorem mem_dedT : ∀ (l : List Str) (k : Str), k ∈ dedT l ↔ k ∈ l
  | [], k => Iff.rfl
  | x :: xs, k => by
    unfold dedT
    split
    · rename_i h
      rw [mem_dedT xs k, List.mem_cons]
      exact ⟨.inr, fun z => z.elim (fun e => e ▸ h) id⟩
    · rw [List.mem_cons, List.mem_cons, mem_dedT xs k]
theorem nodup_dedT : ∀ (l : List Str), (dedT l).Nodup
  | [] => List.Pairwise.nil
  | x :: xs => by
    unfold dedT
    split
    · exact nodup_dedT xs
    · rename_i h
      exact List.nodup_cons.mpr ⟨fun z => h ((mem_dedT xs x).1 z), nodup_dedT xs⟩
theorem len_dedT : ∀ (l : List Str), (dedT l).length ≤ l.length
  | [] => Nat.le_refl _
  | x :: xs => by
    unfold dedT
    have h := len_dedT xs
    split
    · rw [List.length_cons]; omega
    · rw [List.length_cons, List.length_cons]; omega
theorem perm_nodup : ∀ (a b : List Str), a.Nodup → b.Nodup → (∀ k, k ∈ a ↔ k ∈ b) → a.Perm b
  | [], b, _, _, h => by
    cases b with
    | nil => exact List.Perm.refl _
    | cons y ys => exact absurd ((h y).2 List.mem_cons_self) (by simp)
  | x :: xs, b, ha, hb, h => by
    obtain ⟨a1, a2⟩ := List.nodup_cons.mp ha
    have hx : x ∈ b := (h x).1 List.mem_cons_self
    have hp : b.Perm (x :: b.erase x) := List.perm_cons_erase hx
    have hb' := hp.nodup_iff.mp hb
    obtain ⟨b1, b2⟩ := List.nodup_cons.mp hb'
    refine (List.Perm.cons x (perm_nodup xs (b.erase x) a2 b2 fun k => ?_)).trans hp.symm
    constructor
    · intro z
      have hk : k ∈ b := (h k).1 (List.mem_cons_of_mem _ z)
      rcases List.mem_cons.mp (hp.mem_iff.mp hk) with e | e
      · exact absurd (e ▸ z) a1
      · exact e
    · intro z
      have hk : k ∈ x :: xs := (h k).2 (hp.mem_iff.mpr (List.mem_cons_of_mem _ z))
      rcases List.mem_cons.mp hk with e | e
      · exact absurd (e ▸ z) b1
      · exact e
def setSort (l : List Str) : List Str := sortT (dedT l)
theorem mem_setSort (l : List Str) (k : Str) : k ∈ setSort l ↔ k ∈ l := (sortT_perm (dedT l)).mem_iff.trans (mem_dedT l k)
theorem nodup_setSort (l : List Str) : (setSort l).Nodup := (sortT_perm (dedT l)).nodup_iff.mpr (nodup_dedT l)
theorem len_setSort (l : List Str) : (setSort l).length ≤ l.length := by
  unfold setSort
  rw [(sortT_perm (dedT l)).length_eq]
  exact len_dedT l
section
variable {P : Program} {w : World} {A : Around} {E : Value → Shared → Prop} {s : Shared} {a : Addr}
theorem strs_ofT : ∀ (l : List Value), (∀ v ∈ l, ∃ k tk, v = Value.str k tk) → StrsAre l (l.map fun v => tKey ((0 : Int), v))
  | [], _ => .nil
  | v :: l, h => by
    obtain ⟨k, tk, rfl⟩ := h v List.mem_cons_self
    exact .cons k tk (strs_ofT l fun u hu => h u (List.mem_cons_of_mem _ hu))
theorem sorted_setT {ns : List Str} {n : Nat} {Q : Value → Shared → Prop} (R : SetT w s.heap a (fun j => decide (j ∈ ns)) n) (hh : A.handled = none) (hz : n ≤ sizeLine)
    (hQ : ∀ s' p (out : Array Value) (c : Nat), (∀ b o, s.heap.get? b = some o → s'.heap.get? b = some o) → s'.gens = s.gens → s'.os = s.os → s.heap.objs.size ≤ p →
      s'.heap.get? p = some (seqObj "list" out c) → StrsAre out.toList (setSort ns) → Q (.ref p) s') :
    wpAny (model P w) A (call (.builtin "sorted") [.ref a]) Q E s := by
  obtain ⟨o, es, ep, t, ho, hex, hd, g, nd, hm, hb, hf, hn, hr, hl⟩ := R
  refine Calls.call_function_entry kind_sorted plain_sorted entry_sorted (args_sorted1 _) ?_
  unfold Builtin.«sorted»
  refine wpAny_bind (m := checkCount "sorted" 1 1 _) (wpAny_pure ?_)
  refine wpAny_bind (L2.collect_set (A := A.in1) hh ⟨o, ho, hex.1, hd⟩ hf hb hr hl fun s1 vs k1 hz1 g1 o1 pm => ?_)
  have hvl : vs.length = n := by rw [pm.length_eq, List.length_map, Array.length_toList]; exact hn
  have hI : StrsAre vs (vs.map fun v => tKey ((0 : Int), v)) := strs_ofT vs fun v hv => by
    obtain ⟨e, he, q⟩ := List.mem_map.mp (pm.mem_iff.mp hv)
    obtain ⟨k, tk, h1, _⟩ := g e he
    exact ⟨k, tk, by rw [← q]; exact h1⟩
  have pk : (vs.map fun v => tKey ((0 : Int), v)).Perm (es.toList.map tKey) := by
    have q := pm.map fun v => tKey ((0 : Int), v)
    rw [List.map_map] at q
    exact q
  have hx : sortT (vs.map fun v => tKey ((0 : Int), v)) = setSort ns := by
    have pp : (vs.map fun v => tKey ((0 : Int), v)).Perm (dedT ns) := perm_nodup _ _ (pk.nodup_iff.mpr nd) (nodup_dedT ns) fun k => by
      rw [pk.mem_iff, ← hm k, mem_dedT, decide_eq_true_eq]
    exact sorted_one (fun a b => leS_anti) ((sortT_perm _).trans (pp.trans (sortT_perm _).symm)) (sortT_sorted _) (sortT_sorted _)
  refine wpAny_bind (wpAny_newList ?_ (by rw [hvl]; exact hz))
  have hoL : (s1.heap.push (seqObj "list" vs.toArray 0)).get? s1.heap.objs.size = some (seqObj "list" vs.toArray 0) := Heap.get?_push_size _ rfl
  refine wpAny_bind (wpAny_holding (wpAny_call_entry slot_list_sort ⟨_, hoL, rfl⟩ entry_list_sort ?_ (args_list_sort _)))
  refine SrtO.list_sort_ord swo_str hoL (by rw [hvl]; exact hz) (fun h2 => strs_sortable hI h2) fun out e1 e2 => ⟨_, rfl, ?_⟩
  have gg := strs_outF hI e1 e2
  rw [hx] at gg
  obtain ⟨c, hc⟩ := sortedHeap_at (vs := vs) (out := out.toArray) hoL
  refine wpAny_pure ⟨_, rfl, hQ _ s1.heap.objs.size out.toArray c (fun b u e => ?_) g1 o1 hz1 hc gg⟩
  have q := k1 b u e
  have hlt := Heap.lt_size q
  show (sortedHeap (s1.heap.push (seqObj "list" vs.toArray 0)) s1.heap.objs.size vs out.toArray).get? b = some u
  rw [sortedHeap_old (Nat.ne_of_lt hlt) (by rw [size_push']; exact Nat.lt_succ_of_lt hlt)]
  exact Heap.get?_push_of_some _ q
end
section
variable {X : Cx}
def tSortSet (K : PySem.W.Frag) (ta : TE) : TE := fun σ H Q => ta σ H fun x H1 => ∃ l, ∃ xs : List Str, x = .ref l ∧ SqL K H1 l (xs.map V.str) ∧ xs.length + 1 < scanBound ∧ (∀ p, H1 p = none → Q (.ref p) (upd H1 p (.lst ((setSort xs).map V.str))))
theorem room_scan : 1001 < scanBound := by decide
theorem pe_sortSet {a : Expr} {ta : TE} {p p2 q pos : Pos} (hc : X.calm = true) (hg : Gl X "sorted") (hm : X.mg "sorted" = none) (hv : bootBuiltins "sorted" = some (.builtin "sorted")) (hg2 : Gl X "set") (hm2 : X.mg "set" = none) (ha : PE X a ta)
    (na : starEach [a] X.env = (false, eval a X.env) :: starEach [] X.env := by rfl) : PE X (.Call (.Name "sorted" p) [.Call (.Name "set" p2) [a] [] q] [] pos) (tSortSet X.K ta) := by
  refine ⟨fun pins s σ H Q I h => ?_⟩
  refine Call_ (ld_blt I hg hm hv ?_)
  refine PyProof.Rows.callWith_builtin1 (PyProof.Rows.args_cons ?_ rfl) rfl rfl
  refine Call_ (ld_blt I hg2 hm2 boot_set ?_)
  refine PyProof.Rows.callWith_type1 (PyProof.Rows.args_cons (thn (ha.run pins s σ H _ I h) fun v s1 ⟨x, H1, I1, r1, q1⟩ => PyProof.Rows.args_nil ?_) na) na rfl
  obtain ⟨l, xs, rfl, hq, hsb, q1⟩ := q1
  cases r1
  obtain ⟨its, r, pl, hz⟩ := I1.list hq
  have hxz : xs.length ≤ sizeLine := by simpa using hz
  refine call_set_strs xs (I1.ok.hd hc) pl.isList (by simpa using strsAre_of r) hsb fun h' tk c hS hcl hk => ?_
  have I2 : Inv X pins σ H1 { s1 with heap := h', toks := tk } := I1.kept fun b o e => hk b o e
  refine PyProof.Rows.args_nil ?_
  refine sorted_setT (s := { s1 with heap := h', toks := tk }) hS (I1.ok.hd hc) (by omega) fun s' p' out c' k g o hp hg' hi => ?_
  have hlen : ((setSort xs).map V.str).length ≤ sizeLine := by
    rw [List.length_map]
    have := len_setSort xs
    omega
  have hn : H1 p' = none := I2.hok.fresh hp
  have J : Inv X pins σ (upd H1 p' (.lst ((setSort xs).map V.str))) { ({ s1 with heap := h', toks := tk } : Shared) with heap := s'.heap, gens := s'.gens, drawn := s'.drawn, toks := s'.toks } :=
    I2.call (ch := []) (Un.laid k hp hn) (I2.hok.laid k hp ⟨hlen, out.toList, c', vals_of_strs hi, hg'⟩) (by rw [g]; exact I2.bare) (fun _ z => nomatch z)
  have e : s' = { ({ s1 with heap := h', toks := tk } : Shared) with heap := s'.heap, gens := s'.gens, drawn := s'.drawn, toks := s'.toks } := by
    cases s'
    cases s1
    cases o
    rfl
  rw [e]
  exact ⟨.ref p', _, J, rfl, q1 p' hn⟩
end
section
variable {nm : Nms} {X : Cx}
noncomputable def mSortSet (new : Bool) (me : EM) : EM := fun e S => (me e S).bind fun d S1 => match lstOf S1 d with
  | some xs => match BS.strsOf xs with
    | some zs => if zs.length < 1000 then fin new ((setSort zs).map .str) S1 else .stuck
    | none => .stuck
  | none => .stuck
theorem me_sortSet {a : Expr} {ma : EM} {p p2 q pos : Pos} (new : Bool) (hc : X.calm = true) (hg : GlN X "sorted") (hm : X.mg "sorted" = none) (hv : bootBuiltins "sorted" = some (.builtin "sorted")) (hg2 : GlN X "set") (hm2 : X.mg "set" = none) (ha : ME nm X a ma)
    (na : starEach [a] X.env = (false, eval a X.env) :: starEach [] X.env := by rfl) : ME nm X (.Call (.Name "sorted" p) [.Call (.Name "set" p2) [a] [] q] [] pos) (mSortSet new ma) :=
  ⟨fun W tk => (pe_sortSet hc hg.g hm hv hg2.g hm2 (ha.run W tk) na).imp fun σ H Q h => by
    obtain ⟨e, S, μ, E, s, q⟩ := h
    refine ⟨e, S, μ, E, s, (Post.bind q).mono fun d S1 μ1 H1 x1 s1 p1 v rv => ?_⟩
    split at p1
    · rename_i xs hl
      split at p1
      · rename_i zs hb
        split at p1
        · rename_i h1k
          obtain ⟨l, ys, rfl, hs, r2⟩ := lstOf_sq s1 rv hl
          exact ⟨l, zs, rfl, by rw [← strsOf_rv r2 hb]; exact hs, by have := room_scan; omega, fun q' hp => fin_post s1 (rvs_strsD _) hp p1⟩
        · exact False.elim p1
      · exact False.elim p1
    · exact False.elim p1⟩
end
end BS
namespace BS
open PySem PySem.Spec PyProof.Rows L2
@[simp] theorem mVar_ev (i : Nat) (e : Ev) (S : Store) : mVar i e S = match e.sl[i]? with
  | some (some d) => .ok d S
  | _ => .stuck := rfl
@[simp] theorem mC_ev (d : D) (z0 : Ev) (S : Store) : mC d z0 S = .ok d S := rfl
@[simp] theorem mBin_ev (f : Store → D → D → Option D) (a b : EM) (e : Ev) (S : Store) : mBin f a b e S = (a e S).bind fun x S => (b e S).bind fun y S => lift2 f S x y := rfl
@[simp] theorem mUn_ev (f : Store → D → Option D) (a : EM) (e : Ev) (S : Store) : mUn f a e S = (a e S).bind fun x S => match f S x with
  | some d => .ok d S
  | none => .stuck := rfl
@[simp] theorem mBl_ev (m : EM) (e : Ev) (S : Store) : mBl m e S = (m e S).bind fun d S => match asB d with
  | some b => .ok b S
  | none => .stuck := rfl
@[simp] theorem mChain_ev (f g : Store → D → D → Option D) (a b c : EM) (e : Ev) (S : Store) : mChain f g a b c e S = (a e S).bind fun x S => (b e S).bind fun y S => (lift2 f S x y).bind fun z S => match asB z with
  | some true => (c e S).bind fun w S => lift2 g S y w
  | some false => .ok (.bl false) S
  | none => .stuck := rfl
@[simp] theorem mAnd_ev (a b : TM) (e : Ev) (S : Store) : mAnd a b e S = (a e S).bind fun k S => if k = true then b e S else .ok false S := rfl
@[simp] theorem mOr_ev (a b : TM) (e : Ev) (S : Store) : mOr a b e S = (a e S).bind fun k S => if k = true then .ok true S else b e S := rfl
@[simp] theorem mNot_ev (a : TM) (e : Ev) (S : Store) : mNot a e S = (a e S).bind fun k S => .ok (!k) S := rfl
@[simp] theorem mAndV_ev (a b : EM) (e : Ev) (S : Store) : mAndV a b e S = (a e S).bind fun d S => match asB d with
  | some true => b e S
  | some false => .ok (.bl false) S
  | none => .stuck := rfl
@[simp] theorem mOrV_ev (a b : EM) (e : Ev) (S : Store) : mOrV a b e S = (a e S).bind fun d S => match asB d with
  | some false => b e S
  | some true => .ok (.bl true) S
  | none => .stuck := rfl
@[simp] theorem mNotV_ev (a : EM) (e : Ev) (S : Store) : mNotV a e S = (a e S).bind fun d S => match asB d with
  | some k => .ok (.bl (!k)) S
  | none => .stuck := rfl
@[simp] theorem mIf_ev (c : TM) (a b : EM) (e : Ev) (S : Store) : mIf c a b e S = (c e S).bind fun k S => if k = true then a e S else b e S := rfl
@[simp] theorem mNil_ev (z0 : Ev) (S : Store) : mNil z0 S = .ok [] S := rfl
@[simp] theorem mCons_ev (m : EM) (r : AM) (e : Ev) (S : Store) : mCons m r e S = (m e S).bind fun d S => (r e S).bind fun ds S => .ok (d :: ds) S := rfl
@[simp] theorem mTup_ev (m : AM) (e : Ev) (S : Store) : mTup m e S = (m e S).bind fun ds S => .ok (.tup ds) S := rfl
@[simp] theorem mLst_ev (new : Bool) (m : AM) (e : Ev) (S : Store) : mLst new m e S = (m e S).bind fun ds S => fin new ds S := rfl
@[simp] theorem mDct_ev (z0 : Ev) (S : Store) : mDct z0 S = .ok (.obj S.length) (S ++ [.dct []]) := rfl
@[simp] theorem oNo_ev (z0 : Ev) (S : Store) : oNo z0 S = .ok none S := rfl
@[simp] theorem oAt_ev (m : EM) (e : Ev) (S : Store) : oAt m e S = (m e S).bind fun d S => match d with
  | .int i => .ok (some i) S
  | _ => .stuck := rfl
@[simp] theorem mSl_ev (new : Bool) (a : EM) (lo hi : OM) (e : Ev) (S : Store) : mSl new a lo hi e S = (a e S).bind fun x S => (lo e S).bind fun l S => (hi e S).bind fun h S => slS new S x l h := rfl
@[simp] theorem mCall_ev (F : FM) (as : AM) (e : Ev) (S : Store) : mCall F as e S = (as e S).bind F := rfl
@[simp] theorem mMeth_ev (c : Nat) (F : FM) (o : EM) (as : AM) (e : Ev) (S : Store) : mMeth c F o as e S = (o e S).bind fun x S => if isIns c S x = true then (as e S).bind fun ds S => F (x :: ds) S else .stuck := rfl
@[simp] theorem mNew_ev (c : Nat) (F : FM) (as : AM) (e : Ev) (S : Store) : mNew c F as e S = (as e S).bind fun ds S => (F (.obj S.length :: ds) (S ++ [.ins c []])).bind fun d S' => if isNon d = true then .ok (.obj S.length) S' else .stuck := rfl
@[simp] theorem mSkip_ev (e : Ev) (S : Store) : mSkip e S = .nx e S := rfl
@[simp] theorem mSeq_ev (a b : SM) (e : Ev) (S : Store) : mSeq a b e S = (a e S).seq b := rfl
@[simp] theorem mBrk_ev (e : Ev) (S : Store) : mBrk e S = .bk e S := rfl
@[simp] theorem mCnt_ev (e : Ev) (S : Store) : mCnt e S = .ct e S := rfl
@[simp] theorem mExpr_ev (m : EM) (e : Ev) (S : Store) : mExpr m e S = (m e S).toS e fun _ S => .nx e S := rfl
@[simp] theorem mRet_ev (m : EM) (e : Ev) (S : Store) : mRet m e S = (m e S).toS e fun d S => .rt d S := rfl
@[simp] theorem mRetN_ev (z0 : Ev) (S : Store) : mRetN z0 S = .rt .non S := rfl
@[simp] theorem mIfS_ev (c : TM) (a b : SM) (e : Ev) (S : Store) : mIfS c a b e S = (c e S).toS e fun k S => if k = true then a e S else b e S := rfl
@[simp] theorem gNm_ev (i : Nat) (d : D) (e : Ev) (S : Store) : gNm i d e S = .nx (e.set i d) S := rfl
@[simp] theorem gTp_ev (n : Nat) (g : GsM) (d : D) (e : Ev) (S : Store) : gTp n g d e S = match tupOf d with
  | some ds => if ds.length = n then g ds e S else .stuck
  | none => .stuck := rfl
@[simp] theorem mAsg_ev (m : EM) (g : GM) (e : Ev) (S : Store) : mAsg m g e S = (m e S).toS e fun d S => g d e S := rfl
@[simp] theorem mPar_ev (i j : Nat) (m : AM) (e : Ev) (S : Store) : mPar i j m e S = (m e S).toS e fun ds S => match ds with
  | [a, b] => .nx ((e.set i a).set j b) S
  | _ => .stuck := rfl
@[simp] theorem mSetF_ev (cs : List Nat) (f : Nat) (o m : EM) (e : Ev) (S : Store) : mSetF cs f o m e S = (m e S).toS e fun y S => (o e S).toS e fun x S => match putF_ cs f S x y with
  | some S => .nx e S
  | none => .stuck := rfl
@[simp] theorem iLs_ev (m : EM) (e : Ev) (S : Store) : iLs m e S = (m e S).bind fun x S => wkS S x := rfl
@[simp] theorem iTp_ev (m : EM) (e : Ev) (S : Store) : iTp m e S = (m e S).bind fun x S => match tupOf x with
  | some ds => .ok ⟨ds, fun _ => True⟩ S
  | none => .stuck := rfl
@[simp] theorem iRng_ev (as : AM) (e : Ev) (S : Store) : iRng as e S = (as e S).bind fun ds S => match ds with
  | [.int j] => if rngOk j then .ok ⟨intsFrom 0 j.toNat, fun _ => True⟩ S else .stuck
  | [.int i, .int j] => if rngOk i ∧ rngOk j then .ok ⟨intsFrom i (j - i).toNat, fun _ => True⟩ S else .stuck
  | _ => .stuck := rfl
@[simp] theorem mFor_ev (it : IM) (g : GM) (b : SM) (e : Ev) (S : Store) : mFor it g b e S = (it e S).toS e fun w S => forL w.G g b w.ds e S := rfl
@[simp] theorem gSb_ev (o i : EM) (v : D) (e : Ev) (S : Store) : gSb o i v e S = (o e S).toS e fun x S => (i e S).toS e fun y S => match setS S x y v with
  | some S => .nx e S
  | none => .stuck := rfl
@[simp] theorem mAug_ev (i : Nat) (f : Store → D → D → Option D) (m : EM) (e : Ev) (S : Store) : mAug i f m e S = match e.sl[i]? with
  | some (some x) => (m e S).toS e fun y S => (lift2 f S x y).toS e fun z S => .nx (e.set i z) S
  | _ => .stuck := rfl
@[simp] theorem mAugF_ev (c : Nat) (f : Nat) (g : Store → D → D → Option D) (o m : EM) (e : Ev) (S : Store) : mAugF c f g o m e S = (o e S).toS e fun x S => match getF [c] f S x with
  | some y => (m e S).toS e fun z S => (lift2 g S y z).toS e fun w S => match putF_ [c] f S x w with
    | some S => .nx e S
    | none => .stuck
  | none => .stuck := rfl
@[simp] theorem mDel_ev (o i : EM) (e : Ev) (S : Store) : mDel o i e S = (o e S).toS e fun x S => (i e S).toS e fun y S => match delS S x y with
  | some S => .nx e S
  | none => .stuck := rfl
@[simp] theorem mRaise0_ev (c : Nat) (e : Ev) (S : Store) : mRaise0 c e S = .exc c [] e S := rfl
@[simp] theorem mNever_ev (z0 : Ev) (z1 : Store) : mNever z0 z1 = .stuck := rfl
@[simp] theorem mTry_ev (yes no : List Nat) (b s : SM) (e : Ev) (S : Store) : mTry yes no b s e S = (b e.clr S).caught yes no fun _ _ e S => (s e S).nox := rfl
@[simp] theorem mTryAs_ev (i : Nat) (yes no : List Nat) (b s : SM) (e : Ev) (S : Store) : mTryAs i yes no b s e S = (b e.clr S).caught yes no fun c fs e S => if i < e.sl.length then (s (e.exn i c fs) S).gone i else .stuck := rfl
@[simp] theorem fnInt_ev (ds : List D) (S : Store) : fnInt ds S = match ds with
  | [.int i] => .ok (.int i) S
  | [.bl b] => .ok (.int (if b = true then 1 else 0)) S
  | [.str a] => match PySem.intText? a with
    | some n => if a.length ≤ 640 then .ok (.int n) S else .stuck
    | none => .stuck
  | _ => .stuck := rfl
@[simp] theorem fnLen_ev (ds : List D) (S : Store) : fnLen ds S = match ds with
  | [d] => match lenS S d with
    | some n => .ok (.int n) S
    | none => .stuck
  | _ => .stuck := rfl
@[simp] theorem fnList_ev (new : Bool) (ds : List D) (S : Store) : fnList new ds S = match ds with
  | [d] => match seqOf S d with
    | some ds => fin new ds S
    | none => .stuck
  | _ => .stuck := rfl
@[simp] theorem fnTuple_ev (ds : List D) (S : Store) : fnTuple ds S = match ds with
  | [.tup ds] => .ok (.tup ds) S
  | [d] => match lstOf S d with
    | some ds => .ok (.tup ds) S
    | none => .stuck
  | _ => .stuck := rfl
@[simp] theorem fnAbs_ev (ds : List D) (S : Store) : fnAbs ds S = match ds with
  | [.int i] => .ok (.int (if i < 0 then -i else i)) S
  | _ => .stuck := rfl
@[simp] theorem fnStr_ev (ds : List D) (S : Store) : fnStr ds S = match ds with
  | [.int i] => if i.natAbs.log2 < 1920 then .ok (.str (Str.ofString (toString i))) S else .stuck
  | _ => .stuck := rfl
@[simp] theorem fnOrd_ev (ds : List D) (S : Store) : fnOrd ds S = match ds with
  | [.str z] => if z.length = 1 then .ok (.int (z.cps.getD 0 0 : Nat)) S else .stuck
  | _ => .stuck := rfl
@[simp] theorem mBm_ev (T : Ty) (F : FM) (o : EM) (as : AM) (e : Ev) (S : Store) : mBm T F o as e S = (o e S).bind fun x S => match tyS S x with
  | some t => if isTy t T = true then (as e S).bind fun ds S => F (x :: ds) S else .stuck
  | none => .stuck := rfl
@[simp] theorem fnAppend_ev (ds : List D) (S : Store) : fnAppend ds S = match ds with
  | [.obj n, d] => match S[n]? with
    | some (.lst ds) => if ds.length < sizeLine then .ok .non (S.set n (.lst (ds ++ [d]))) else .stuck
    | _ => .stuck
  | _ => .stuck := rfl
@[simp] theorem fnExtend_ev (ds : List D) (S : Store) : fnExtend ds S = match ds with
  | [.obj n, d] => match S[n]? with
    | some (.lst ds) => match d with
      | .scr _ => .stuck
      | _ => match lstOf S d with
        | some es => if ds.length + es.length ≤ sizeLine then .ok .non (S.set n (.lst (ds ++ es))) else .stuck
        | none => .stuck
    | _ => .stuck
  | _ => .stuck := rfl
@[simp] theorem fnPopL_ev (ds : List D) (S : Store) : fnPopL ds S = match ds with
  | [.obj n, .int i] => match S[n]? with
    | some (.lst ds) => match ixN ds.length i with
      | some k => match ds[k]? with
        | some d => if i < 2 ^ 62 then .ok d (S.set n (.lst (ds.eraseIdx k))) else .stuck
        | none => .stuck
      | none => .stuck
    | _ => .stuck
  | _ => .stuck := rfl
@[simp] theorem mXf_ev (i c f : Nat) (e : Ev) (S : Store) : mXf i c f e S = match getX e.ex i c f with
  | some d => .ok d S
  | none => .stuck := rfl
@[simp] theorem mRaise2_ev (c f1 f2 : Nat) (as : AM) (e : Ev) (S : Store) : mRaise2 c f1 f2 as e S = (as e S).toS e fun ds S => match ds with
  | [x, y] => .exc c [(f2, y), (f1, x)] e S
  | _ => .stuck := rfl
@[simp] theorem iAny_ev (m : EM) (e : Ev) (S : Store) : iAny m e S = (m e S).bind fun x S => wkA S x := rfl
@[simp] theorem fnMax2_ev (ds : List D) (S : Store) : fnMax2 ds S = match ds with
  | [.int i, .int j] => .ok (.int (if i < j then j else i)) S
  | [.str a, .str b] => .ok (.str (if ltS a b = true then b else a)) S
  | _ => .stuck := rfl
@[simp] theorem fnMin2_ev (ds : List D) (S : Store) : fnMin2 ds S = match ds with
  | [.int i, .int j] => .ok (.int (if j < i then j else i)) S
  | [.str a, .str b] => .ok (.str (if ltS b a = true then b else a)) S
  | _ => .stuck := rfl
@[simp] theorem mDisp_ev (ms : List (EM × EM)) (e : Ev) (S : Store) : mDisp ms e S = (evalPs ms e (S ++ [.dct []])).bind fun ps S2 => match keysOf ps with
  | some kvs => match S2[S.length]? with
    | some (.dct []) => if kvs.length ≤ 15 then .ok (.obj S.length) (S2.set S.length (.dct (mergeD kvs))) else .stuck
    | _ => .stuck
  | none => .stuck := rfl
@[simp] theorem fnGet2_ev (ds : List D) (S : Store) : fnGet2 ds S = match ds with
  | [x, k, d] => match dctOf S x with
    | some kvs => match keyOf k with
      | some key => .ok ((getK kvs key).getD d) S
      | none => .stuck
    | none => .stuck
  | _ => .stuck := rfl
@[simp] theorem mTru_ev (m : EM) (e : Ev) (S : Store) : mTru m e S = (m e S).bind fun d S => match truS S d with
  | some b => .ok b S
  | none => .stuck := rfl
@[simp] theorem mTabIn_ev (neg : Bool) (kvs : List (Key × D)) (m : EM) (e : Ev) (S : Store) : mTabIn neg kvs m e S = (m e S).bind fun d S => match keyOf d with
  | some k => .ok (if neg = true then !(getK kvs k).isSome else (getK kvs k).isSome) S
  | none => .stuck := rfl
@[simp] theorem mTabGet_ev (kvs : List (Key × D)) (m : EM) (e : Ev) (S : Store) : mTabGet kvs m e S = (m e S).bind fun d S => match keyOf d with
  | some k => match getK kvs k with
    | some d => .ok d S
    | none => .stuck
  | none => .stuck := rfl
@[simp] theorem mCat_ev (new : Bool) (a b : EM) (e : Ev) (S : Store) : mCat new a b e S = (a e S).bind fun x S => (b e S).bind fun y S => catS new S x y := rfl
@[simp] theorem mRep_ev (new : Bool) (a b : EM) (e : Ev) (S : Store) : mRep new a b e S = (a e S).bind fun x S => (b e S).bind fun y S => repS new S x y := rfl
@[simp] theorem mYes_ev (z0 : Ev) (S : Store) : mYes z0 S = .ok true S := rfl
@[simp] theorem mLc_ev (vs : List Nat) (t : LT) (it : IM) (tt : TM) (el : EM) (e : Ev) (S : Store) : mLc vs t it tt el e S = (it e S).bind fun w S1 => (lcL S1.length w.G t (e.wip vs) tt el w.ds (S1 ++ [.lst []])).bind fun _ S2 => .ok (.obj S1.length) S2 := rfl
@[simp] theorem fnAll_ev (ds : List D) (S : Store) : fnAll ds S = match ds with
  | [d] => match lstOf S d with
    | some xs => match blsOf xs with
      | some bs => .ok (.bl (bs.all id)) S
      | none => .stuck
    | none => .stuck
  | _ => .stuck := rfl
@[simp] theorem fnAny_ev (ds : List D) (S : Store) : fnAny ds S = match ds with
  | [d] => match lstOf S d with
    | some xs => match blsOf xs with
      | some bs => .ok (.bl (bs.any id)) S
      | none => .stuck
    | none => .stuck
  | _ => .stuck := rfl
@[simp] theorem mIsE_ev (i : Nat) (yes no : List Nat) (e : Ev) (S : Store) : mIsE i yes no e S = match isX e.ex i yes no with
  | some b => .ok (.bl b) S
  | none => .stuck := rfl
@[simp] theorem fnPopD_ev (ds : List D) (S : Store) : fnPopD ds S = match ds with
  | [.obj n, k] => popS S n k none
  | [.obj n, k, x] => popS S n k (some x)
  | _ => .stuck := rfl
@[simp] theorem fnDict_ev (ds : List D) (S : Store) : fnDict ds S = match ds with
  | [d] => match dctOf S d with
    | some kvs => .ok (.obj S.length) (S ++ [.dct kvs])
    | none => .stuck
  | _ => .stuck := rfl
@[simp] theorem fnSorted_ev (new : Bool) (ds : List D) (S : Store) : fnSorted new ds S = match ds with
  | [d] => match lstOf S d with
    | some xs => match BS.intsOf xs with
      | some ns => fin new ((sortI ns).map .int) S
      | none => match BS.strsOf xs with
        | some zs => if zs.length < 64 then fin new ((sortT zs).map .str) S else .stuck
        | none => .stuck
    | none => match dctOf S d with
      | some kvs => match keysI kvs with
        | some ns => if ns.length < 64 then fin new ((sortI ns).map .int) S else .stuck
        | none => match keysT kvs with
          | some zs => fin new ((sortT zs).map .str) S
          | none => .stuck
      | none => .stuck
  | _ => .stuck := rfl
@[simp] theorem mPar3_ev (i j l : Nat) (m : AM) (e : Ev) (S : Store) : mPar3 i j l m e S = (m e S).toS e fun ds S => match ds with
  | [a, b, c] => .nx (((e.set i a).set j b).set l c) S
  | _ => .stuck := rfl
@[simp] theorem mForK_ev (i : EM) (g : GM) (b : SM) (e : Ev) (S : Store) : mForK i g b e S = match i e S with
  | .ok (.obj n) _ => match S[n]? with
    | some (.dct kvs) => RS.unl n ((i e (S.set n (.lck kvs))).toS e fun x S1 => match x with
      | .obj m => if m = n then (match S1[n]? with
        | some (.lck ks) => forL (fun _ => True) g b (ks.map fun kv => dkey kv.1) e S1
        | _ => .stuck) else .stuck
      | _ => .stuck)
    | _ => .stuck
  | _ => .stuck := rfl
@[simp] theorem fnSortedR_ev (new : Bool) (ds : List D) (S : Store) : fnSortedR new ds S = match ds with
  | [d] => match dctOf S d with
    | some kvs => match keysT kvs with
      | some zs => fin new ((sortT zs).reverse.map .str) S
      | none => .stuck
    | none => .stuck
  | _ => .stuck := rfl
@[simp] theorem mRev_ev (new : Bool) (a : EM) (e : Ev) (S : Store) : mRev new a e S = (a e S).bind fun x S => slRev new S x := rfl
@[simp] theorem fnGet1_ev (ds : List D) (S : Store) : fnGet1 ds S = match ds with
  | [x, k] => match dctOf S x with
    | some kvs => match keyOf k with
      | some key => .ok ((getK kvs key).getD .non) S
      | none => .stuck
    | none => .stuck
  | _ => .stuck := rfl
@[simp] theorem fnFind1_ev (ds : List D) (S : Store) : fnFind1 ds S = match ds with
  | [.str a, .str b] => .ok (.int (Txt.find a b)) S
  | _ => .stuck := rfl
@[simp] theorem fnFind2_ev (ds : List D) (S : Store) : fnFind2 ds S = match ds with
  | [.str a, .str b, .int i] => .ok (.int (Txt.find3 a b i)) S
  | _ => .stuck := rfl
@[simp] theorem fnStartswith_ev (ds : List D) (S : Store) : fnStartswith ds S = match ds with
  | [.str a, .str b] => .ok (.bl (Txt.startswith a b)) S
  | _ => .stuck := rfl
@[simp] theorem fnJoin_ev (ds : List D) (S : Store) : fnJoin ds S = match ds with
  | [.str a, d] => match seqOf S d with
    | some ds => match txtsOf ds with
      | some ys => if (ys.map (·.length)).sum + ys.length * a.length ≤ 16777216 then .ok (.str (Str.join a ys)) S else .stuck
      | none => .stuck
    | none => .stuck
  | _ => .stuck := rfl
@[simp] theorem mRepl_ev (y z : Str) (mo : EM) (e : Ev) (S : Store) : mRepl y z mo e S = (mo e S).bind fun d S => match d with
  | .str x => if x.length + (x.length + 1) * z.length ≤ 16777216 then .ok (.str (Txt.replace x y z)) S else .stuck
  | _ => .stuck := rfl
@[simp] theorem mFmt_ev (m : EM) (e : Ev) (S : Store) : mFmt m e S = (m e S).bind fun d S => match d with
  | .str y => if y.length ≤ sizeLine then .ok (.str y) S else .stuck
  | .int i => if i.natAbs.log2 < 1920 then .ok (.str (Str.ofString (toString i))) S else .stuck
  | _ => .stuck := rfl
@[simp] theorem mJoined_ev (m : JM) (e : Ev) (S : Store) : mJoined m e S = m Str.empty e S := rfl
@[simp] theorem mTry2_ev (i : Nat) (y1 n1 y2 n2 : List Nat) (b s1 s2 : SM) (e : Ev) (S : Store) : mTry2 i y1 n1 y2 n2 b s1 s2 e S = (b e.clr S).caught (y1 ++ n1) [] fun c fs e S => if y1.contains c = true then (if i < e.sl.length then (s1 (e.exn i c fs) S).gone i else .stuck) else if y2.contains c = true then (s2 e S).nox else if n2.contains c = true then .exc c fs e S else .stuck := rfl
@[simp] theorem mAugI_ev (f : Store → D → D → Option D) (o i m : EM) (e : Ev) (S : Store) : mAugI f o i m e S = (o e S).toS e fun x S => (i e S).toS e fun y S => match fIxA S x y with
  | some z => (m e S).toS e fun u S => (lift2 f S z u).toS e fun v S => match setS S x y v with
    | some S => .nx e S
    | none => .stuck
  | none => .stuck := rfl
@[simp] theorem fnIndex_ev (ds : List D) (S : Store) : fnIndex ds S = match ds with
  | [x, .int k] => match lstOf S x with
    | some es => match BS.intsOf es with
      | some ns => match idxI ns k with
        | some j => .ok (.int j) S
        | none => .stuck
      | none => .stuck
    | none => .stuck
  | _ => .stuck := rfl
@[simp] theorem fnMM_ev (g : List Int → Int) (ds : List D) (S : Store) : fnMM g ds S = match ds with
  | [x] => match lstOf S x with
    | some es => match BS.intsOf es with
      | some ns => if 0 < ns.length then .ok (.int (g ns)) S else .stuck
      | none => .stuck
    | none => .stuck
  | _ => .stuck := rfl
@[simp] theorem mLcX_ev (vs : List Nat) (t : LT) (it : IM) (tt : TM) (el : EM) (e : Ev) (S : Store) : mLcX vs t it tt el e S = (it e S).bind fun w S1 => (lcLX S1.length w.G t (e.wip vs) tt el w.ds (S1 ++ [.lst []])).bind fun _ S2 => .ok (.obj S1.length) S2 := rfl
@[simp] theorem gFd_ev (cs : List Nat) (f : Nat) (o : EM) (d : D) (e : Ev) (S : Store) : gFd cs f o d e S = (o e S).toS e fun x S => match putF_ cs f S x d with
  | some S => .nx e S
  | none => .stuck := rfl
@[simp] theorem mSortSet_ev (new : Bool) (me : EM) (e : Ev) (S : Store) : mSortSet new me e S = (me e S).bind fun d S1 => match lstOf S1 d with
  | some xs => match BS.strsOf xs with
    | some zs => if zs.length < 1000 then fin new ((setSort zs).map .str) S1 else .stuck
    | none => .stuck
  | none => .stuck := rfl
@[simp] theorem mSet_ev (i : Nat) (m : EM) (e : Ev) (S : Store) : mSet i m e S = (m e S).toS e fun d S => .nx (e.set i d) S := rfl
@[simp] theorem mSetI_ev (m o i : EM) (e : Ev) (S : Store) : mSetI m o i e S = (m e S).toS e fun d S => gSb o i d e S := rfl
@[simp] theorem mIx_ev (a b : EM) (e : Ev) (S : Store) : mIx a b e S = (a e S).bind fun x S => (b e S).bind fun y S => lift2 fIx S x y := rfl
@[simp] theorem mFld_ev (cs : List Nat) (f : Nat) (o : EM) (e : Ev) (S : Store) : mFld cs f o e S = mUn (getF cs f) o e S := rfl
@[simp] theorem mIsi_ev (T : Ty) (a : EM) (e : Ev) (S : Store) : mIsi T a e S = mUn (fun S d => (tyS S d).map fun t => .bl (isTy t T)) a e S := rfl
@[simp] theorem den_app (n : Nat) (m : SM) (ds : List D) (S : Store) : den n m ds S = match m ⟨ds.map some ++ List.replicate (n - ds.length) none, []⟩ S with
  | .nx _ S => .ok .non S
  | .rt d S => .ok d S
  | .exc c fs _ S => .exc c fs S
  | _ => .stuck := rfl
@[simp] theorem mjNil_ev (acc : Str) (e : Ev) (S : Store) : mjNil acc e S = .ok (.str acc) S := rfl
@[simp] theorem mjCons_ev (m : EM) (r : JM) (acc : Str) (e : Ev) (S : Store) : mjCons m r acc e S = (m e S).bind fun d S => match d with
  | .str y => if (acc ++ y).length ≤ sizeLine then r (acc ++ y) e S else .stuck
  | _ => .stuck := rfl
end BS
namespace BS
open PySem PySem.Spec PyProof.Rows L2
@[simp] theorem eqS_str (S : Store) (a b : Str) : eqS S (.str a) (.str b) = some (decide (a = b)) := by
  simp [eqS, small, py, pyF, PyData.plain, PyData.depth, PyData.eqv]; by_cases h : a = b <;> simp [h]
@[simp] theorem eqS_int (S : Store) (a b : Int) : eqS S (.int a) (.int b) = some (decide (a = b)) := by
  simp [eqS, small, py, pyF, PyData.plain, PyData.depth, PyData.eqv]; by_cases h : a = b <;> simp [h]
@[simp] theorem eqS_bl (S : Store) (a b : Bool) : eqS S (.bl a) (.bl b) = some (decide (a = b)) := by
  cases a <;> cases b <;> simp [eqS, small, py, pyF, PyData.plain, PyData.depth, PyData.eqv]
@[simp] theorem eqS_non (S : Store) : eqS S .non .non = some true := by
  simp [eqS, small, py, pyF, PyData.plain, PyData.depth, PyData.eqv]
/-- data with no object in it, at most n deep -/
structure Fl (n : Nat) (d : D) : Prop where
  pl : ∀ f, (pyF f d).plain = true
  dp : ∀ f, (pyF f d).depth ≤ n
  eq : ∀ f g, pyF f d = pyF g d
structure FlS (n : Nat) (ds : List D) : Prop where
  pl : ∀ f, PyData.plainAll (pyFs f ds) = true
  dp : ∀ f, PyData.depthAll (pyFs f ds) ≤ n
  eq : ∀ f g, pyFs f ds = pyFs g ds
theorem Fl.non {n : Nat} : Fl n .non := ⟨fun _ => rfl, fun _ => Nat.zero_le _, fun _ _ => rfl⟩
theorem Fl.bl {n : Nat} (b : Bool) : Fl n (.bl b) := ⟨fun _ => rfl, fun _ => by simp [pyF, PyData.depth], fun _ _ => rfl⟩
theorem Fl.int {n : Nat} (b : Int) : Fl n (.int b) := ⟨fun _ => rfl, fun _ => by simp [pyF, PyData.depth], fun _ _ => rfl⟩
theorem Fl.str {n : Nat} (b : Str) : Fl n (.str b) := ⟨fun _ => rfl, fun _ => by simp [pyF, PyData.depth], fun _ _ => rfl⟩
theorem FlS.nil {n : Nat} : FlS n [] := ⟨fun _ => rfl, fun _ => by simp [pyFs, PyData.depthAll], fun _ _ => rfl⟩
theorem FlS.cons {n : Nat} {d : D} {ds : List D} (h : Fl n d) (t : FlS n ds) : FlS n (d :: ds) :=
  ⟨fun f => by simp [pyFs, PyData.plainAll, h.pl f, t.pl f], fun f => by have := h.dp f; have := t.dp f; simp [pyFs, PyData.depthAll]; omega, fun f g => by simp only [pyFs]; rw [h.eq f g, t.eq f g]⟩
theorem Fl.tup {n : Nat} {ds : List D} (h : FlS n ds) : Fl (n + 1) (.tup ds) :=
  ⟨fun f => by simp [pyF, PyData.plain, h.pl f], fun f => by have := h.dp f; simp [pyF, PyData.depth]; omega, fun f g => by simp only [pyF]; rw [h.eq f g]⟩
theorem Fl.lst {n : Nat} {ds : List D} (h : FlS n ds) : Fl (n + 1) (.lst ds) :=
  ⟨fun f => by simp [pyF, PyData.plain, h.pl f], fun f => by have := h.dp f; simp [pyF, PyData.depth]; omega, fun f g => by simp only [pyF]; rw [h.eq f g]⟩
theorem FlS.of {n : Nat} : ∀ {ds : List D}, (∀ d ∈ ds, Fl n d) → FlS n ds
  | [], _ => .nil
  | d :: ds, h => .cons (h d (by simp)) (.of fun x hx => h x (by simp [hx]))
theorem FlS.all {n : Nat} : ∀ {ds : List D}, FlS n ds → ∀ d ∈ ds, Fl n d
  | [], _, _, h => by simp at h
  | d :: ds, t, x, h => by
    have t1 : Fl n d := ⟨fun f => by have := t.pl f; simp [pyFs, PyData.plainAll] at this; exact this.1, fun f => by have := t.dp f; simp [pyFs, PyData.depthAll] at this; omega, fun f g => by have := t.eq f g; simp [pyFs] at this; exact this.1⟩
    have t2 : FlS n ds := ⟨fun f => by have := t.pl f; simp [pyFs, PyData.plainAll] at this; exact this.2, fun f => by have := t.dp f; simp [pyFs, PyData.depthAll] at this; omega, fun f g => by have := t.eq f g; simp [pyFs] at this; exact this.2⟩
    rcases List.mem_cons.mp h with rfl | h
    · exact t1
    · exact t2.all x h
theorem eqS_same {S : Store} {x y : D} (h : py S x = py S y) (p : (py S x).plain = true) (d : (py S x).depth < 100) : eqS S x y = some true := by
  unfold eqS
  rw [← h]
  simp [small, p, d, PySem.SeqAt.eqv_refl_plain]
theorem eqS_refl {n : Nat} (S : Store) {x : D} (h : Fl n x) (hn : n < 100 := by decide) : eqS S x x = some true :=
  eqS_same rfl (h.pl _) (Nat.lt_of_le_of_lt (h.dp _) hn)
/-- two lists of the store with the same items -/
theorem eqS_objs {n : Nat} {S : Store} {i j : Nat} {ds : List D} (hi : S[i]? = some (.lst ds)) (hj : S[j]? = some (.lst ds)) (h : FlS n ds) (hn : n < 99 := by decide) : eqS S (.obj i) (.obj j) = some true := by
  have e : ∀ k, S[k]? = some (.lst ds) → py S (.obj k) = .list (pyFs (pyk 2 S) ds) := fun k hk => by simp [py, pyF, pyk, hk]
  refine eqS_same (by rw [e i hi, e j hj]) ?_ ?_
  · rw [e i hi]; simp [PyData.plain, h.pl]
  · rw [e i hi]; have := h.dp (pyk 2 S); simp [PyData.depth]; omega
theorem eqS_objl {n : Nat} {S : Store} {i : Nat} {ds : List D} (hi : S[i]? = some (.lst ds)) (h : FlS n ds) (hn : n < 99 := by decide) : eqS S (.obj i) (.lst ds) = some true := by
  have e : py S (.obj i) = .list (pyFs (pyk 2 S) ds) := by simp [py, pyF, pyk, hi]
  refine eqS_same ?_ ?_ ?_
  · rw [e]; simp only [py, pyF]; rw [h.eq (pyk 2 S) (pyk 3 S)]
  · rw [e]; simp [PyData.plain, h.pl]
  · rw [e]; have := h.dp (pyk 2 S); simp [PyData.depth]; omega
theorem rng_ok {n : Nat} (h : n ≤ 1000000000) : rngOk (n : Int) := by
  unfold rngOk
  have e : (2 : Int) ^ 62 = 4611686018427387904 := by decide
  rw [e]; omega
theorem iRng1 {as : AM} {e : Ev} {S S' : Store} {j : Int} (h : as e S = .ok [.int j] S') (r : rngOk j) : iRng as e S = .ok ⟨BS.intsFrom 0 j.toNat, fun _ => True⟩ S' := by
  rw [iRng_ev, h]
  exact if_pos r
theorem iRng2 {as : AM} {e : Ev} {S S' : Store} {i j : Int} (h : as e S = .ok [.int i, .int j] S') (r1 : rngOk i) (r : rngOk j) : iRng as e S = .ok ⟨BS.intsFrom i (j - i).toNat, fun _ => True⟩ S' := by
  rw [iRng_ev, h]
  exact if_pos ⟨r1, r⟩
end BS
namespace BS
open PySem PySem.Spec PyProof.Rows L2
@[simp] theorem lift2_ev (f : Store → D → D → Option D) (S : Store) (x y : D) : lift2 f S x y = match f S x y with
  | some d => .ok d S
  | none => .stuck := rfl
@[simp] theorem fI_int (g : Int → Int → Option D) (S : Store) (i j : Int) : fI g S (.int i) (.int j) = g i j := rfl
@[simp] theorem fAdd_int (S : Store) (i j : Int) : fAdd S (.int i) (.int j) = some (.int (i + j)) := rfl
@[simp] theorem fAdd_str (S : Store) (a b : Str) : fAdd S (.str a) (.str b) = if a.length + b.length ≤ sizeLine then some (.str (a ++ b)) else none := rfl
@[simp] theorem fAdd_tup (S : Store) (a b : List D) : fAdd S (.tup a) (.tup b) = if a.length + b.length ≤ sizeLine then some (.tup (a ++ b)) else none := rfl
@[simp] theorem iAdd_int (S : Store) (i j : Int) : iAdd S (.int i) (.int j) = some (.int (i + j)) := rfl
@[simp] theorem iAdd_str (S : Store) (a b : Str) : iAdd S (.str a) (.str b) = if a.length + b.length ≤ sizeLine then some (.str (a ++ b)) else none := rfl
@[simp] theorem fCmp_int (g h) (S : Store) (i j : Int) : fCmp g h S (.int i) (.int j) = some (.bl (g i j)) := rfl
@[simp] theorem fCmp_str (g h) (S : Store) (i j : Str) : fCmp g h S (.str i) (.str j) = some (.bl (h i j)) := rfl
@[simp] theorem fEq_ev (S : Store) (x y : D) : fEq S x y = (eqS S x y).map .bl := rfl
@[simp] theorem fNe_ev (S : Store) (x y : D) : fNe S x y = (eqS S x y).map fun b => .bl (!b) := rfl
@[simp] theorem fIs_ev (S : Store) (x y : D) : fIs S x y = if isNon y = true then some (.bl (isNon x)) else none := rfl
@[simp] theorem fIsNot_ev (S : Store) (x y : D) : fIsNot S x y = if isNon y = true then some (.bl (!isNon x)) else none := rfl
@[simp] theorem fIn_ev (S : Store) (x y : D) : fIn S x y = (inS S x y).map .bl := rfl
@[simp] theorem fNotIn_ev (S : Store) (x y : D) : fNotIn S x y = (inS S x y).map fun b => .bl (!b) := rfl
@[simp] theorem inS_str (S : Store) (a b : Str) : inS S (.str a) (.str b) = some (inStr a b) := rfl
@[simp] theorem fNeg_int (S : Store) (i : Int) : fNeg S (.int i) = some (.int (-i)) := rfl
@[simp] theorem tyS_non (S : Store) : tyS S .non = some .none := rfl
@[simp] theorem tyS_bl (S : Store) (b : Bool) : tyS S (.bl b) = some .bool := rfl
@[simp] theorem tyS_int (S : Store) (b : Int) : tyS S (.int b) = some .int := rfl
@[simp] theorem tyS_str (S : Store) (b : Str) : tyS S (.str b) = some .str := rfl
@[simp] theorem tyS_tup (S : Store) (b : List D) : tyS S (.tup b) = some .tuple := rfl
@[simp] theorem tyS_lst (S : Store) (b : List D) : tyS S (.lst b) = some .list := rfl
@[simp] theorem isTy_none (a : Ty) : isTy a .none = match a with | .none => true | _ => false := rfl
@[simp] theorem isTy_bool (a : Ty) : isTy a .bool = match a with | .bool => true | _ => false := rfl
@[simp] theorem isTy_int (a : Ty) : isTy a .int = match a with | .int => true | .bool => true | _ => false := rfl
@[simp] theorem isTy_str (a : Ty) : isTy a .str = match a with | .str => true | _ => false := rfl
@[simp] theorem isTy_tuple (a : Ty) : isTy a .tuple = match a with | .tuple => true | _ => false := rfl
@[simp] theorem isTy_list (a : Ty) : isTy a .list = match a with | .list => true | _ => false := rfl
@[simp] theorem isTy_dict (a : Ty) : isTy a .dict = match a with | .dict => true | _ => false := rfl
@[simp] theorem lenS_str (S : Store) (z : Str) : lenS S (.str z) = if z.length ≤ sizeLine then some z.length else none := rfl
@[simp] theorem lenS_tup (S : Store) (ds : List D) : lenS S (.tup ds) = some ds.length := rfl
@[simp] theorem lenS_lst (S : Store) (ds : List D) : lenS S (.lst ds) = some ds.length := rfl
@[simp] theorem lenS_scr (S : Store) (ds : List D) : lenS S (.scr ds) = some ds.length := rfl
@[simp] theorem tupOf_tup (ds : List D) : tupOf (.tup ds) = some ds := rfl
@[simp] theorem lstOf_lst (S : Store) (ds : List D) : lstOf S (.lst ds) = some ds := rfl
@[simp] theorem lstOf_scr (S : Store) (ds : List D) : lstOf S (.scr ds) = some ds := rfl
@[simp] theorem seqOf_tup (S : Store) (ds : List D) : seqOf S (.tup ds) = some ds := rfl
@[simp] theorem seqOf_lst (S : Store) (ds : List D) : seqOf S (.lst ds) = some ds := rfl
@[simp] theorem seqOf_scr (S : Store) (ds : List D) : seqOf S (.scr ds) = some ds := rfl
@[simp] theorem fIx_tup (S : Store) (ds : List D) (i : Int) : fIx S (.tup ds) (.int i) = atI ds i := rfl
@[simp] theorem fIx_lst (S : Store) (ds : List D) (i : Int) : fIx S (.lst ds) (.int i) = atI ds i := rfl
@[simp] theorem fIx_scr (S : Store) (ds : List D) (i : Int) : fIx S (.scr ds) (.int i) = atI ds i := rfl
@[simp] theorem keyOf_int (i : Int) : keyOf (.int i) = some (.inl i) := rfl
@[simp] theorem keyOf_str (i : Str) : keyOf (.str i) = some (.inr i) := rfl
@[simp] theorem truS_non (S : Store) : truS S .non = some false := rfl
@[simp] theorem truS_bl (S : Store) (b : Bool) : truS S (.bl b) = some b := rfl
@[simp] theorem truS_int (S : Store) (b : Int) : truS S (.int b) = some (b != 0) := rfl
@[simp] theorem truS_str (S : Store) (z : Str) : truS S (.str z) = if z.length ≤ sizeLine then some ((z.length : Int) != 0) else none := rfl
@[simp] theorem truS_tup (S : Store) (ds : List D) : truS S (.tup ds) = some (!ds.isEmpty) := rfl
@[simp] theorem truS_lst (S : Store) (ds : List D) : truS S (.lst ds) = some (!ds.isEmpty) := rfl
@[simp] theorem wkA_str (S : Store) (y : Str) : wkA S (.str y) = .ok ⟨signs y, fun _ => True⟩ S := rfl
@[simp] theorem wkA_tup (S : Store) (ds : List D) : wkA S (.tup ds) = .ok ⟨ds, fun _ => True⟩ S := rfl
@[simp] theorem wkA_lst (S : Store) (ds : List D) : wkA S (.lst ds) = .ok ⟨ds, fun _ => True⟩ S := rfl
@[simp] theorem wkA_scr (S : Store) (ds : List D) : wkA S (.scr ds) = .ok ⟨ds, fun _ => True⟩ S := rfl
@[simp] theorem slS_str (new : Bool) (S : Store) (z : Str) (lo hi : Option Int) : slS new S (.str z) lo hi = if z.length ≤ sizeLine then .ok (.str (cutS z lo hi)) S else .stuck := rfl
@[simp] theorem slS_lst (new : Bool) (S : Store) (ds : List D) (lo hi : Option Int) : slS new S (.lst ds) lo hi = fin new (cutD ds lo hi) S := rfl
@[simp] theorem LT_items_one (i : Nat) (d : D) : (LT.one i).items d = some [d] := rfl
@[simp] theorem LT_items_many (is : List Nat) (ds : List D) : (LT.many is).items (.tup ds) = if ds.length = is.length then some ds else none := rfl
@[simp] theorem catS_lst (new : Bool) (S : Store) (xs ys : List D) : catS new S (.lst xs) (.lst ys) = if xs.length + ys.length ≤ sizeLine then fin new (xs ++ ys) S else .stuck := rfl
@[simp] theorem blsOf_map (bs : List Bool) : blsOf (bs.map .bl) = some bs := by
  induction bs with
  | nil => rfl
  | cons b r ih => rw [List.map_cons, blsOf, ih]; rfl
@[simp] theorem tyS_obj (S : Store) (n : Nat) : tyS S (.obj n) = match S[n]? with
  | some (.lst _) => some .list
  | some (.dct _) => some .dict
  | _ => none := rfl
@[simp] theorem lstOf_obj (S : Store) (n : Nat) : lstOf S (.obj n) = match S[n]? with
  | some (.lst ds) => some ds
  | _ => none := rfl
@[simp] theorem lvOf_obj (S : Store) (n : Nat) : lvOf S (.obj n) = match S[n]? with
  | some (.lst ds) => some ds
  | _ => none := rfl
@[simp] theorem lvOf_lst (S : Store) (ds : List D) : lvOf S (.lst ds) = some ds := rfl
@[simp] theorem seqOf_obj (S : Store) (n : Nat) : seqOf S (.obj n) = match S[n]? with
  | some (.lst ds) => some ds
  | _ => none := rfl
@[simp] theorem dctOf_obj (S : Store) (n : Nat) : dctOf S (.obj n) = match S[n]? with
  | some (.dct ds) => some ds
  | _ => none := rfl
@[simp] theorem insOf_obj (S : Store) (n : Nat) : insOf S (.obj n) = match S[n]? with
  | some (.ins c fs) => some (c, fs)
  | _ => none := rfl
@[simp] theorem isIns_obj (c : Nat) (S : Store) (n : Nat) : isIns c S (.obj n) = match S[n]? with
  | some (.ins c' fs) => c' == c
  | _ => false := by
  simp only [isIns, insOf_obj]
  cases S[n]? with
  | none => rfl
  | some o => cases o <;> simp
@[simp] theorem getF_obj (cs : List Nat) (f : Nat) (S : Store) (n : Nat) : getF cs f S (.obj n) = match S[n]? with
  | some (.ins c fs) => if cs.contains c = true then getN fs f else none
  | _ => none := by
  simp only [getF, insOf_obj]
  cases S[n]? with
  | none => rfl
  | some o => cases o <;> simp
@[simp] theorem putF_obj (cs : List Nat) (f : Nat) (S : Store) (n : Nat) (y : D) : putF_ cs f S (.obj n) y = match S[n]? with
  | some (.ins c fs) => if cs.contains c = true ∧ fs.length < 1000 then some (S.set n (.ins c (setN f y fs))) else none
  | _ => none := rfl
@[simp] theorem getN_cons {α : Type} (k : Nat) (v : α) (r : List (Nat × α)) (i : Nat) : getN ((k, v) :: r) i = if k = i then some v else getN r i := rfl
@[simp] theorem getN_nil {α : Type} (i : Nat) : getN ([] : List (Nat × α)) i = none := rfl
@[simp] theorem setN_cons {α : Type} (k : Nat) (v : α) (r : List (Nat × α)) (i : Nat) (w : α) : setN i w ((k, v) :: r) = if k = i then (i, w) :: r else (k, v) :: setN i w r := rfl
@[simp] theorem setN_nil {α : Type} (i : Nat) (w : α) : setN i w ([] : List (Nat × α)) = [(i, w)] := rfl
@[simp] theorem setS_obj (S : Store) (n : Nat) (i v : D) : setS S (.obj n) i v = match S[n]? with
    | some (.lst ds) => match i with
      | .int k => (ixN ds.length k).map fun j => S.set n (.lst (ds.set j v))
      | _ => none
    | some (.dct kvs) => match keyOf i with
      | some k => if kvs.length < sizeLine then some (S.set n (.dct (putD kvs k v))) else none
      | none => none
    | _ => none := rfl
@[simp] theorem delS_obj (S : Store) (n : Nat) (i : D) : delS S (.obj n) i = match S[n]? with
    | some (.dct kvs) => match keyOf i with
      | some k => if (getK kvs k).isSome = true then some (S.set n (.dct (dropD kvs k))) else none
      | none => none
    | _ => none := rfl
@[simp] theorem dctR_obj (S : Store) (n : Nat) : dctR S (.obj n) = match S[n]? with
    | some (.dct kvs) => some kvs
    | some (.lck kvs) => some kvs
    | _ => none := rfl
@[simp] theorem fIx_objs (S : Store) (n : Nat) (z : Str) : fIx S (.obj n) (.str z) = match S[n]? with
    | some (.dct kvs) => getK kvs (.inr z)
    | some (.lck kvs) => getK kvs (.inr z)
    | _ => none := by
  simp only [fIx, dctR_obj]
  cases S[n]? with
  | none => rfl
  | some o => cases o <;> simp
@[simp] theorem fIx_obji (S : Store) (n : Nat) (z : Int) : fIx S (.obj n) (.int z) = match S[n]? with
    | some (.lst ds) => atI ds z
    | some (.dct kvs) => getK kvs (.inl z)
    | some (.lck kvs) => getK kvs (.inl z)
    | _ => none := by
  simp only [fIx, seqOf_obj, dctR_obj]
  cases S[n]? with
  | none => rfl
  | some o => cases o <;> rfl
@[simp] theorem lenS_obj (S : Store) (n : Nat) : lenS S (.obj n) = match S[n]? with
    | some (.lst ds) => some ds.length
    | some (.dct kvs) => some kvs.length
    | _ => none := by
  simp only [lenS, seqOf_obj, dctOf_obj]
  cases S[n]? with
  | none => rfl
  | some o => cases o <;> rfl
@[simp] theorem truS_obj (S : Store) (n : Nat) : truS S (.obj n) = match S[n]? with
    | some (.lst ds) => some (!ds.isEmpty)
    | some (.dct kvs) => some (!kvs.isEmpty)
    | _ => none := by
  simp only [truS, seqOf_obj, dctOf_obj]
  cases S[n]? with
  | none => rfl
  | some o => cases o <;> rfl
@[simp] theorem wkA_obj (S : Store) (n : Nat) : wkA S (.obj n) = match S[n]? with
    | some (.lst ds) => .ok ⟨ds, fun S => S[n]? = some (.lst ds)⟩ S
    | _ => .stuck := rfl
@[simp] theorem inS_obj (S : Store) (x : Str) (n : Nat) (kvs : List (Key × D)) (h : S[n]? = some (.dct kvs)) : inS S (.str x) (.obj n) = some (getK kvs (.inr x)).isSome := by
  simp [inS, dctOf, h, keyOf]
@[simp] theorem inS_obji (S : Store) (x : Int) (n : Nat) (kvs : List (Key × D)) (h : S[n]? = some (.dct kvs)) : inS S (.int x) (.obj n) = some (getK kvs (.inl x)).isSome := by
  simp [inS, dctOf, h, keyOf]
theorem ixN_in {n : Nat} {p : Int} (h0 : 0 ≤ p) (h1 : p < n) : ixN n p = some p.toNat := by
  simp [ixN, h0, h1]
@[simp] theorem atI_nat {α : Type} (xs : List α) (p : Nat) : atI xs (p : Int) = xs[p]? := by
  unfold atI
  by_cases h : p < xs.length
  · rw [ixN_in (Int.natCast_nonneg _) (by omega)]; simp
  · have e : xs[p]? = none := List.getElem?_eq_none (by omega)
    rw [e]
    have h1 : ¬ (p : Int) < xs.length := by omega
    have q : ixN xs.length (p : Int) = none := by unfold ixN; rw [if_pos (Int.natCast_nonneg _), if_neg h1]
    rw [q]; rfl
@[simp] theorem atI_zero {α : Type} (xs : List α) : atI xs (0 : Int) = xs[0]? := atI_nat xs 0
@[simp] theorem atI_one {α : Type} (xs : List α) : atI xs (1 : Int) = xs[1]? := atI_nat xs 1
@[simp] theorem atI_2 {α : Type} (xs : List α) : atI xs (2 : Int) = xs[2]? := atI_nat xs 2
@[simp] theorem atI_3 {α : Type} (xs : List α) : atI xs (3 : Int) = xs[3]? := atI_nat xs 3
@[simp] theorem atI_4 {α : Type} (xs : List α) : atI xs (4 : Int) = xs[4]? := atI_nat xs 4
@[simp] theorem atI_5 {α : Type} (xs : List α) : atI xs (5 : Int) = xs[5]? := atI_nat xs 5
@[simp] theorem atI_6 {α : Type} (xs : List α) : atI xs (6 : Int) = xs[6]? := atI_nat xs 6
@[simp] theorem atI_7 {α : Type} (xs : List α) : atI xs (7 : Int) = xs[7]? := atI_nat xs 7
@[simp] theorem atI_8 {α : Type} (xs : List α) : atI xs (8 : Int) = xs[8]? := atI_nat xs 8
@[simp] theorem atI_9 {α : Type} (xs : List α) : atI xs (9 : Int) = xs[9]? := atI_nat xs 9
@[simp] theorem atI_10 {α : Type} (xs : List α) : atI xs (10 : Int) = xs[10]? := atI_nat xs 10
@[simp] theorem atI_11 {α : Type} (xs : List α) : atI xs (11 : Int) = xs[11]? := atI_nat xs 11
@[simp] theorem atI_12 {α : Type} (xs : List α) : atI xs (12 : Int) = xs[12]? := atI_nat xs 12
@[simp] theorem atI_13 {α : Type} (xs : List α) : atI xs (13 : Int) = xs[13]? := atI_nat xs 13
@[simp] theorem atI_14 {α : Type} (xs : List α) : atI xs (14 : Int) = xs[14]? := atI_nat xs 14
@[simp] theorem atI_15 {α : Type} (xs : List α) : atI xs (15 : Int) = xs[15]? := atI_nat xs 15
@[simp] theorem atI_16 {α : Type} (xs : List α) : atI xs (16 : Int) = xs[16]? := atI_nat xs 16
@[simp] theorem atI_17 {α : Type} (xs : List α) : atI xs (17 : Int) = xs[17]? := atI_nat xs 17
@[simp] theorem atI_18 {α : Type} (xs : List α) : atI xs (18 : Int) = xs[18]? := atI_nat xs 18
@[simp] theorem atI_19 {α : Type} (xs : List α) : atI xs (19 : Int) = xs[19]? := atI_nat xs 19
@[simp] theorem atI_20 {α : Type} (xs : List α) : atI xs (20 : Int) = xs[20]? := atI_nat xs 20
theorem atI_in {α : Type} {xs : List α} {p : Int} (h0 : 0 ≤ p) (h1 : p < xs.length) : ∃ x, x ∈ xs ∧ atI xs p = some x := by
  have h3 : p.toNat < xs.length := by omega
  exact ⟨xs[p.toNat], List.getElem_mem h3, by unfold atI; rw [ixN_in h0 h1]; simp [List.getElem?_eq_getElem h3]⟩
theorem sz : (1000000 : Nat) ≤ sizeLine := by decide
theorem szL {n : Nat} (h : n ≤ 1000000) : n ≤ sizeLine := Nat.le_trans h sz
theorem ix_str (S : Store) {z : Str} {p : Int} (hz : z.length ≤ 1000000) (h0 : 0 ≤ p) (h1 : p < z.length) : ∃ c ∈ z.cps.toList, fIx S (.str z) (.int p) = some (.str ⟨#[c]⟩) := by
  obtain ⟨c, m, e⟩ := atI_in (xs := z.cps.toList) h0 (by simpa [Str.length] using h1)
  exact ⟨c, m, by simp [fIx, Nat.le_trans hz sz, e, BS.strAt]⟩
theorem cut_len (z : Str) (lo hi : Option Int) : (cutS z lo hi).length ≤ z.length := by
  simp [cutS, Str.length]; omega
@[simp] theorem one_len (c : Nat) : (⟨#[c]⟩ : Str).length = 1 := rfl
def RS.ends_ (r : RS) (N : Ev → Store → Prop) (T : D → Store → Prop) : Prop := match r with
  | .nx e S => N e S
  | .rt d S => T d S
  | _ => False
def RS.turns_ (r : RS) (I : Ev → Store → Prop) (N : Ev → Store → Prop) (T : D → Store → Prop) : Prop := match r with
  | .nx e S => I e S
  | .ct e S => I e S
  | .bk e S => N e S
  | .rt d S => T d S
  | _ => False
def R.gives_ {α : Type} (r : R α) (T : α → Store → Prop) : Prop := match r with
  | .ok d S => T d S
  | _ => False
/-- structures, so that nobody runs the program to see what is asked -/
structure RS.ends (r : RS) (N : Ev → Store → Prop) (T : D → Store → Prop) : Prop where
  run : r.ends_ N T
structure RS.turns (r : RS) (I : Ev → Store → Prop) (N : Ev → Store → Prop) (T : D → Store → Prop) : Prop where
  run : r.turns_ I N T
structure R.gives {α : Type} (r : R α) (T : α → Store → Prop) : Prop where
  run : r.gives_ T
section
variable {N I : Ev → Store → Prop} {T : D → Store → Prop}
@[simp] theorem ends_nx (e : Ev) (S : Store) : (RS.nx e S).ends N T = N e S := propext ⟨fun h => h.run, fun h => ⟨h⟩⟩
@[simp] theorem ends_rt (e : D) (S : Store) : (RS.rt e S).ends N T = T e S := propext ⟨fun h => h.run, fun h => ⟨h⟩⟩
@[simp] theorem ends_bk (e : Ev) (S : Store) : (RS.bk e S).ends N T = False := propext ⟨fun h => h.run, fun h => ⟨h⟩⟩
@[simp] theorem ends_ct (e : Ev) (S : Store) : (RS.ct e S).ends N T = False := propext ⟨fun h => h.run, fun h => ⟨h⟩⟩
@[simp] theorem ends_exc (c fs) (e : Ev) (S : Store) : (RS.exc c fs e S).ends N T = False := propext ⟨fun h => h.run, fun h => ⟨h⟩⟩
@[simp] theorem ends_stuck : RS.stuck.ends N T = False := propext ⟨fun h => h.run, fun h => ⟨h⟩⟩
@[simp] theorem turns_nx (e : Ev) (S : Store) : (RS.nx e S).turns I N T = I e S := propext ⟨fun h => h.run, fun h => ⟨h⟩⟩
@[simp] theorem turns_ct (e : Ev) (S : Store) : (RS.ct e S).turns I N T = I e S := propext ⟨fun h => h.run, fun h => ⟨h⟩⟩
@[simp] theorem turns_bk (e : Ev) (S : Store) : (RS.bk e S).turns I N T = N e S := propext ⟨fun h => h.run, fun h => ⟨h⟩⟩
@[simp] theorem turns_rt (e : D) (S : Store) : (RS.rt e S).turns I N T = T e S := propext ⟨fun h => h.run, fun h => ⟨h⟩⟩
@[simp] theorem turns_exc (c fs) (e : Ev) (S : Store) : (RS.exc c fs e S).turns I N T = False := propext ⟨fun h => h.run, fun h => ⟨h⟩⟩
@[simp] theorem turns_stuck : RS.stuck.turns I N T = False := propext ⟨fun h => h.run, fun h => ⟨h⟩⟩
@[simp] theorem gives_ok {α : Type} {T : α → Store → Prop} (d : α) (S : Store) : (R.ok d S).gives T = T d S := propext ⟨fun h => h.run, fun h => ⟨h⟩⟩
@[simp] theorem gives_exc {α : Type} {T : α → Store → Prop} (c fs) (S : Store) : (R.exc c fs S : R α).gives T = False := propext ⟨fun h => h.run, fun h => ⟨h⟩⟩
@[simp] theorem gives_stuck {α : Type} {T : α → Store → Prop} : (R.stuck : R α).gives T = False := propext ⟨fun h => h.run, fun h => ⟨h⟩⟩
theorem gives_iff {α : Type} {T : α → Store → Prop} {r : R α} : r.gives T ↔ ∃ d S, r = .ok d S ∧ T d S := by
  cases r with
  | ok a S => exact ⟨fun h => ⟨a, S, rfl, h.run⟩, fun ⟨_, _, e, h⟩ => by cases e; exact ⟨h⟩⟩
  | exc c fs S => exact ⟨fun h => False.elim h.run, fun ⟨_, _, e, _⟩ => nomatch e⟩
  | stuck => exact ⟨fun h => False.elim h.run, fun ⟨_, _, e, _⟩ => nomatch e⟩
theorem gives_bind {α β : Type} {T : β → Store → Prop} {r : R α} {k : α → Store → R β} (h : r.gives fun a S => (k a S).gives T) : (r.bind k).gives T := by
  cases r <;> simp_all
theorem ends_seq {r : RS} {b : SM} (h : r.ends (fun e S => (b e S).ends N T) T) : (r.seq b).ends N T := by
  cases r <;> simp_all
theorem turns_seq {r : RS} {b : SM} {I' : Ev → Store → Prop} (h : r.ends (fun e S => (b e S).turns I' N T) T) : (r.seq b).turns I' N T := by
  cases r <;> simp_all
theorem ends_mono {r : RS} {N' : Ev → Store → Prop} {T' : D → Store → Prop} (h : r.ends N T) (hn : ∀ e S, N e S → N' e S) (ht : ∀ d S, T d S → T' d S) : r.ends N' T' := by
  cases r <;> simp_all
/-- a def's run -/
theorem den_gives {n : Nat} {m : SM} {ds : List D} {S : Store} (h : (m ⟨ds.map some ++ List.replicate (n - ds.length) none, []⟩ S).ends (fun _ S => T .non S) T) : (den n m ds S).gives T := by
  rw [den_app]
  generalize m ⟨ds.map some ++ List.replicate (n - ds.length) none, []⟩ S = r at *
  cases r <;> simp_all
theorem law_of {n : Nat} {m : SM} {ds : List D} (h : (m ⟨ds.map some ++ List.replicate (n - ds.length) none, []⟩ []).ends (fun _ _ => False) (fun d _ => d = .bl true)) : ∃ S, den n m ds [] = .ok (.bl true) S := by
  rw [den_app]
  generalize m ⟨ds.map some ++ List.replicate (n - ds.length) none, []⟩ [] = r at *
  cases r <;> simp_all
end
/-- a loop: I k holds ahead of turn k -/
theorem forL_ends {G : Store → Prop} {g : GM} {b : SM} {N : Ev → Store → Prop} {T : D → Store → Prop} (I : Nat → Ev → Store → Prop) :
    ∀ {ds : List D} {e : Ev} {S : Store}, I 0 e S → (∀ k e S, I k e S → G S) → (∀ k d e S, ds[k]? = some d → I k e S → ((g d e S).seq b).turns (I (k + 1)) N T) → (∀ e S, I ds.length e S → N e S) → (forL G g b ds e S).ends N T
  | [], e, S, h0, hG, hs, hn => by
    unfold forL; rw [if_pos (hG _ _ _ h0), ends_nx]; exact hn _ _ h0
  | d :: ds, e, S, h0, hG, hs, hn => by
    unfold forL; rw [if_pos (hG _ _ _ h0)]
    have h1 := hs 0 d e S rfl h0
    have go : ∀ e S, I 1 e S → (forL G g b ds e S).ends N T := fun e S h =>
      forL_ends (fun k => I (k + 1)) h (fun k e S => hG (k + 1) e S) (fun k d e S hd => hs (k + 1) d e S (by simpa using hd)) hn
    generalize (g d e S).seq b = r at *
    cases r <;> simp_all
theorem ints_at {n k : Nat} {lo : Int} {d : D} (h : (BS.intsFrom lo n)[k]? = some d) : k < n ∧ d = .int (lo + k) := by
  have hk : k < n := by have := (List.getElem?_eq_some_iff.mp h).1; rwa [intsFrom_len] at this
  rw [intsFrom_get n k lo hk] at h
  exact ⟨hk, by cases h; rfl⟩
theorem signs_at {z : Str} {k : Nat} {d : D} (h : (signs z)[k]? = some d) : ∃ c ∈ z.cps.toList, z.cps.toList[k]? = some c ∧ d = .str ⟨#[c]⟩ := by
  unfold signs at h
  rw [List.getElem?_map, Option.map_eq_some_iff] at h
  obtain ⟨c, h, rfl⟩ := h
  exact ⟨c, List.mem_of_getElem? h, h, rfl⟩
/-- a while with a number that falls -/
theorem whileL_ends {c : TM} {b : SM} {N : Ev → Store → Prop} {T : D → Store → Prop} (I : Nat → Ev → Store → Prop)
    (hs : ∀ m e S, I m e S → ∃ k S', c e S = .ok k S' ∧ (k = true → (b e S').turns (fun e S => ∃ m' < m, I m' e S) N T) ∧ (k = false → N e S')) :
    ∀ {n m : Nat} {e : Ev} {S : Store}, I m e S → m < n → (whileL c b n e S).ends N T
  | 0, m, e, S, h, hl => absurd hl (Nat.not_lt_zero _)
  | n + 1, m, e, S, h, hl => by
    obtain ⟨k, S', e1, ht, hf⟩ := hs m e S h
    unfold whileL
    rw [e1, R.toS_ok]
    cases k with
    | false => rw [if_neg (by simp), ends_nx]; exact hf rfl
    | true =>
      have h1 := ht rfl
      rw [if_pos rfl]
      have go : ∀ e S, (∃ m' < m, I m' e S) → (whileL c b n e S).ends N T := fun e S ⟨m', l, h⟩ => whileL_ends I hs h (by omega)
      generalize b e S' = r at *
      cases r with
      | nx e S => rw [turns_nx] at h1; rw [RS.loop_nx]; exact go _ _ h1
      | ct e S => rw [turns_ct] at h1; rw [RS.loop_ct]; exact go _ _ h1
      | bk e S => rw [turns_bk] at h1; rw [RS.loop_bk, ends_nx]; exact h1
      | rt d S => rw [turns_rt] at h1; rw [RS.loop_rt, ends_rt]; exact h1
      | _ => simp at h1
theorem lcL_run {G : Store → Prop} {t : LT} {e0 : Ev} {tt : TM} {el : EM} (A : Store) (p : D → Bool) (f : D → D) :
    ∀ (ds : List D), (∀ acc B, G (A ++ .lst acc :: B)) →
    (∀ d ∈ ds, ∃ xs, t.items d = some xs ∧ ∀ acc B, (∃ B', tt ⟨setAll e0.sl t.ix xs, []⟩ (A ++ .lst acc :: B) = .ok (p d) (A ++ .lst acc :: B')) ∧ (p d = true → ∃ B', el ⟨setAll e0.sl t.ix xs, []⟩ (A ++ .lst acc :: B) = .ok (f d) (A ++ .lst acc :: B'))) →
    ∀ (acc : List D) (B : Store), acc.length + ds.length ≤ sizeLine → ∃ B', lcL A.length G t e0 tt el ds (A ++ .lst acc :: B) = .ok () (A ++ .lst (acc ++ (ds.filter p).map f) :: B')
  | [], hG, _, acc, B, _ => ⟨B, by unfold lcL; rw [if_pos (hG _ _)]; simp⟩
  | d :: ds, hG, h, acc, B, hl => by
    obtain ⟨xs, hx, hd⟩ := h d (by simp)
    have hl' : acc.length + ds.length + 1 ≤ sizeLine := by simpa [Nat.add_assoc] using hl
    obtain ⟨⟨B1, ht⟩, he⟩ := hd acc B
    unfold lcL
    rw [if_pos (hG _ _), hx]
    dsimp only
    rw [ht, R.nox_ok, R.bind_ok]
    cases hp : p d with
    | false =>
      rw [if_neg (by simp)]
      obtain ⟨B', r⟩ := lcL_run A p f ds hG (fun d hd => h d (by simp [hd])) acc B1 (by omega)
      exact ⟨B', by rw [r, List.filter_cons_of_neg (by simp [hp])]⟩
    | true =>
      rw [if_pos rfl]
      obtain ⟨B2, he⟩ := (hd acc B1).2 hp
      rw [he, R.nox_ok, R.bind_ok]
      have g : (A ++ O.lst acc :: B2)[A.length]? = some (.lst acc) := by simp
      rw [g]
      dsimp only
      rw [if_pos (by omega)]
      have s : (A ++ O.lst acc :: B2).set A.length (.lst (acc ++ [f d])) = A ++ .lst (acc ++ [f d]) :: B2 := by simp
      rw [s]
      obtain ⟨B', r⟩ := lcL_run A p f ds hG (fun d hd => h d (by simp [hd])) (acc ++ [f d]) B2 (by simp; omega)
      exact ⟨B', by rw [r, List.filter_cons_of_pos hp, List.map_cons, List.append_assoc]; rfl⟩
theorem lcL_all {G : Store → Prop} {t : LT} {e0 : Ev} {el : EM} (A : Store) (f : D → D) {ds : List D} (hG : ∀ acc B, G (A ++ .lst acc :: B))
    (h : ∀ d ∈ ds, ∃ xs, t.items d = some xs ∧ ∀ acc B, ∃ B', el ⟨setAll e0.sl t.ix xs, []⟩ (A ++ .lst acc :: B) = .ok (f d) (A ++ .lst acc :: B')) (hl : ds.length ≤ sizeLine) :
    ∃ B', lcL A.length G t e0 mYes el ds (A ++ [.lst []]) = .ok () (A ++ .lst (ds.map f) :: B') := by
  obtain ⟨B', r⟩ := lcL_run (G := G) (t := t) (e0 := e0) (tt := mYes) (el := el) A (fun _ => true) f ds hG (fun d hd => by
    obtain ⟨xs, hx, hd⟩ := h d hd
    exact ⟨xs, hx, fun acc B => ⟨⟨B, rfl⟩, fun _ => hd acc B⟩⟩) [] [] (by simpa using hl)
  exact ⟨B', by rw [r, List.filter_eq_self.mpr (fun _ _ => rfl)]; rfl⟩
theorem lcL_pure {G : Store → Prop} {t : LT} {e0 : Ev} {tt : TM} {el : EM} (A : Store) (p : D → Bool) (f : D → D) :
    ∀ (ds : List D), (∀ acc, G (A ++ [.lst acc])) →
    (∀ d ∈ ds, ∃ xs, t.items d = some xs ∧ ∀ acc, tt ⟨setAll e0.sl t.ix xs, []⟩ (A ++ [.lst acc]) = .ok (p d) (A ++ [.lst acc]) ∧ (p d = true → el ⟨setAll e0.sl t.ix xs, []⟩ (A ++ [.lst acc]) = .ok (f d) (A ++ [.lst acc]))) →
    ∀ (acc : List D), acc.length + ds.length ≤ sizeLine → lcL A.length G t e0 tt el ds (A ++ [.lst acc]) = .ok () (A ++ [.lst (acc ++ (ds.filter p).map f)])
  | [], hG, _, acc, _ => by unfold lcL; rw [if_pos (hG _)]; simp
  | d :: ds, hG, h, acc, hl => by
    obtain ⟨xs, hx, hd⟩ := h d (by simp)
    have hl' : acc.length + ds.length + 1 ≤ sizeLine := by simpa [Nat.add_assoc] using hl
    obtain ⟨ht, he⟩ := hd acc
    unfold lcL
    rw [if_pos (hG _), hx]
    dsimp only
    rw [ht, R.nox_ok, R.bind_ok]
    cases hp : p d with
    | false =>
      rw [if_neg (by simp), lcL_pure A p f ds hG (fun d hd => h d (by simp [hd])) acc (by omega), List.filter_cons_of_neg (by simp [hp])]
    | true =>
      rw [if_pos rfl, he hp, R.nox_ok, R.bind_ok]
      have g : (A ++ [O.lst acc])[A.length]? = some (.lst acc) := by simp
      rw [g]
      dsimp only
      rw [if_pos (by omega)]
      have s : (A ++ [O.lst acc]).set A.length (.lst (acc ++ [f d])) = A ++ [.lst (acc ++ [f d])] := by simp
      rw [s, lcL_pure A p f ds hG (fun d hd => h d (by simp [hd])) (acc ++ [f d]) (by simp; omega), List.filter_cons_of_pos hp, List.map_cons, List.append_assoc]
      rfl
/-- [f x for x in xs], f with no effect -/
theorem lcL_map {G : Store → Prop} {i : Nat} {e0 : Ev} {el : EM} (A : Store) (f : D → D) {ds : List D} (hG : ∀ acc, G (A ++ [.lst acc]))
    (h : ∀ d ∈ ds, ∀ acc, el ⟨e0.sl.set i (some d), []⟩ (A ++ [.lst acc]) = .ok (f d) (A ++ [.lst acc])) (hl : ds.length ≤ sizeLine) :
    lcL A.length G (.one i) e0 mYes el ds (A ++ [.lst []]) = .ok () (A ++ [.lst (ds.map f)]) := by
  have r := lcL_pure (G := G) (t := .one i) (e0 := e0) (tt := mYes) (el := el) A (fun _ => true) f ds hG (fun d hd => ⟨[d], rfl, fun acc => ⟨rfl, fun _ => h d hd acc⟩⟩) [] (by simpa using hl)
  rw [List.filter_eq_self.mpr (fun _ _ => rfl)] at r
  exact r
@[simp] theorem blsOf_mapf {α : Type} (f : α → Bool) (r : List α) : blsOf (r.map fun d => .bl (f d)) = some (r.map f) := by
  rw [← blsOf_map]; simp [Function.comp_def]
theorem sl_from {new : Bool} {S : Store} {ds : List D} (p : Nat) (_ : 0 < p) (hl : p ≤ ds.length) : slS new S (.tup ds) (some (p : Int)) none = .ok (.tup (ds.drop p)) S := by
  have e : HT.sIx ds.length 0 (some (p : Int)) = p := by
    have q : ¬ (p : Int) < 0 := by omega
    simp [HT.sIx, q]; omega
  have e2 : HT.sIx ds.length ds.length none = ds.length := rfl
  show BS.R.ok (D.tup (cutD ds _ _)) S = _
  unfold cutD
  rw [e, e2, List.take_of_length_le (by simp)]
theorem sl_to {new : Bool} {S : Store} {ds : List D} (p : Nat) (hl : p < ds.length) : slS new S (.tup ds) none (some (p : Int)) = .ok (.tup (ds.take p)) S := by
  have e : HT.sIx ds.length ds.length (some (p : Int)) = p := by
    have q : ¬ (p : Int) < 0 := by omega
    simp [HT.sIx, q]; omega
  have e2 : HT.sIx ds.length 0 none = 0 := rfl
  show BS.R.ok (D.tup (cutD ds _ _)) S = _
  unfold cutD
  rw [e, e2]; simp
@[simp] theorem sl_2 {new : Bool} {S : Store} (a b : D) (r : List D) : slS new S (.tup (a :: b :: r)) (some 2) none = .ok (.tup r) S := by
  have := sl_from (new := new) (S := S) (ds := a :: b :: r) 2 (by omega) (by simp)
  simpa using this
@[simp] theorem sl_1 {new : Bool} {S : Store} (a : D) (r : List D) : slS new S (.tup (a :: r)) (some 1) none = .ok (.tup r) S := by
  have := sl_from (new := new) (S := S) (ds := a :: r) 1 (by omega) (by simp)
  simpa using this
def Sm : Nat → D → Prop
  | _, .str z => z.length ≤ 1000000
  | 0, .tup ds => ds = []
  | n + 1, .tup ds => ds.length ≤ 1000000 ∧ ∀ d ∈ ds, Sm n d
  | 0, .lst ds => ds = []
  | n + 1, .lst ds => ds.length ≤ 1000000 ∧ ∀ d ∈ ds, Sm n d
  | _, .obj _ => False
  | _, .scr _ => False
  | _, _ => True
@[simp] theorem Sm_str (n : Nat) (z : Str) : Sm n (.str z) = (z.length ≤ 1000000) := by cases n <;> rfl
@[simp] theorem Sm_int (n : Nat) (z : Int) : Sm n (.int z) = True := by cases n <;> rfl
@[simp] theorem Sm_bl (n : Nat) (z : Bool) : Sm n (.bl z) = True := by cases n <;> rfl
@[simp] theorem Sm_non (n : Nat) : Sm n .non = True := by cases n <;> rfl
@[simp] theorem Sm_obj (n k : Nat) : Sm n (.obj k) = False := by cases n <;> rfl
@[simp] theorem Sm_scr (n : Nat) (k : List D) : Sm n (.scr k) = False := by cases n <;> rfl
@[simp] theorem Sm_tup (n : Nat) (ds : List D) : Sm (n + 1) (.tup ds) = (ds.length ≤ 1000000 ∧ ∀ d ∈ ds, Sm n d) := rfl
@[simp] theorem Sm_tup0 (ds : List D) : Sm 0 (.tup ds) = (ds = []) := rfl
@[simp] theorem Sm_lst (n : Nat) (ds : List D) : Sm (n + 1) (.lst ds) = (ds.length ≤ 1000000 ∧ ∀ d ∈ ds, Sm n d) := rfl
@[simp] theorem Sm_lst0 (ds : List D) : Sm 0 (.lst ds) = (ds = []) := rfl
theorem Sm.up : ∀ {n : Nat} {d : D}, Sm n d → Sm (n + 1) d
  | 0, d, h => by
    cases d <;> simp_all
  | n + 1, d, h => by
    cases d with
    | tup ds => exact ⟨h.1, fun x hx => (h.2 x hx).up⟩
    | lst ds => exact ⟨h.1, fun x hx => (h.2 x hx).up⟩
    | _ => simpa using h
theorem Sm.mono {n m : Nat} {d : D} (h : Sm n d) (l : n ≤ m) : Sm m d := by
  induction l with
  | refl => exact h
  | step _ ih => exact ih.up
theorem Sm.fl : ∀ {n : Nat} {d : D}, Sm n d → Fl (n + 1) d
  | n, .non, _ => .non
  | n, .bl b, _ => .bl b
  | n, .int i, _ => .int i
  | n, .str z, _ => .str z
  | 0, .tup ds, h => by simp at h; subst h; exact .tup .nil
  | 0, .lst ds, h => by simp at h; subst h; exact .lst .nil
  | n + 1, .tup ds, h => .tup (.of fun d hd => (h.2 d hd).fl)
  | n + 1, .lst ds, h => .lst (.of fun d hd => (h.2 d hd).fl)
  | n, .obj _, h => by simp at h
  | n, .scr _, h => by simp at h
def eqD (x y : D) : Bool := PyData.eqv (pyF (fun _ => .none) x) (pyF (fun _ => .none) y)
def eqDs (x y : List D) : Bool := PyData.eqvAll (pyFs (fun _ => .none) x) (pyFs (fun _ => .none) y)
theorem eqS_fl {n m : Nat} (S : Store) {x y : D} (hx : Fl n x) (hy : Fl m y) (hn : n < 100 := by decide) : eqS S x y = some (eqD x y) := by
  unfold eqS
  have h1 : (py S x).plain = true := hx.pl (pyk 3 S)
  have h2 := hy.pl (pyk 3 S)
  have h3 : (py S x).depth ≤ n := hx.dp (pyk 3 S)
  rw [if_pos (by simp [small, h1, h2]; omega)]
  unfold eqD
  rw [hx.eq (fun _ => .none) (pyk 3 S), hy.eq (fun _ => .none) (pyk 3 S)]
theorem eqS_sm {n m : Nat} (S : Store) {x y : D} (hx : Sm n x) (hy : Sm m y) (hn : n < 99 := by decide) : eqS S x y = some (eqD x y) := eqS_fl S hx.fl hy.fl (by omega)
theorem inS_fl {n m : Nat} (S : Store) {x : D} {ys : List D} (hx : Fl n x) (hy : FlS m ys) (hn : n < 100 := by decide) : inS S x (.lst ys) = some (ys.any fun z => eqD z x) := by
  have h1 : (py S x).plain = true := hx.pl (pyk 3 S)
  have h2 := hy.pl (pyk 3 S)
  have h3 : (py S x).depth ≤ n := hx.dp (pyk 3 S)
  have e : (pys S ys).any (fun z => PyData.eqv z (py S x)) = ys.any fun z => eqD z x := by
    have ex : py S x = pyF (fun _ => .none) x := hx.eq _ _
    have : ∀ (ys : List D), FlS m ys → (pys S ys).any (fun z => PyData.eqv z (py S x)) = ys.any fun z => eqD z x := by
      intro ys
      induction ys with
      | nil => intro _; rfl
      | cons y r ih =>
        intro hy
        have a := hy.all y (by simp)
        have ey : pyF (pyk 3 S) y = pyF (fun _ => .none) y := a.eq _ _
        have t : FlS m r := .of fun d hd => hy.all d (by simp [hd])
        have := ih t
        simp only [pys] at this ⊢
        simp only [pyFs, List.any_cons, this]
        rw [ey, ex]; rfl
    exact this ys hy
  simp only [inS, dctOf, seqOf, tupOf, lstOf]
  rw [if_pos (by simp [h1, h2]; omega), e]
@[simp] theorem eqD_non : eqD .non .non = true := by simp [eqD, pyF, PyData.eqv]
@[simp] theorem eqD_str (a b : Str) : eqD (.str a) (.str b) = decide (a = b) := by simp [eqD, pyF, PyData.eqv]; by_cases h : a = b <;> simp [h]
@[simp] theorem eqD_int (a b : Int) : eqD (.int a) (.int b) = decide (a = b) := by simp [eqD, pyF, PyData.eqv]; by_cases h : a = b <;> simp [h]
@[simp] theorem eqD_bl (a b : Bool) : eqD (.bl a) (.bl b) = decide (a = b) := by cases a <;> cases b <;> simp [eqD, pyF, PyData.eqv]
@[simp] theorem eqD_tup (a b : List D) : eqD (.tup a) (.tup b) = eqDs a b := by simp [eqD, eqDs, pyF, PyData.eqv]
@[simp] theorem eqD_lst (a b : List D) : eqD (.lst a) (.lst b) = eqDs a b := by simp [eqD, eqDs, pyF, PyData.eqv]
@[simp] theorem eqDs_nil : eqDs [] [] = true := by simp [eqDs, pyFs, PyData.eqvAll]
@[simp] theorem eqDs_cons (a b : D) (r s : List D) : eqDs (a :: r) (b :: s) = (eqD a b && eqDs r s) := by simp [eqDs, eqD, pyFs, PyData.eqvAll]
@[simp] theorem eqDs_nc (b : D) (s : List D) : eqDs [] (b :: s) = false := by simp [eqDs, eqD, pyFs, PyData.eqvAll]
@[simp] theorem eqDs_cn (b : D) (s : List D) : eqDs (b :: s) [] = false := by simp [eqDs, eqD, pyFs, PyData.eqvAll]
@[simp] theorem eqD_non_bl (b : Bool) : eqD .non (.bl b) = false := by simp [eqD, pyF, PyData.eqv]
@[simp] theorem eqD_non_int (b : Int) : eqD .non (.int b) = false := by simp [eqD, pyF, PyData.eqv]
@[simp] theorem eqD_non_str (b : Str) : eqD .non (.str b) = false := by simp [eqD, pyF, PyData.eqv]
@[simp] theorem eqD_non_tup (b : List D) : eqD .non (.tup b) = false := by simp [eqD, pyF, PyData.eqv]
@[simp] theorem eqD_non_lst (b : List D) : eqD .non (.lst b) = false := by simp [eqD, pyF, PyData.eqv]
@[simp] theorem eqD_bl_non (a : Bool) : eqD (.bl a) .non = false := by simp [eqD, pyF, PyData.eqv]
@[simp] theorem eqD_bl_str (a : Bool) (b : Str) : eqD (.bl a) (.str b) = false := by simp [eqD, pyF, PyData.eqv]
@[simp] theorem eqD_bl_tup (a : Bool) (b : List D) : eqD (.bl a) (.tup b) = false := by simp [eqD, pyF, PyData.eqv]
@[simp] theorem eqD_bl_lst (a : Bool) (b : List D) : eqD (.bl a) (.lst b) = false := by simp [eqD, pyF, PyData.eqv]
@[simp] theorem eqD_int_non (a : Int) : eqD (.int a) .non = false := by simp [eqD, pyF, PyData.eqv]
@[simp] theorem eqD_int_str (a : Int) (b : Str) : eqD (.int a) (.str b) = false := by simp [eqD, pyF, PyData.eqv]
@[simp] theorem eqD_int_tup (a : Int) (b : List D) : eqD (.int a) (.tup b) = false := by simp [eqD, pyF, PyData.eqv]
@[simp] theorem eqD_int_lst (a : Int) (b : List D) : eqD (.int a) (.lst b) = false := by simp [eqD, pyF, PyData.eqv]
@[simp] theorem eqD_str_non (a : Str) : eqD (.str a) .non = false := by simp [eqD, pyF, PyData.eqv]
@[simp] theorem eqD_str_bl (a : Str) (b : Bool) : eqD (.str a) (.bl b) = false := by simp [eqD, pyF, PyData.eqv]
@[simp] theorem eqD_str_int (a : Str) (b : Int) : eqD (.str a) (.int b) = false := by simp [eqD, pyF, PyData.eqv]
@[simp] theorem eqD_str_tup (a : Str) (b : List D) : eqD (.str a) (.tup b) = false := by simp [eqD, pyF, PyData.eqv]
@[simp] theorem eqD_str_lst (a : Str) (b : List D) : eqD (.str a) (.lst b) = false := by simp [eqD, pyF, PyData.eqv]
@[simp] theorem eqD_tup_non (a : List D) : eqD (.tup a) .non = false := by simp [eqD, pyF, PyData.eqv]
@[simp] theorem eqD_tup_bl (a : List D) (b : Bool) : eqD (.tup a) (.bl b) = false := by simp [eqD, pyF, PyData.eqv]
@[simp] theorem eqD_tup_int (a : List D) (b : Int) : eqD (.tup a) (.int b) = false := by simp [eqD, pyF, PyData.eqv]
@[simp] theorem eqD_tup_str (a : List D) (b : Str) : eqD (.tup a) (.str b) = false := by simp [eqD, pyF, PyData.eqv]
@[simp] theorem eqD_tup_lst (a : List D) (b : List D) : eqD (.tup a) (.lst b) = false := by simp [eqD, pyF, PyData.eqv]
@[simp] theorem eqD_lst_non (a : List D) : eqD (.lst a) .non = false := by simp [eqD, pyF, PyData.eqv]
@[simp] theorem eqD_lst_bl (a : List D) (b : Bool) : eqD (.lst a) (.bl b) = false := by simp [eqD, pyF, PyData.eqv]
@[simp] theorem eqD_lst_int (a : List D) (b : Int) : eqD (.lst a) (.int b) = false := by simp [eqD, pyF, PyData.eqv]
@[simp] theorem eqD_lst_str (a : List D) (b : Str) : eqD (.lst a) (.str b) = false := by simp [eqD, pyF, PyData.eqv]
@[simp] theorem eqD_lst_tup (a : List D) (b : List D) : eqD (.lst a) (.tup b) = false := by simp [eqD, pyF, PyData.eqv]
theorem eqD_refl {n : Nat} {d : D} (h : Fl n d) : eqD d d = true := SeqAt.eqv_refl_plain _ (h.pl _)
theorem ltS_irrefl (a : Str) : ltS a a = false := by unfold ltS; simp
theorem inStr_one (c : Nat) (x : Str) : inStr ⟨#[c]⟩ x = decide (c ∈ x.cps.toList) := StrLaws.found_one x c
theorem ltS_one (a b : Nat) : ltS ⟨#[a]⟩ ⟨#[b]⟩ = decide (a < b) := by
  unfold ltS; simp [List.cons_lt_cons_iff]
theorem len_cps (z : Str) : z.cps.toList.length = z.length := by simp [Str.length]
theorem cps_app (a b : Str) : (a ++ b).cps.toList = a.cps.toList ++ b.cps.toList := by
  show (Str.append a b).cps.toList = _
  simp [Str.append]
def wordF (L : Str) : Nat → Str → Int → Str
  | 0, z, _ => z
  | n + 1, z, r => wordF L n (z ++ ⟨#[L.cps.toList.getD (r % L.length).toNat 0]⟩) (r / L.length)
theorem wordF_len (L : Str) : ∀ (n : Nat) (z : Str) (r : Int), (wordF L n z r).length = z.length + n
  | 0, z, r => rfl
  | n + 1, z, r => by rw [wordF, wordF_len L n, Str.length_append, one_len]; omega
theorem wordF_in (L : Str) (hL : 0 < L.length) : ∀ (n : Nat) (z : Str) (r : Int), (∀ c ∈ z.cps.toList, c ∈ L.cps.toList) → ∀ c ∈ (wordF L n z r).cps.toList, c ∈ L.cps.toList
  | 0, z, r, h => h
  | n + 1, z, r, h => by
    rw [wordF]
    refine wordF_in L hL n _ _ fun c hc => ?_
    rw [cps_app] at hc
    rcases List.mem_append.mp hc with hc | hc
    · exact h c hc
    · have h2 : 0 ≤ r % (L.length : Int) := Int.emod_nonneg _ (by omega)
      have h3 : r % (L.length : Int) < L.length := Int.emod_lt_of_pos _ (by omega)
      have hl : (r % L.length).toNat < L.cps.toList.length := by rw [len_cps]; omega
      have e : L.cps.toList.getD (r % L.length).toNat 0 = L.cps.toList[(r % L.length).toNat] := by
        rw [List.getD_eq_getElem?_getD, List.getElem?_eq_getElem hl]; rfl
      have hc' : c = L.cps.toList.getD (r % L.length).toNat 0 := by simpa using hc
      rw [hc', e]
      exact List.getElem_mem hl
theorem ix_word (S : Store) {L : Str} (r : Int) (h0 : 0 < L.length) (h1 : L.length ≤ 1000000) : fIx S (.str L) (.int (r % L.length)) = some (.str ⟨#[L.cps.toList.getD (r % L.length).toNat 0]⟩) := by
  have h2 : 0 ≤ r % (L.length : Int) := Int.emod_nonneg _ (by omega)
  have h3 : r % (L.length : Int) < L.length := Int.emod_lt_of_pos _ (by omega)
  have h4 : (r % (L.length : Int)).toNat < L.cps.toList.length := by rw [len_cps]; omega
  have e : atI L.cps.toList (r % (L.length : Int)) = some (L.cps.toList.getD (r % L.length).toNat 0) := by
    unfold atI
    rw [ixN_in h2 (by rw [len_cps]; exact h3)]
    simp [List.getElem?_eq_getElem h4]
  simp [fIx, szL h1, e, BS.strAt]
def LL : Str := "abcdefghijklmnopqrstuvwxyz"
theorem LL_len : LL.length = 26 := by decide +kernel
def inL (c : Nat) : Bool := decide (c ∈ LL.cps.toList)
def isB (d : D) : Bool := match d with
  | .str z => decide (z.length ≤ 8) && z.cps.toList.all inL
  | _ => false
def isK (d : D) : Bool := match d with
  | .str z => isB (.str z) && decide (z ≠ Str.ofString "")
  | _ => false
def prC (c : Nat) : Bool := decide (32 ≤ c ∧ c ≤ 126 ∧ c ≠ 37)
def isPr (d : D) : Bool := match d with
  | .str z => z.cps.toList.all prC
  | _ => false
def isV (d : D) : Bool := match d with
  | .str z => isPr (.str z) && decide ((z.length : Int) ≤ 40)
  | _ => false
def isI (d : D) (lo hi : Int) : Bool := match d with
  | .int i => decide (lo ≤ i) && decide (i ≤ hi)
  | _ => false
theorem isB_str {d : D} (h : isB d = true) : ∃ z, d = .str z ∧ z.length ≤ 8 := by
  cases d <;> simp_all [isB]
theorem isK_str {d : D} (h : isK d = true) : ∃ z, d = .str z ∧ z.length ≤ 8 ∧ z ≠ Str.ofString "" := by
  cases d <;> simp_all [isK, isB]
theorem isV_str {d : D} (h : isV d = true) : ∃ z, d = .str z ∧ z.length ≤ 40 := by
  cases d <;> simp_all [isV]
  omega
theorem isK_isB {d : D} (h : isK d = true) : isB d = true := by
  cases d <;> simp_all [isB, isK]
end BS
namespace BS
open PySem PySem.Spec PyProof.Rows L2
@[simp] theorem pre_at {α : Type} (P l : List α) (k : Nat) : (P ++ l)[P.length + k]? = l[k]? := by
  rw [List.getElem?_append_right (by omega)]; congr 1; omega
@[simp] theorem pre_at0 {α : Type} (P l : List α) : (P ++ l)[P.length]? = l[0]? := pre_at P l 0
@[simp] theorem pre_set {α : Type} (P l : List α) (k : Nat) (x : α) : (P ++ l).set (P.length + k) x = P ++ l.set k x := by
  rw [List.set_append, if_neg (by omega)]; congr 2; omega
@[simp] theorem pre_set0 {α : Type} (P l : List α) (x : α) : (P ++ l).set P.length x = P ++ l.set 0 x := pre_set P l 0 x
theorem gives_eq {α : Type} {r : R α} {x : α} {S : Store} (h : r.gives fun d S' => d = x ∧ S' = S) : r = .ok x S := by
  obtain ⟨d, S', e, rfl, rfl⟩ := gives_iff.mp h
  exact e
/-- a loop that checks each item and leaves the store alone -/
theorem forL_check {g : GM} {b : SM} {N : Ev → Store → Prop} {T : D → Store → Prop} {ds : List D} {e : Ev} {S : Store} (J : Nat → Ev → Prop) (c : Nat → D → Bool) (h0 : J 0 e)
    (hs : ∀ k d e, ds[k]? = some d → J k e → (∀ i d, i < k → ds[i]? = some d → c i d = true) → if c k d = true then ∃ e', (g d e S).seq b = .nx e' S ∧ J (k + 1) e' else (g d e S).seq b = .rt (.bl false) S)
    (hn : ∀ e, J ds.length e → (∀ i d, ds[i]? = some d → c i d = true) → N e S)
    (ht : ∀ i d, ds[i]? = some d → c i d = false → T (.bl false) S) : (forL (fun _ => True) g b ds e S).ends N T := by
  refine forL_ends (fun k e S' => S' = S ∧ J k e ∧ ∀ i d, i < k → ds[i]? = some d → c i d = true) ⟨rfl, h0, fun i d h => absurd h (Nat.not_lt_zero _)⟩ (fun _ _ _ _ => True.intro) ?_ ?_
  · rintro k d e S' hd ⟨rfl, hj, ha⟩
    have := hs k d e hd hj ha
    cases hc : c k d with
    | true =>
      rw [if_pos hc] at this
      obtain ⟨e', q, j'⟩ := this
      rw [q, turns_nx]
      refine ⟨rfl, j', fun i d' hi hd' => ?_⟩
      by_cases hik : i = k
      · subst hik; rw [hd] at hd'; cases hd'; exact hc
      · exact ha i d' (by omega) hd'
    | false =>
      rw [hc, if_neg (by simp)] at this
      rw [this, turns_rt]
      exact ht k d hd hc
  · rintro e S' ⟨rfl, hj, ha⟩
    exact hn e hj fun i d hd => ha i d (List.getElem?_eq_some_iff.mp hd).1 hd
@[simp] theorem eqS_non_bl (S : Store) (b : Bool) : eqS S .non (.bl b) = some false := by rw [eqS_fl (n := 1) (m := 1) S .non (.bl _)]; simp
@[simp] theorem eqS_non_int (S : Store) (b : Int) : eqS S .non (.int b) = some false := by rw [eqS_fl (n := 1) (m := 1) S .non (.int _)]; simp
@[simp] theorem eqS_non_str (S : Store) (b : Str) : eqS S .non (.str b) = some false := by rw [eqS_fl (n := 1) (m := 1) S .non (.str _)]; simp
@[simp] theorem eqS_bl_non (S : Store) (a : Bool) : eqS S (.bl a) .non = some false := by rw [eqS_fl (n := 1) (m := 1) S (.bl _) .non]; simp
@[simp] theorem eqS_bl_str (S : Store) (a : Bool) (b : Str) : eqS S (.bl a) (.str b) = some false := by rw [eqS_fl (n := 1) (m := 1) S (.bl _) (.str _)]; simp
@[simp] theorem eqS_int_non (S : Store) (a : Int) : eqS S (.int a) .non = some false := by rw [eqS_fl (n := 1) (m := 1) S (.int _) .non]; simp
@[simp] theorem eqS_int_str (S : Store) (a : Int) (b : Str) : eqS S (.int a) (.str b) = some false := by rw [eqS_fl (n := 1) (m := 1) S (.int _) (.str _)]; simp
@[simp] theorem eqS_str_non (S : Store) (a : Str) : eqS S (.str a) .non = some false := by rw [eqS_fl (n := 1) (m := 1) S (.str _) .non]; simp
@[simp] theorem eqS_str_bl (S : Store) (a : Str) (b : Bool) : eqS S (.str a) (.bl b) = some false := by rw [eqS_fl (n := 1) (m := 1) S (.str _) (.bl _)]; simp
@[simp] theorem eqS_str_int (S : Store) (a : Str) (b : Int) : eqS S (.str a) (.int b) = some false := by rw [eqS_fl (n := 1) (m := 1) S (.str _) (.int _)]; simp
/-- a list of the store and one that stays as it is -/
theorem eqS_lobj {n : Nat} {S : Store} {i : Nat} {ds : List D} (hi : S[i]? = some (.lst ds)) (h : FlS n ds) (hn : n < 99 := by decide) : eqS S (.lst ds) (.obj i) = some true := by
  have e : py S (.obj i) = .list (pyFs (pyk 2 S) ds) := by simp [py, pyF, pyk, hi]
  refine eqS_same ?_ ?_ ?_
  · rw [e]; simp only [py, pyF]; rw [h.eq (pyk 2 S) (pyk 3 S)]
  · simp only [py, pyF]; simp [PyData.plain, h.pl]
  · simp only [py, pyF]; have := h.dp (pyk 3 S); simp [PyData.depth]; omega
theorem cut_to {ds : List D} {k : Nat} : cutD ds none (some (k : Int)) = ds.take k := by
  unfold cutD HT.sIx
  have : ¬ (k : Int) < 0 := by omega
  simp [this]
@[simp] theorem slS_obj (new : Bool) (S : Store) (n : Nat) (lo hi : Option Int) : slS new S (.obj n) lo hi = match S[n]? with
  | some (.lst ds) => fin new (cutD ds lo hi) S
  | _ => .stuck := by
  simp only [slS, lstOf_obj]
  cases S[n]? with
  | none => rfl
  | some o => cases o <;> rfl
@[simp] theorem catS_lobj (new : Bool) (S : Store) (xs : List D) (n : Nat) : catS new S (.lst xs) (.obj n) = match S[n]? with
  | some (.lst ys) => if xs.length + ys.length ≤ sizeLine then fin new (xs ++ ys) S else .stuck
  | _ => .stuck := by
  simp only [catS, lvOf_lst, lvOf_obj]
  cases S[n]? with
  | none => rfl
  | some o => cases o <;> rfl
@[simp] theorem fIsB_bl (S : Store) (a b : Bool) : fIsB S (.bl a) (.bl b) = some (.bl (decide (a = b))) := rfl
@[simp] theorem fIsNotB_bl (S : Store) (a b : Bool) : fIsNotB S (.bl a) (.bl b) = some (.bl (!decide (a = b))) := rfl
section
variable {α : Type} [DecidableEq α]
def getM (m : List (α × D)) (k : α) : Option D := (m.find? fun p => decide (p.1 = k)).map (·.2)
def putM (m : List (α × D)) (k : α) (v : D) : List (α × D) := if (m.any fun p => decide (p.1 = k)) = true then m.map (fun p => if p.1 = k then (p.1, v) else p) else m ++ [(k, v)]
def dropM (m : List (α × D)) (k : α) : List (α × D) := m.filter fun p => decide (p.1 ≠ k)
theorem getM_nil (k : α) : getM [] k = none := rfl
theorem getM_cons (p : α × D) (m : List (α × D)) (k : α) : getM (p :: m) k = if p.1 = k then some p.2 else getM m k := by
  unfold getM
  by_cases h : p.1 = k <;> simp [h]
theorem getM_app (m l : List (α × D)) (k : α) : getM (m ++ l) k = (getM m k).or (getM l k) := by
  induction m with
  | nil => simp [getM_nil]
  | cons p m ih => rw [List.cons_append, getM_cons, getM_cons, ih]; by_cases h : p.1 = k <;> simp [h]
theorem getM_none {m : List (α × D)} {k : α} : getM m k = none ↔ k ∉ m.map (·.1) := by
  induction m with
  | nil => simp [getM_nil]
  | cons p m ih =>
    rw [getM_cons]
    by_cases h : p.1 = k
    · simp [h]
    · rw [if_neg h, ih, List.map_cons, List.mem_cons]
      exact ⟨fun q z => z.elim (fun z => h z.symm) q, fun q z => q (.inr z)⟩
theorem getM_mem {m : List (α × D)} {k : α} {v : D} (h : getM m k = some v) : (k, v) ∈ m := by
  induction m with
  | nil => simp [getM_nil] at h
  | cons p m ih =>
    rw [getM_cons] at h
    by_cases q : p.1 = k
    · rw [if_pos q] at h; cases h; rw [← q]; simp
    · rw [if_neg q] at h; exact List.mem_cons_of_mem _ (ih h)
theorem mem_getM {m : List (α × D)} (hm : (m.map (·.1)).Nodup) {k : α} {v : D} (h : (k, v) ∈ m) : getM m k = some v := by
  induction m with
  | nil => simp at h
  | cons p m ih =>
    rw [List.map_cons, List.nodup_cons] at hm
    rw [getM_cons]
    rcases List.mem_cons.mp h with rfl | h
    · simp
    · by_cases q : p.1 = k
      · exact absurd (List.mem_map.mpr ⟨_, h, rfl⟩) (by rw [← q]; exact hm.1)
      · rw [if_neg q]; exact ih hm.2 h
theorem getM_some {m : List (α × D)} {k : α} (h : k ∈ m.map (·.1)) : ∃ v, getM m k = some v := by
  cases e : getM m k with
  | some v => exact ⟨v, rfl⟩
  | none => exact absurd h (getM_none.mp e)
theorem any_iff {m : List (α × D)} {k : α} : (m.any fun p => decide (p.1 = k)) = true ↔ k ∈ m.map (·.1) := by
  simp only [List.any_eq_true, decide_eq_true_eq, List.mem_map]
theorem putM_keys (m : List (α × D)) (k : α) (v : D) : (putM m k v).map (·.1) = if k ∈ m.map (·.1) then m.map (·.1) else m.map (·.1) ++ [k] := by
  unfold putM
  by_cases h : k ∈ m.map (·.1)
  · rw [if_pos (any_iff.mpr h), if_pos h, List.map_map]
    apply List.map_congr_left
    intro p _
    simp only [Function.comp]
    split <;> rfl
  · rw [if_neg (fun z => h (any_iff.mp z)), if_neg h, List.map_append]; rfl
theorem putM_nodup {m : List (α × D)} (hm : (m.map (·.1)).Nodup) (k : α) (v : D) : ((putM m k v).map (·.1)).Nodup := by
  rw [putM_keys]
  split
  · exact hm
  · rename_i h
    rw [List.nodup_append]
    refine ⟨hm, by simp, fun a ha b hb => ?_⟩
    rw [List.mem_singleton] at hb
    subst hb
    exact fun z => h (z ▸ ha)
theorem getM_map {m : List (α × D)} {k j : α} {v : D} : getM (m.map fun p => if p.1 = k then (p.1, v) else p) j = if j = k then (getM m j).map (fun _ => v) else getM m j := by
  induction m with
  | nil => simp [getM_nil]
  | cons p m ih =>
    rw [List.map_cons, getM_cons, getM_cons, ih]
    by_cases h1 : p.1 = k
    · by_cases h2 : p.1 = j
      · have : j = k := h2 ▸ h1
        simp [h1, this]
      · have : ¬ j = k := fun z => h2 (h1.trans z.symm)
        rw [if_pos h1]; simp [h2, this]
    · by_cases h2 : p.1 = j
      · have : ¬ j = k := fun z => h1 (h2.trans z)
        simp [h1, h2, this]
      · rw [if_neg h1]; simp [h2]
theorem getM_put (m : List (α × D)) (k : α) (v : D) (j : α) : getM (putM m k v) j = if j = k then some v else getM m j := by
  unfold putM
  by_cases h : k ∈ m.map (·.1)
  · rw [if_pos (any_iff.mpr h), getM_map]
    split
    · rename_i q; subst q
      obtain ⟨w, e⟩ := getM_some h
      rw [e]; rfl
    · rfl
  · rw [if_neg (fun z => h (any_iff.mp z)), getM_app, getM_cons, getM_nil]
    by_cases q : j = k
    · subst q; rw [getM_none.mpr h]; simp
    · have : ¬ k = j := fun z => q z.symm
      simp [q, this]
theorem dropM_keys (m : List (α × D)) (k : α) : (dropM m k).map (·.1) = (m.map (·.1)).filter fun x => decide (x ≠ k) := by
  unfold dropM
  induction m with
  | nil => rfl
  | cons p m ih =>
    rw [List.filter_cons, List.map_cons, List.filter_cons]
    by_cases h : p.1 = k
    · simp only [h]; simpa using ih
    · simp only [ne_eq, h, not_false_eq_true, decide_true, if_true, List.map_cons]; rw [← ih]
theorem dropM_nodup {m : List (α × D)} (hm : (m.map (·.1)).Nodup) (k : α) : ((dropM m k).map (·.1)).Nodup := by
  rw [dropM_keys]; exact hm.filter _
theorem getM_drop (m : List (α × D)) (k j : α) : getM (dropM m k) j = if j = k then none else getM m j := by
  unfold dropM
  induction m with
  | nil => simp [getM_nil]
  | cons p m ih =>
    rw [List.filter_cons, getM_cons]
    by_cases h1 : p.1 = k
    · simp only [h1, ne_eq, not_true, decide_false, Bool.false_eq_true, if_false]
      simp only [ne_eq] at ih
      rw [ih]
      by_cases q : j = k
      · simp [q]
      · have : ¬ k = j := fun z => q z.symm
        simp [q, this]
    · simp only [ne_eq, h1, not_false_eq_true, decide_true, if_true]
      rw [getM_cons]
      simp only [ne_eq] at ih
      rw [ih]
      by_cases q : j = k
      · have : ¬ p.1 = j := fun z => h1 (z.trans q)
        simp [q, h1]
      · simp [q]
theorem putM_mem {m : List (α × D)} {k : α} {v : D} {p : α × D} (h : p ∈ putM m k v) : p = (k, v) ∨ p ∈ m := by
  unfold putM at h
  split at h
  · obtain ⟨q, hq, rfl⟩ := List.mem_map.mp h
    split
    · rename_i e; left; rw [← e]
    · exact .inr hq
  · rcases List.mem_append.mp h with h | h
    · exact .inr h
    · exact .inl (List.mem_singleton.mp h)
theorem putM_len (m : List (α × D)) (k : α) (v : D) : (putM m k v).length ≤ m.length + 1 := by
  unfold putM
  split <;> simp
theorem dropM_len (m : List (α × D)) (k : α) : (dropM m k).length ≤ m.length := List.length_filter_le _ _
theorem dropM_mem {m : List (α × D)} {k : α} {p : α × D} (h : p ∈ dropM m k) : p ∈ m ∧ p.1 ≠ k := by
  have := List.mem_filter.mp h
  exact ⟨this.1, by simpa using this.2⟩
end
/-- a dict with texts as keys, with ints as keys -/
def toS (m : List (Str × D)) : List (Key × D) := m.map fun p => (.inr p.1, p.2)
def toI (m : List (Int × D)) : List (Key × D) := m.map fun p => (.inl p.1, p.2)
@[simp] theorem toS_len (m : List (Str × D)) : (toS m).length = m.length := by simp [toS]
@[simp] theorem toI_len (m : List (Int × D)) : (toI m).length = m.length := by simp [toI]
@[simp] theorem toS_nil : toS [] = [] := rfl
@[simp] theorem toI_nil : toI [] = [] := rfl
@[simp] theorem getK_toS (m : List (Str × D)) (k : Str) : getK (toS m) (.inr k) = getM m k := by
  induction m with
  | nil => rfl
  | cons p m ih =>
    rw [getM_cons]
    unfold getK toS at *
    rw [List.map_cons, List.find?_cons]
    by_cases h : p.1 = k
    · simp [h]
    · have : decide ((Sum.inr p.1 : Key) = Sum.inr k) = false := by simp [h]
      simp only [this]
      rw [if_neg h]; exact ih
@[simp] theorem getK_toI (m : List (Int × D)) (k : Int) : getK (toI m) (.inl k) = getM m k := by
  induction m with
  | nil => rfl
  | cons p m ih =>
    rw [getM_cons]
    unfold getK toI at *
    rw [List.map_cons, List.find?_cons]
    by_cases h : p.1 = k
    · simp [h]
    · have : decide ((Sum.inl p.1 : Key) = Sum.inl k) = false := by simp [h]
      simp only [this]
      rw [if_neg h]; exact ih
@[simp] theorem putD_toS (m : List (Str × D)) (k : Str) (v : D) : putD (toS m) (.inr k) v = toS (putM m k v) := by
  unfold putD putM
  have e : ((toS m).any fun kv => decide (kv.1 = (Sum.inr k : Key))) = m.any fun p => decide (p.1 = k) := by
    unfold toS; rw [List.any_map]; congr 1; funext p; simp
  rw [e]
  split
  · unfold toS
    rw [List.map_map, List.map_map]
    apply List.map_congr_left
    intro p _
    by_cases h : p.1 = k <;> simp [h]
  · simp [toS]
@[simp] theorem putD_toI (m : List (Int × D)) (k : Int) (v : D) : putD (toI m) (.inl k) v = toI (putM m k v) := by
  unfold putD putM
  have e : ((toI m).any fun kv => decide (kv.1 = (Sum.inl k : Key))) = m.any fun p => decide (p.1 = k) := by
    unfold toI; rw [List.any_map]; congr 1; funext p; simp
  rw [e]
  split
  · unfold toI
    rw [List.map_map, List.map_map]
    apply List.map_congr_left
    intro p _
    by_cases h : p.1 = k <;> simp [h]
  · simp [toI]
@[simp] theorem dropD_toS (m : List (Str × D)) (k : Str) : dropD (toS m) (.inr k) = toS (dropM m k) := by
  unfold dropD dropM toS
  rw [List.filter_map]
  congr 1
  apply List.filter_congr
  intro p _
  simp
@[simp] theorem dropD_toI (m : List (Int × D)) (k : Int) : dropD (toI m) (.inl k) = toI (dropM m k) := by
  unfold dropD dropM toI
  rw [List.filter_map]
  congr 1
  apply List.filter_congr
  intro p _
  simp
@[simp] theorem putD_nilS (k : Str) (v : D) : putD [] (.inr k) v = toS (putM [] k v) := putD_toS [] k v
@[simp] theorem putD_nilI (k : Int) (v : D) : putD [] (.inl k) v = toI (putM [] k v) := putD_toI [] k v
theorem keysT_toS (m : List (Str × D)) : keysT (toS m) = some (m.map (·.1)) := by
  induction m with
  | nil => rfl
  | cons p m ih => unfold toS at *; rw [List.map_cons, keysT, ih]; rfl
theorem keysI_toI (m : List (Int × D)) : keysI (toI m) = some (m.map (·.1)) := by
  induction m with
  | nil => rfl
  | cons p m ih => unfold toI at *; rw [List.map_cons, keysI, ih]; rfl
theorem keysI_toS (p : Str × D) (m : List (Str × D)) : keysI (toS (p :: m)) = none := rfl
/-- == of dicts -/
@[simp] theorem fEqD_obj (S : Store) (n m : Nat) : fEqD S (.obj n) (.obj m) = match S[n]? with
  | some (.dct ks) => match S[m]? with
    | some (.dct ls) => if eqK ks ls = true then some (.bl true) else none
    | _ => none
  | _ => none := by
  simp only [fEqD, dctOf_obj]
  cases S[n]? with
  | none => rfl
  | some o => cases o <;> first | rfl | (cases S[m]? with
    | none => rfl
    | some o => cases o <;> rfl)
@[simp] theorem fNeD_obj (S : Store) (n m : Nat) : fNeD S (.obj n) (.obj m) = match S[n]? with
  | some (.dct ks) => match S[m]? with
    | some (.dct ls) => if eqK ks ls = true then some (.bl false) else none
    | _ => none
  | _ => none := by
  simp only [fNeD, dctOf_obj]
  cases S[n]? with
  | none => rfl
  | some o => cases o <;> first | rfl | (cases S[m]? with
    | none => rfl
    | some o => cases o <;> rfl)
def flatD (d : D) : Bool := match d with
  | .non => true
  | .bl _ => true
  | .int _ => true
  | .str _ => true
  | _ => false
theorem sameF_refl {d : D} (h : flatD d = true) : sameF d d = true := by
  cases d <;> simp_all [flatD, sameF]
/-- the same pairs, in any order -/
theorem eqK_toS {m l : List (Str × D)} (hl : m.length = l.length) (h : ∀ p ∈ m, getM l p.1 = some p.2 ∧ flatD p.2 = true) : eqK (toS m) (toS l) = true := by
  unfold eqK
  rw [Bool.and_eq_true]
  refine ⟨by simp [hl], ?_⟩
  rw [List.all_eq_true]
  intro q hq
  obtain ⟨p, hp, rfl⟩ := List.mem_map.mp hq
  obtain ⟨h1, h2⟩ := h p hp
  simp only [getK_toS, h1, sameF_refl h2]
theorem eqK_refl {m : List (Str × D)} (hm : (m.map (·.1)).Nodup) (h : ∀ p ∈ m, flatD p.2 = true) : eqK (toS m) (toS m) = true :=
  eqK_toS rfl fun p hp => ⟨mem_getM hm hp, h p hp⟩
@[simp] theorem slRev_tup (new : Bool) (S : Store) (ds : List D) : slRev new S (.tup ds) = .ok (.tup ds.reverse) S := rfl
@[simp] theorem slRev_lst (new : Bool) (S : Store) (ds : List D) : slRev new S (.lst ds) = fin new ds.reverse S := rfl
theorem slRev_obj {new : Bool} {S : Store} {n : Nat} {ds : List D} (h : S[n]? = some (.lst ds)) : slRev new S (.obj n) = fin new ds.reverse S := by
  unfold slRev
  simp only [lstOf_obj, h]
/-- sorted(d) -/
theorem sorted_toS (new : Bool) (S : Store) (n : Nat) (m : List (Str × D)) (h : S[n]? = some (.dct (toS m))) (hl : m.length ≤ 1000000) : fnSorted new [.obj n] S = fin new ((sortT (m.map (·.1))).map .str) S := by
  rw [fnSorted_ev]
  simp only [lstOf_obj, dctOf_obj, h]
  cases m with
  | nil => simp [keysI, sortI, sortT]
  | cons p m =>
    rw [keysI_toS, keysT_toS]
theorem sorted_toI (new : Bool) (S : Store) (n : Nat) (m : List (Int × D)) (h : S[n]? = some (.dct (toI m))) (hl : m.length < 64) : fnSorted new [.obj n] S = fin new ((sortI (m.map (·.1))).map .int) S := by
  rw [fnSorted_ev]
  simp only [lstOf_obj, dctOf_obj, h, keysI_toI]
  simp only [List.length_map]
  rw [if_pos hl]
theorem sortedR_toS (new : Bool) (S : Store) (n : Nat) (m : List (Str × D)) (h : S[n]? = some (.dct (toS m))) : fnSortedR new [.obj n] S = fin new ((sortT (m.map (·.1))).reverse.map .str) S := by
  simp only [fnSortedR_ev, dctOf, h, keysT_toS]
theorem sortT_mem {zs : List Str} {z : Str} : z ∈ sortT zs ↔ z ∈ zs := (sortT_perm zs).mem_iff
theorem sortT_nodup {zs : List Str} (h : zs.Nodup) : (sortT zs).Nodup := (sortT_perm zs).nodup_iff.mpr h
theorem sortT_len (zs : List Str) : (sortT zs).length = zs.length := (sortT_perm zs).length_eq
theorem ltS_of_le_ne {a b : Str} (h : leS a b) (n : a ≠ b) : ltS a b = true := by
  cases e : ltS a b with
  | true => rfl
  | false => exact absurd (leS_anti h e) n
theorem sortT_lt {zs : List Str} (h : zs.Nodup) : (sortT zs).Pairwise fun a b => ltS a b = true := by
  have a := sortT_sorted zs
  have b := sortT_nodup h
  exact (a.and b).imp fun h => ltS_of_le_ne h.1 h.2
theorem ltS_trans {a b c : Str} (h1 : ltS a b = true) (h2 : ltS b c = true) : ltS a c = true := by
  unfold ltS at *
  simp only [decide_eq_true_eq] at *
  exact List.lt_trans h1 h2
theorem ltS_asymm {a b : Str} (h1 : ltS a b = true) : ltS b a = false := by
  cases e : ltS b a with
  | false => rfl
  | true => have := ltS_trans h1 e; rw [ltS_irrefl] at this; cases this
theorem ltS_emp {b : Str} (h : b ≠ Str.ofString "") : ltS "" b = true := by
  refine ltS_of_le_ne ?_ (fun z => h z.symm)
  unfold leS ltS
  have e : (Str.ofString "").cps.toList = [] := by decide +kernel
  simp [e]
theorem ltS_tri (a b : Str) : ltS a b = true ∨ a = b ∨ ltS b a = true := by
  by_cases h : a = b
  · exact .inr (.inl h)
  · rcases leS_total a b with q | q
    · exact .inl (ltS_of_le_ne q h)
    · exact .inr (.inr (ltS_of_le_ne q fun z => h z.symm))
theorem filter_ge {ks : List Str} (h : ks.Pairwise fun a b => ltS a b = true) {j : Nat} {l : Str} (hj : ks[j]? = some l) : ks.filter (fun z => !ltS z l) = ks.drop j := by
  have hl : j < ks.length := (List.getElem?_eq_some_iff.mp hj).1
  have e1 : ks.drop j = l :: ks.drop (j + 1) := by
    rw [List.drop_eq_getElem_cons hl]
    rw [List.getElem?_eq_getElem hl] at hj
    cases hj; rfl
  have e2 : ks = ks.take j ++ l :: ks.drop (j + 1) := by rw [← e1, List.take_append_drop]
  rw [e1]
  conv => lhs; rw [e2]
  rw [e2] at h
  obtain ⟨_, h2, h3⟩ := List.pairwise_append.mp h
  rw [List.filter_append]
  have a1 : (ks.take j).filter (fun z => !ltS z l) = [] := by
    rw [List.filter_eq_nil_iff]
    intro z hz
    simp [h3 z hz l (by simp)]
  have a2 : (l :: ks.drop (j + 1)).filter (fun z => !ltS z l) = l :: ks.drop (j + 1) := by
    rw [List.filter_eq_self]
    intro z hz
    rcases List.mem_cons.mp hz with rfl | hz
    · simp [ltS_irrefl]
    · simp [ltS_asymm ((List.pairwise_cons.mp h2).1 z hz)]
  rw [a1, a2]; rfl
theorem emp_cps : (Str.ofString "").cps.toList = [] := by decide +kernel
theorem inS_tup {n m : Nat} (S : Store) {x : D} {ys : List D} (hx : Fl n x) (hy : FlS m ys) (hn : n < 100 := by decide) : inS S x (.tup ys) = some (ys.any fun z => eqD z x) := by
  have := inS_fl S hx hy hn
  rw [← this]; rfl
def isPair (d : D) : Bool := match d with
  | .tup [k, v] => isK k && isV v
  | _ => false
def keyD (d : D) : Str := match d with
  | .tup (.str k :: _) => k
  | _ => ""
def adj : List D → Bool
  | x :: y :: r => ltS (keyD x) (keyD y) && adj (y :: r)
  | _ => true
theorem isPair_form {d : D} (h : isPair d = true) : ∃ k v, d = .tup [.str k, .str v] ∧ isK (.str k) = true ∧ isV (.str v) = true := by
  unfold isPair at h
  split at h
  · rename_i k v
    simp only [Bool.and_eq_true] at h
    obtain ⟨z, rfl, _⟩ := isK_str h.1
    obtain ⟨w, rfl, _⟩ := isV_str h.2
    exact ⟨z, w, rfl, h.1, h.2⟩
  · simp at h
theorem adj_iff : ∀ {ds : List D}, adj ds = true ↔ ∀ k x y, ds[k]? = some x → ds[k + 1]? = some y → ltS (keyD x) (keyD y) = true
  | [] => by simp [adj]
  | [x] => by simp [adj]
  | x :: y :: r => by
    unfold adj
    rw [Bool.and_eq_true, adj_iff]
    constructor
    · rintro ⟨h1, h2⟩ k a b ha hb
      cases k with
      | zero => simp at ha hb; subst ha hb; exact h1
      | succ k => exact h2 k a b (by simpa using ha) (by simpa using hb)
    · intro h
      exact ⟨h 0 x y rfl rfl, fun k a b ha hb => h (k + 1) a b (by simpa using ha) (by simpa using hb)⟩
def isPairs (d : D) : Bool := match d with
  | .tup ds => ds.all isPair && adj ds
  | _ => false
/-- below(one, other) -/
def blw (a b : D) : Bool := match a, b with
  | .str a, .str b => ltS a b
  | .str _, .non => true
  | _, _ => false
def isPage (p nx : D) : Bool := match p with
  | .tup ds => isPairs p && decide (ds.length ≤ 50) && (isNon nx || isK nx) && (match ds.getLast? with
    | some x => blw (.str (keyD x)) nx
    | none => true)
  | _ => false
def isAns (d : D) : Bool := match d with
  | .tup (.str k :: r) =>
    if k = "page" then (match r with
      | [p, nx] => isPage p nx
      | _ => false)
    else if k = "value" ∨ k = "other" then (match r with
      | [v] => isV v
      | _ => false)
    else if k = "none" ∨ k = "done" then r.isEmpty
    else false
  | _ => false
theorem forK_run {im : EM} {g : GM} {b : SM} {e : Ev} {S : Store} {n : Nat} {kvs : List (Key × D)} {N : Ev → Store → Prop} {T : D → Store → Prop} (h1 : im e S = .ok (.obj n) S) (h2 : S[n]? = some (.dct kvs)) (h3 : im e (S.set n (.lck kvs)) = .ok (.obj n) (S.set n (.lck kvs)))
    (body : (forL (fun _ => True) g b (kvs.map fun kv => dkey kv.1) e (S.set n (.lck kvs))).ends (fun e S' => ∃ ks, S'[n]? = some (.lck ks) ∧ N e (S'.set n (.dct ks))) (fun d S' => ∃ ks, S'[n]? = some (.lck ks) ∧ T d (S'.set n (.dct ks)))) : (mForK im g b e S).ends N T := by
  have hn := (List.getElem?_eq_some_iff.mp h2).1
  have h4 : (S.set n (.lck kvs))[n]? = some (.lck kvs) := List.getElem?_set_self hn
  unfold mForK
  rw [h1]
  dsimp only
  rw [h2]
  dsimp only
  rw [h3, R.toS_ok]
  dsimp only
  rw [if_pos rfl, h4]
  dsimp only
  generalize forL (fun _ => True) g b (kvs.map fun kv => dkey kv.1) e (S.set n (.lck kvs)) = r at *
  cases r with
  | nx e' S' =>
    rw [ends_nx] at body
    obtain ⟨ks, h5, h6⟩ := body
    unfold RS.unl
    dsimp only
    rw [h5]
    exact (ends_nx ..).mpr h6
  | rt d S' =>
    rw [ends_rt] at body
    obtain ⟨ks, h5, h6⟩ := body
    unfold RS.unl
    dsimp only
    rw [h5]
    exact (ends_rt ..).mpr h6
  | _ => simp at body
theorem toS_keys (m : List (Str × D)) : ((toS m).map fun kv => dkey kv.1) = m.map fun p => .str p.1 := by simp [toS, dkey, Function.comp_def]
theorem toI_keys (m : List (Int × D)) : ((toI m).map fun kv => dkey kv.1) = m.map fun p => .int p.1 := by simp [toI, dkey, Function.comp_def]
@[simp] theorem fIxA_os (S : Store) (n : Nat) (z : Str) : fIxA S (.obj n) (.str z) = match S[n]? with
  | some (.dct kvs) => getK kvs (.inr z)
  | _ => none := by
  cases h : S[n]? with
  | none => simp [fIxA, h]
  | some o => cases o <;> simp [fIxA, h, keyOf]
@[simp] theorem fIxA_oi (S : Store) (n : Nat) (k : Int) : fIxA S (.obj n) (.int k) = match S[n]? with
  | some (.lst ds) => atI ds k
  | some (.dct kvs) => getK kvs (.inl k)
  | _ => none := by
  cases h : S[n]? with
  | none => simp [fIxA, h]
  | some o => cases o <;> simp [fIxA, h, keyOf]
end BS
namespace L_k32
open PySem PySem.Spec PyProof.Rows L2 BS
def topS (i : Nat) : Stmt := PySem.Challenge.pw_boundstone_k32_epochs_of_keys.main.body.getD i (.Pass ⟨0, 0, 0, 0⟩)
def nm : Nms := mkNms ["Net", "History", "Sessions", "Shard", "Epochs", "Holdings", "Server", "Routes", "Directory", "Client", "World", "Disk", "Log", "TableError", "BadText", "BadOperation", "BadLetter", "BadShard", "BadRecord", "BadServer", "DiskError", "DiskCrashed", "BadSchedule"] ["cells"] (by decide +kernel)
theorem bb_abs : bootBuiltins "abs" = some (.builtin "abs") := by decide +kernel
theorem bb_int : bootBuiltins "int" = some (.type "int") := by decide +kernel
theorem bb_isinstance : bootBuiltins "isinstance" = some (.builtin "isinstance") := by decide +kernel
theorem bb_len : bootBuiltins "len" = some (.builtin "len") := by decide +kernel
theorem bb_list : bootBuiltins "list" = some (.type "list") := by decide +kernel
theorem bb_max : bootBuiltins "max" = some (.builtin "max") := by decide +kernel
theorem bb_sorted : bootBuiltins "sorted" = some (.builtin "sorted") := by decide +kernel
theorem cl_Epochs : nm.cls 4 = "Epochs" := by decide +kernel
theorem fl_cells : nm.fld 0 = "cells" := by decide +kernel
section
variable {P : Program} {w : World} {K : PySem.W.Frag} {mg : Str → Option Value} {base : Heap}
abbrev s_below : Stmt := (topS 1)
theorem sc_below : FnScope ["one", "other"] ["one", "other"] (defScope s_below) := ⟨rfl, rfl, rfl, by decide +kernel, rfl, by decide +kernel, by decide +kernel⟩
theorem va_below : locAll [0, 1] ["one", "other"] (defScope s_below) = true := by decide +kernel
theorem ga_below : glAll [] (defScope s_below) = true := by decide +kernel
noncomputable def m_below : SM :=
  (mSeq (mIfS (mBl (mBin fIs (mVar 0) (mC .non))) (mRet (mC (.bl false))) mSkip)
    (mRet (mOrV (mBin fIs (mVar 1) (mC .non)) (mBin fLt (mVar 0) (mVar 1)))))
noncomputable def V_below : FM := den 2 m_below
theorem ok_below {f : Addr} {fd : FuncData} (F : Fun K "below" "below" s_below f fd) :
    FnOk P w K mg base (L2.CX P w) 1 f fd ["one", "other"] (spD nm K mg 2 V_below) :=
  den_ok (m := m_below) F sc_below (fun cdv A outer s H E hr => by
  have nd := sc_below.nd
  have hh := L2H.roomH_of hr
  have hl : locAll [0, 1] (cxOf (L2.CX P w) P w K mg base ["one", "other"] "below" (defScope s_below) f cdv A outer s H E).N (cxOf (L2.CX P w) P w K mg base ["one", "other"] "below" (defScope s_below) f cdv A outer s H E).env.scope = true := va_below
  have hv := locVis hl
  have hg : glAll [] (cxOf (L2.CX P w) P w K mg base ["one", "other"] "below" (defScope s_below) f cdv A outer s H E).env.scope = true := ga_below
  have hc : (cxOf (L2.CX P w) P w K mg base ["one", "other"] "below" (defScope s_below) f cdv A outer s H E).calm = true := rfl
  have hp : PassesOwn (model P w) (cxOf (L2.CX P w) P w K mg base ["one", "other"] "below" (defScope s_below) f cdv A outer s H E).A (cxOf (L2.CX P w) P w K mg base ["one", "other"] "below" (defScope s_below) f cdv A outer s H E).env (cxOf (L2.CX P w) P w K mg base ["one", "other"] "below" (defScope s_below) f cdv A outer s H E).xe := passes_of rfl
  exact (mb_cons (ms_if (mt_cmp o_is (me_var 0 hv) me_non (nomark _)) (mb_one (ms_ret me_bl)) mb_nil)
    (mb_one (ms_ret (me_or (me_cmp o_is (me_var 1 hv) me_non (nomark _)) (me_one (me_cmp o_lt (me_var 0 hv) (me_var 1 hv) (nomark _)))))))) rfl rfl
abbrev s_contains : Stmt := (topS 2)
theorem sc_contains : FnScope ["low", "high", "bound"] ["low", "high", "bound"] (defScope s_contains) := ⟨rfl, rfl, rfl, by decide +kernel, rfl, by decide +kernel, by decide +kernel⟩
theorem va_contains : locAll [0, 1, 2] ["low", "high", "bound"] (defScope s_contains) = true := by decide +kernel
theorem ga_contains : glAll ["below"] (defScope s_contains) = true := by decide +kernel
noncomputable def m_contains : SM :=
  (mRet (mAndV (mBin fLe (mVar 0) (mVar 2)) (mCall V_below (mCons (mVar 2) (mCons (mVar 1) mNil)))))
noncomputable def V_contains : FM := den 3 m_contains
theorem ok_contains {f : Addr} {fd : FuncData} (F : Fun K "contains" "contains" s_contains f fd)
    (d_below : DefOk P w K mg base nm 1 "below" 2 V_below) :
    FnOk P w K mg base (L2.CX P w) 2 f fd ["low", "high", "bound"] (spD nm K mg 3 V_contains) :=
  den_ok (m := m_contains) F sc_contains (fun cdv A outer s H E hr => by
  have nd := sc_contains.nd
  have hh := L2H.roomH_of hr
  have hl : locAll [0, 1, 2] (cxOf (L2.CX P w) P w K mg base ["low", "high", "bound"] "contains" (defScope s_contains) f cdv A outer s H E).N (cxOf (L2.CX P w) P w K mg base ["low", "high", "bound"] "contains" (defScope s_contains) f cdv A outer s H E).env.scope = true := va_contains
  have hv := locVis hl
  have hg : glAll ["below"] (cxOf (L2.CX P w) P w K mg base ["low", "high", "bound"] "contains" (defScope s_contains) f cdv A outer s H E).env.scope = true := ga_contains
  have hc : (cxOf (L2.CX P w) P w K mg base ["low", "high", "bound"] "contains" (defScope s_contains) f cdv A outer s H E).calm = true := rfl
  have hp : PassesOwn (model P w) (cxOf (L2.CX P w) P w K mg base ["low", "high", "bound"] "contains" (defScope s_contains) f cdv A outer s H E).A (cxOf (L2.CX P w) P w K mg base ["low", "high", "bound"] "contains" (defScope s_contains) f cdv A outer s H E).env (cxOf (L2.CX P w) P w K mg base ["low", "high", "bound"] "contains" (defScope s_contains) f cdv A outer s H E).xe := passes_of rfl
  exact (mb_one (ms_ret (me_and (me_cmp o_le (me_var 0 hv) (me_var 2 hv) (nomark _)) (me_one (me_call d_below (hr.mono (by decide)) (gl_at hg 0) (ma_cons (me_var 2 hv) (ma_cons (me_var 1 hv) ma_nil)))))))) rfl rfl
abbrev s_overlap : Stmt := (topS 3)
theorem sc_overlap : FnScope ["low", "high", "other_low", "other_high"] ["low", "high", "other_low", "other_high"] (defScope s_overlap) := ⟨rfl, rfl, rfl, by decide +kernel, rfl, by decide +kernel, by decide +kernel⟩
theorem va_overlap : locAll [0, 1, 2, 3] ["low", "high", "other_low", "other_high"] (defScope s_overlap) = true := by decide +kernel
theorem ga_overlap : glAll ["below"] (defScope s_overlap) = true := by decide +kernel
noncomputable def m_overlap : SM :=
  (mRet (mAndV (mCall V_below (mCons (mVar 0) (mCons (mVar 3) mNil))) (mCall V_below (mCons (mVar 2) (mCons (mVar 1) mNil)))))
noncomputable def V_overlap : FM := den 4 m_overlap
theorem ok_overlap {f : Addr} {fd : FuncData} (F : Fun K "overlap" "overlap" s_overlap f fd)
    (d_below : DefOk P w K mg base nm 1 "below" 2 V_below) :
    FnOk P w K mg base (L2.CX P w) 2 f fd ["low", "high", "other_low", "other_high"] (spD nm K mg 4 V_overlap) :=
  den_ok (m := m_overlap) F sc_overlap (fun cdv A outer s H E hr => by
  have nd := sc_overlap.nd
  have hh := L2H.roomH_of hr
  have hl : locAll [0, 1, 2, 3] (cxOf (L2.CX P w) P w K mg base ["low", "high", "other_low", "other_high"] "overlap" (defScope s_overlap) f cdv A outer s H E).N (cxOf (L2.CX P w) P w K mg base ["low", "high", "other_low", "other_high"] "overlap" (defScope s_overlap) f cdv A outer s H E).env.scope = true := va_overlap
  have hv := locVis hl
  have hg : glAll ["below"] (cxOf (L2.CX P w) P w K mg base ["low", "high", "other_low", "other_high"] "overlap" (defScope s_overlap) f cdv A outer s H E).env.scope = true := ga_overlap
  have hc : (cxOf (L2.CX P w) P w K mg base ["low", "high", "other_low", "other_high"] "overlap" (defScope s_overlap) f cdv A outer s H E).calm = true := rfl
  have hp : PassesOwn (model P w) (cxOf (L2.CX P w) P w K mg base ["low", "high", "other_low", "other_high"] "overlap" (defScope s_overlap) f cdv A outer s H E).A (cxOf (L2.CX P w) P w K mg base ["low", "high", "other_low", "other_high"] "overlap" (defScope s_overlap) f cdv A outer s H E).env (cxOf (L2.CX P w) P w K mg base ["low", "high", "other_low", "other_high"] "overlap" (defScope s_overlap) f cdv A outer s H E).xe := passes_of rfl
  exact (mb_one (ms_ret (me_and (me_call d_below (hr.mono (by decide)) (gl_at hg 0) (ma_cons (me_var 0 hv) (ma_cons (me_var 3 hv) ma_nil))) (me_one (me_call d_below (hr.mono (by decide)) (gl_at hg 0) (ma_cons (me_var 2 hv) (ma_cons (me_var 1 hv) ma_nil)))))))) rfl rfl
abbrev s_number_at : Stmt := (topS 6)
theorem sc_number_at : FnScope ["cells", "key", "low", "high", "epoch"] ["cells", "key"] (defScope s_number_at) := ⟨rfl, rfl, rfl, by decide +kernel, rfl, by decide +kernel, by decide +kernel⟩
theorem va_number_at : locAll [0, 1, 2, 3, 4] ["cells", "key", "low", "high", "epoch"] (defScope s_number_at) = true := by decide +kernel
theorem ga_number_at : glAll ["contains"] (defScope s_number_at) = true := by decide +kernel
noncomputable def lb_number_at_0 : SM :=
  (mIfS (mBl (mCall V_contains (mCons (mVar 2) (mCons (mVar 3) (mCons (mVar 1) mNil))))) (mRet (mVar 4)) mSkip)
noncomputable def m_number_at : SM :=
  (mSeq (mFor (iAny (mVar 0)) (gTp 3 (gsCons (gNm 2) (gsCons (gNm 3) (gsCons (gNm 4) gsNil)))) lb_number_at_0)
    (mRet (mC (.int 0))))
noncomputable def V_number_at : FM := den 5 m_number_at
theorem ok_number_at {f : Addr} {fd : FuncData} (F : Fun K "number_at" "number_at" s_number_at f fd)
    (d_contains : DefOk P w K mg base nm 2 "contains" 3 V_contains) :
    FnOk P w K mg base (L2.CX P w) 3 f fd ["cells", "key"] (spD nm K mg 2 V_number_at) :=
  den_ok (m := m_number_at) F sc_number_at (fun cdv A outer s H E hr => by
  have nd := sc_number_at.nd
  have hh := L2H.roomH_of hr
  have hl : locAll [0, 1, 2, 3, 4] (cxOf (L2.CX P w) P w K mg base ["cells", "key", "low", "high", "epoch"] "number_at" (defScope s_number_at) f cdv A outer s H E).N (cxOf (L2.CX P w) P w K mg base ["cells", "key", "low", "high", "epoch"] "number_at" (defScope s_number_at) f cdv A outer s H E).env.scope = true := va_number_at
  have hv := locVis hl
  have hg : glAll ["contains"] (cxOf (L2.CX P w) P w K mg base ["cells", "key", "low", "high", "epoch"] "number_at" (defScope s_number_at) f cdv A outer s H E).env.scope = true := ga_number_at
  have hc : (cxOf (L2.CX P w) P w K mg base ["cells", "key", "low", "high", "epoch"] "number_at" (defScope s_number_at) f cdv A outer s H E).calm = true := rfl
  have hp : PassesOwn (model P w) (cxOf (L2.CX P w) P w K mg base ["cells", "key", "low", "high", "epoch"] "number_at" (defScope s_number_at) f cdv A outer s H E).A (cxOf (L2.CX P w) P w K mg base ["cells", "key", "low", "high", "epoch"] "number_at" (defScope s_number_at) f cdv A outer s H E).env (cxOf (L2.CX P w) P w K mg base ["cells", "key", "low", "high", "epoch"] "number_at" (defScope s_number_at) f cdv A outer s H E).xe := passes_of rfl
  exact (mb_cons (ms_for hp hc (mi_any (me_var 0 hv)) (mg_tup hc 3 (mgs_cons (mg_name 2 nd hl) (mgs_cons (mg_name 3 nd hl) (mgs_cons (mg_name 4 nd hl) mgs_nil)))) (gok_tp (gsok_cons (gok_nm 2) (gsok_cons (gok_nm 3) (gsok_cons (gok_nm 4) gsok_nil)))) (mb_one (ms_if (mt_val (me_call d_contains (hr.mono (by decide)) (gl_at hg 0) (ma_cons (me_var 2 hv) (ma_cons (me_var 3 hv) (ma_cons (me_var 1 hv) ma_nil))))) (mb_one (ms_ret (me_var 4 hv))) mb_nil)))
    (mb_one (ms_ret me_int)))) rfl rfl
abbrev s_highs : Stmt := (topS 8)
theorem sc_highs : FnScope ["cells", "high", "row"] ["cells", "high"] (defScope s_highs) := ⟨rfl, rfl, rfl, by decide +kernel, rfl, by decide +kernel, by decide +kernel⟩
abbrev lcx_highs_0 : Scope := (lcOf (kid (skid (stm (defBody s_highs) 0) 0) 0))
theorem lcb_highs_0 : blkC ["cells", "high", "row"] (defScope s_highs) lcx_highs_0 [("row", 2)] = true := by decide +kernel
theorem lcv_highs_0 : visAll [2] ["cells", "high", "row"] (relS lcx_highs_0 (defScope s_highs)) = true := by decide +kernel
theorem lcg_highs_0 : glAll [] (relS lcx_highs_0 (defScope s_highs)) = true := by decide +kernel
theorem lcl_highs_0_0 : (relS lcx_highs_0 (defScope s_highs)).names.lookup ("row" : Str) = some NameKind.local := by decide +kernel
theorem va_highs : locAll [0, 1] ["cells", "high", "row"] (defScope s_highs) = true := by decide +kernel
theorem ga_highs : glAll [] (defScope s_highs) = true := by decide +kernel
noncomputable def m_highs : SM :=
  (mRet (mCat false (mLc [2] (LT.one 2) (iAny (mVar 0)) mYes (mIx (mVar 2) (mC (.int 1)))) (mLst false (mCons (mVar 1) mNil))))
noncomputable def V_highs : FM := den 3 m_highs
theorem ok_highs {f : Addr} {fd : FuncData} (F : Fun K "highs" "highs" s_highs f fd) :
    FnOk P w K mg base (L2.CX P w) 1 f fd ["cells", "high"] (spD nm K mg 2 V_highs) :=
  den_ok (m := m_highs) F sc_highs (fun cdv A outer s H E hr => by
  have nd := sc_highs.nd
  have hh := L2H.roomH_of hr
  have hl : locAll [0, 1] (cxOf (L2.CX P w) P w K mg base ["cells", "high", "row"] "highs" (defScope s_highs) f cdv A outer s H E).N (cxOf (L2.CX P w) P w K mg base ["cells", "high", "row"] "highs" (defScope s_highs) f cdv A outer s H E).env.scope = true := va_highs
  have hv := locVis hl
  have hg : glAll [] (cxOf (L2.CX P w) P w K mg base ["cells", "high", "row"] "highs" (defScope s_highs) f cdv A outer s H E).env.scope = true := ga_highs
  have hc : (cxOf (L2.CX P w) P w K mg base ["cells", "high", "row"] "highs" (defScope s_highs) f cdv A outer s H E).calm = true := rfl
  have hp : PassesOwn (model P w) (cxOf (L2.CX P w) P w K mg base ["cells", "high", "row"] "highs" (defScope s_highs) f cdv A outer s H E).A (cxOf (L2.CX P w) P w K mg base ["cells", "high", "row"] "highs" (defScope s_highs) f cdv A outer s H E).env (cxOf (L2.CX P w) P w K mg base ["cells", "high", "row"] "highs" (defScope s_highs) f cdv A outer s H E).xe := passes_of rfl
  exact (mb_one (ms_ret (me_cat false (me_lc (LT.one 2) hc nd (mi_any (me_var 0 hv)) (blkOk_by lcb_highs_0) rfl (by simp) (fun s1 H1 C cl fp => (pg_one 2 nd rfl (.inl lcl_highs_0_0) (.inr lcl_highs_0_0))) (fun s1 H1 C cl fp => by
    have hvb : visAll [2] (Cx.blk (cxOf (L2.CX P w) P w K mg base ["cells", "high", "row"] "highs" (defScope s_highs) f cdv A outer s H E) s1 H1 lcx_highs_0 (compEnvC lcx_highs_0 cl C (cxOf (L2.CX P w) P w K mg base ["cells", "high", "row"] "highs" (defScope s_highs) f cdv A outer s H E).env) fp).N (Cx.blk (cxOf (L2.CX P w) P w K mg base ["cells", "high", "row"] "highs" (defScope s_highs) f cdv A outer s H E) s1 H1 lcx_highs_0 (compEnvC lcx_highs_0 cl C (cxOf (L2.CX P w) P w K mg base ["cells", "high", "row"] "highs" (defScope s_highs) f cdv A outer s H E).env) fp).env.scope = true := lcv_highs_0
    have hgb : glAll [] (Cx.blk (cxOf (L2.CX P w) P w K mg base ["cells", "high", "row"] "highs" (defScope s_highs) f cdv A outer s H E) s1 H1 lcx_highs_0 (compEnvC lcx_highs_0 cl C (cxOf (L2.CX P w) P w K mg base ["cells", "high", "row"] "highs" (defScope s_highs) f cdv A outer s H E).env) fp).env.scope = true := lcg_highs_0
    exact mts_nil) (fun s1 H1 C cl fp => by
    have hvb : visAll [2] (Cx.blk (cxOf (L2.CX P w) P w K mg base ["cells", "high", "row"] "highs" (defScope s_highs) f cdv A outer s H E) s1 H1 lcx_highs_0 (compEnvC lcx_highs_0 cl C (cxOf (L2.CX P w) P w K mg base ["cells", "high", "row"] "highs" (defScope s_highs) f cdv A outer s H E).env) fp).N (Cx.blk (cxOf (L2.CX P w) P w K mg base ["cells", "high", "row"] "highs" (defScope s_highs) f cdv A outer s H E) s1 H1 lcx_highs_0 (compEnvC lcx_highs_0 cl C (cxOf (L2.CX P w) P w K mg base ["cells", "high", "row"] "highs" (defScope s_highs) f cdv A outer s H E).env) fp).env.scope = true := lcv_highs_0
    have hgb : glAll [] (Cx.blk (cxOf (L2.CX P w) P w K mg base ["cells", "high", "row"] "highs" (defScope s_highs) f cdv A outer s H E) s1 H1 lcx_highs_0 (compEnvC lcx_highs_0 cl C (cxOf (L2.CX P w) P w K mg base ["cells", "high", "row"] "highs" (defScope s_highs) f cdv A outer s H E).env) fp).env.scope = true := lcg_highs_0
    exact (me_ix hh (me_var 2 hvb) me_int))) (me_lst false (ma_cons (me_var 1 hv) ma_nil)))))) rfl rfl
abbrev s_intervals : Stmt := (topS 7)
theorem sc_intervals : FnScope ["cells", "low", "high", "lows", "row", "end", "rows", "index"] ["cells", "low", "high"] (defScope s_intervals) := ⟨rfl, rfl, rfl, by decide +kernel, rfl, by decide +kernel, by decide +kernel⟩
abbrev lcx_intervals_0 : Scope := (lcOf (kid (kid (kid (kid (skid (stm (defBody s_intervals) 0) 0) 1) 1) 0) 0))
theorem lcb_intervals_0 : blkC ["cells", "low", "high", "lows", "row", "end", "rows", "index"] (defScope s_intervals) lcx_intervals_0 [("row", 4)] = true := by decide +kernel
theorem lcv_intervals_0 : visAll [4] ["cells", "low", "high", "lows", "row", "end", "rows", "index"] (relS lcx_intervals_0 (defScope s_intervals)) = true := by decide +kernel
theorem lcg_intervals_0 : glAll [] (relS lcx_intervals_0 (defScope s_intervals)) = true := by decide +kernel
theorem lcl_intervals_0_0 : (relS lcx_intervals_0 (defScope s_intervals)).names.lookup ("row" : Str) = some NameKind.local := by decide +kernel
abbrev lcx_intervals_1 : Scope := (lcOf (kid (kid (kid (skid (stm (defBody s_intervals) 0) 0) 1) 1) 1))
theorem lcb_intervals_1 : blkC ["cells", "low", "high", "lows", "row", "end", "rows", "index"] (defScope s_intervals) lcx_intervals_1 [("end", 5)] = true := by decide +kernel
theorem lcv_intervals_1 : visAll [5] ["cells", "low", "high", "lows", "row", "end", "rows", "index"] (relS lcx_intervals_1 (defScope s_intervals)) = true := by decide +kernel
theorem lcg_intervals_1 : glAll [] (relS lcx_intervals_1 (defScope s_intervals)) = true := by decide +kernel
theorem lcl_intervals_1_0 : (relS lcx_intervals_1 (defScope s_intervals)).names.lookup ("end" : Str) = some NameKind.local := by decide +kernel
theorem va_intervals : locAll [0, 1, 2, 3, 6, 7] ["cells", "low", "high", "lows", "row", "end", "rows", "index"] (defScope s_intervals) = true := by decide +kernel
theorem ga_intervals : glAll ["highs", "len", "range", "sorted", "set"] (defScope s_intervals) = true := by decide +kernel
noncomputable def lb_intervals_0 : SM :=
  (mExpr (mBm .list fnAppend (mVar 6) (mCons (mTup (mCons (mIx (mVar 3) (mVar 7)) (mCons (mIx (mVar 3) (mBin fAdd (mVar 7) (mC (.int 1)))) mNil))) mNil)))
noncomputable def m_intervals : SM :=
  (mSeq (mSet 3 (mSortSet false (mCat false (mCat false (mLc [4] (LT.one 4) (iAny (mVar 0)) mYes (mIx (mVar 4) (mC (.int 0)))) (mLst false (mCons (mVar 1) mNil))) (mLc [5] (LT.one 5) (iAny (mCall V_highs (mCons (mVar 0) (mCons (mVar 2) mNil)))) (mBl (mBin fIsNot (mVar 5) (mC .non))) (mVar 5)))))
    (mSeq (mSet 6 (mLst true mNil))
    (mSeq (mFor (iRng (mCons (mBin fSub (mCall fnLen (mCons (mVar 3) mNil)) (mC (.int 1))) mNil)) (gNm 7) lb_intervals_0)
    (mSeq (mIfS (mBl (mBin fIn (mC .non) (mCall V_highs (mCons (mVar 0) (mCons (mVar 2) mNil))))) (mExpr (mBm .list fnAppend (mVar 6) (mCons (mTup (mCons (mIx (mVar 3) (mUn fNeg (mC (.int 1)))) (mCons (mC .non) mNil))) mNil))) mSkip)
    (mRet (mVar 6))))))
noncomputable def V_intervals : FM := den 8 m_intervals
theorem ok_intervals {f : Addr} {fd : FuncData} (F : Fun K "intervals" "intervals" s_intervals f fd)
    (d_highs : DefOk P w K mg base nm 1 "highs" 2 V_highs)
    (n_range : mg "range" = none)
    (n_len : mg "len" = none)
    (n_sorted : mg "sorted" = none)
    (n_set : mg "set" = none) :
    FnOk P w K mg base (L2.CX P w) 2 f fd ["cells", "low", "high"] (spD nm K mg 3 V_intervals) :=
  den_ok (m := m_intervals) F sc_intervals (fun cdv A outer s H E hr => by
  have nd := sc_intervals.nd
  have hh := L2H.roomH_of hr
  have hl : locAll [0, 1, 2, 3, 6, 7] (cxOf (L2.CX P w) P w K mg base ["cells", "low", "high", "lows", "row", "end", "rows", "index"] "intervals" (defScope s_intervals) f cdv A outer s H E).N (cxOf (L2.CX P w) P w K mg base ["cells", "low", "high", "lows", "row", "end", "rows", "index"] "intervals" (defScope s_intervals) f cdv A outer s H E).env.scope = true := va_intervals
  have hv := locVis hl
  have hg : glAll ["highs", "len", "range", "sorted", "set"] (cxOf (L2.CX P w) P w K mg base ["cells", "low", "high", "lows", "row", "end", "rows", "index"] "intervals" (defScope s_intervals) f cdv A outer s H E).env.scope = true := ga_intervals
  have hc : (cxOf (L2.CX P w) P w K mg base ["cells", "low", "high", "lows", "row", "end", "rows", "index"] "intervals" (defScope s_intervals) f cdv A outer s H E).calm = true := rfl
  have hp : PassesOwn (model P w) (cxOf (L2.CX P w) P w K mg base ["cells", "low", "high", "lows", "row", "end", "rows", "index"] "intervals" (defScope s_intervals) f cdv A outer s H E).A (cxOf (L2.CX P w) P w K mg base ["cells", "low", "high", "lows", "row", "end", "rows", "index"] "intervals" (defScope s_intervals) f cdv A outer s H E).env (cxOf (L2.CX P w) P w K mg base ["cells", "low", "high", "lows", "row", "end", "rows", "index"] "intervals" (defScope s_intervals) f cdv A outer s H E).xe := passes_of rfl
  exact (mb_cons (ms_set 3 nd hl (me_sortSet false hc (gl_at hg 3) n_sorted bb_sorted (gl_at hg 4) n_set (me_cat false (me_cat false (me_lc (LT.one 4) hc nd (mi_any (me_var 0 hv)) (blkOk_by lcb_intervals_0) rfl (by simp) (fun s1 H1 C cl fp => (pg_one 4 nd rfl (.inl lcl_intervals_0_0) (.inr lcl_intervals_0_0))) (fun s1 H1 C cl fp => by
    have hvb : visAll [4] (Cx.blk (cxOf (L2.CX P w) P w K mg base ["cells", "low", "high", "lows", "row", "end", "rows", "index"] "intervals" (defScope s_intervals) f cdv A outer s H E) s1 H1 lcx_intervals_0 (compEnvC lcx_intervals_0 cl C (cxOf (L2.CX P w) P w K mg base ["cells", "low", "high", "lows", "row", "end", "rows", "index"] "intervals" (defScope s_intervals) f cdv A outer s H E).env) fp).N (Cx.blk (cxOf (L2.CX P w) P w K mg base ["cells", "low", "high", "lows", "row", "end", "rows", "index"] "intervals" (defScope s_intervals) f cdv A outer s H E) s1 H1 lcx_intervals_0 (compEnvC lcx_intervals_0 cl C (cxOf (L2.CX P w) P w K mg base ["cells", "low", "high", "lows", "row", "end", "rows", "index"] "intervals" (defScope s_intervals) f cdv A outer s H E).env) fp).env.scope = true := lcv_intervals_0
    have hgb : glAll [] (Cx.blk (cxOf (L2.CX P w) P w K mg base ["cells", "low", "high", "lows", "row", "end", "rows", "index"] "intervals" (defScope s_intervals) f cdv A outer s H E) s1 H1 lcx_intervals_0 (compEnvC lcx_intervals_0 cl C (cxOf (L2.CX P w) P w K mg base ["cells", "low", "high", "lows", "row", "end", "rows", "index"] "intervals" (defScope s_intervals) f cdv A outer s H E).env) fp).env.scope = true := lcg_intervals_0
    exact mts_nil) (fun s1 H1 C cl fp => by
    have hvb : visAll [4] (Cx.blk (cxOf (L2.CX P w) P w K mg base ["cells", "low", "high", "lows", "row", "end", "rows", "index"] "intervals" (defScope s_intervals) f cdv A outer s H E) s1 H1 lcx_intervals_0 (compEnvC lcx_intervals_0 cl C (cxOf (L2.CX P w) P w K mg base ["cells", "low", "high", "lows", "row", "end", "rows", "index"] "intervals" (defScope s_intervals) f cdv A outer s H E).env) fp).N (Cx.blk (cxOf (L2.CX P w) P w K mg base ["cells", "low", "high", "lows", "row", "end", "rows", "index"] "intervals" (defScope s_intervals) f cdv A outer s H E) s1 H1 lcx_intervals_0 (compEnvC lcx_intervals_0 cl C (cxOf (L2.CX P w) P w K mg base ["cells", "low", "high", "lows", "row", "end", "rows", "index"] "intervals" (defScope s_intervals) f cdv A outer s H E).env) fp).env.scope = true := lcv_intervals_0
    have hgb : glAll [] (Cx.blk (cxOf (L2.CX P w) P w K mg base ["cells", "low", "high", "lows", "row", "end", "rows", "index"] "intervals" (defScope s_intervals) f cdv A outer s H E) s1 H1 lcx_intervals_0 (compEnvC lcx_intervals_0 cl C (cxOf (L2.CX P w) P w K mg base ["cells", "low", "high", "lows", "row", "end", "rows", "index"] "intervals" (defScope s_intervals) f cdv A outer s H E).env) fp).env.scope = true := lcg_intervals_0
    exact (me_ix hh (me_var 4 hvb) me_int))) (me_lst false (ma_cons (me_var 1 hv) ma_nil))) (me_lc (LT.one 5) hc nd (mi_any (me_call d_highs (hr.mono (by decide)) (gl_at hg 0) (ma_cons (me_var 0 hv) (ma_cons (me_var 2 hv) ma_nil)))) (blkOk_by lcb_intervals_1) rfl (by simp) (fun s1 H1 C cl fp => (pg_one 5 nd rfl (.inl lcl_intervals_1_0) (.inr lcl_intervals_1_0))) (fun s1 H1 C cl fp => by
    have hvb : visAll [5] (Cx.blk (cxOf (L2.CX P w) P w K mg base ["cells", "low", "high", "lows", "row", "end", "rows", "index"] "intervals" (defScope s_intervals) f cdv A outer s H E) s1 H1 lcx_intervals_1 (compEnvC lcx_intervals_1 cl C (cxOf (L2.CX P w) P w K mg base ["cells", "low", "high", "lows", "row", "end", "rows", "index"] "intervals" (defScope s_intervals) f cdv A outer s H E).env) fp).N (Cx.blk (cxOf (L2.CX P w) P w K mg base ["cells", "low", "high", "lows", "row", "end", "rows", "index"] "intervals" (defScope s_intervals) f cdv A outer s H E) s1 H1 lcx_intervals_1 (compEnvC lcx_intervals_1 cl C (cxOf (L2.CX P w) P w K mg base ["cells", "low", "high", "lows", "row", "end", "rows", "index"] "intervals" (defScope s_intervals) f cdv A outer s H E).env) fp).env.scope = true := lcv_intervals_1
    have hgb : glAll [] (Cx.blk (cxOf (L2.CX P w) P w K mg base ["cells", "low", "high", "lows", "row", "end", "rows", "index"] "intervals" (defScope s_intervals) f cdv A outer s H E) s1 H1 lcx_intervals_1 (compEnvC lcx_intervals_1 cl C (cxOf (L2.CX P w) P w K mg base ["cells", "low", "high", "lows", "row", "end", "rows", "index"] "intervals" (defScope s_intervals) f cdv A outer s H E).env) fp).env.scope = true := lcg_intervals_1
    exact (mts_one (mt_cmp o_isnot (me_var 5 hvb) me_non (nomark _)))) (fun s1 H1 C cl fp => by
    have hvb : visAll [5] (Cx.blk (cxOf (L2.CX P w) P w K mg base ["cells", "low", "high", "lows", "row", "end", "rows", "index"] "intervals" (defScope s_intervals) f cdv A outer s H E) s1 H1 lcx_intervals_1 (compEnvC lcx_intervals_1 cl C (cxOf (L2.CX P w) P w K mg base ["cells", "low", "high", "lows", "row", "end", "rows", "index"] "intervals" (defScope s_intervals) f cdv A outer s H E).env) fp).N (Cx.blk (cxOf (L2.CX P w) P w K mg base ["cells", "low", "high", "lows", "row", "end", "rows", "index"] "intervals" (defScope s_intervals) f cdv A outer s H E) s1 H1 lcx_intervals_1 (compEnvC lcx_intervals_1 cl C (cxOf (L2.CX P w) P w K mg base ["cells", "low", "high", "lows", "row", "end", "rows", "index"] "intervals" (defScope s_intervals) f cdv A outer s H E).env) fp).env.scope = true := lcv_intervals_1
    have hgb : glAll [] (Cx.blk (cxOf (L2.CX P w) P w K mg base ["cells", "low", "high", "lows", "row", "end", "rows", "index"] "intervals" (defScope s_intervals) f cdv A outer s H E) s1 H1 lcx_intervals_1 (compEnvC lcx_intervals_1 cl C (cxOf (L2.CX P w) P w K mg base ["cells", "low", "high", "lows", "row", "end", "rows", "index"] "intervals" (defScope s_intervals) f cdv A outer s H E).env) fp).env.scope = true := lcg_intervals_1
    exact (me_var 5 hvb))))))
    (mb_cons (ms_set 6 nd hl (me_lst true ma_nil))
    (mb_cons (ms_for hp hc (mi_range1 (gl_at hg 2) n_range (ma_cons (me_bin o_sub (me_callB c_len (gl_at hg 1) n_len bb_len (ma_cons (me_var 3 hv) ma_nil)) me_int) ma_nil)) (mg_name 7 nd hl) (gok_nm 7) (mb_one (ms_expr (me_bm (T := .list) PySem.F.plainAttrs_list PySem.F.slot_list_append PySem.F.type_list_append t_append (me_var 6 hv) (ma_cons (me_tup (ma_cons (me_ix hh (me_var 3 hv) (me_var 7 hv)) (ma_cons (me_ix hh (me_var 3 hv) (me_bin o_add (me_var 7 hv) me_int)) ma_nil))) ma_nil)))))
    (mb_cons (ms_if (mt_cmp (o_in hh) me_non (me_call d_highs (hr.mono (by decide)) (gl_at hg 0) (ma_cons (me_var 0 hv) (ma_cons (me_var 2 hv) ma_nil))) (by rfl)) (mb_one (ms_expr (me_bm (T := .list) PySem.F.plainAttrs_list PySem.F.slot_list_append PySem.F.type_list_append t_append (me_var 6 hv) (ma_cons (me_tup (ma_cons (me_ix hh (me_var 3 hv) (me_neg me_int)) (ma_cons me_non ma_nil))) ma_nil)))) mb_nil)
    (mb_one (ms_ret (me_var 6 hv)))))))) rfl rfl
abbrev s__law_cell : Stmt := (topS 10)
theorem sc__law_cell : FnScope ["_law_script", "_law_k"] ["_law_script", "_law_k"] (defScope s__law_cell) := ⟨rfl, rfl, rfl, by decide +kernel, rfl, by decide +kernel, by decide +kernel⟩
theorem va__law_cell : locAll [0, 1] ["_law_script", "_law_k"] (defScope s__law_cell) = true := by decide +kernel
theorem ga__law_cell : glAll ["len", "int", "abs"] (defScope s__law_cell) = true := by decide +kernel
noncomputable def m__law_cell : SM :=
  (mSeq (mIfS (mBl (mBin fLt (mVar 1) (mCall fnLen (mCons (mVar 0) mNil)))) (mRet (mCall fnAbs (mCons (mCall fnInt (mCons (mIx (mVar 0) (mVar 1)) mNil)) mNil))) mSkip)
    (mRet (mC (.int 0))))
noncomputable def V__law_cell : FM := den 2 m__law_cell
theorem ok__law_cell {f : Addr} {fd : FuncData} (F : Fun K "_law_cell" "_law_cell" s__law_cell f fd)
    (n_len : mg "len" = none)
    (n_int : mg "int" = none)
    (n_abs : mg "abs" = none) :
    FnOk P w K mg base (L2.CX P w) 1 f fd ["_law_script", "_law_k"] (spD nm K mg 2 V__law_cell) :=
  den_ok (m := m__law_cell) F sc__law_cell (fun cdv A outer s H E hr => by
  have nd := sc__law_cell.nd
  have hh := L2H.roomH_of hr
  have hl : locAll [0, 1] (cxOf (L2.CX P w) P w K mg base ["_law_script", "_law_k"] "_law_cell" (defScope s__law_cell) f cdv A outer s H E).N (cxOf (L2.CX P w) P w K mg base ["_law_script", "_law_k"] "_law_cell" (defScope s__law_cell) f cdv A outer s H E).env.scope = true := va__law_cell
  have hv := locVis hl
  have hg : glAll ["len", "int", "abs"] (cxOf (L2.CX P w) P w K mg base ["_law_script", "_law_k"] "_law_cell" (defScope s__law_cell) f cdv A outer s H E).env.scope = true := ga__law_cell
  have hc : (cxOf (L2.CX P w) P w K mg base ["_law_script", "_law_k"] "_law_cell" (defScope s__law_cell) f cdv A outer s H E).calm = true := rfl
  have hp : PassesOwn (model P w) (cxOf (L2.CX P w) P w K mg base ["_law_script", "_law_k"] "_law_cell" (defScope s__law_cell) f cdv A outer s H E).A (cxOf (L2.CX P w) P w K mg base ["_law_script", "_law_k"] "_law_cell" (defScope s__law_cell) f cdv A outer s H E).env (cxOf (L2.CX P w) P w K mg base ["_law_script", "_law_k"] "_law_cell" (defScope s__law_cell) f cdv A outer s H E).xe := passes_of rfl
  exact (mb_cons (ms_if (mt_cmp o_lt (me_var 1 hv) (me_callB c_len (gl_at hg 0) n_len bb_len (ma_cons (me_var 0 hv) ma_nil)) (nomark _)) (mb_one (ms_ret (me_callB c_abs (gl_at hg 2) n_abs bb_abs (ma_cons (me_callT c_int (gl_at hg 1) n_int bb_int (ma_cons (me_ix hh (me_var 0 hv) (me_var 1 hv)) ma_nil)) ma_nil)))) mb_nil)
    (mb_one (ms_ret me_int)))) rfl rfl
abbrev s__law_draws : Stmt := (topS 11)
theorem sc__law_draws : FnScope ["_law_script", "_law_start", "_law_most", "_law_draws_here", "_law_cell_here", "_law_number", "_law_mixed", "_law_k"] ["_law_script", "_law_start", "_law_most"] (defScope s__law_draws) := ⟨rfl, rfl, rfl, by decide +kernel, rfl, by decide +kernel, by decide +kernel⟩
theorem va__law_draws : locAll [0, 1, 2, 3, 4, 5, 6, 7] ["_law_script", "_law_start", "_law_most", "_law_draws_here", "_law_cell_here", "_law_number", "_law_mixed", "_law_k"] (defScope s__law_draws) = true := by decide +kernel
theorem ga__law_draws : glAll ["int", "range", "abs"] (defScope s__law_draws) = true := by decide +kernel
noncomputable def lb__law_draws_0 : SM :=
  (mSeq (mIfS (mBl (mBin fGt (mVar 5) (mC (.int 0)))) (mExpr (mBm .list fnAppend (mVar 3) (mCons (mBin fMod (mCall fnInt (mCons (mVar 5) mNil)) (mC (.int 1000000))) mNil))) mSkip)
    (mSet 5 (mBin fDiv (mVar 5) (mC (.int 1000000)))))
noncomputable def lb__law_draws_1 : SM :=
  (mSeq (mSet 5 (mCall fnAbs (mCons (mCall fnInt (mCons (mVar 4) mNil)) mNil)))
    (mIfS (mBl (mBin fLt (mVar 5) (mBin fPow (mC (.int 10)) (mC (.int 18))))) (mSeq (mSet 6 (mBin fMod (mCall fnInt (mCons (mBin fAdd (mBin fMul (mVar 5) (mC (.int 39373))) (mC (.int 23))) mNil)) (mC (.int 2147483647))))
    (mSeq (mExpr (mBm .list fnAppend (mVar 3) (mCons (mVar 5) mNil)))
    (mSeq (mExpr (mBm .list fnAppend (mVar 3) (mCons (mBin fDiv (mBin fMod (mCall fnInt (mCons (mBin fAdd (mBin fAdd (mBin fMul (mVar 6) (mC (.int 16807))) (mBin fDiv (mVar 5) (mC (.int 6)))) (mC (.int 3))) mNil)) (mC (.int 2147483399))) (mC (.int 3))) mNil)))
    (mExpr (mBm .list fnAppend (mVar 3) (mCons (mBin fDiv (mBin fMod (mCall fnInt (mCons (mBin fAdd (mBin fAdd (mBin fMul (mVar 6) (mC (.int 69621))) (mBin fDiv (mVar 5) (mC (.int 11)))) (mC (.int 8))) mNil)) (mC (.int 2147483629))) (mC (.int 7))) mNil)))))) (mFor (iRng (mCons (mC (.int 24)) mNil)) (gNm 7) lb__law_draws_0)))
noncomputable def m__law_draws : SM :=
  (mSeq (mSet 3 (mLst true mNil))
    (mSeq (mFor (iAny (mSl false (mVar 0) (oAt (mVar 1)) oNo)) (gNm 4) lb__law_draws_1)
    (mRet (mSl false (mVar 3) oNo (oAt (mVar 2))))))
noncomputable def V__law_draws : FM := den 8 m__law_draws
theorem ok__law_draws {f : Addr} {fd : FuncData} (F : Fun K "_law_draws" "_law_draws" s__law_draws f fd)
    (n_int : mg "int" = none)
    (n_range : mg "range" = none)
    (n_abs : mg "abs" = none) :
    FnOk P w K mg base (L2.CX P w) 1 f fd ["_law_script", "_law_start", "_law_most"] (spD nm K mg 3 V__law_draws) :=
  den_ok (m := m__law_draws) F sc__law_draws (fun cdv A outer s H E hr => by
  have nd := sc__law_draws.nd
  have hh := L2H.roomH_of hr
  have hl : locAll [0, 1, 2, 3, 4, 5, 6, 7] (cxOf (L2.CX P w) P w K mg base ["_law_script", "_law_start", "_law_most", "_law_draws_here", "_law_cell_here", "_law_number", "_law_mixed", "_law_k"] "_law_draws" (defScope s__law_draws) f cdv A outer s H E).N (cxOf (L2.CX P w) P w K mg base ["_law_script", "_law_start", "_law_most", "_law_draws_here", "_law_cell_here", "_law_number", "_law_mixed", "_law_k"] "_law_draws" (defScope s__law_draws) f cdv A outer s H E).env.scope = true := va__law_draws
  have hv := locVis hl
  have hg : glAll ["int", "range", "abs"] (cxOf (L2.CX P w) P w K mg base ["_law_script", "_law_start", "_law_most", "_law_draws_here", "_law_cell_here", "_law_number", "_law_mixed", "_law_k"] "_law_draws" (defScope s__law_draws) f cdv A outer s H E).env.scope = true := ga__law_draws
  have hc : (cxOf (L2.CX P w) P w K mg base ["_law_script", "_law_start", "_law_most", "_law_draws_here", "_law_cell_here", "_law_number", "_law_mixed", "_law_k"] "_law_draws" (defScope s__law_draws) f cdv A outer s H E).calm = true := rfl
  have hp : PassesOwn (model P w) (cxOf (L2.CX P w) P w K mg base ["_law_script", "_law_start", "_law_most", "_law_draws_here", "_law_cell_here", "_law_number", "_law_mixed", "_law_k"] "_law_draws" (defScope s__law_draws) f cdv A outer s H E).A (cxOf (L2.CX P w) P w K mg base ["_law_script", "_law_start", "_law_most", "_law_draws_here", "_law_cell_here", "_law_number", "_law_mixed", "_law_k"] "_law_draws" (defScope s__law_draws) f cdv A outer s H E).env (cxOf (L2.CX P w) P w K mg base ["_law_script", "_law_start", "_law_most", "_law_draws_here", "_law_cell_here", "_law_number", "_law_mixed", "_law_k"] "_law_draws" (defScope s__law_draws) f cdv A outer s H E).xe := passes_of rfl
  exact (mb_cons (ms_set 3 nd hl (me_lst true ma_nil))
    (mb_cons (ms_for hp hc (mi_any (me_sl false (me_var 0 hv) (mo_at (me_var 1 hv)) mo_no)) (mg_name 4 nd hl) (gok_nm 4) (mb_cons (ms_set 5 nd hl (me_callB c_abs (gl_at hg 2) n_abs bb_abs (ma_cons (me_callT c_int (gl_at hg 0) n_int bb_int (ma_cons (me_var 4 hv) ma_nil)) ma_nil)))
    (mb_one (ms_if (mt_cmp o_lt (me_var 5 hv) (me_bin o_pow me_int me_int) (nomark _)) (mb_cons (ms_set 6 nd hl (me_bin o_mod (me_callT c_int (gl_at hg 0) n_int bb_int (ma_cons (me_bin o_add (me_bin o_mul (me_var 5 hv) me_int) me_int) ma_nil)) me_int))
    (mb_cons (ms_expr (me_bm (T := .list) PySem.F.plainAttrs_list PySem.F.slot_list_append PySem.F.type_list_append t_append (me_var 3 hv) (ma_cons (me_var 5 hv) ma_nil)))
    (mb_cons (ms_expr (me_bm (T := .list) PySem.F.plainAttrs_list PySem.F.slot_list_append PySem.F.type_list_append t_append (me_var 3 hv) (ma_cons (me_bin o_div (me_bin o_mod (me_callT c_int (gl_at hg 0) n_int bb_int (ma_cons (me_bin o_add (me_bin o_add (me_bin o_mul (me_var 6 hv) me_int) (me_bin o_div (me_var 5 hv) me_int)) me_int) ma_nil)) me_int) me_int) ma_nil)))
    (mb_one (ms_expr (me_bm (T := .list) PySem.F.plainAttrs_list PySem.F.slot_list_append PySem.F.type_list_append t_append (me_var 3 hv) (ma_cons (me_bin o_div (me_bin o_mod (me_callT c_int (gl_at hg 0) n_int bb_int (ma_cons (me_bin o_add (me_bin o_add (me_bin o_mul (me_var 6 hv) me_int) (me_bin o_div (me_var 5 hv) me_int)) me_int) ma_nil)) me_int) me_int) ma_nil))))))) (mb_one (ms_for hp hc (mi_range1 (gl_at hg 1) n_range (ma_cons me_int ma_nil)) (mg_name 7 nd hl) (gok_nm 7) (mb_cons (ms_if (mt_cmp o_gt (me_var 5 hv) me_int (nomark _)) (mb_one (ms_expr (me_bm (T := .list) PySem.F.plainAttrs_list PySem.F.slot_list_append PySem.F.type_list_append t_append (me_var 3 hv) (ma_cons (me_bin o_mod (me_callT c_int (gl_at hg 0) n_int bb_int (ma_cons (me_var 5 hv) ma_nil)) me_int) ma_nil)))) mb_nil)
    (mb_one (ms_set 5 nd hl (me_bin o_div (me_var 5 hv) me_int))))))))))
    (mb_one (ms_ret (me_sl false (me_var 3 hv) mo_no (mo_at (me_var 2 hv)))))))) rfl rfl
abbrev s__law_key : Stmt := (topS 12)
theorem sc__law_key : FnScope ["_law_number", "_law_letters", "_law_text", "_law_k"] ["_law_number"] (defScope s__law_key) := ⟨rfl, rfl, rfl, by decide +kernel, rfl, by decide +kernel, by decide +kernel⟩
theorem va__law_key : locAll [0, 1, 2, 3] ["_law_number", "_law_letters", "_law_text", "_law_k"] (defScope s__law_key) = true := by decide +kernel
theorem ga__law_key : glAll ["range", "int"] (defScope s__law_key) = true := by decide +kernel
noncomputable def lb__law_key_0 : SM :=
  (mSeq (mSet 0 (mBin fDiv (mVar 0) (mC (.int 5))))
    (mSet 2 (mBin fAdd (mVar 2) (mIx (mVar 1) (mBin fMod (mCall fnInt (mCons (mVar 0) mNil)) (mC (.int 26)))))))
noncomputable def m__law_key : SM :=
  (mSeq (mSet 1 (mC (.str "abcdefghijklmnopqrstuvwxyz")))
    (mSeq (mSet 2 (mC (.str "")))
    (mSeq (mFor (iRng (mCons (mBin fAdd (mC (.int 1)) (mBin fMod (mVar 0) (mC (.int 3)))) mNil)) (gNm 3) lb__law_key_0)
    (mRet (mVar 2)))))
noncomputable def V__law_key : FM := den 4 m__law_key
theorem ok__law_key {f : Addr} {fd : FuncData} (F : Fun K "_law_key" "_law_key" s__law_key f fd)
    (n_range : mg "range" = none)
    (n_int : mg "int" = none) :
    FnOk P w K mg base (L2.CX P w) 1 f fd ["_law_number"] (spD nm K mg 1 V__law_key) :=
  den_ok (m := m__law_key) F sc__law_key (fun cdv A outer s H E hr => by
  have nd := sc__law_key.nd
  have hh := L2H.roomH_of hr
  have hl : locAll [0, 1, 2, 3] (cxOf (L2.CX P w) P w K mg base ["_law_number", "_law_letters", "_law_text", "_law_k"] "_law_key" (defScope s__law_key) f cdv A outer s H E).N (cxOf (L2.CX P w) P w K mg base ["_law_number", "_law_letters", "_law_text", "_law_k"] "_law_key" (defScope s__law_key) f cdv A outer s H E).env.scope = true := va__law_key
  have hv := locVis hl
  have hg : glAll ["range", "int"] (cxOf (L2.CX P w) P w K mg base ["_law_number", "_law_letters", "_law_text", "_law_k"] "_law_key" (defScope s__law_key) f cdv A outer s H E).env.scope = true := ga__law_key
  have hc : (cxOf (L2.CX P w) P w K mg base ["_law_number", "_law_letters", "_law_text", "_law_k"] "_law_key" (defScope s__law_key) f cdv A outer s H E).calm = true := rfl
  have hp : PassesOwn (model P w) (cxOf (L2.CX P w) P w K mg base ["_law_number", "_law_letters", "_law_text", "_law_k"] "_law_key" (defScope s__law_key) f cdv A outer s H E).A (cxOf (L2.CX P w) P w K mg base ["_law_number", "_law_letters", "_law_text", "_law_k"] "_law_key" (defScope s__law_key) f cdv A outer s H E).env (cxOf (L2.CX P w) P w K mg base ["_law_number", "_law_letters", "_law_text", "_law_k"] "_law_key" (defScope s__law_key) f cdv A outer s H E).xe := passes_of rfl
  exact (mb_cons (ms_set 1 nd hl me_str)
    (mb_cons (ms_set 2 nd hl me_str)
    (mb_cons (ms_for hp hc (mi_range1 (gl_at hg 0) n_range (ma_cons (me_bin o_add me_int (me_bin o_mod (me_var 0 hv) me_int)) ma_nil)) (mg_name 3 nd hl) (gok_nm 3) (mb_cons (ms_set 0 nd hl (me_bin o_div (me_var 0 hv) me_int))
    (mb_one (ms_set 2 nd hl (me_bin o_add (me_var 2 hv) (me_ix hh (me_var 1 hv) (me_bin o_mod (me_callT c_int (gl_at hg 1) n_int bb_int (ma_cons (me_var 0 hv) ma_nil)) me_int)))))))
    (mb_one (ms_ret (me_var 2 hv))))))) rfl rfl
abbrev s__law_bounds : Stmt := (topS 13)
theorem sc__law_bounds : FnScope ["_law_cell_here", "_law_keys", "_law_k"] ["_law_cell_here"] (defScope s__law_bounds) := ⟨rfl, rfl, rfl, by decide +kernel, rfl, by decide +kernel, by decide +kernel⟩
abbrev lcx__law_bounds_0 : Scope := (lcOf (skid (stm (defBody s__law_bounds) 0) 0))
theorem lcb__law_bounds_0 : blkC ["_law_cell_here", "_law_keys", "_law_k"] (defScope s__law_bounds) lcx__law_bounds_0 [("_law_k", 2)] = true := by decide +kernel
theorem lcv__law_bounds_0 : visAll [0, 2] ["_law_cell_here", "_law_keys", "_law_k"] (relS lcx__law_bounds_0 (defScope s__law_bounds)) = true := by decide +kernel
theorem lcg__law_bounds_0 : glAll ["_law_key"] (relS lcx__law_bounds_0 (defScope s__law_bounds)) = true := by decide +kernel
theorem lcl__law_bounds_0_0 : (relS lcx__law_bounds_0 (defScope s__law_bounds)).names.lookup ("_law_k" : Str) = some NameKind.local := by decide +kernel
theorem lca__law_bounds_0 : (lcx__law_bounds_0.names.any fun (n, k) => n == ("_law_keys" : Str) && (k == .local || k == .cell)) = false := by decide +kernel
theorem va__law_bounds : locAll [0, 1] ["_law_cell_here", "_law_keys", "_law_k"] (defScope s__law_bounds) = true := by decide +kernel
theorem ga__law_bounds : glAll ["sorted", "set", "range"] (defScope s__law_bounds) = true := by decide +kernel
theorem ln__law_bounds_1 : (defScope s__law_bounds).names.lookup ("_law_keys" : Str) = some NameKind.local := by decide +kernel
noncomputable def m__law_bounds : SM :=
  (mSeq (mSet 1 (mLc [2] (LT.one 2) (iRng (mCons (mC (.int 8)) mNil)) mYes (mCall V__law_key (mCons (mBin fAdd (mBin fDiv (mVar 0) (mBin fAdd (mC (.int 1)) (mBin fMul (mBin fMul (mC (.int 7)) (mVar 2)) (mVar 2)))) (mBin fMul (mC (.int 3)) (mVar 2))) mNil))))
    (mRet (mCat false (mLst false (mCons (mC (.str "")) mNil)) (mSortSet false (mVar 1)))))
noncomputable def V__law_bounds : FM := den 3 m__law_bounds
theorem ok__law_bounds {f : Addr} {fd : FuncData} (F : Fun K "_law_bounds" "_law_bounds" s__law_bounds f fd)
    (n_sorted : mg "sorted" = none)
    (n_set : mg "set" = none)
    (n_range : mg "range" = none)
    (d__law_key : DefOk P w K mg base nm 1 "_law_key" 1 V__law_key) :
    FnOk P w K mg base (L2.CX P w) 2 f fd ["_law_cell_here"] (spD nm K mg 1 V__law_bounds) :=
  den_ok (m := m__law_bounds) F sc__law_bounds (fun cdv A outer s H E hr => by
  have nd := sc__law_bounds.nd
  have hh := L2H.roomH_of hr
  have hl : locAll [0, 1] (cxOf (L2.CX P w) P w K mg base ["_law_cell_here", "_law_keys", "_law_k"] "_law_bounds" (defScope s__law_bounds) f cdv A outer s H E).N (cxOf (L2.CX P w) P w K mg base ["_law_cell_here", "_law_keys", "_law_k"] "_law_bounds" (defScope s__law_bounds) f cdv A outer s H E).env.scope = true := va__law_bounds
  have hv := locVis hl
  have hg : glAll ["sorted", "set", "range"] (cxOf (L2.CX P w) P w K mg base ["_law_cell_here", "_law_keys", "_law_k"] "_law_bounds" (defScope s__law_bounds) f cdv A outer s H E).env.scope = true := ga__law_bounds
  have hc : (cxOf (L2.CX P w) P w K mg base ["_law_cell_here", "_law_keys", "_law_k"] "_law_bounds" (defScope s__law_bounds) f cdv A outer s H E).calm = true := rfl
  have hp : PassesOwn (model P w) (cxOf (L2.CX P w) P w K mg base ["_law_cell_here", "_law_keys", "_law_k"] "_law_bounds" (defScope s__law_bounds) f cdv A outer s H E).A (cxOf (L2.CX P w) P w K mg base ["_law_cell_here", "_law_keys", "_law_k"] "_law_bounds" (defScope s__law_bounds) f cdv A outer s H E).env (cxOf (L2.CX P w) P w K mg base ["_law_cell_here", "_law_keys", "_law_k"] "_law_bounds" (defScope s__law_bounds) f cdv A outer s H E).xe := passes_of rfl
  exact (mb_cons (ms_setLc 1 (LT.one 2) hc nd rfl ln__law_bounds_1 rfl rfl lca__law_bounds_0 (mi_range1 (gl_at hg 2) n_range (ma_cons me_int ma_nil)) (blkOk_by lcb__law_bounds_0) rfl (by simp) (fun s1 H1 C cl fp => (pg_one 2 nd rfl (.inl lcl__law_bounds_0_0) (.inr lcl__law_bounds_0_0))) (fun s1 H1 C cl fp => by
    have hvb : visAll [0, 2] (Cx.blk (cxOf (L2.CX P w) P w K mg base ["_law_cell_here", "_law_keys", "_law_k"] "_law_bounds" (defScope s__law_bounds) f cdv A outer s H E) s1 H1 lcx__law_bounds_0 (compEnvC lcx__law_bounds_0 cl C (cxOf (L2.CX P w) P w K mg base ["_law_cell_here", "_law_keys", "_law_k"] "_law_bounds" (defScope s__law_bounds) f cdv A outer s H E).env) fp).N (Cx.blk (cxOf (L2.CX P w) P w K mg base ["_law_cell_here", "_law_keys", "_law_k"] "_law_bounds" (defScope s__law_bounds) f cdv A outer s H E) s1 H1 lcx__law_bounds_0 (compEnvC lcx__law_bounds_0 cl C (cxOf (L2.CX P w) P w K mg base ["_law_cell_here", "_law_keys", "_law_k"] "_law_bounds" (defScope s__law_bounds) f cdv A outer s H E).env) fp).env.scope = true := lcv__law_bounds_0
    have hgb : glAll ["_law_key"] (Cx.blk (cxOf (L2.CX P w) P w K mg base ["_law_cell_here", "_law_keys", "_law_k"] "_law_bounds" (defScope s__law_bounds) f cdv A outer s H E) s1 H1 lcx__law_bounds_0 (compEnvC lcx__law_bounds_0 cl C (cxOf (L2.CX P w) P w K mg base ["_law_cell_here", "_law_keys", "_law_k"] "_law_bounds" (defScope s__law_bounds) f cdv A outer s H E).env) fp).env.scope = true := lcg__law_bounds_0
    exact mts_nil) (fun s1 H1 C cl fp => by
    have hvb : visAll [0, 2] (Cx.blk (cxOf (L2.CX P w) P w K mg base ["_law_cell_here", "_law_keys", "_law_k"] "_law_bounds" (defScope s__law_bounds) f cdv A outer s H E) s1 H1 lcx__law_bounds_0 (compEnvC lcx__law_bounds_0 cl C (cxOf (L2.CX P w) P w K mg base ["_law_cell_here", "_law_keys", "_law_k"] "_law_bounds" (defScope s__law_bounds) f cdv A outer s H E).env) fp).N (Cx.blk (cxOf (L2.CX P w) P w K mg base ["_law_cell_here", "_law_keys", "_law_k"] "_law_bounds" (defScope s__law_bounds) f cdv A outer s H E) s1 H1 lcx__law_bounds_0 (compEnvC lcx__law_bounds_0 cl C (cxOf (L2.CX P w) P w K mg base ["_law_cell_here", "_law_keys", "_law_k"] "_law_bounds" (defScope s__law_bounds) f cdv A outer s H E).env) fp).env.scope = true := lcv__law_bounds_0
    have hgb : glAll ["_law_key"] (Cx.blk (cxOf (L2.CX P w) P w K mg base ["_law_cell_here", "_law_keys", "_law_k"] "_law_bounds" (defScope s__law_bounds) f cdv A outer s H E) s1 H1 lcx__law_bounds_0 (compEnvC lcx__law_bounds_0 cl C (cxOf (L2.CX P w) P w K mg base ["_law_cell_here", "_law_keys", "_law_k"] "_law_bounds" (defScope s__law_bounds) f cdv A outer s H E).env) fp).env.scope = true := lcg__law_bounds_0
    exact (me_call d__law_key (hr.mono (by decide)) (gl_at hgb 0) (ma_cons (me_bin o_add (me_bin o_div (me_var 0 hvb) (me_bin o_add me_int (me_bin o_mul (me_bin o_mul me_int (me_var 2 hvb)) (me_var 2 hvb)))) (me_bin o_mul me_int (me_var 2 hvb))) ma_nil))))
    (mb_one (ms_ret (me_cat false (me_lst false (ma_cons me_str ma_nil)) (me_sortSet false hc (gl_at hg 0) n_sorted bb_sorted (gl_at hg 1) n_set (me_var 1 hv))))))) rfl rfl
abbrev s__law_high : Stmt := (topS 14)
theorem sc__law_high : FnScope ["_law_bounds_here", "_law_at"] ["_law_bounds_here", "_law_at"] (defScope s__law_high) := ⟨rfl, rfl, rfl, by decide +kernel, rfl, by decide +kernel, by decide +kernel⟩
theorem va__law_high : locAll [0, 1] ["_law_bounds_here", "_law_at"] (defScope s__law_high) = true := by decide +kernel
theorem ga__law_high : glAll ["len"] (defScope s__law_high) = true := by decide +kernel
noncomputable def m__law_high : SM :=
  (mSeq (mIfS (mBl (mBin fLt (mVar 1) (mCall fnLen (mCons (mVar 0) mNil)))) (mRet (mIx (mVar 0) (mVar 1))) mSkip)
    (mRet (mC .non)))
noncomputable def V__law_high : FM := den 2 m__law_high
theorem ok__law_high {f : Addr} {fd : FuncData} (F : Fun K "_law_high" "_law_high" s__law_high f fd)
    (n_len : mg "len" = none) :
    FnOk P w K mg base (L2.CX P w) 1 f fd ["_law_bounds_here", "_law_at"] (spD nm K mg 2 V__law_high) :=
  den_ok (m := m__law_high) F sc__law_high (fun cdv A outer s H E hr => by
  have nd := sc__law_high.nd
  have hh := L2H.roomH_of hr
  have hl : locAll [0, 1] (cxOf (L2.CX P w) P w K mg base ["_law_bounds_here", "_law_at"] "_law_high" (defScope s__law_high) f cdv A outer s H E).N (cxOf (L2.CX P w) P w K mg base ["_law_bounds_here", "_law_at"] "_law_high" (defScope s__law_high) f cdv A outer s H E).env.scope = true := va__law_high
  have hv := locVis hl
  have hg : glAll ["len"] (cxOf (L2.CX P w) P w K mg base ["_law_bounds_here", "_law_at"] "_law_high" (defScope s__law_high) f cdv A outer s H E).env.scope = true := ga__law_high
  have hc : (cxOf (L2.CX P w) P w K mg base ["_law_bounds_here", "_law_at"] "_law_high" (defScope s__law_high) f cdv A outer s H E).calm = true := rfl
  have hp : PassesOwn (model P w) (cxOf (L2.CX P w) P w K mg base ["_law_bounds_here", "_law_at"] "_law_high" (defScope s__law_high) f cdv A outer s H E).A (cxOf (L2.CX P w) P w K mg base ["_law_bounds_here", "_law_at"] "_law_high" (defScope s__law_high) f cdv A outer s H E).env (cxOf (L2.CX P w) P w K mg base ["_law_bounds_here", "_law_at"] "_law_high" (defScope s__law_high) f cdv A outer s H E).xe := passes_of rfl
  exact (mb_cons (ms_if (mt_cmp o_lt (me_var 1 hv) (me_callB c_len (gl_at hg 0) n_len bb_len (ma_cons (me_var 0 hv) ma_nil)) (nomark _)) (mb_one (ms_ret (me_ix hh (me_var 0 hv) (me_var 1 hv)))) mb_nil)
    (mb_one (ms_ret me_non)))) rfl rfl
abbrev s__law_rows : Stmt := (topS 15)
theorem sc__law_rows : FnScope ["_law_bounds_here", "_law_numbers", "_law_rows_here", "_law_k"] ["_law_bounds_here", "_law_numbers"] (defScope s__law_rows) := ⟨rfl, rfl, rfl, by decide +kernel, rfl, by decide +kernel, by decide +kernel⟩
theorem va__law_rows : locAll [0, 1, 2, 3] ["_law_bounds_here", "_law_numbers", "_law_rows_here", "_law_k"] (defScope s__law_rows) = true := by decide +kernel
theorem ga__law_rows : glAll ["len", "range", "_law_high"] (defScope s__law_rows) = true := by decide +kernel
noncomputable def lb__law_rows_0 : SM :=
  (mSeq (mIfS (mBl (mBin fEq (mIx (mVar 1) (mVar 3)) (mC (.int 0)))) mCnt mSkip)
    (mIfS (mAnd (mBl (mBin fGt (mCall fnLen (mCons (mVar 2) mNil)) (mC (.int 0)))) (mAnd (mBl (mBin fEq (mIx (mIx (mVar 2) (mUn fNeg (mC (.int 1)))) (mC (.int 1))) (mIx (mVar 0) (mVar 3)))) (mBl (mBin fEq (mIx (mIx (mVar 2) (mUn fNeg (mC (.int 1)))) (mC (.int 2))) (mIx (mVar 1) (mVar 3)))))) (mSetI (mTup (mCons (mIx (mIx (mVar 2) (mUn fNeg (mC (.int 1)))) (mC (.int 0))) (mCons (mCall V__law_high (mCons (mVar 0) (mCons (mBin fAdd (mVar 3) (mC (.int 1))) mNil))) (mCons (mIx (mVar 1) (mVar 3)) mNil)))) (mVar 2) (mUn fNeg (mC (.int 1)))) (mExpr (mBm .list fnAppend (mVar 2) (mCons (mTup (mCons (mIx (mVar 0) (mVar 3)) (mCons (mCall V__law_high (mCons (mVar 0) (mCons (mBin fAdd (mVar 3) (mC (.int 1))) mNil))) (mCons (mIx (mVar 1) (mVar 3)) mNil)))) mNil)))))
noncomputable def m__law_rows : SM :=
  (mSeq (mSet 2 (mLst true mNil))
    (mSeq (mFor (iRng (mCons (mCall fnLen (mCons (mVar 0) mNil)) mNil)) (gNm 3) lb__law_rows_0)
    (mRet (mVar 2))))
noncomputable def V__law_rows : FM := den 4 m__law_rows
theorem ok__law_rows {f : Addr} {fd : FuncData} (F : Fun K "_law_rows" "_law_rows" s__law_rows f fd)
    (n_range : mg "range" = none)
    (n_len : mg "len" = none)
    (d__law_high : DefOk P w K mg base nm 1 "_law_high" 2 V__law_high) :
    FnOk P w K mg base (L2.CX P w) 2 f fd ["_law_bounds_here", "_law_numbers"] (spD nm K mg 2 V__law_rows) :=
  den_ok (m := m__law_rows) F sc__law_rows (fun cdv A outer s H E hr => by
  have nd := sc__law_rows.nd
  have hh := L2H.roomH_of hr
  have hl : locAll [0, 1, 2, 3] (cxOf (L2.CX P w) P w K mg base ["_law_bounds_here", "_law_numbers", "_law_rows_here", "_law_k"] "_law_rows" (defScope s__law_rows) f cdv A outer s H E).N (cxOf (L2.CX P w) P w K mg base ["_law_bounds_here", "_law_numbers", "_law_rows_here", "_law_k"] "_law_rows" (defScope s__law_rows) f cdv A outer s H E).env.scope = true := va__law_rows
  have hv := locVis hl
  have hg : glAll ["len", "range", "_law_high"] (cxOf (L2.CX P w) P w K mg base ["_law_bounds_here", "_law_numbers", "_law_rows_here", "_law_k"] "_law_rows" (defScope s__law_rows) f cdv A outer s H E).env.scope = true := ga__law_rows
  have hc : (cxOf (L2.CX P w) P w K mg base ["_law_bounds_here", "_law_numbers", "_law_rows_here", "_law_k"] "_law_rows" (defScope s__law_rows) f cdv A outer s H E).calm = true := rfl
  have hp : PassesOwn (model P w) (cxOf (L2.CX P w) P w K mg base ["_law_bounds_here", "_law_numbers", "_law_rows_here", "_law_k"] "_law_rows" (defScope s__law_rows) f cdv A outer s H E).A (cxOf (L2.CX P w) P w K mg base ["_law_bounds_here", "_law_numbers", "_law_rows_here", "_law_k"] "_law_rows" (defScope s__law_rows) f cdv A outer s H E).env (cxOf (L2.CX P w) P w K mg base ["_law_bounds_here", "_law_numbers", "_law_rows_here", "_law_k"] "_law_rows" (defScope s__law_rows) f cdv A outer s H E).xe := passes_of rfl
  exact (mb_cons (ms_set 2 nd hl (me_lst true ma_nil))
    (mb_cons (ms_for hp hc (mi_range1 (gl_at hg 1) n_range (ma_cons (me_callB c_len (gl_at hg 0) n_len bb_len (ma_cons (me_var 0 hv) ma_nil)) ma_nil)) (mg_name 3 nd hl) (gok_nm 3) (mb_cons (ms_if (mt_cmp (o_eq hh) (me_ix hh (me_var 1 hv) (me_var 3 hv)) me_int (nomark _)) (mb_one ms_cnt) mb_nil)
    (mb_one (ms_if (MW.mt (mw_and (mt_cmp o_gt (me_callB c_len (gl_at hg 0) n_len bb_len (ma_cons (me_var 2 hv) ma_nil)) me_int (nomark _)) (mw_and (mt_cmp (o_eq hh) (me_ix hh (me_ix hh (me_var 2 hv) (me_neg me_int)) me_int) (me_ix hh (me_var 0 hv) (me_var 3 hv)) (nomark _)) (mw_and1 (mt_cmp (o_eq hh) (me_ix hh (me_ix hh (me_var 2 hv) (me_neg me_int)) me_int) (me_ix hh (me_var 1 hv) (me_var 3 hv)) (nomark _)))))) (mb_one (ms_setI hh (me_var 2 hv) (me_neg me_int) (me_tup (ma_cons (me_ix hh (me_ix hh (me_var 2 hv) (me_neg me_int)) me_int) (ma_cons (me_call d__law_high (hr.mono (by decide)) (gl_at hg 2) (ma_cons (me_var 0 hv) (ma_cons (me_bin o_add (me_var 3 hv) me_int) ma_nil))) (ma_cons (me_ix hh (me_var 1 hv) (me_var 3 hv)) ma_nil)))))) (mb_one (ms_expr (me_bm (T := .list) PySem.F.plainAttrs_list PySem.F.slot_list_append PySem.F.type_list_append t_append (me_var 2 hv) (ma_cons (me_tup (ma_cons (me_ix hh (me_var 0 hv) (me_var 3 hv)) (ma_cons (me_call d__law_high (hr.mono (by decide)) (gl_at hg 2) (ma_cons (me_var 0 hv) (ma_cons (me_bin o_add (me_var 3 hv) me_int) ma_nil))) (ma_cons (me_ix hh (me_var 1 hv) (me_var 3 hv)) ma_nil)))) ma_nil))))))))
    (mb_one (ms_ret (me_var 2 hv)))))) rfl rfl
abbrev s_Epochs___init__ : Stmt := (inClass (topS 5) 0)
theorem sc_Epochs___init__ : FnScope ["self"] ["self"] (defScope s_Epochs___init__) := ⟨rfl, rfl, rfl, by decide +kernel, rfl, by decide +kernel, by decide +kernel⟩
theorem va_Epochs___init__ : locAll [0] ["self"] (defScope s_Epochs___init__) = true := by decide +kernel
theorem ga_Epochs___init__ : glAll [] (defScope s_Epochs___init__) = true := by decide +kernel
noncomputable def m_Epochs___init__ : SM :=
  (mSetF [4] 0 (mVar 0) (mLst true mNil))
noncomputable def V_Epochs___init__ : FM := den 1 m_Epochs___init__
theorem ok_Epochs___init__ {f : Addr} {fd : FuncData} (F : Fun K "__init__" "Epochs.__init__" s_Epochs___init__ f fd)
    (f_Epochs_cells : FldOk K mg nm [4] 0) :
    FnOk P w K mg base (L2.CX P w) 1 f fd ["self"] (spD nm K mg 1 V_Epochs___init__) :=
  den_ok (m := m_Epochs___init__) F sc_Epochs___init__ (fun cdv A outer s H E hr => by
  have nd := sc_Epochs___init__.nd
  have hh := L2H.roomH_of hr
  have hl : locAll [0] (cxOf (L2.CX P w) P w K mg base ["self"] "Epochs.__init__" (defScope s_Epochs___init__) f cdv A outer s H E).N (cxOf (L2.CX P w) P w K mg base ["self"] "Epochs.__init__" (defScope s_Epochs___init__) f cdv A outer s H E).env.scope = true := va_Epochs___init__
  have hv := locVis hl
  have hg : glAll [] (cxOf (L2.CX P w) P w K mg base ["self"] "Epochs.__init__" (defScope s_Epochs___init__) f cdv A outer s H E).env.scope = true := ga_Epochs___init__
  have hc : (cxOf (L2.CX P w) P w K mg base ["self"] "Epochs.__init__" (defScope s_Epochs___init__) f cdv A outer s H E).calm = true := rfl
  have hp : PassesOwn (model P w) (cxOf (L2.CX P w) P w K mg base ["self"] "Epochs.__init__" (defScope s_Epochs___init__) f cdv A outer s H E).A (cxOf (L2.CX P w) P w K mg base ["self"] "Epochs.__init__" (defScope s_Epochs___init__) f cdv A outer s H E).env (cxOf (L2.CX P w) P w K mg base ["self"] "Epochs.__init__" (defScope s_Epochs___init__) f cdv A outer s H E).xe := passes_of rfl
  exact (mb_one (ms_setF f_Epochs_cells (me_var 0 hv) (me_lst true ma_nil) fl_cells))) rfl rfl
abbrev s_Epochs_greatest : Stmt := (inClass (topS 5) 2)
theorem sc_Epochs_greatest : FnScope ["self", "low", "high", "row"] ["self", "low", "high"] (defScope s_Epochs_greatest) := ⟨rfl, rfl, rfl, by decide +kernel, rfl, by decide +kernel, by decide +kernel⟩
abbrev lcx_Epochs_greatest_0 : Scope := (lcOf (kid (kid (skid (stm (defBody s_Epochs_greatest) 0) 0) 1) 1))
theorem lcb_Epochs_greatest_0 : blkC ["self", "low", "high", "row"] (defScope s_Epochs_greatest) lcx_Epochs_greatest_0 [("row", 3)] = true := by decide +kernel
theorem lcv_Epochs_greatest_0 : visAll [1, 2, 3] ["self", "low", "high", "row"] (relS lcx_Epochs_greatest_0 (defScope s_Epochs_greatest)) = true := by decide +kernel
theorem lcg_Epochs_greatest_0 : glAll ["overlap"] (relS lcx_Epochs_greatest_0 (defScope s_Epochs_greatest)) = true := by decide +kernel
theorem lcl_Epochs_greatest_0_0 : (relS lcx_Epochs_greatest_0 (defScope s_Epochs_greatest)).names.lookup ("row" : Str) = some NameKind.local := by decide +kernel
theorem va_Epochs_greatest : locAll [0, 1, 2] ["self", "low", "high", "row"] (defScope s_Epochs_greatest) = true := by decide +kernel
theorem ga_Epochs_greatest : glAll ["max"] (defScope s_Epochs_greatest) = true := by decide +kernel
noncomputable def m_Epochs_greatest : SM :=
  (mRet (mCall fnMax1 (mCons (mCat false (mLst false (mCons (mC (.int 0)) mNil)) (mLc [3] (LT.one 3) (iAny (mFld [4] 0 (mVar 0))) (mBl (mCall V_overlap (mCons (mVar 1) (mCons (mVar 2) (mCons (mIx (mVar 3) (mC (.int 0))) (mCons (mIx (mVar 3) (mC (.int 1))) mNil)))))) (mIx (mVar 3) (mC (.int 2))))) mNil)))
noncomputable def V_Epochs_greatest : FM := den 4 m_Epochs_greatest
theorem ok_Epochs_greatest {f : Addr} {fd : FuncData} (F : Fun K "greatest" "Epochs.greatest" s_Epochs_greatest f fd)
    (f_Epochs_cells : FldOk K mg nm [4] 0)
    (d_overlap : DefOk P w K mg base nm 2 "overlap" 4 V_overlap)
    (n_max : mg "max" = none) :
    FnOk P w K mg base (L2.CX P w) 3 f fd ["self", "low", "high"] (spD nm K mg 3 V_Epochs_greatest) :=
  den_ok (m := m_Epochs_greatest) F sc_Epochs_greatest (fun cdv A outer s H E hr => by
  have nd := sc_Epochs_greatest.nd
  have hh := L2H.roomH_of hr
  have hl : locAll [0, 1, 2] (cxOf (L2.CX P w) P w K mg base ["self", "low", "high", "row"] "Epochs.greatest" (defScope s_Epochs_greatest) f cdv A outer s H E).N (cxOf (L2.CX P w) P w K mg base ["self", "low", "high", "row"] "Epochs.greatest" (defScope s_Epochs_greatest) f cdv A outer s H E).env.scope = true := va_Epochs_greatest
  have hv := locVis hl
  have hg : glAll ["max"] (cxOf (L2.CX P w) P w K mg base ["self", "low", "high", "row"] "Epochs.greatest" (defScope s_Epochs_greatest) f cdv A outer s H E).env.scope = true := ga_Epochs_greatest
  have hc : (cxOf (L2.CX P w) P w K mg base ["self", "low", "high", "row"] "Epochs.greatest" (defScope s_Epochs_greatest) f cdv A outer s H E).calm = true := rfl
  have hp : PassesOwn (model P w) (cxOf (L2.CX P w) P w K mg base ["self", "low", "high", "row"] "Epochs.greatest" (defScope s_Epochs_greatest) f cdv A outer s H E).A (cxOf (L2.CX P w) P w K mg base ["self", "low", "high", "row"] "Epochs.greatest" (defScope s_Epochs_greatest) f cdv A outer s H E).env (cxOf (L2.CX P w) P w K mg base ["self", "low", "high", "row"] "Epochs.greatest" (defScope s_Epochs_greatest) f cdv A outer s H E).xe := passes_of rfl
  exact (mb_one (ms_ret (me_callB (c_max1 hc) (gl_at hg 0) n_max bb_max (ma_cons (me_cat false (me_lst false (ma_cons me_int ma_nil)) (me_lc (LT.one 3) hc nd (mi_any (me_fld f_Epochs_cells (me_var 0 hv) fl_cells)) (blkOk_by lcb_Epochs_greatest_0) rfl (by simp) (fun s1 H1 C cl fp => (pg_one 3 nd rfl (.inl lcl_Epochs_greatest_0_0) (.inr lcl_Epochs_greatest_0_0))) (fun s1 H1 C cl fp => by
    have hvb : visAll [1, 2, 3] (Cx.blk (cxOf (L2.CX P w) P w K mg base ["self", "low", "high", "row"] "Epochs.greatest" (defScope s_Epochs_greatest) f cdv A outer s H E) s1 H1 lcx_Epochs_greatest_0 (compEnvC lcx_Epochs_greatest_0 cl C (cxOf (L2.CX P w) P w K mg base ["self", "low", "high", "row"] "Epochs.greatest" (defScope s_Epochs_greatest) f cdv A outer s H E).env) fp).N (Cx.blk (cxOf (L2.CX P w) P w K mg base ["self", "low", "high", "row"] "Epochs.greatest" (defScope s_Epochs_greatest) f cdv A outer s H E) s1 H1 lcx_Epochs_greatest_0 (compEnvC lcx_Epochs_greatest_0 cl C (cxOf (L2.CX P w) P w K mg base ["self", "low", "high", "row"] "Epochs.greatest" (defScope s_Epochs_greatest) f cdv A outer s H E).env) fp).env.scope = true := lcv_Epochs_greatest_0
    have hgb : glAll ["overlap"] (Cx.blk (cxOf (L2.CX P w) P w K mg base ["self", "low", "high", "row"] "Epochs.greatest" (defScope s_Epochs_greatest) f cdv A outer s H E) s1 H1 lcx_Epochs_greatest_0 (compEnvC lcx_Epochs_greatest_0 cl C (cxOf (L2.CX P w) P w K mg base ["self", "low", "high", "row"] "Epochs.greatest" (defScope s_Epochs_greatest) f cdv A outer s H E).env) fp).env.scope = true := lcg_Epochs_greatest_0
    exact (mts_one (mt_val (me_call d_overlap (hr.mono (by decide)) (gl_at hgb 0) (ma_cons (me_var 1 hvb) (ma_cons (me_var 2 hvb) (ma_cons (me_ix hh (me_var 3 hvb) me_int) (ma_cons (me_ix hh (me_var 3 hvb) me_int) ma_nil)))))))) (fun s1 H1 C cl fp => by
    have hvb : visAll [1, 2, 3] (Cx.blk (cxOf (L2.CX P w) P w K mg base ["self", "low", "high", "row"] "Epochs.greatest" (defScope s_Epochs_greatest) f cdv A outer s H E) s1 H1 lcx_Epochs_greatest_0 (compEnvC lcx_Epochs_greatest_0 cl C (cxOf (L2.CX P w) P w K mg base ["self", "low", "high", "row"] "Epochs.greatest" (defScope s_Epochs_greatest) f cdv A outer s H E).env) fp).N (Cx.blk (cxOf (L2.CX P w) P w K mg base ["self", "low", "high", "row"] "Epochs.greatest" (defScope s_Epochs_greatest) f cdv A outer s H E) s1 H1 lcx_Epochs_greatest_0 (compEnvC lcx_Epochs_greatest_0 cl C (cxOf (L2.CX P w) P w K mg base ["self", "low", "high", "row"] "Epochs.greatest" (defScope s_Epochs_greatest) f cdv A outer s H E).env) fp).env.scope = true := lcv_Epochs_greatest_0
    have hgb : glAll ["overlap"] (Cx.blk (cxOf (L2.CX P w) P w K mg base ["self", "low", "high", "row"] "Epochs.greatest" (defScope s_Epochs_greatest) f cdv A outer s H E) s1 H1 lcx_Epochs_greatest_0 (compEnvC lcx_Epochs_greatest_0 cl C (cxOf (L2.CX P w) P w K mg base ["self", "low", "high", "row"] "Epochs.greatest" (defScope s_Epochs_greatest) f cdv A outer s H E).env) fp).env.scope = true := lcg_Epochs_greatest_0
    exact (me_ix hh (me_var 3 hvb) me_int)))) ma_nil))))) rfl rfl
abbrev s_Epochs_raise_to : Stmt := (inClass (topS 5) 1)
theorem sc_Epochs_raise_to : FnScope ["self", "low", "high", "epoch", "cells", "start", "stop", "number"] ["self", "low", "high", "epoch"] (defScope s_Epochs_raise_to) := ⟨rfl, rfl, rfl, by decide +kernel, rfl, by decide +kernel, by decide +kernel⟩
theorem va_Epochs_raise_to : locAll [0, 1, 2, 3, 4, 5, 6, 7] ["self", "low", "high", "epoch", "cells", "start", "stop", "number"] (defScope s_Epochs_raise_to) = true := by decide +kernel
theorem ga_Epochs_raise_to : glAll ["intervals", "len", "contains", "max", "number_at"] (defScope s_Epochs_raise_to) = true := by decide +kernel
noncomputable def lb_Epochs_raise_to_0 : SM :=
  (mSeq (mSet 7 (mCall V_number_at (mCons (mFld [4] 0 (mVar 0)) (mCons (mVar 5) mNil))))
    (mSeq (mIfS (mBl (mCall V_contains (mCons (mVar 1) (mCons (mVar 2) (mCons (mVar 5) mNil))))) (mSet 7 (mCall fnMax2 (mCons (mVar 7) (mCons (mVar 3) mNil)))) mSkip)
    (mSeq (mIfS (mBl (mBin fEq (mVar 7) (mC (.int 0)))) mCnt mSkip)
    (mIfS (mAnd (mBl (mBin fGt (mCall fnLen (mCons (mVar 4) mNil)) (mC (.int 0)))) (mAnd (mBl (mBin fEq (mIx (mIx (mVar 4) (mUn fNeg (mC (.int 1)))) (mC (.int 1))) (mVar 5))) (mBl (mBin fEq (mIx (mIx (mVar 4) (mUn fNeg (mC (.int 1)))) (mC (.int 2))) (mVar 7))))) (mSetI (mTup (mCons (mIx (mIx (mVar 4) (mUn fNeg (mC (.int 1)))) (mC (.int 0))) (mCons (mVar 6) (mCons (mVar 7) mNil)))) (mVar 4) (mUn fNeg (mC (.int 1)))) (mExpr (mBm .list fnAppend (mVar 4) (mCons (mTup (mCons (mVar 5) (mCons (mVar 6) (mCons (mVar 7) mNil)))) mNil)))))))
noncomputable def m_Epochs_raise_to : SM :=
  (mSeq (mSet 4 (mLst true mNil))
    (mSeq (mFor (iAny (mCall V_intervals (mCons (mFld [4] 0 (mVar 0)) (mCons (mVar 1) (mCons (mVar 2) mNil))))) (gTp 2 (gsCons (gNm 5) (gsCons (gNm 6) gsNil))) lb_Epochs_raise_to_0)
    (mSetF [4] 0 (mVar 0) (mVar 4))))
noncomputable def V_Epochs_raise_to : FM := den 8 m_Epochs_raise_to
theorem ok_Epochs_raise_to {f : Addr} {fd : FuncData} (F : Fun K "raise_to" "Epochs.raise_to" s_Epochs_raise_to f fd)
    (f_Epochs_cells : FldOk K mg nm [4] 0)
    (d_intervals : DefOk P w K mg base nm 2 "intervals" 3 V_intervals)
    (n_len : mg "len" = none)
    (d_contains : DefOk P w K mg base nm 2 "contains" 3 V_contains)
    (n_max : mg "max" = none)
    (d_number_at : DefOk P w K mg base nm 3 "number_at" 2 V_number_at) :
    FnOk P w K mg base (L2.CX P w) 4 f fd ["self", "low", "high", "epoch"] (spD nm K mg 4 V_Epochs_raise_to) :=
  den_ok (m := m_Epochs_raise_to) F sc_Epochs_raise_to (fun cdv A outer s H E hr => by
  have nd := sc_Epochs_raise_to.nd
  have hh := L2H.roomH_of hr
  have hl : locAll [0, 1, 2, 3, 4, 5, 6, 7] (cxOf (L2.CX P w) P w K mg base ["self", "low", "high", "epoch", "cells", "start", "stop", "number"] "Epochs.raise_to" (defScope s_Epochs_raise_to) f cdv A outer s H E).N (cxOf (L2.CX P w) P w K mg base ["self", "low", "high", "epoch", "cells", "start", "stop", "number"] "Epochs.raise_to" (defScope s_Epochs_raise_to) f cdv A outer s H E).env.scope = true := va_Epochs_raise_to
  have hv := locVis hl
  have hg : glAll ["intervals", "len", "contains", "max", "number_at"] (cxOf (L2.CX P w) P w K mg base ["self", "low", "high", "epoch", "cells", "start", "stop", "number"] "Epochs.raise_to" (defScope s_Epochs_raise_to) f cdv A outer s H E).env.scope = true := ga_Epochs_raise_to
  have hc : (cxOf (L2.CX P w) P w K mg base ["self", "low", "high", "epoch", "cells", "start", "stop", "number"] "Epochs.raise_to" (defScope s_Epochs_raise_to) f cdv A outer s H E).calm = true := rfl
  have hp : PassesOwn (model P w) (cxOf (L2.CX P w) P w K mg base ["self", "low", "high", "epoch", "cells", "start", "stop", "number"] "Epochs.raise_to" (defScope s_Epochs_raise_to) f cdv A outer s H E).A (cxOf (L2.CX P w) P w K mg base ["self", "low", "high", "epoch", "cells", "start", "stop", "number"] "Epochs.raise_to" (defScope s_Epochs_raise_to) f cdv A outer s H E).env (cxOf (L2.CX P w) P w K mg base ["self", "low", "high", "epoch", "cells", "start", "stop", "number"] "Epochs.raise_to" (defScope s_Epochs_raise_to) f cdv A outer s H E).xe := passes_of rfl
  exact (mb_cons (ms_set 4 nd hl (me_lst true ma_nil))
    (mb_cons (ms_for hp hc (mi_any (me_call d_intervals (hr.mono (by decide)) (gl_at hg 0) (ma_cons (me_fld f_Epochs_cells (me_var 0 hv) fl_cells) (ma_cons (me_var 1 hv) (ma_cons (me_var 2 hv) ma_nil))))) (mg_tup hc 2 (mgs_cons (mg_name 5 nd hl) (mgs_cons (mg_name 6 nd hl) mgs_nil))) (gok_tp (gsok_cons (gok_nm 5) (gsok_cons (gok_nm 6) gsok_nil))) (mb_cons (ms_set 7 nd hl (me_call d_number_at (hr.mono (by decide)) (gl_at hg 4) (ma_cons (me_fld f_Epochs_cells (me_var 0 hv) fl_cells) (ma_cons (me_var 5 hv) ma_nil))))
    (mb_cons (ms_if (mt_val (me_call d_contains (hr.mono (by decide)) (gl_at hg 2) (ma_cons (me_var 1 hv) (ma_cons (me_var 2 hv) (ma_cons (me_var 5 hv) ma_nil))))) (mb_one (ms_set 7 nd hl (me_callB (c_max2 hc) (gl_at hg 3) n_max bb_max (ma_cons (me_var 7 hv) (ma_cons (me_var 3 hv) ma_nil))))) mb_nil)
    (mb_cons (ms_if (mt_cmp (o_eq hh) (me_var 7 hv) me_int (nomark _)) (mb_one ms_cnt) mb_nil)
    (mb_one (ms_if (MW.mt (mw_and (mt_cmp o_gt (me_callB c_len (gl_at hg 1) n_len bb_len (ma_cons (me_var 4 hv) ma_nil)) me_int (nomark _)) (mw_and (mt_cmp (o_eq hh) (me_ix hh (me_ix hh (me_var 4 hv) (me_neg me_int)) me_int) (me_var 5 hv) (nomark _)) (mw_and1 (mt_cmp (o_eq hh) (me_ix hh (me_ix hh (me_var 4 hv) (me_neg me_int)) me_int) (me_var 7 hv) (nomark _)))))) (mb_one (ms_setI hh (me_var 4 hv) (me_neg me_int) (me_tup (ma_cons (me_ix hh (me_ix hh (me_var 4 hv) (me_neg me_int)) me_int) (ma_cons (me_var 6 hv) (ma_cons (me_var 7 hv) ma_nil)))))) (mb_one (ms_expr (me_bm (T := .list) PySem.F.plainAttrs_list PySem.F.slot_list_append PySem.F.type_list_append t_append (me_var 4 hv) (ma_cons (me_tup (ma_cons (me_var 5 hv) (ma_cons (me_var 6 hv) (ma_cons (me_var 7 hv) ma_nil)))) ma_nil))))))))))
    (mb_one (ms_setF f_Epochs_cells (me_var 0 hv) (me_var 4 hv) fl_cells))))) rfl rfl
abbrev s_Epochs_rows : Stmt := (inClass (topS 5) 3)
theorem sc_Epochs_rows : FnScope ["self"] ["self"] (defScope s_Epochs_rows) := ⟨rfl, rfl, rfl, by decide +kernel, rfl, by decide +kernel, by decide +kernel⟩
theorem va_Epochs_rows : locAll [0] ["self"] (defScope s_Epochs_rows) = true := by decide +kernel
theorem ga_Epochs_rows : glAll ["list"] (defScope s_Epochs_rows) = true := by decide +kernel
noncomputable def m_Epochs_rows : SM :=
  (mRet (mCall (fnList true) (mCons (mFld [4] 0 (mVar 0)) mNil)))
noncomputable def V_Epochs_rows : FM := den 1 m_Epochs_rows
theorem ok_Epochs_rows {f : Addr} {fd : FuncData} (F : Fun K "rows" "Epochs.rows" s_Epochs_rows f fd)
    (f_Epochs_cells : FldOk K mg nm [4] 0)
    (n_list : mg "list" = none) :
    FnOk P w K mg base (L2.CX P w) 1 f fd ["self"] (spD nm K mg 1 V_Epochs_rows) :=
  den_ok (m := m_Epochs_rows) F sc_Epochs_rows (fun cdv A outer s H E hr => by
  have nd := sc_Epochs_rows.nd
  have hh := L2H.roomH_of hr
  have hl : locAll [0] (cxOf (L2.CX P w) P w K mg base ["self"] "Epochs.rows" (defScope s_Epochs_rows) f cdv A outer s H E).N (cxOf (L2.CX P w) P w K mg base ["self"] "Epochs.rows" (defScope s_Epochs_rows) f cdv A outer s H E).env.scope = true := va_Epochs_rows
  have hv := locVis hl
  have hg : glAll ["list"] (cxOf (L2.CX P w) P w K mg base ["self"] "Epochs.rows" (defScope s_Epochs_rows) f cdv A outer s H E).env.scope = true := ga_Epochs_rows
  have hc : (cxOf (L2.CX P w) P w K mg base ["self"] "Epochs.rows" (defScope s_Epochs_rows) f cdv A outer s H E).calm = true := rfl
  have hp : PassesOwn (model P w) (cxOf (L2.CX P w) P w K mg base ["self"] "Epochs.rows" (defScope s_Epochs_rows) f cdv A outer s H E).A (cxOf (L2.CX P w) P w K mg base ["self"] "Epochs.rows" (defScope s_Epochs_rows) f cdv A outer s H E).env (cxOf (L2.CX P w) P w K mg base ["self"] "Epochs.rows" (defScope s_Epochs_rows) f cdv A outer s H E).xe := passes_of rfl
  exact (mb_one (ms_ret (me_callT (c_list true) (gl_at hg 0) n_list bb_list (ma_cons (me_fld f_Epochs_cells (me_var 0 hv) fl_cells) ma_nil))))) rfl rfl
abbrev s_law : Stmt := (topS 16)
theorem sc_law : FnScope ["_law_script", "_law_bounds_here", "_law_size", "_law_numbers", "_law_epochs", "_law_draw", "_law_start", "_law_stop", "_law_epoch", "_law_k", "_law_rows_here"] ["_law_script"] (defScope s_law) := ⟨rfl, rfl, rfl, by decide +kernel, rfl, by decide +kernel, by decide +kernel⟩
theorem va_law : locAll [0, 1, 2, 3, 4, 5, 6, 7, 8, 9, 10] ["_law_script", "_law_bounds_here", "_law_size", "_law_numbers", "_law_epochs", "_law_draw", "_law_start", "_law_stop", "_law_epoch", "_law_k", "_law_rows_here"] (defScope s_law) = true := by decide +kernel
theorem ga_law : glAll ["_law_rows", "_law_draws", "_law_high", "max", "isinstance", "list", "range", "Epochs", "len", "_law_cell", "_law_bounds"] (defScope s_law) = true := by decide +kernel
noncomputable def lb_law_0 : SM :=
  (mSetI (mCall fnMax2 (mCons (mIx (mVar 3) (mVar 9)) (mCons (mVar 8) mNil))) (mVar 3) (mVar 9))
noncomputable def lb_law_1 : SM :=
  (mSeq (mSet 6 (mBin fMod (mVar 5) (mVar 2)))
    (mSeq (mSet 7 (mBin fAdd (mBin fAdd (mVar 6) (mC (.int 1))) (mBin fMod (mBin fDiv (mVar 5) (mC (.int 10))) (mBin fSub (mVar 2) (mVar 6)))))
    (mSeq (mSet 8 (mBin fAdd (mC (.int 1)) (mBin fMod (mBin fDiv (mVar 5) (mC (.int 100))) (mC (.int 9)))))
    (mSeq (mIfS (mBl (mBin fIsNot (mMeth 4 V_Epochs_raise_to (mVar 4) (mCons (mIx (mVar 1) (mVar 6)) (mCons (mCall V__law_high (mCons (mVar 1) (mCons (mVar 7) mNil))) (mCons (mVar 8) mNil)))) (mC .non))) (mRet (mC (.bl false))) mSkip)
    (mSeq (mFor (iRng (mCons (mVar 6) (mCons (mVar 7) mNil))) (gNm 9) lb_law_0)
    (mSeq (mSet 10 (mMeth 4 V_Epochs_rows (mVar 4) mNil))
    (mSeq (mIfS (mOr (mNot (mBl (mIsi .list (mVar 10)))) (mBl (mBin fNe (mVar 10) (mCall V__law_rows (mCons (mVar 1) (mCons (mVar 3) mNil)))))) (mRet (mC (.bl false))) mSkip)
    (mSeq (mExpr (mBm .list fnAppend (mVar 10) (mCons (mC (.str "spoilt")) mNil)))
    (mSeq (mSet 6 (mBin fMod (mBin fDiv (mVar 5) (mC (.int 1000))) (mVar 2)))
    (mSeq (mSet 7 (mBin fAdd (mBin fAdd (mVar 6) (mC (.int 1))) (mBin fMod (mBin fDiv (mVar 5) (mC (.int 10000))) (mBin fSub (mVar 2) (mVar 6)))))
    (mIfS (mBl (mBin fNe (mMeth 4 V_Epochs_greatest (mVar 4) (mCons (mIx (mVar 1) (mVar 6)) (mCons (mCall V__law_high (mCons (mVar 1) (mCons (mVar 7) mNil))) mNil))) (mCall fnMax1 (mCons (mSl false (mVar 3) (oAt (mVar 6)) (oAt (mVar 7))) mNil)))) (mRet (mC (.bl false))) mSkip)))))))))))
noncomputable def m_law : SM :=
  (mSeq (mSet 1 (mCall V__law_bounds (mCons (mCall V__law_cell (mCons (mVar 0) (mCons (mC (.int 0)) mNil))) mNil)))
    (mSeq (mSet 2 (mCall fnLen (mCons (mVar 1) mNil)))
    (mSeq (mSet 3 (mRep true (mLst false (mCons (mC (.int 0)) mNil)) (mVar 2)))
    (mSeq (mSet 4 (mNew 4 V_Epochs___init__ mNil))
    (mSeq (mFor (iAny (mCall V__law_draws (mCons (mVar 0) (mCons (mC (.int 1)) (mCons (mC (.int 20)) mNil))))) (gNm 5) lb_law_1)
    (mRet (mBin fEq (mMeth 4 V_Epochs_rows (mVar 4) mNil) (mCall V__law_rows (mCons (mVar 1) (mCons (mVar 3) mNil))))))))))
noncomputable def V_law : FM := den 11 m_law
theorem ok_law {f : Addr} {fd : FuncData} (F : Fun K "law" "law" s_law f fd)
    (m_Epochs_rows : MethOk P w K mg base nm 1 4 "rows" 1 V_Epochs_rows)
    (d__law_rows : DefOk P w K mg base nm 2 "_law_rows" 2 V__law_rows)
    (d__law_draws : DefOk P w K mg base nm 1 "_law_draws" 3 V__law_draws)
    (m_Epochs_greatest : MethOk P w K mg base nm 3 4 "greatest" 3 V_Epochs_greatest)
    (d__law_high : DefOk P w K mg base nm 1 "_law_high" 2 V__law_high)
    (n_max : mg "max" = none)
    (n_isinstance : mg "isinstance" = none)
    (n_list : mg "list" = none)
    (n_range : mg "range" = none)
    (m_Epochs_raise_to : MethOk P w K mg base nm 4 4 "raise_to" 4 V_Epochs_raise_to)
    (k_Epochs : MakeOk P w K mg base nm 1 4 0 V_Epochs___init__)
    (n_len : mg "len" = none)
    (d__law_bounds : DefOk P w K mg base nm 2 "_law_bounds" 1 V__law_bounds)
    (d__law_cell : DefOk P w K mg base nm 1 "_law_cell" 2 V__law_cell) :
    FnOk P w K mg base (L2.CX P w) 5 f fd ["_law_script"] (spD nm K mg 1 V_law) :=
  den_ok (m := m_law) F sc_law (fun cdv A outer s H E hr => by
  have nd := sc_law.nd
  have hh := L2H.roomH_of hr
  have hl : locAll [0, 1, 2, 3, 4, 5, 6, 7, 8, 9, 10] (cxOf (L2.CX P w) P w K mg base ["_law_script", "_law_bounds_here", "_law_size", "_law_numbers", "_law_epochs", "_law_draw", "_law_start", "_law_stop", "_law_epoch", "_law_k", "_law_rows_here"] "law" (defScope s_law) f cdv A outer s H E).N (cxOf (L2.CX P w) P w K mg base ["_law_script", "_law_bounds_here", "_law_size", "_law_numbers", "_law_epochs", "_law_draw", "_law_start", "_law_stop", "_law_epoch", "_law_k", "_law_rows_here"] "law" (defScope s_law) f cdv A outer s H E).env.scope = true := va_law
  have hv := locVis hl
  have hg : glAll ["_law_rows", "_law_draws", "_law_high", "max", "isinstance", "list", "range", "Epochs", "len", "_law_cell", "_law_bounds"] (cxOf (L2.CX P w) P w K mg base ["_law_script", "_law_bounds_here", "_law_size", "_law_numbers", "_law_epochs", "_law_draw", "_law_start", "_law_stop", "_law_epoch", "_law_k", "_law_rows_here"] "law" (defScope s_law) f cdv A outer s H E).env.scope = true := ga_law
  have hc : (cxOf (L2.CX P w) P w K mg base ["_law_script", "_law_bounds_here", "_law_size", "_law_numbers", "_law_epochs", "_law_draw", "_law_start", "_law_stop", "_law_epoch", "_law_k", "_law_rows_here"] "law" (defScope s_law) f cdv A outer s H E).calm = true := rfl
  have hp : PassesOwn (model P w) (cxOf (L2.CX P w) P w K mg base ["_law_script", "_law_bounds_here", "_law_size", "_law_numbers", "_law_epochs", "_law_draw", "_law_start", "_law_stop", "_law_epoch", "_law_k", "_law_rows_here"] "law" (defScope s_law) f cdv A outer s H E).A (cxOf (L2.CX P w) P w K mg base ["_law_script", "_law_bounds_here", "_law_size", "_law_numbers", "_law_epochs", "_law_draw", "_law_start", "_law_stop", "_law_epoch", "_law_k", "_law_rows_here"] "law" (defScope s_law) f cdv A outer s H E).env (cxOf (L2.CX P w) P w K mg base ["_law_script", "_law_bounds_here", "_law_size", "_law_numbers", "_law_epochs", "_law_draw", "_law_start", "_law_stop", "_law_epoch", "_law_k", "_law_rows_here"] "law" (defScope s_law) f cdv A outer s H E).xe := passes_of rfl
  exact (mb_cons (ms_set 1 nd hl (me_call d__law_bounds (hr.mono (by decide)) (gl_at hg 10) (ma_cons (me_call d__law_cell (hr.mono (by decide)) (gl_at hg 9) (ma_cons (me_var 0 hv) (ma_cons me_int ma_nil))) ma_nil)))
    (mb_cons (ms_set 2 nd hl (me_callB c_len (gl_at hg 8) n_len bb_len (ma_cons (me_var 1 hv) ma_nil)))
    (mb_cons (ms_set 3 nd hl (me_rep true (me_lst false (ma_cons me_int ma_nil)) (me_var 2 hv)))
    (mb_cons (ms_set 4 nd hl (me_new0 k_Epochs (hr.mono (by decide)) (gl_at hg 7) cl_Epochs))
    (mb_cons (ms_for hp hc (mi_any (me_call d__law_draws (hr.mono (by decide)) (gl_at hg 1) (ma_cons (me_var 0 hv) (ma_cons me_int (ma_cons me_int ma_nil))))) (mg_name 5 nd hl) (gok_nm 5) (mb_cons (ms_set 6 nd hl (me_bin o_mod (me_var 5 hv) (me_var 2 hv)))
    (mb_cons (ms_set 7 nd hl (me_bin o_add (me_bin o_add (me_var 6 hv) me_int) (me_bin o_mod (me_bin o_div (me_var 5 hv) me_int) (me_bin o_sub (me_var 2 hv) (me_var 6 hv)))))
    (mb_cons (ms_set 8 nd hl (me_bin o_add me_int (me_bin o_mod (me_bin o_div (me_var 5 hv) me_int) me_int)))
    (mb_cons (ms_if (mt_cmp o_isnot (me_meth m_Epochs_raise_to (hr.mono (by decide)) (me_var 4 hv) (ma_cons (me_ix hh (me_var 1 hv) (me_var 6 hv)) (ma_cons (me_call d__law_high (hr.mono (by decide)) (gl_at hg 2) (ma_cons (me_var 1 hv) (ma_cons (me_var 7 hv) ma_nil))) (ma_cons (me_var 8 hv) ma_nil)))) me_non (nomark _)) (mb_one (ms_ret me_bl)) mb_nil)
    (mb_cons (ms_for hp hc (mi_range2 (gl_at hg 6) n_range (ma_cons (me_var 6 hv) (ma_cons (me_var 7 hv) ma_nil))) (mg_name 9 nd hl) (gok_nm 9) (mb_one (ms_setI hh (me_var 3 hv) (me_var 9 hv) (me_callB (c_max2 hc) (gl_at hg 3) n_max bb_max (ma_cons (me_ix hh (me_var 3 hv) (me_var 9 hv)) (ma_cons (me_var 8 hv) ma_nil))))))
    (mb_cons (ms_set 10 nd hl (me_meth0 m_Epochs_rows (hr.mono (by decide)) (me_var 4 hv)))
    (mb_cons (ms_if (MW.mt (mw_or (mt_not (mt_val (me_isi .list (me_var 10 hv) (gl_at hg 4) n_isinstance (gl_at hg 5) n_list bb_isinstance bb_list))) (mw_or1 (mt_cmp (o_ne hh) (me_var 10 hv) (me_call d__law_rows (hr.mono (by decide)) (gl_at hg 0) (ma_cons (me_var 1 hv) (ma_cons (me_var 3 hv) ma_nil))) (nomark _))))) (mb_one (ms_ret me_bl)) mb_nil)
    (mb_cons (ms_expr (me_bm (T := .list) PySem.F.plainAttrs_list PySem.F.slot_list_append PySem.F.type_list_append t_append (me_var 10 hv) (ma_cons me_str ma_nil)))
    (mb_cons (ms_set 6 nd hl (me_bin o_mod (me_bin o_div (me_var 5 hv) me_int) (me_var 2 hv)))
    (mb_cons (ms_set 7 nd hl (me_bin o_add (me_bin o_add (me_var 6 hv) me_int) (me_bin o_mod (me_bin o_div (me_var 5 hv) me_int) (me_bin o_sub (me_var 2 hv) (me_var 6 hv)))))
    (mb_one (ms_if (mt_cmp (o_ne hh) (me_meth m_Epochs_greatest (hr.mono (by decide)) (me_var 4 hv) (ma_cons (me_ix hh (me_var 1 hv) (me_var 6 hv)) (ma_cons (me_call d__law_high (hr.mono (by decide)) (gl_at hg 2) (ma_cons (me_var 1 hv) (ma_cons (me_var 7 hv) ma_nil))) ma_nil))) (me_callB (c_max1 hc) (gl_at hg 3) n_max bb_max (ma_cons (me_sl false (me_var 3 hv) (mo_at (me_var 6 hv)) (mo_at (me_var 7 hv))) ma_nil)) (nomark _)) (mb_one (ms_ret me_bl)) mb_nil)))))))))))))
    (mb_one (ms_ret (me_cmp (o_eq hh) (me_meth0 m_Epochs_rows (hr.mono (by decide)) (me_var 4 hv)) (me_call d__law_rows (hr.mono (by decide)) (gl_at hg 0) (ma_cons (me_var 1 hv) (ma_cons (me_var 3 hv) ma_nil))) (nomark _)))))))))) rfl rfl
end
end L_k32
namespace L_k32
open PySem PySem.Spec PyProof.Rows L2 BS
structure Cl where
  lo : Str
  hi : Option Str
  v : Int
def inC (l : Str) (h : Option Str) (k : Str) : Bool := !ltS k l && (match h with | none => true | some x => ltS k x)
def numAt : List Cl → Str → Int
  | [], _ => 0
  | c :: r, k => if inC c.lo c.hi k = true then c.v else numAt r k
def EndLe (h : Option Str) (p : Str) : Prop := ∃ x, h = some x ∧ ltS p x = false
def Okc (c : Cl) : Prop := inC c.lo c.hi c.lo = true ∧ c.v ≠ 0
def Canon : List Cl → Prop
  | [] => True
  | [c] => Okc c
  | c :: d :: r => Okc c ∧ EndLe c.hi d.lo ∧ ¬ (c.hi = some d.lo ∧ c.v = d.v) ∧ Canon (d :: r)
theorem Canon.head {c : Cl} {r : List Cl} (h : Canon (c :: r)) : Okc c := by
  cases r with
  | nil => exact h
  | cons d r => exact h.1
theorem Canon.tail {c : Cl} {r : List Cl} (h : Canon (c :: r)) : Canon r := by
  cases r with
  | nil => exact True.intro
  | cons d r => exact h.2.2.2
theorem le_lt {a b c : Str} (h1 : ltS b a = false) (h2 : ltS b c = true) : ltS a c = true := by
  rcases ltS_tri a b with h | h | h
  · exact ltS_trans h h2
  · rw [h]; exact h2
  · rw [h] at h1; cases h1
theorem lt_le {a b c : Str} (h1 : ltS a b = true) (h2 : ltS c b = false) : ltS a c = true := by
  rcases ltS_tri b c with h | h | h
  · exact ltS_trans h1 h
  · rw [← h]; exact h1
  · rw [h] at h2; cases h2
theorem inC_lo {l k : Str} {h : Option Str} (e : inC l h k = true) : ltS k l = false := by
  unfold inC at e
  rw [Bool.and_eq_true] at e
  simpa using e.1
theorem inC_hi {l k x : Str} (e : inC l (some x) k = true) : ltS k x = true := by
  unfold inC at e
  rw [Bool.and_eq_true] at e
  exact e.2
theorem inC_of {l k : Str} {h : Option Str} (e1 : ltS k l = false) (e2 : ∀ x, h = some x → ltS k x = true) : inC l h k = true := by
  unfold inC
  rw [Bool.and_eq_true]
  refine ⟨by simpa using e1, ?_⟩
  cases h with
  | none => rfl
  | some x => exact e2 x rfl
theorem inC_ltlo {l k : Str} {h : Option Str} (e : ltS k l = true) : inC l h k = false := by
  unfold inC
  rw [e]; rfl
theorem inC_end {l k : Str} {h : Option Str} (e : EndLe h k) : inC l h k = false := by
  obtain ⟨x, rfl, hx⟩ := e
  unfold inC
  dsimp only
  rw [hx, Bool.and_false]
theorem canon_lo : ∀ (r : List Cl) (c : Cl), Canon (c :: r) → ∀ k, ltS k c.lo = true → numAt (c :: r) k = 0
  | [], c, _, k, hk => by
    unfold numAt
    rw [if_neg (by rw [inC_ltlo hk]; exact Bool.false_ne_true)]
    rfl
  | d :: r, c, h, k, hk => by
    unfold numAt
    rw [if_neg (by rw [inC_ltlo hk]; exact Bool.false_ne_true)]
    obtain ⟨⟨h1, _⟩, ⟨x, hx, h2⟩, _, h3⟩ := h
    rw [hx] at h1
    exact canon_lo r d h3 k (ltS_trans hk (lt_le (inC_hi h1) h2))
theorem canon_at {c : Cl} {r : List Cl} (h : Canon (c :: r)) : numAt (c :: r) c.lo = c.v := by
  unfold numAt
  rw [if_pos h.head.1]
theorem canon_tl {c : Cl} {r : List Cl} (h : Canon (c :: r)) (k : Str) (hk : inC c.lo c.hi k = true) : numAt r k = 0 := by
  cases r with
  | nil => rfl
  | cons d r =>
    obtain ⟨_, ⟨x, hx, h2⟩, _, h3⟩ := h
    rw [hx] at hk
    exact canon_lo r d h3 k (lt_le (inC_hi hk) h2)
/-- two ends cannot differ -/
theorem canon_hi {c c' : Cl} {r r' : List Cl} (h : Canon (c :: r)) (h' : Canon (c' :: r')) (hl : c.lo = c'.lo) (hv : c.v = c'.v) (e : ∀ k, numAt (c :: r) k = numAt (c' :: r') k) {x : Str} (hx : c.hi = some x) : EndLe c'.hi x := by
  cases q : inC c'.lo c'.hi x with
  | true =>
    exfalso
    have e1 := e x
    have n1 : inC c.lo c.hi x = false := inC_end ⟨x, hx, ltS_irrefl x⟩
    unfold numAt at e1
    rw [n1, q] at e1
    simp only [Bool.false_eq_true, if_false, if_true] at e1
    have vn := h'.head.2
    cases r with
    | nil => exact vn e1.symm
    | cons d r =>
      obtain ⟨_, ⟨y, hy, h2⟩, h4, h3⟩ := h
      rw [hx] at hy
      cases hy
      rcases ltS_tri x d.lo with z | z | z
      · rw [canon_lo r d h3 x z] at e1
        exact vn e1.symm
      · subst z
        rw [canon_at h3] at e1
        exact h4 ⟨hx, by rw [hv, e1]⟩
      · rw [z] at h2; cases h2
  | false =>
    have a1 := h.head.1
    rw [hx] at a1
    have a2 : ltS x c'.lo = false := by
      rw [← hl]
      exact ltS_asymm (inC_hi a1)
    cases hh : c'.hi with
    | none =>
      rw [hh, inC_of (h := none) a2 (fun _ z => nomatch z)] at q
      cases q
    | some y =>
      refine ⟨y, rfl, ?_⟩
      cases hz : ltS x y with
      | false => rfl
      | true =>
        rw [hh, inC_of (h := some y) a2 (fun _ z => by cases z; exact hz)] at q
        cases q
theorem canon_one : ∀ (A B : List Cl), Canon A → Canon B → (∀ k, numAt A k = numAt B k) → A = B
  | [], [], _, _, _ => rfl
  | [], c :: r, _, h, e => absurd ((canon_at h).symm.trans (e c.lo).symm) h.head.2
  | c :: r, [], h, _, e => absurd ((canon_at h).symm.trans (e c.lo)) h.head.2
  | c :: r, c' :: r', h, h', e => by
    have hl : c.lo = c'.lo := by
      rcases ltS_tri c.lo c'.lo with z | z | z
      · exact absurd ((canon_at h).symm.trans ((e c.lo).trans (canon_lo r' c' h' _ z))) h.head.2
      · exact z
      · exact absurd ((canon_at h').symm.trans ((e c'.lo).symm.trans (canon_lo r c h _ z))) h'.head.2
    have hv : c.v = c'.v := by
      have := e c.lo
      rw [canon_at h, hl, canon_at h'] at this
      exact this
    have hh : c.hi = c'.hi := by
      cases q : c.hi with
      | none =>
        cases q' : c'.hi with
        | none => rfl
        | some y =>
          obtain ⟨z, hz, _⟩ := canon_hi h' h hl.symm hv.symm (fun k => (e k).symm) q'
          rw [q] at hz
          cases hz
      | some x =>
        obtain ⟨y, hy, l1⟩ := canon_hi h h' hl hv e q
        obtain ⟨z, hz, l2⟩ := canon_hi h' h hl.symm hv.symm (fun k => (e k).symm) hy
        rw [q] at hz
        cases hz
        rw [hy]
        exact congrArg some (leS_anti (a := x) (b := y) l2 l1)
    have hc : c = c' := by
      cases c; cases c'
      simp only at hl hv hh
      rw [hl, hv, hh]
    subst hc
    rw [canon_one r r' h.tail h'.tail fun k => ?_]
    cases q : inC c.lo c.hi k with
    | true => rw [canon_tl h k q, canon_tl h' k q]
    | false =>
      have := e k
      unfold numAt at this
      rw [q] at this
      simpa using this
def push : List Cl → Str → Option Str → Int → List Cl
  | [], p, q, v => if v = 0 then [] else [⟨p, q, v⟩]
  | [c], p, q, v => if v = 0 then [c] else if c.hi = some p ∧ c.v = v then [⟨c.lo, q, v⟩] else [c, ⟨p, q, v⟩]
  | c :: d :: r, p, q, v => c :: push (d :: r) p q v
def Ends (R : List Cl) (p : Str) : Prop := ∀ c ∈ R, EndLe c.hi p
theorem push_head : ∀ (r : List Cl) (d : Cl) (p : Str) (q : Option Str) (v : Int), ∃ c' r', push (d :: r) p q v = c' :: r' ∧ c'.lo = d.lo ∧ c'.v = d.v
  | [], d, p, q, v => by
    unfold push
    split
    · exact ⟨d, [], rfl, rfl, rfl⟩
    · split
      · rename_i h
        exact ⟨_, _, rfl, rfl, h.2.symm⟩
      · exact ⟨_, _, rfl, rfl, rfl⟩
  | e :: r, d, p, q, v => ⟨d, push (e :: r) p q v, rfl, rfl, rfl⟩
theorem endLe_mono {h : Option Str} {p q : Str} (e : EndLe h p) (l : ltS q p = false) : EndLe h q := by
  obtain ⟨x, rfl, hx⟩ := e
  exact ⟨x, rfl, leS_trans (a := x) (b := p) (c := q) hx l⟩
theorem push_canon : ∀ (R : List Cl) (p : Str) (q : Option Str) (v : Int), Canon R → Ends R p → inC p q p = true → Canon (push R p q v)
  | [], p, q, v, _, _, hp => by
    unfold push
    split
    · exact True.intro
    · rename_i h; exact ⟨hp, h⟩
  | [c], p, q, v, hR, he, hp => by
    unfold push
    split
    · exact hR
    · rename_i hv
      split
      · rename_i h
        refine ⟨inC_of (ltS_irrefl _) fun x hx => ?_, hv⟩
        have h1 := hR.1
        rw [h.1] at h1
        dsimp only at hx
        rw [hx] at hp
        exact ltS_trans (inC_hi h1) (inC_hi hp)
      · rename_i h
        exact ⟨hR, he c List.mem_cons_self, h, hp, hv⟩
  | c :: d :: r, p, q, v, hR, he, hp => by
    have ih := push_canon (d :: r) p q v hR.tail (fun x hx => he x (List.mem_cons_of_mem _ hx)) hp
    unfold push
    obtain ⟨c', r', e, hl, hv⟩ := push_head r d p q v
    rw [e] at ih ⊢
    obtain ⟨h1, h2, h3, _⟩ := hR
    exact ⟨h1, by rw [hl]; exact h2, by rw [hl, hv]; exact h3, ih⟩
theorem push_num : ∀ (R : List Cl) (p : Str) (q : Option Str) (v : Int), Canon R → Ends R p → inC p q p = true → ∀ k, numAt (push R p q v) k = if inC p q k = true then v else numAt R k
  | [], p, q, v, _, _, hp, k => by
    unfold push
    split
    · rename_i h; rw [h]; split <;> rfl
    · rfl
  | [c], p, q, v, hR, he, hp, k => by
    have nin : inC p q k = true → inC c.lo c.hi k = false := fun z => inC_end (endLe_mono (he c List.mem_cons_self) (inC_lo z))
    unfold push
    split
    · rename_i h
      split
      · rename_i z
        unfold numAt
        rw [nin z, h]
        rfl
      · rfl
    · rename_i hv
      split
      · rename_i h
        have hc := hR.1
        rw [h.1] at hc
        by_cases z : inC p q k = true
        · rw [if_pos z]
          have : inC c.lo q k = true := inC_of (ltS_asymm (lt_le (inC_hi hc) (inC_lo z))) fun x hx => by
            rw [hx] at z; exact inC_hi z
          unfold numAt
          dsimp only
          rw [if_pos this]
        · rw [if_neg z]
          unfold numAt
          dsimp only
          have e : inC c.lo q k = inC c.lo c.hi k := by
            cases y : inC c.lo c.hi k with
            | true =>
              rw [h.1] at y
              refine inC_of (inC_lo y) fun x hx => ?_
              rw [hx] at hp
              exact ltS_trans (inC_hi y) (inC_hi hp)
            | false =>
              cases w : inC c.lo q k with
              | false => rfl
              | true =>
                exfalso
                rw [h.1] at y
                cases u : ltS k p with
                | true =>
                  rw [inC_of (h := some p) (inC_lo w) (fun x hx => by cases hx; exact u)] at y
                  cases y
                | false => exact z (inC_of u fun x hx => by rw [hx] at w; exact inC_hi w)
          rw [e, h.2]
      · by_cases z : inC p q k = true
        · rw [if_pos z]
          unfold numAt
          rw [nin z]
          unfold numAt
          dsimp only
          rw [if_pos z]
          rfl
        · rw [if_neg z]
          show (if inC c.lo c.hi k = true then c.v else if inC p q k = true then v else 0) = if inC c.lo c.hi k = true then c.v else 0
          rw [if_neg z]
  | c :: d :: r, p, q, v, hR, he, hp, k => by
    have ih := push_num (d :: r) p q v hR.tail (fun x hx => he x (List.mem_cons_of_mem _ hx)) hp k
    unfold push
    show (if inC c.lo c.hi k = true then c.v else numAt (push (d :: r) p q v) k) = if inC p q k = true then v else if inC c.lo c.hi k = true then c.v else numAt (d :: r) k
    rw [ih]
    by_cases z : inC p q k = true
    · have nin : inC c.lo c.hi k = false := inC_end (endLe_mono (he c List.mem_cons_self) (inC_lo z))
      rw [nin, if_pos z, if_pos z]; rfl
    · rw [if_neg z, if_neg z]
theorem push_ends : ∀ (R : List Cl) (p x : Str) (v : Int), Ends R p → ltS p x = true → Ends (push R p (some x) v) x
  | [], p, x, v, _, hx => by
    unfold push
    split
    · intro c hc; cases hc
    · intro c hc
      rw [List.mem_singleton.mp hc]
      exact ⟨x, rfl, ltS_irrefl x⟩
  | [c], p, x, v, he, hx => by
    have e0 : EndLe c.hi x := endLe_mono (he c List.mem_cons_self) (ltS_asymm hx)
    unfold push
    split
    · intro d hd; rw [List.mem_singleton.mp hd]; exact e0
    · split
      · intro d hd; rw [List.mem_singleton.mp hd]; exact ⟨x, rfl, ltS_irrefl x⟩
      · intro d hd
        rcases List.mem_cons.mp hd with z | z
        · rw [z]; exact e0
        · rw [List.mem_singleton.mp z]; exact ⟨x, rfl, ltS_irrefl x⟩
  | c :: d :: r, p, x, v, he, hx => by
    unfold push
    intro y hy
    rcases List.mem_cons.mp hy with z | z
    · rw [z]; exact endLe_mono (he c List.mem_cons_self) (ltS_asymm hx)
    · exact push_ends (d :: r) p x v (fun u hu => he u (List.mem_cons_of_mem _ hu)) hx y z
theorem numAt_cons (c : Cl) (r : List Cl) (k : Str) : numAt (c :: r) k = if inC c.lo c.hi k = true then c.v else numAt r k := rfl
theorem numAt_none : ∀ (l R : List Cl) (k : Str), (∀ d ∈ l, inC d.lo d.hi k = false) → numAt (l ++ R) k = numAt R k
  | [], R, k, _ => rfl
  | c :: l, R, k, h => by
    rw [List.cons_append, numAt_cons, h c List.mem_cons_self, if_neg Bool.false_ne_true]
    exact numAt_none l R k fun d hd => h d (List.mem_cons_of_mem _ hd)
theorem numAt_congr : ∀ (l R R' : List Cl) (k : Str), numAt R k = numAt R' k → numAt (l ++ R) k = numAt (l ++ R') k
  | [], _, _, _, h => h
  | c :: l, R, R', k, h => by
    rw [List.cons_append, List.cons_append, numAt_cons, numAt_cons, numAt_congr l R R' k h]
def pushC (R : List Cl) (c : Cl) : List Cl := push R c.lo c.hi c.v
/-- ranges that are not empty, one behind the other -/
def Run : List Cl → Prop
  | [] => True
  | [c] => inC c.lo c.hi c.lo = true
  | c :: d :: r => inC c.lo c.hi c.lo = true ∧ EndLe c.hi d.lo ∧ Run (d :: r)
theorem Run.head {c : Cl} {r : List Cl} (h : Run (c :: r)) : inC c.lo c.hi c.lo = true := by
  cases r with
  | nil => exact h
  | cons d r => exact h.1
theorem Run.tail {c : Cl} {r : List Cl} (h : Run (c :: r)) : Run r := by
  cases r with
  | nil => exact True.intro
  | cons d r => exact h.2.2
theorem Canon.run : ∀ {l : List Cl}, Canon l → Run l
  | [], _ => True.intro
  | [c], h => h.1
  | c :: d :: r, h => ⟨h.1.1, h.2.1, Canon.run h.2.2.2⟩
theorem run_lo : ∀ (r : List Cl) (c : Cl), Run (c :: r) → ∀ e ∈ c :: r, ltS e.lo c.lo = false
  | [], c, _, e, he => by rw [List.mem_singleton.mp he]; exact ltS_irrefl _
  | d :: r, c, h, e, he => by
    rcases List.mem_cons.mp he with z | z
    · rw [z]; exact ltS_irrefl _
    · have i := run_lo r d h.2.2 e z
      obtain ⟨x, hx, h2⟩ := h.2.1
      have h1 := h.1
      rw [hx] at h1
      exact ltS_asymm (lt_le (lt_le (inC_hi h1) h2) i)
theorem run_above {c : Cl} {l : List Cl} (h : Run (c :: l)) {k : Str} (hk : inC c.lo c.hi k = true) : ∀ d ∈ l, inC d.lo d.hi k = false := by
  intro d hd
  cases l with
  | nil => cases hd
  | cons e r =>
    obtain ⟨_, ⟨x, hx, h2⟩, h3⟩ := h
    rw [hx] at hk
    exact inC_ltlo (lt_le (lt_le (inC_hi hk) h2) (run_lo r e h3 d hd))
theorem num_mem : ∀ (l : List Cl), Run l → ∀ c ∈ l, ∀ k, inC c.lo c.hi k = true → numAt l k = c.v
  | [], _, c, hc, _, _ => by cases hc
  | d :: l, h, c, hc, k, hk => by
    rw [numAt_cons]
    rcases List.mem_cons.mp hc with z | z
    · rw [← z, if_pos hk]
    · cases q : inC d.lo d.hi k with
      | true => rw [run_above h q c z] at hk; cases hk
      | false =>
        rw [if_neg Bool.false_ne_true]
        exact num_mem l h.tail c z k hk
theorem num_ex : ∀ (l : List Cl) (k : Str), numAt l k ≠ 0 → ∃ c ∈ l, inC c.lo c.hi k = true ∧ c.v = numAt l k
  | [], k, h => absurd rfl h
  | d :: l, k, h => by
    rw [numAt_cons] at h ⊢
    cases q : inC d.lo d.hi k with
    | true => exact ⟨d, List.mem_cons_self, q, by rw [if_pos rfl]⟩
    | false =>
      rw [q, if_neg Bool.false_ne_true] at h
      obtain ⟨c, hc, h1, h2⟩ := num_ex l k h
      exact ⟨c, List.mem_cons_of_mem _ hc, h1, by rw [if_neg Bool.false_ne_true]; exact h2⟩
theorem fold_push : ∀ (l R : List Cl), Canon R → (∀ c r, l = c :: r → Ends R c.lo) → Run l → Canon (l.foldl pushC R) ∧ ∀ k, numAt (l.foldl pushC R) k = numAt (l ++ R) k
  | [], R, h, _, _ => ⟨h, fun _ => rfl⟩
  | c :: l, R, h, he, hr => by
    have e0 := he c l rfl
    have c1 := push_canon R c.lo c.hi c.v h e0 hr.head
    obtain ⟨i1, i2⟩ := fold_push l (pushC R c) c1 (fun d r e => by
      subst e
      have hh := hr.head
      obtain ⟨_, ⟨x, hx, h2⟩, _⟩ := hr
      unfold pushC
      rw [hx] at hh ⊢
      intro y hy
      exact endLe_mono (push_ends R c.lo x c.v e0 (inC_hi hh) y hy) h2) hr.tail
    refine ⟨i1, fun k => ?_⟩
    rw [List.foldl_cons, i2 k, List.cons_append, numAt_cons]
    have pn : numAt (pushC R c) k = if inC c.lo c.hi k = true then c.v else numAt R k := push_num R c.lo c.hi c.v h e0 hr.head k
    cases q : inC c.lo c.hi k with
    | true =>
      rw [numAt_none l _ k (run_above hr q), pn, q, if_pos rfl, if_pos rfl]
    | false =>
      rw [if_neg Bool.false_ne_true]
      refine numAt_congr l _ _ k ?_
      rw [pn, q, if_neg Bool.false_ne_true]
theorem fold_run {l : List Cl} (h : Run l) : Canon (l.foldl pushC []) ∧ ∀ k, numAt (l.foldl pushC []) k = numAt l k := by
  have := fold_push l [] True.intro (fun c r _ x hx => by cases hx) h
  rwa [List.append_nil] at this
abbrev Asc (l : List Str) : Prop := l.Pairwise (fun a b => ltS a b = true)
def ivs : List Str → Bool → List (Str × Option Str)
  | [], _ => []
  | [p], z => if z then [(p, none)] else []
  | p :: q :: r, z => (p, some q) :: ivs (q :: r) z
def vCl (g : Str → Int) (i : Str × Option Str) : Cl := ⟨i.1, i.2, g i.1⟩
theorem ivs_lo : ∀ (ps : List Str) (z : Bool), ∀ i ∈ ivs ps z, i.1 ∈ ps
  | [], _, i, h => by cases h
  | [p], z, i, h => by
    unfold ivs at h
    cases z
    · cases h
    · rw [List.mem_singleton.mp h]; exact List.mem_singleton.mpr rfl
  | p :: q :: r, z, i, h => by
    rcases List.mem_cons.mp h with e | e
    · rw [e]; exact List.mem_cons_self
    · exact List.mem_cons_of_mem _ (ivs_lo (q :: r) z i e)
theorem ivs_run (g : Str → Int) : ∀ (ps : List Str) (z : Bool), Asc ps → Run ((ivs ps z).map (vCl g))
  | [], _, _ => True.intro
  | [p], z, _ => by
    unfold ivs
    cases z
    · exact True.intro
    · exact inC_of (h := none) (ltS_irrefl _) (fun _ e => nomatch e)
  | [p, q], z, h => by
    have pq : ltS p q = true := (List.pairwise_cons.mp h).1 q (List.mem_singleton.mpr rfl)
    have i1 : inC p (some q) p = true := inC_of (ltS_irrefl _) (fun x e => by cases e; exact pq)
    cases z
    · exact i1
    · exact ⟨i1, ⟨q, rfl, ltS_irrefl _⟩, inC_of (h := none) (ltS_irrefl _) (fun _ e => nomatch e)⟩
  | p :: q :: q' :: r, z, h => by
    have pq : ltS p q = true := (List.pairwise_cons.mp h).1 q List.mem_cons_self
    have i1 : inC p (some q) p = true := inC_of (ltS_irrefl _) (fun x e => by cases e; exact pq)
    exact ⟨i1, ⟨q, rfl, ltS_irrefl _⟩, ivs_run g (q :: q' :: r) z (List.pairwise_cons.mp h).2⟩
theorem asc_le {p : Str} {r : List Str} (h : Asc (p :: r)) : ∀ x ∈ p :: r, ltS x p = false := fun x hx => by
  rcases List.mem_cons.mp hx with e | e
  · rw [e]; exact ltS_irrefl _
  · exact ltS_asymm ((List.pairwise_cons.mp h).1 x e)
theorem ivs_sep : ∀ (ps : List Str) (z : Bool), Asc ps → ∀ i ∈ ivs ps z, ∀ k, inC i.1 i.2 k = true → ∀ x ∈ ps, ltS k x = ltS i.1 x
  | [], _, _, i, h, _, _, _, _ => by cases h
  | [p], z, _, i, h, k, hk, x, hx => by
    have e := ivs_lo [p] z i h
    rw [List.mem_singleton.mp hx]
    rw [List.mem_singleton.mp e] at hk ⊢
    rw [inC_lo hk, ltS_irrefl]
  | p :: q :: r, z, ha, i, h, k, hk, x, hx => by
    have ha' := (List.pairwise_cons.mp ha).2
    rcases List.mem_cons.mp h with e | e
    · subst e
      dsimp only at hk ⊢
      rcases List.mem_cons.mp hx with y | y
      · rw [y, inC_lo hk, ltS_irrefl]
      · rw [(List.pairwise_cons.mp ha).1 x y]
        exact lt_le (inC_hi hk) (asc_le ha' x y)
    · rcases List.mem_cons.mp hx with y | y
      · have e1 := ivs_lo (q :: r) z i e
        have e2 := (List.pairwise_cons.mp ha).1 i.1 e1
        rw [y, ltS_asymm e2]
        exact ltS_asymm (lt_le e2 (inC_lo hk))
      · exact ivs_sep (q :: r) z ha' i e k hk x y
theorem ivs_cover : ∀ (r : List Str) (p : Str) (z : Bool), Asc (p :: r) → ∀ k, ltS k p = false → (∃ i ∈ ivs (p :: r) z, inC i.1 i.2 k = true) ∨ (z = false ∧ ∀ x ∈ p :: r, ltS k x = false)
  | [], p, z, _, k, hk => by
    cases z
    · exact .inr ⟨rfl, fun x hx => by rw [List.mem_singleton.mp hx]; exact hk⟩
    · exact .inl ⟨(p, none), List.mem_singleton.mpr rfl, inC_of (h := none) hk (fun _ e => nomatch e)⟩
  | q :: r, p, z, ha, k, hk => by
    cases hq : ltS k q with
    | true => exact .inl ⟨(p, some q), List.mem_cons_self, inC_of hk (fun x e => by cases e; exact hq)⟩
    | false =>
      rcases ivs_cover r q z (List.pairwise_cons.mp ha).2 k hq with ⟨i, h1, h2⟩ | ⟨h1, h2⟩
      · exact .inl ⟨i, List.mem_cons_of_mem _ h1, h2⟩
      · exact .inr ⟨h1, fun x hx => by
          rcases List.mem_cons.mp hx with y | y
          · rw [y]; exact hk
          · exact h2 x y⟩
theorem num_map (g : Str → Int) : ∀ (I : List (Str × Option Str)) (k : Str), (∃ i ∈ I, inC i.1 i.2 k = true ∧ numAt (I.map (vCl g)) k = g i.1) ∨ ((∀ i ∈ I, inC i.1 i.2 k = false) ∧ numAt (I.map (vCl g)) k = 0)
  | [], k => .inr ⟨fun _ h => (nomatch h), rfl⟩
  | i :: I, k => by
    rw [List.map_cons, numAt_cons]
    cases q : inC i.1 i.2 k with
    | true =>
      refine .inl ⟨i, List.mem_cons_self, q, ?_⟩
      show (if inC i.1 i.2 k = true then g i.1 else _) = _
      rw [if_pos q]
    | false =>
      have e : (if inC (vCl g i).lo (vCl g i).hi k = true then (vCl g i).v else numAt (I.map (vCl g)) k) = numAt (I.map (vCl g)) k := by
        show (if inC i.1 i.2 k = true then g i.1 else _) = _
        rw [q, if_neg Bool.false_ne_true]
      rw [e]
      rcases num_map g I k with ⟨j, h1, h2, h3⟩ | ⟨h1, h2⟩
      · exact .inl ⟨j, List.mem_cons_of_mem _ h1, h2, h3⟩
      · exact .inr ⟨fun j hj => by
          rcases List.mem_cons.mp hj with y | y
          · rw [y]; exact q
          · exact h1 j y, h2⟩
/-- the bounds of the cells and of a range -/
def hisOf (R : List Cl) (hi : Option Str) : List (Option Str) := R.map (·.hi) ++ [hi]
def lowsOf (R : List Cl) (lo : Str) (hi : Option Str) : List Str := setSort (R.map (·.lo) ++ [lo] ++ (hisOf R hi).filterMap id)
def ivOf (R : List Cl) (lo : Str) (hi : Option Str) : List (Str × Option Str) := ivs (lowsOf R lo hi) ((hisOf R hi).contains none)
def rz (f : Str → Int) (lo : Str) (hi : Option Str) (e : Int) (k : Str) : Int := if inC lo hi k = true then max (f k) e else f k
def raiseC (R : List Cl) (lo : Str) (hi : Option Str) (e : Int) : List Cl := ((ivOf R lo hi).map (vCl (rz (numAt R) lo hi e))).foldl pushC []
theorem asc_setSort (l : List Str) : Asc (setSort l) := by
  have h1 := sortT_sorted (dedT l)
  have h2 := nodup_setSort l
  unfold setSort at h2
  exact List.Pairwise.imp₂ (fun a b h n => ltS_of_le_ne h n) h1 h2
theorem asc_lows (R : List Cl) (lo : Str) (hi : Option Str) : Asc (lowsOf R lo hi) := asc_setSort _
theorem lows_lo {R : List Cl} {lo : Str} {hi : Option Str} {c : Cl} (h : c ∈ R) : c.lo ∈ lowsOf R lo hi := by
  unfold lowsOf
  rw [mem_setSort]
  exact List.mem_append_left _ (List.mem_append_left _ (List.mem_map.mpr ⟨c, h, rfl⟩))
theorem lows_me {R : List Cl} {lo : Str} {hi : Option Str} : lo ∈ lowsOf R lo hi := by
  unfold lowsOf
  rw [mem_setSort]
  exact List.mem_append_left _ (List.mem_append_right _ (List.mem_singleton.mpr rfl))
theorem lows_hi {R : List Cl} {lo x : Str} {hi : Option Str} (h : some x ∈ hisOf R hi) : x ∈ lowsOf R lo hi := by
  unfold lowsOf
  rw [mem_setSort]
  exact List.mem_append_right _ (List.mem_filterMap.mpr ⟨some x, h, rfl⟩)
theorem inC_sep {l k k' : Str} {h : Option Str} (e1 : ltS k l = ltS k' l) (e2 : ∀ x, h = some x → ltS k x = ltS k' x) : inC l h k = inC l h k' := by
  unfold inC
  rw [e1]
  cases h with
  | none => rfl
  | some x =>
    dsimp only
    rw [e2 x rfl]
theorem num_sep : ∀ (R : List Cl) (k k' : Str), (∀ c ∈ R, ltS k c.lo = ltS k' c.lo ∧ ∀ x, c.hi = some x → ltS k x = ltS k' x) → numAt R k = numAt R k'
  | [], _, _, _ => rfl
  | c :: R, k, k', h => by
    rw [numAt_cons, numAt_cons, num_sep R k k' fun d hd => h d (List.mem_cons_of_mem _ hd)]
    obtain ⟨h1, h2⟩ := h c List.mem_cons_self
    rw [inC_sep h1 h2]
theorem num_zero : ∀ (R : List Cl) (k : Str), (∀ c ∈ R, inC c.lo c.hi k = false) → numAt R k = 0 := fun R k h => by
  have := numAt_none R [] k h
  rwa [List.append_nil] at this
theorem raise_ok {R : List Cl} {lo : Str} {hi : Option Str} (e : Int) : Canon (raiseC R lo hi e) ∧ ∀ k, numAt (raiseC R lo hi e) k = rz (numAt R) lo hi e k := by
  have ha := asc_lows R lo hi
  obtain ⟨h1, h2⟩ := fold_run (ivs_run (rz (numAt R) lo hi e) (lowsOf R lo hi) ((hisOf R hi).contains none) ha)
  refine ⟨h1, fun k => (h2 k).trans ?_⟩
  rcases num_map (rz (numAt R) lo hi e) (ivOf R lo hi) k with ⟨i, m1, m2, m3⟩ | ⟨m1, m3⟩
  · refine m3.trans ?_
    have sep := ivs_sep _ _ ha i m1 k m2
    have s1 : inC lo hi k = inC lo hi i.1 := inC_sep (sep lo lows_me) fun x hx => sep x (lows_hi (by rw [← hx]; exact List.mem_append_right _ (List.mem_singleton.mpr rfl)))
    have s2 : numAt R k = numAt R i.1 := num_sep R k i.1 fun c hc => ⟨sep c.lo (lows_lo hc), fun x hx => sep x (lows_hi (by rw [← hx]; exact List.mem_append_left _ (List.mem_map.mpr ⟨c, hc, rfl⟩)))⟩
    unfold rz
    rw [s1, s2]
  · refine m3.trans ?_
    have z : inC lo hi k = false ∧ ∀ c ∈ R, inC c.lo c.hi k = false := by
      unfold ivOf at m1
      cases hl : lowsOf R lo hi with
      | nil =>
        have := lows_me (R := R) (lo := lo) (hi := hi)
        rw [hl] at this
        cases this
      | cons p r =>
        cases hp : ltS k p with
        | true =>
          rw [hl] at ha
          have below : ∀ x ∈ lowsOf R lo hi, ltS k x = true := fun x hx => by
            rw [hl] at hx
            exact lt_le hp (asc_le ha x hx)
          exact ⟨inC_ltlo (below lo lows_me), fun c hc => inC_ltlo (below c.lo (lows_lo hc))⟩
        | false =>
          rw [hl] at ha m1
          rcases ivs_cover r p ((hisOf R hi).contains none) ha k hp with ⟨i, j1, j2⟩ | ⟨j1, j2⟩
          · rw [m1 i j1] at j2; cases j2
          · rw [← hl] at j2
            have ends : ∀ h ∈ hisOf R hi, ∃ x, h = some x ∧ ltS k x = false := fun h hh => by
              cases h with
              | none =>
                rw [List.contains_iff_mem.mpr hh] at j1
                cases j1
              | some x => exact ⟨x, rfl, j2 x (lows_hi hh)⟩
            refine ⟨inC_end ?_, fun c hc => inC_end ?_⟩
            · obtain ⟨x, h1, h2⟩ := ends hi (List.mem_append_right _ (List.mem_singleton.mpr rfl))
              exact ⟨x, h1, h2⟩
            · obtain ⟨x, h1, h2⟩ := ends c.hi (List.mem_append_left _ (List.mem_map.mpr ⟨c, hc, rfl⟩))
              exact ⟨x, h1, h2⟩
    unfold rz
    rw [z.1, if_neg Bool.false_ne_true, num_zero R k z.2]
theorem run_idx : ∀ (l : List Cl), (∀ c ∈ l, inC c.lo c.hi c.lo = true) → (∀ (i : Nat) (c d : Cl), l[i]? = some c → l[i + 1]? = some d → c.hi = some d.lo) → Run l
  | [], _, _ => True.intro
  | [c], h, _ => h c List.mem_cons_self
  | c :: d :: r, h, e => ⟨h c List.mem_cons_self, ⟨d.lo, e 0 c d rfl rfl, ltS_irrefl _⟩, run_idx (d :: r) (fun x hx => h x (List.mem_cons_of_mem _ hx)) fun i x y h1 h2 => e (i + 1) x y h1 h2⟩
theorem loc : ∀ (r : List Str) (p : Str), Asc (p :: r) → ∀ k, ltS k p = false → ∃ j, j < (p :: r).length ∧ ∀ (s : Nat) (x : Str), (p :: r)[s]? = some x → ltS k x = decide (j < s)
  | [], p, _, k, hk => ⟨0, Nat.zero_lt_one, fun s x h => by
      cases s with
      | zero => cases h; rw [hk]; rfl
      | succ s => cases h⟩
  | q :: r, p, ha, k, hk => by
    have ha' := (List.pairwise_cons.mp ha).2
    cases hq : ltS k q with
    | true =>
      refine ⟨0, Nat.succ_pos _, fun s x h => ?_⟩
      cases s with
      | zero => cases h; rw [hk]; rfl
      | succ s =>
        have hx : x ∈ q :: r := List.mem_of_getElem? h
        rw [lt_le hq (asc_le ha' x hx), decide_eq_true (Nat.succ_pos s)]
    | false =>
      obtain ⟨j, h1, h2⟩ := loc r q ha' k hq
      refine ⟨j + 1, Nat.succ_lt_succ h1, fun s x h => ?_⟩
      cases s with
      | zero => cases h; rw [hk]; rfl
      | succ s =>
        rw [h2 s x h]
        by_cases y : j < s
        · rw [decide_eq_true y, decide_eq_true (Nat.succ_lt_succ y)]
        · rw [decide_eq_false y, decide_eq_false (by omega)]
theorem asc_at {bs : List Str} (h : Asc bs) {i j : Nat} {x y : Str} (hi : bs[i]? = some x) (hj : bs[j]? = some y) : ltS x y = decide (i < j) := by
  obtain ⟨a1, a2⟩ := List.getElem?_eq_some_iff.mp hi
  obtain ⟨b1, b2⟩ := List.getElem?_eq_some_iff.mp hj
  have p := List.pairwise_iff_getElem.mp h
  by_cases l : i < j
  · rw [decide_eq_true l, ← a2, ← b2]
    exact p i j a1 b1 l
  · rw [decide_eq_false l]
    by_cases e : i = j
    · subst e
      rw [hi] at hj
      cases hj
      exact ltS_irrefl _
    · refine ltS_asymm ?_
      rw [← a2, ← b2]
      exact p j i b1 a1 (by omega)
def hiD : Option Str → D
  | none => .non
  | some z => .str z
@[simp] theorem hiD_none : hiD none = .non := rfl
@[simp] theorem hiD_some (z : Str) : hiD (some z) = .str z := rfl
theorem hiD_fl (o : Option Str) : Fl 1 (hiD o) := by cases o with | none => exact .non | some z => exact .str z
theorem hiD_eq (a b : Option Str) : eqD (hiD a) (hiD b) = decide (a = b) := by
  cases a <;> cases b <;> simp
theorem hiD_inj {a b : Option Str} (h : hiD a = hiD b) : a = b := by
  cases a <;> cases b <;> simp_all
theorem fl_up {n m : Nat} {d : D} (h : Fl n d) (l : n ≤ m) : Fl m d := ⟨h.pl, fun f => Nat.le_trans (h.dp f) l, h.eq⟩
theorem below_so (z : Str) (o : Option Str) (S : Store) : V_below [.str z, hiD o] S = .ok (.bl (match o with | none => true | some h => ltS z h)) S := by
  cases o <;> simp (config := { implicitDefEqProofs := false }) [V_below, m_below]
theorem at_ext {S : Store} {n : Nat} {x : O} (h : S[n]? = some x) (T : Store) : (S ++ T)[n]? = some x := by
  rw [List.getElem?_append_left (List.getElem?_eq_some_iff.mp h).1]; exact h
def clD (c : Cl) : D := .tup [.str c.lo, hiD c.hi, .int c.v]
def below (x : Str) (h : Option Str) : Bool := match h with | none => true | some y => ltS x y
theorem belowE (z : Str) (o : Option Str) (S : Store) : V_below [.str z, hiD o] S = .ok (.bl (below z o)) S := below_so z o S
theorem cont_run (l k : Str) (h : Option Str) (S : Store) : V_contains [.str l, hiD h, .str k] S = .ok (.bl (inC l h k)) S := by
  have b := belowE k h S
  show _ = R.ok (D.bl (!ltS k l && below k h)) S
  generalize hiD h = hd at *
  cases q : ltS k l <;> simp (config := { implicitDefEqProofs := false }) [V_contains, m_contains, b, q]
theorem atI_lastE {α : Type} (xs : List α) (x : α) : atI (xs ++ [x]) (-1) = some x := by
  have : ixN (xs ++ [x]).length (-1) = some xs.length := by
    unfold ixN
    rw [if_neg (by omega), if_pos (by simp; omega)]
    simp; omega
  unfold atI
  rw [this]
  simp
theorem number_run {S : Store} {c : Nat} {R : List Cl} (hc : S[c]? = some (.lst (R.map clD))) (k : Str) : V_number_at [.obj c, .str k] S = .ok (.int (numAt R k)) S := by
  refine gives_eq (den_gives ?_)
  show (m_number_at ⟨[some (.obj c), some (.str k), none, none, none], []⟩ S).ends _ _
  unfold m_number_at
  rw [mSeq_ev, mFor_ev, show iAny (mVar 0) ⟨[some (.obj c), some (.str k), none, none, none], []⟩ S = .ok ⟨R.map clD, fun S => S[c]? = some (.lst (R.map clD))⟩ S from by
    generalize R.map clD = rd at *
    simp (config := { implicitDefEqProofs := false }) [wkA, hc], BS.R.toS_ok]
  refine ends_seq (forL_ends (fun i e S' => ∃ x2 x3 x4, e = ⟨[some (.obj c), some (.str k), x2, x3, x4], []⟩ ∧ S' = S ∧ numAt R k = numAt (R.drop i) k) ⟨none, none, none, rfl, rfl, rfl⟩ (fun i e S' h => by obtain ⟨_, _, _, _, rfl, _⟩ := h; exact hc) ?_ ?_)
  · rintro i d e S' hd ⟨x2, x3, x4, rfl, rfl, hn⟩
    rw [List.getElem?_map, Option.map_eq_some_iff] at hd
    obtain ⟨x, hx, rfl⟩ := hd
    have dr : R.drop i = x :: R.drop (i + 1) := by
      obtain ⟨a, b⟩ := List.getElem?_eq_some_iff.mp hx
      rw [List.drop_eq_getElem_cons a, b]
    rw [dr, numAt_cons] at hn
    have ct := cont_run x.lo k x.hi S'
    unfold clD
    cases q : inC x.lo x.hi k with
    | true =>
      rw [q] at ct hn
      rw [if_pos rfl] at hn
      rw [hn]
      generalize hiD x.hi = h at *
      simp (config := { implicitDefEqProofs := false }) [lb_number_at_0, gsCons, gsNil, ct]
    | false =>
      rw [q] at ct hn
      rw [if_neg Bool.false_ne_true] at hn
      generalize numAt R k = n1 at *
      generalize numAt (R.drop (i + 1)) k = n2 at *
      generalize hiD x.hi = h at *
      simp (config := { implicitDefEqProofs := false }) [lb_number_at_0, gsCons, gsNil, ct, hn]
  · rintro e S' ⟨x2, x3, x4, rfl, rfl, hn⟩
    rw [List.length_map, List.drop_length] at hn
    rw [hn]
    simp (config := { implicitDefEqProofs := false }) [numAt]
theorem highs_run {S : Store} {c : Nat} {R : List Cl} (hc : S[c]? = some (.lst (R.map clD))) (hi : Option Str) (hl : R.length ≤ 10000) : V_highs [.obj c, hiD hi] S = .ok (.lst ((hisOf R hi).map hiD)) (S ++ [.lst (R.map fun x => hiD x.hi)]) := by
  have lc := lcL_map (G := fun S => S[c]? = some (.lst (R.map clD))) (i := 2) (e0 := ⟨[some (.obj c), some (hiD hi), none], []⟩) (el := mIx (mVar 2) (mC (.int 1))) S (fun d => match d with | .tup [_, b, _] => b | _ => .non) (ds := R.map clD) (fun acc => at_ext hc _) (fun d hd acc => by
    obtain ⟨x, _, rfl⟩ := List.mem_map.mp hd
    unfold clD
    generalize hiD x.hi = h
    simp (config := { implicitDefEqProofs := false })) (by rw [List.length_map]; exact szL (by omega))
  have e : (R.map clD).map (fun d => match d with | .tup [_, b, _] => b | _ => .non) = R.map fun x => hiD x.hi := by rw [List.map_map]; rfl
  rw [e] at lc
  have e2 : (hisOf R hi).map hiD = (R.map fun x => hiD x.hi) ++ [hiD hi] := by unfold hisOf; rw [List.map_append, List.map_map]; rfl
  rw [e2]
  have ll : (R.map fun x => hiD x.hi).length + 1 ≤ sizeLine := by rw [List.length_map]; exact szL (by omega)
  have gl : (S ++ [O.lst (R.map fun x => hiD x.hi)])[S.length]? = some (.lst (R.map fun x => hiD x.hi)) := by simp
  generalize (R.map fun x => hiD x.hi) = hd at *
  generalize R.map clD = rd at *
  generalize hiD hi = h at *
  have cl : ∀ T : Store, T[S.length]? = some (.lst hd) → catS false T (.obj S.length) (.lst [h]) = fin false (hd ++ [h]) T := fun T q => by
    simp only [catS, lvOf_lst, lvOf_obj, q]
    simp [ll]
  simp (config := { implicitDefEqProofs := false }) [V_highs, m_highs, wkA, hc, lc, gl, cl]
theorem strsOf_map : ∀ zs : List Str, BS.strsOf (zs.map D.str) = some zs
  | [] => rfl
  | z :: zs => by
    rw [List.map_cons]
    show (BS.strsOf (zs.map D.str)).map (z :: ·) = _
    rw [strsOf_map zs]; rfl
def ivD (i : Str × Option Str) : D := .tup [.str i.1, hiD i.2]
theorem ivsF_len : ∀ ps : List Str, (ivs ps false).length = ps.length - 1
  | [] => rfl
  | [p] => rfl
  | p :: q :: r => by
    show (ivs (q :: r) false).length + 1 = _
    rw [ivsF_len (q :: r)]; rfl
theorem ivsF_at : ∀ (ps : List Str) (k : Nat) (p q : Str), ps[k]? = some p → ps[k + 1]? = some q → (ivs ps false)[k]? = some (p, some q)
  | [], k, p, q, h, _ => by cases h
  | [a], k, p, q, _, h => by cases h
  | a :: b :: r, 0, p, q, h1, h2 => by cases h1; cases h2; rfl
  | a :: b :: r, k + 1, p, q, h1, h2 => ivsF_at (b :: r) k p q h1 h2
theorem ivs_true : ∀ (ps : List Str) (x : Str), ivs (ps ++ [x]) true = ivs (ps ++ [x]) false ++ [(x, none)]
  | [], x => rfl
  | [a], x => rfl
  | a :: b :: r, x => by
    show (a, some b) :: ivs (b :: r ++ [x]) true = _
    rw [ivs_true (b :: r) x]; rfl
theorem nonF : ∀ hs : List (Option Str), ((hs.map hiD).filter fun d => match d with | .non => false | _ => true).map id = (hs.filterMap id).map D.str
  | [] => rfl
  | none :: hs => nonF hs
  | some x :: hs => by
    have := nonF hs
    show D.str x :: _ = D.str x :: _
    rw [← this]
theorem set_mid (A : Store) (x y : O) (B : Store) : (A ++ x :: B).set A.length y = A ++ y :: B := by
  rw [List.set_append, if_neg (by omega), Nat.sub_self]; rfl
theorem get_mid (A : Store) (x : O) (B : Store) : (A ++ x :: B)[A.length]? = some x := by
  rw [List.getElem?_append_right (Nat.le_refl _), Nat.sub_self, List.getElem?_cons_zero]
theorem R_bind_ok {α β : Type} (a : α) (S : Store) (k : α → Store → BS.R β) : (BS.R.ok a S).bind k = k a S := rfl
theorem any_non : ∀ hs : List (Option Str), ((hs.map hiD).any fun z => eqD z .non) = hs.contains none
  | [] => rfl
  | none :: hs => by simp
  | some x :: hs => by
    have := any_non hs
    simp at this ⊢
    exact this
theorem his_fl : ∀ hs : List (Option Str), FlS 1 (hs.map hiD)
  | [] => .nil
  | h :: hs => .cons (hiD_fl h) (his_fl hs)
theorem lows_len (R : List Cl) (lo : Str) (hi : Option Str) : (R.map (·.lo) ++ [lo] ++ (hisOf R hi).filterMap id).length ≤ 2 * R.length + 2 := by
  have h1 := List.length_filterMap_le (f := id) (l := hisOf R hi)
  have h2 : (hisOf R hi).length = R.length + 1 := by unfold hisOf; simp
  simp only [List.length_append, List.length_map, List.length_singleton]
  omega
theorem intervals_run {S : Store} {c : Nat} {R : List Cl} (hc : S[c]? = some (.lst (R.map clD))) (lo : Str) (hi : Option Str) (hl : R.length ≤ 400) : ∃ T i, V_intervals [.obj c, .str lo, hiD hi] S = .ok (.obj (S.length + i)) (S ++ T) ∧ T[i]? = some (.lst ((ivOf R lo hi).map ivD)) := by
  have lc1 := lcL_map (G := fun S => S[c]? = some (.lst (R.map clD))) (i := 4) (e0 := ⟨[some (.obj c), some (.str lo), some (hiD hi), none, none, none, none, none], []⟩) (el := mIx (mVar 4) (mC (.int 0))) S (fun d => match d with | .tup [a, _, _] => a | _ => .non) (ds := R.map clD) (fun acc => at_ext hc _) (fun d hd acc => by
    obtain ⟨x, _, rfl⟩ := List.mem_map.mp hd
    unfold clD
    generalize hiD x.hi = h
    simp (config := { implicitDefEqProofs := false })) (by rw [List.length_map]; exact szL (by omega))
  have e : (R.map clD).map (fun d => match d with | .tup [a, _, _] => a | _ => .non) = (R.map (·.lo)).map D.str := by rw [List.map_map, List.map_map]; rfl
  rw [e] at lc1
  obtain ⟨S1, h1⟩ : ∃ S1, S ++ [O.lst ((R.map (·.lo)).map D.str)] = S1 := ⟨_, rfl⟩
  have hc1 := at_ext hc [O.lst ((R.map (·.lo)).map D.str)]
  have g1 : S1[S.length]? = some (.lst ((R.map (·.lo)).map D.str)) := by rw [← h1]; simp
  rw [h1] at lc1 hc1
  have hr1 := highs_run hc1 hi (by omega)
  obtain ⟨S2, h2⟩ : ∃ S2, S1 ++ [O.lst (R.map fun x => hiD x.hi)] = S2 := ⟨_, rfl⟩
  rw [h2] at hr1
  have lc2 := lcL_pure (G := fun _ => True) (t := LT.one 5) (e0 := ⟨[some (.obj c), some (.str lo), some (hiD hi), none, none, none, none, none], []⟩) (tt := mBl (mBin fIsNot (mVar 5) (mC .non))) (el := mVar 5) S2 (fun d => match d with | .non => false | _ => true) id ((hisOf R hi).map hiD) (fun _ => True.intro) (fun d hd => by
    obtain ⟨x, _, rfl⟩ := List.mem_map.mp hd
    refine ⟨[hiD x], rfl, fun acc => ?_⟩
    generalize hiD hi = h
    cases x with
    | none => exact ⟨by simp (config := { implicitDefEqProofs := false }), fun q => by cases q⟩
    | some x => exact ⟨by simp (config := { implicitDefEqProofs := false }), fun _ => by simp (config := { implicitDefEqProofs := false })⟩) [] (by
      have : (hisOf R hi).length = R.length + 1 := by unfold hisOf; simp
      simp only [List.length_map, List.length_nil]
      exact szL (by omega))
  rw [nonF, List.nil_append] at lc2
  obtain ⟨S3, h3⟩ : ∃ S3, S2 ++ [O.lst (((hisOf R hi).filterMap id).map D.str)] = S3 := ⟨_, rfl⟩
  have g3 : S3[S2.length]? = some (.lst (((hisOf R hi).filterMap id).map D.str)) := by rw [← h3]; simp
  rw [h3] at lc2
  have hS3 : ∃ T3, S3 = S ++ T3 := ⟨[O.lst ((R.map (·.lo)).map D.str)] ++ [O.lst (R.map fun x => hiD x.hi)] ++ [O.lst (((hisOf R hi).filterMap id).map D.str)], by rw [← h3, ← h2, ← h1]; simp⟩
  obtain ⟨T3, hT3⟩ := hS3
  have hc3 : S3[c]? = some (.lst (R.map clD)) := by rw [hT3]; exact at_ext hc T3
  have ln := lows_len R lo hi
  have l1 : ((R.map (·.lo)).map D.str).length + 1 ≤ sizeLine := by simp only [List.length_map]; exact szL (by omega)
  have l2 : ((R.map (·.lo)).map D.str ++ [D.str lo]).length + (((hisOf R hi).filterMap id).map D.str).length ≤ sizeLine := by
    simp only [List.length_append, List.length_map, List.length_singleton] at ln ⊢; exact szL (by omega)
  have a1 : mLc [4] (LT.one 4) (iAny (mVar 0)) mYes (mIx (mVar 4) (mC (.int 0))) ⟨[some (.obj c), some (.str lo), some (hiD hi), none, none, none, none, none], []⟩ S = .ok (.obj S.length) S1 := by
    generalize R.map clD = rd at *
    generalize (R.map (·.lo)).map D.str = sd at *
    generalize hiD hi = h at *
    simp (config := { implicitDefEqProofs := false }) [wkA, hc, lc1]
  have a2 : mCat false (mLc [4] (LT.one 4) (iAny (mVar 0)) mYes (mIx (mVar 4) (mC (.int 0)))) (mLst false (mCons (mVar 1) mNil)) ⟨[some (.obj c), some (.str lo), some (hiD hi), none, none, none, none, none], []⟩ S = .ok (.lst ((R.map (·.lo)).map D.str ++ [D.str lo])) S1 := by
    rw [mCat_ev, a1, R_bind_ok]
    have : catS false S1 (.obj S.length) (.lst [.str lo]) = .ok (.lst ((R.map (·.lo)).map D.str ++ [D.str lo])) S1 := by
      generalize (R.map (·.lo)).map D.str = sd at *
      simp only [catS, lvOf_lst, lvOf_obj, g1]
      simp [l1, fin]
    generalize (R.map (·.lo)).map D.str = sd at *
    generalize hiD hi = h at *
    simp (config := { implicitDefEqProofs := false }) [this]
  have a3 : mLc [5] (LT.one 5) (iAny (mCall V_highs (mCons (mVar 0) (mCons (mVar 2) mNil)))) (mBl (mBin fIsNot (mVar 5) (mC .non))) (mVar 5) ⟨[some (.obj c), some (.str lo), some (hiD hi), none, none, none, none, none], []⟩ S1 = .ok (.obj S2.length) S3 := by
    generalize ((hisOf R hi).filterMap id).map D.str = fd at *
    generalize (hisOf R hi).map hiD = hd at *
    generalize hiD hi = h at *
    simp (config := { implicitDefEqProofs := false }) [wkA, hr1, lc2]
  have tot : (R.map (·.lo)).map D.str ++ [D.str lo] ++ ((hisOf R hi).filterMap id).map D.str = (R.map (·.lo) ++ [lo] ++ (hisOf R hi).filterMap id).map D.str := by simp only [List.map_append]; rfl
  have a4 : mSortSet false (mCat false (mCat false (mLc [4] (LT.one 4) (iAny (mVar 0)) mYes (mIx (mVar 4) (mC (.int 0)))) (mLst false (mCons (mVar 1) mNil))) (mLc [5] (LT.one 5) (iAny (mCall V_highs (mCons (mVar 0) (mCons (mVar 2) mNil)))) (mBl (mBin fIsNot (mVar 5) (mC .non))) (mVar 5))) ⟨[some (.obj c), some (.str lo), some (hiD hi), none, none, none, none, none], []⟩ S = .ok (.lst ((lowsOf R lo hi).map D.str)) S3 := by
    have c4 : catS false S3 (.lst ((R.map (·.lo)).map D.str ++ [D.str lo])) (.obj S2.length) = .ok (.lst ((R.map (·.lo) ++ [lo] ++ (hisOf R hi).filterMap id).map D.str)) S3 := by
      rw [← tot]
      simp only [catS, lvOf_lst, lvOf_obj, g3]
      rw [if_pos l2]; rfl
    rw [mSortSet_ev, mCat_ev, a2, R_bind_ok, a3, R_bind_ok, c4, R_bind_ok]
    simp only [lstOf_lst]
    rw [strsOf_map]
    dsimp only
    rw [if_pos (by omega)]
    rfl
  obtain ⟨lst, x, hps⟩ : ∃ ps x, lowsOf R lo hi = ps ++ [x] := by
    rcases List.eq_nil_or_concat (lowsOf R lo hi) with q | ⟨ps, x, q⟩
    · have := lows_me (R := R) (lo := lo) (hi := hi)
      rw [q] at this; cases this
    · exact ⟨ps, x, by rw [q, List.concat_eq_append]⟩
  have lnl : (lowsOf R lo hi).length ≤ 1000 := by
    have := len_setSort (R.map (·.lo) ++ [lo] ++ (hisOf R hi).filterMap id)
    unfold lowsOf; omega
  have hr4 : ∀ rows, V_highs [.obj c, hiD hi] (S3 ++ [O.lst rows]) = .ok (.lst ((hisOf R hi).map hiD)) (S3 ++ [O.lst rows] ++ [.lst (R.map fun x => hiD x.hi)]) := fun rows => highs_run (at_ext hc3 _) hi (by omega)
  have key : (V_intervals [.obj c, .str lo, hiD hi] S).gives fun d S' => d = .obj S3.length ∧ ∃ B, S' = S3 ++ .lst ((ivOf R lo hi).map ivD) :: B := by
    refine den_gives ?_
    show (m_intervals ⟨[some (.obj c), some (.str lo), some (hiD hi), none, none, none, none, none], []⟩ S).ends _ _
    unfold m_intervals
    rw [mSeq_ev, mSet_ev, a4, BS.R.toS_ok, RS.seq_nx]
    have e3 : (Ev.set ⟨[some (.obj c), some (.str lo), some (hiD hi), none, none, none, none, none], []⟩ 3 (.lst ((lowsOf R lo hi).map D.str))) = ⟨[some (.obj c), some (.str lo), some (hiD hi), some (.lst ((lowsOf R lo hi).map D.str)), none, none, none, none], []⟩ := rfl
    rw [e3, mSeq_ev]
    have s6 : mSet 6 (mLst true mNil) ⟨[some (.obj c), some (.str lo), some (hiD hi), some (.lst ((lowsOf R lo hi).map D.str)), none, none, none, none], []⟩ S3 = .nx ⟨[some (.obj c), some (.str lo), some (hiD hi), some (.lst ((lowsOf R lo hi).map D.str)), none, none, some (.obj S3.length), none], []⟩ (S3 ++ [.lst []]) := by
      generalize (lowsOf R lo hi).map D.str = ld
      generalize hiD hi = h
      simp (config := { implicitDefEqProofs := false })
    rw [s6, RS.seq_nx, mSeq_ev]
    have it := iRng1 (as := mCons (mBin fSub (mCall fnLen (mCons (mVar 3) mNil)) (mC (.int 1))) mNil) (e := ⟨[some (.obj c), some (.str lo), some (hiD hi), some (.lst ((lowsOf R lo hi).map D.str)), none, none, some (.obj S3.length), none], []⟩) (S := S3 ++ [.lst []]) (S' := S3 ++ [.lst []]) (j := ((lowsOf R lo hi).length : Int) - 1) (by
      have e : ((lowsOf R lo hi).map D.str).length = (lowsOf R lo hi).length := List.length_map ..
      generalize (lowsOf R lo hi).map D.str = ld at *
      generalize hiD hi = h
      simp (config := { implicitDefEqProofs := false }) [e]) (by unfold rngOk; omega)
    rw [mFor_ev, it, BS.R.toS_ok]
    have en : (((lowsOf R lo hi).length : Int) - 1).toNat = (lowsOf R lo hi).length - 1 := by omega
    rw [en]
    refine ends_seq (forL_ends (fun k e S' => ∃ x7, e = ⟨[some (.obj c), some (.str lo), some (hiD hi), some (.lst ((lowsOf R lo hi).map D.str)), none, none, some (.obj S3.length), x7], []⟩ ∧ S' = S3 ++ [.lst (((ivs (lowsOf R lo hi) false).take k).map ivD)]) ⟨none, rfl, rfl⟩ (fun _ _ _ _ => True.intro) ?_ ?_)
    · rintro k d e S' hd ⟨x7, rfl, rfl⟩
      obtain ⟨hk, rfl⟩ := ints_at hd
      rw [Int.zero_add]
      obtain ⟨p, hp⟩ : ∃ p, (lowsOf R lo hi)[k]? = some p := ⟨_, List.getElem?_eq_getElem (by omega)⟩
      obtain ⟨q, hq⟩ : ∃ q, (lowsOf R lo hi)[k + 1]? = some q := ⟨_, List.getElem?_eq_getElem (by omega)⟩
      have hpd : ((lowsOf R lo hi).map D.str)[k]? = some (.str p) := by rw [List.getElem?_map, hp]; rfl
      have hqd : atI ((lowsOf R lo hi).map D.str) ((k : Int) + 1) = some (.str q) := by
        have := atI_nat ((lowsOf R lo hi).map D.str) (k + 1)
        rw [Int.natCast_add] at this
        rw [show ((k : Int) + 1) = (k : Int) + ((1 : Nat) : Int) from rfl, this, List.getElem?_map, hq]; rfl
      have tk : (ivs (lowsOf R lo hi) false).take (k + 1) = (ivs (lowsOf R lo hi) false).take k ++ [(p, some q)] := by rw [List.take_succ, ivsF_at _ k p q hp hq]; rfl
      have e1 : ((ivs (lowsOf R lo hi) false).take (k + 1)).map ivD = ((ivs (lowsOf R lo hi) false).take k).map ivD ++ [.tup [.str p, .str q]] := by rw [tk, List.map_append]; rfl
      rw [e1]
      have ll : (((ivs (lowsOf R lo hi) false).take k).map ivD).length < sizeLine := by
        have := List.length_take_le k (ivs (lowsOf R lo hi) false)
        rw [List.length_map]
        have := sz
        omega
      generalize ((ivs (lowsOf R lo hi) false).take k).map ivD = rows at *
      have kL : (S3 ++ [O.lst rows])[S3.length]? = some (.lst rows) := by simp
      have set1 : (S3 ++ [O.lst rows]).set S3.length (.lst (rows ++ [D.tup [.str p, .str q]])) = S3 ++ [.lst (rows ++ [.tup [.str p, .str q]])] := set_mid S3 _ _ []
      rw [← set1]
      generalize S3 ++ [O.lst rows] = S4 at *
      generalize (lowsOf R lo hi).map D.str = ld at *
      generalize hiD hi = h at *
      simp (config := { implicitDefEqProofs := false }) [lb_intervals_0, hpd, hqd, kL, ll]
    · rintro e S' ⟨x7, rfl, rfl⟩
      rw [intsFrom_len, List.take_of_length_le (by rw [ivsF_len]; exact Nat.le_refl _)]
      have hr5 := hr4 ((ivs (lowsOf R lo hi) false).map ivD)
      have inn : ∀ S, inS S .non (.lst ((hisOf R hi).map hiD)) = some ((hisOf R hi).contains none) := fun S => by rw [inS_fl (n := 1) S .non (his_fl _), any_non]
      have ate : atI ((lowsOf R lo hi).map D.str) (-1) = some (D.str x) := by
        have := atI_lastE (lst.map D.str) (D.str x)
        rw [hps, List.map_append]
        exact this
      have ll : ((ivs (lowsOf R lo hi) false).map ivD).length < sizeLine := by
        rw [List.length_map, ivsF_len]
        have := sz
        omega
      have iv1 : (ivOf R lo hi).map ivD = (ivs (lowsOf R lo hi) false).map ivD ++ (if (hisOf R hi).contains none = true then [D.tup [.str x, .non]] else []) := by
        unfold ivOf
        cases hisOf R hi |>.contains none with
        | false => simp
        | true => rw [hps, ivs_true, List.map_append]; rfl
      rw [iv1]
      generalize (hisOf R hi).contains none = cn at *
      generalize (hisOf R hi).map hiD = hd at *
      generalize (ivs (lowsOf R lo hi) false).map ivD = rows at *
      generalize (lowsOf R lo hi).map D.str = ld at *
      generalize (R.map fun x => hiD x.hi) = hs at *
      generalize hiD hi = h at *
      have kL : (S3 ++ [O.lst rows] ++ [.lst hs])[S3.length]? = some (.lst rows) := by
        rw [List.append_assoc]; exact get_mid S3 _ _
      have set1 : (S3 ++ [O.lst rows] ++ [O.lst hs]).set S3.length (O.lst (rows ++ [D.tup [.str x, .non]])) = S3 ++ O.lst (rows ++ [D.tup [.str x, .non]]) :: [O.lst hs] := by
        rw [List.append_assoc]; exact set_mid S3 _ _ _
      have eS : S3 ++ [O.lst rows] ++ [.lst hs] = S3 ++ .lst rows :: [O.lst hs] := by rw [List.append_assoc]; rfl
      have goal0 : ∀ rows', ∃ B, S3 ++ O.lst rows' :: [O.lst hs] = S3 ++ O.lst rows' :: B := fun rows' => ⟨_, rfl⟩
      cases cn with
      | false =>
        have gf := goal0 (rows ++ [])
        rw [if_neg Bool.false_ne_true]
        rw [show S3 ++ O.lst (rows ++ []) :: [O.lst hs] = S3 ++ [O.lst rows] ++ [.lst hs] by simp] at gf
        generalize S3 ++ [O.lst rows] ++ [.lst hs] = S5 at *
        generalize S3 ++ [O.lst rows] = S4 at *
        rw [mSeq_ev]
        simp (config := { implicitDefEqProofs := false }) [hr5, inn]
        simpa using gf
      | true =>
        have gt := goal0 (rows ++ [D.tup [.str x, .non]])
        rw [if_pos rfl]
        rw [← set1] at gt
        generalize S3 ++ [O.lst rows] ++ [.lst hs] = S5 at *
        generalize S3 ++ [O.lst rows] = S4 at *
        rw [mSeq_ev]
        simp (config := { implicitDefEqProofs := false }) [hr5, inn, ate, kL, ll]
        exact gt
  obtain ⟨d, S', e1, rfl, B, rfl⟩ := gives_iff.mp key
  refine ⟨T3 ++ O.lst ((ivOf R lo hi).map ivD) :: B, T3.length, ?_, ?_⟩
  · rw [e1, hT3, List.length_append, List.append_assoc]
  · exact get_mid T3 _ B
theorem max_if (a b : Int) : max a b = if a < b then b else a := by
  rw [Int.max_def]
  split <;> split <;> omega
theorem eqh_run (S : Store) (h : Option Str) (p : Str) : eqS S (hiD h) (.str p) = some (decide (h = some p)) := by
  have := eqS_fl S (hiD_fl h) (hiD_fl (some p))
  rw [hiD_eq] at this
  exact this
theorem push_last : ∀ (R : List Cl) (c : Cl) (p : Str) (q : Option Str) (v : Int), push (R ++ [c]) p q v = if v = 0 then R ++ [c] else if c.hi = some p ∧ c.v = v then R ++ [⟨c.lo, q, v⟩] else R ++ [c] ++ [⟨p, q, v⟩]
  | [], c, p, q, v => rfl
  | [d], c, p, q, v => by
    show d :: push ([] ++ [c]) p q v = _
    rw [push_last [] c p q v]
    split
    · rfl
    · split <;> rfl
  | d :: e :: R, c, p, q, v => by
    show d :: push (e :: R ++ [c]) p q v = _
    rw [push_last (e :: R) c p q v]
    split
    · rfl
    · split <;> rfl
theorem push_len : ∀ (R : List Cl) (p : Str) (q : Option Str) (v : Int), (push R p q v).length ≤ R.length + 1 := fun R p q v => by
  rcases List.eq_nil_or_concat R with e | ⟨A, c, e⟩
  · rw [e]; unfold push; split <;> simp
  · rw [e, List.concat_eq_append, push_last]
    split
    · simp
    · split <;> simp
theorem fold_len : ∀ (l : List Cl) (R : List Cl), (l.foldl pushC R).length ≤ R.length + l.length
  | [], R => Nat.le_refl _
  | c :: l, R => by
    have h1 := fold_len l (pushC R c)
    have h2 : (pushC R c).length ≤ R.length + 1 := push_len _ _ _ _
    rw [List.foldl_cons, List.length_cons]
    omega
theorem ixN_last {α : Type} (xs : List α) (x : α) : ixN (xs ++ [x]).length (-1) = some xs.length := by
  unfold ixN
  rw [if_neg (by omega), if_pos (by simp; omega)]
  simp; omega
theorem set_last {α : Type} (xs : List α) (x y : α) : (xs ++ [x]).set xs.length y = xs ++ [y] := by
  rw [List.set_append, if_neg (by omega), Nat.sub_self]; rfl
theorem ivs_len : ∀ (ps : List Str) (z : Bool), (ivs ps z).length ≤ ps.length
  | [], _ => Nat.le_refl _
  | [p], z => by unfold ivs; cases z <;> simp
  | p :: q :: r, z => by
    have := ivs_len (q :: r) z
    show (ivs (q :: r) z).length + 1 ≤ (q :: r).length + 1
    omega
theorem iv_len (R : List Cl) (lo : Str) (hi : Option Str) : (ivOf R lo hi).length ≤ 2 * R.length + 2 := by
  have h1 := ivs_len (lowsOf R lo hi) ((hisOf R hi).contains none)
  have h2 := len_setSort (R.map (·.lo) ++ [lo] ++ (hisOf R hi).filterMap id)
  have h3 := lows_len R lo hi
  unfold ivOf lowsOf at *
  omega
theorem seq_mSeq (r : RS) (b c : SM) : r.seq (mSeq b c) = (r.seq b).seq c := by cases r <;> rfl
theorem push_zero (R : List Cl) (p : Str) (q : Option Str) : push R p q 0 = R := by
  rcases List.eq_nil_or_concat R with e | ⟨A, c, e⟩
  · rw [e]; rfl
  · rw [e, List.concat_eq_append, push_last, if_pos rfl]
/-- the object, with its cells -/
def EpAt (S : Store) (o : Nat) (R : List Cl) : Prop := ∃ c, S[o]? = some (.ins 4 [(0, .obj c)]) ∧ S[c]? = some (.lst (R.map clD))
theorem EpAt.ext {S : Store} {o : Nat} {R : List Cl} (h : EpAt S o R) (T : Store) : EpAt (S ++ T) o R := by
  obtain ⟨c, h1, h2⟩ := h
  exact ⟨c, at_ext h1 T, at_ext h2 T⟩
theorem raise_step {S T : Store} {o c : Nat} {R A : List Cl} (hc : S[c]? = some (.lst (R.map clD))) (ho : S[o]? = some (.ins 4 [(0, .obj c)])) (lo : Str) (hi : Option Str) (e : Int) (hA : A.length ≤ 100000) (i : Str × Option Str) (x5 x6 x7 : Option D) :
    ∃ y7, ((gTp 2 (gsCons (gNm 5) (gsCons (gNm 6) gsNil)) (ivD i) ⟨[some (.obj o), some (.str lo), some (hiD hi), some (.int e), some (.obj S.length), x5, x6, x7], []⟩ (S ++ .lst (A.map clD) :: T)).seq lb_Epochs_raise_to_0 = .nx ⟨[some (.obj o), some (.str lo), some (hiD hi), some (.int e), some (.obj S.length), some (.str i.1), some (hiD i.2), y7], []⟩ (S ++ .lst ((pushC A (vCl (rz (numAt R) lo hi e) i)).map clD) :: T))
    ∨ ((gTp 2 (gsCons (gNm 5) (gsCons (gNm 6) gsNil)) (ivD i) ⟨[some (.obj o), some (.str lo), some (hiD hi), some (.int e), some (.obj S.length), x5, x6, x7], []⟩ (S ++ .lst (A.map clD) :: T)).seq lb_Epochs_raise_to_0 = .ct ⟨[some (.obj o), some (.str lo), some (hiD hi), some (.int e), some (.obj S.length), some (.str i.1), some (hiD i.2), y7], []⟩ (S ++ .lst ((pushC A (vCl (rz (numAt R) lo hi e) i)).map clD) :: T)) := by
  obtain ⟨p, q⟩ := i
  have hc1 := at_ext hc (.lst (A.map clD) :: T)
  have ho1 := at_ext ho (.lst (A.map clD) :: T)
  have nr := number_run hc1 p
  have ct := cont_run lo p hi (S ++ .lst (A.map clD) :: T)
  have vv : rz (numAt R) lo hi e p = if inC lo hi p = true then (if numAt R p < e then e else numAt R p) else numAt R p := by unfold rz; rw [max_if]
  have pc : pushC A (vCl (rz (numAt R) lo hi e) (p, q)) = push A p q (rz (numAt R) lo hi e p) := rfl
  rw [pc]
  generalize hv : rz (numAt R) lo hi e p = v at *
  -- the number
  have num : ∀ y7, (mSeq (mSet 7 (mCall V_number_at (mCons (mFld [4] 0 (mVar 0)) (mCons (mVar 5) mNil)))) (mIfS (mBl (mCall V_contains (mCons (mVar 1) (mCons (mVar 2) (mCons (mVar 5) mNil))))) (mSet 7 (mCall fnMax2 (mCons (mVar 7) (mCons (mVar 3) mNil)))) mSkip)) ⟨[some (.obj o), some (.str lo), some (hiD hi), some (.int e), some (.obj S.length), some (.str p), some (hiD q), y7], []⟩ (S ++ .lst (A.map clD) :: T) = .nx ⟨[some (.obj o), some (.str lo), some (hiD hi), some (.int e), some (.obj S.length), some (.str p), some (hiD q), some (.int v)], []⟩ (S ++ .lst (A.map clD) :: T) := fun y7 => by
    clear hv
    subst vv
    generalize numAt R p = n at *
    generalize R.map clD = rd at *
    generalize A.map clD = ad at *
    generalize hiD hi = h at *
    generalize hiD q = h' at *
    generalize S ++ O.lst ad :: T = S1 at *
    cases hq : inC lo hi p with
    | true => rw [hq] at ct; simp (config := { implicitDefEqProofs := false }) [ho1, nr, ct]
    | false => rw [hq] at ct; simp (config := { implicitDefEqProofs := false }) [ho1, nr, ct]
  have g : gTp 2 (gsCons (gNm 5) (gsCons (gNm 6) gsNil)) (ivD (p, q)) ⟨[some (.obj o), some (.str lo), some (hiD hi), some (.int e), some (.obj S.length), x5, x6, x7], []⟩ (S ++ .lst (A.map clD) :: T) = .nx ⟨[some (.obj o), some (.str lo), some (hiD hi), some (.int e), some (.obj S.length), some (.str p), some (hiD q), x7], []⟩ (S ++ .lst (A.map clD) :: T) := by
    unfold ivD
    dsimp only
    generalize hiD q = h'
    generalize hiD hi = h
    generalize S ++ O.lst (A.map clD) :: T = S1
    simp (config := { implicitDefEqProofs := false }) [gsCons, gsNil]
  rw [g, RS.seq_nx]
  unfold lb_Epochs_raise_to_0
  rw [mSeq_ev, seq_mSeq, ← mSeq_ev, num, RS.seq_nx]
  refine ⟨some (.int v), ?_⟩
  clear num g nr ct vv hv pc hc1
  by_cases v0 : v = 0
  · subst v0
    rw [push_zero]
    right
    generalize hiD q = h' at *
    generalize hiD hi = h at *
    generalize S ++ O.lst (A.map clD) :: T = S1 at *
    simp (config := { implicitDefEqProofs := false })
  · left
    rcases List.eq_nil_or_concat A with eA | ⟨A', d, eA⟩
    · subst eA
      rw [show push [] p q v = [⟨p, q, v⟩] from by unfold push; rw [if_neg v0]]
      rw [List.map_nil, List.map_cons, List.map_nil]
      have kL := get_mid S (.lst []) T
      have sL := set_mid S (.lst []) (.lst [clD ⟨p, q, v⟩]) T
      rw [← sL]
      unfold clD
      have z := sz
      have z0 : 0 < sizeLine := by omega
      generalize hiD q = h' at *
      generalize hiD hi = h at *
      generalize S ++ O.lst [] :: T = S1 at *
      simp (config := { implicitDefEqProofs := false }) [v0, kL, z0]
    · rw [List.concat_eq_append] at eA
      subst eA
      rw [push_last, if_neg v0, List.map_append, List.map_cons, List.map_nil]
      have kL := get_mid S (.lst (A'.map clD ++ [clD d])) T
      have len : (A'.map clD ++ [clD d]).length = A'.length + 1 := by simp
      have lz : A'.length + 1 < sizeLine := by
        simp at hA
        have := sz
        omega
      have at1 := atI_lastE (A'.map clD) (clD d)
      have ix1 := ixN_last (A'.map clD) (clD d)
      rw [len, List.length_map] at ix1
      have eh := fun S => eqh_run S d.hi p
      have pos : (0 : Int) < (A'.length : Int) + 1 := by omega
      by_cases hm : d.hi = some p ∧ d.v = v
      · rw [if_pos hm, List.map_append, List.map_cons, List.map_nil]
        have st := set_last (A'.map clD) (clD d) (clD ⟨d.lo, q, v⟩)
        rw [List.length_map] at st
        have sL := set_mid S (.lst (A'.map clD ++ [clD d])) (.lst (A'.map clD ++ [clD ⟨d.lo, q, v⟩])) T
        rw [← sL, ← st]
        have e1 : eqS (S ++ O.lst (A'.map clD ++ [clD d]) :: T) (hiD d.hi) (.str p) = some true := by rw [eh, decide_eq_true hm.1]
        have e2 := hm.2
        unfold clD at *
        generalize hiD q = h' at *
        generalize hiD hi = h at *
        generalize hiD d.hi = h3 at *
        generalize A'.map (fun c => D.tup [.str c.lo, hiD c.hi, .int c.v]) = am at *
        generalize hAm : am ++ [D.tup [.str d.lo, h3, .int d.v]] = am2 at *
        generalize S ++ O.lst am2 :: T = S1 at *
        simp (config := { implicitDefEqProofs := false }) [v0, kL, len, at1, ix1, e1, e2, pos]
      · rw [if_neg hm, List.map_append, List.map_append, List.map_cons, List.map_nil, List.map_cons, List.map_nil]
        have sL := set_mid S (.lst (A'.map clD ++ [clD d])) (.lst (A'.map clD ++ [clD d] ++ [clD ⟨p, q, v⟩])) T
        rw [← sL]
        have e1 : eqS (S ++ O.lst (A'.map clD ++ [clD d]) :: T) (hiD d.hi) (.str p) = some (decide (d.hi = some p)) := eh _
        unfold clD at *
        generalize hiD q = h' at *
        generalize hiD hi = h at *
        by_cases h1 : d.hi = some p
        · have h2 : ¬ d.v = v := fun e => hm ⟨h1, e⟩
          rw [decide_eq_true h1] at e1
          generalize hiD d.hi = h3 at *
          generalize A'.map (fun c => D.tup [.str c.lo, hiD c.hi, .int c.v]) = am at *
          generalize hAm : am ++ [D.tup [.str d.lo, h3, .int d.v]] = am2 at *
          generalize S ++ O.lst am2 :: T = S1 at *
          simp (config := { implicitDefEqProofs := false }) [v0, kL, len, at1, ix1, e1, h2, pos, lz]
        · rw [decide_eq_false h1] at e1
          generalize hiD d.hi = h3 at *
          generalize A'.map (fun c => D.tup [.str c.lo, hiD c.hi, .int c.v]) = am at *
          generalize hAm : am ++ [D.tup [.str d.lo, h3, .int d.v]] = am2 at *
          generalize S ++ O.lst am2 :: T = S1 at *
          simp (config := { implicitDefEqProofs := false }) [v0, kL, len, at1, ix1, e1, pos, lz]
theorem raise_run {S : Store} {o : Nat} {R : List Cl} (h : EpAt S o R) (hl : R.length ≤ 400) (lo : Str) (hi : Option Str) (e : Int) :
    ∃ T, V_Epochs_raise_to [.obj o, .str lo, hiD hi, .int e] S = .ok .non (S.set o (.ins 4 [(0, .obj S.length)]) ++ .lst ((raiseC R lo hi e).map clD) :: T) := by
  obtain ⟨c, ho, hc⟩ := h
  have key : (V_Epochs_raise_to [.obj o, .str lo, hiD hi, .int e] S).gives fun d S' => d = .non ∧ ∃ T, S' = S.set o (.ins 4 [(0, .obj S.length)]) ++ .lst ((raiseC R lo hi e).map clD) :: T := by
    refine den_gives ?_
    show (m_Epochs_raise_to ⟨[some (.obj o), some (.str lo), some (hiD hi), some (.int e), none, none, none, none], []⟩ S).ends _ _
    unfold m_Epochs_raise_to
    have s4 : mSet 4 (mLst true mNil) ⟨[some (.obj o), some (.str lo), some (hiD hi), some (.int e), none, none, none, none], []⟩ S = .nx ⟨[some (.obj o), some (.str lo), some (hiD hi), some (.int e), some (.obj S.length), none, none, none], []⟩ (S ++ [.lst []]) := by
      generalize hiD hi = h
      simp (config := { implicitDefEqProofs := false })
    rw [mSeq_ev, s4, RS.seq_nx, mSeq_ev]
    obtain ⟨T, i, hi1, hT⟩ := intervals_run (at_ext hc [.lst []]) lo hi hl
    have ho1 := at_ext ho [.lst []]
    have lS : (S ++ [O.lst []]).length + i = S.length + (i + 1) := by simp; omega
    rw [lS] at hi1
    have gi : ∀ ds : List D, (S ++ O.lst ds :: T)[S.length + (i + 1)]? = some (.lst ((ivOf R lo hi).map ivD)) := fun ds => by
      rw [List.getElem?_append_right (by omega), show S.length + (i + 1) - S.length = i + 1 by omega, List.getElem?_cons_succ, hT]
    have gi0 := gi []
    have eS : S ++ [O.lst []] ++ T = S ++ .lst [] :: T := by rw [List.append_assoc]; rfl
    rw [eS] at hi1
    have it : iAny (mCall V_intervals (mCons (mFld [4] 0 (mVar 0)) (mCons (mVar 1) (mCons (mVar 2) mNil)))) ⟨[some (.obj o), some (.str lo), some (hiD hi), some (.int e), some (.obj S.length), none, none, none], []⟩ (S ++ [.lst []]) = .ok ⟨(ivOf R lo hi).map ivD, fun S' => S'[S.length + (i + 1)]? = some (.lst ((ivOf R lo hi).map ivD))⟩ (S ++ .lst [] :: T) := by
      generalize (ivOf R lo hi).map ivD = iv at *
      generalize hiD hi = h at *
      generalize S ++ O.lst [] :: T = S2 at *
      generalize S ++ [O.lst []] = S1 at *
      simp (config := { implicitDefEqProofs := false }) [ho1, hi1, wkA, gi0]
    rw [mFor_ev, it, BS.R.toS_ok]
    refine ends_seq (forL_ends (fun k e' S' => ∃ x5 x6 x7, e' = ⟨[some (.obj o), some (.str lo), some (hiD hi), some (.int e), some (.obj S.length), x5, x6, x7], []⟩ ∧ S' = S ++ .lst (((((ivOf R lo hi).take k).map (vCl (rz (numAt R) lo hi e))).foldl pushC []).map clD) :: T) ⟨none, none, none, rfl, rfl⟩ (fun k e S' h => by obtain ⟨_, _, _, _, rfl⟩ := h; exact gi _) ?_ ?_)
    · rintro k d e' S' hd ⟨x5, x6, x7, rfl, rfl⟩
      rw [List.getElem?_map, Option.map_eq_some_iff] at hd
      obtain ⟨y, hy, rfl⟩ := hd
      have tk : (ivOf R lo hi).take (k + 1) = (ivOf R lo hi).take k ++ [y] := by rw [List.take_succ, hy]; rfl
      rw [tk, List.map_append, List.foldl_append, List.map_cons, List.map_nil, List.foldl_cons, List.foldl_nil]
      have ln : ((((ivOf R lo hi).take k).map (vCl (rz (numAt R) lo hi e))).foldl pushC []).length ≤ 100000 := by
        have h1 := fold_len (((ivOf R lo hi).take k).map (vCl (rz (numAt R) lo hi e))) []
        have h2 := List.length_take_le' k (ivOf R lo hi)
        have h3 := iv_len R lo hi
        simp only [List.length_map, List.length_nil] at h1
        omega
      obtain ⟨y7, h | h⟩ := raise_step (T := T) hc ho lo hi e ln y x5 x6 x7
      · rw [h, turns_nx]; exact ⟨_, _, _, rfl, rfl⟩
      · rw [h, turns_ct]; exact ⟨_, _, _, rfl, rfl⟩
    · rintro e' S' ⟨x5, x6, x7, rfl, rfl⟩
      rw [List.length_map, List.take_length]
      rw [show (((ivOf R lo hi).map (vCl (rz (numAt R) lo hi e))).foldl pushC []) = raiseC R lo hi e from rfl]
      have ho2 := at_ext ho (.lst ((raiseC R lo hi e).map clD) :: T)
      have lo2 := (List.getElem?_eq_some_iff.mp ho).1
      have es : (S ++ O.lst ((raiseC R lo hi e).map clD) :: T).set o (.ins 4 [(0, .obj S.length)]) = S.set o (.ins 4 [(0, .obj S.length)]) ++ .lst ((raiseC R lo hi e).map clD) :: T := by
        rw [List.set_append, if_pos lo2]
      have go : ∃ T', (S ++ O.lst ((raiseC R lo hi e).map clD) :: T).set o (.ins 4 [(0, .obj S.length)]) = S.set o (.ins 4 [(0, .obj S.length)]) ++ .lst ((raiseC R lo hi e).map clD) :: T' := ⟨T, es⟩
      generalize S.set o (.ins 4 [(0, .obj S.length)]) = S9 at *
      generalize (raiseC R lo hi e).map clD = rc at *
      generalize hiD hi = h at *
      generalize S ++ O.lst rc :: T = S3 at *
      simp (config := { implicitDefEqProofs := false }) [ho2]
      exact go
  obtain ⟨d, S', e1, rfl, T, rfl⟩ := gives_iff.mp key
  exact ⟨T, e1⟩
theorem raise_at {S : Store} {o : Nat} {R : List Cl} (h : EpAt S o R) (hl : R.length ≤ 400) (lo : Str) (hi : Option Str) (e : Int) (T : Store) : EpAt (S.set o (.ins 4 [(0, .obj S.length)]) ++ .lst ((raiseC R lo hi e).map clD) :: T) o (raiseC R lo hi e) := by
  obtain ⟨c, ho, hc⟩ := h
  have lo2 := (List.getElem?_eq_some_iff.mp ho).1
  refine ⟨S.length, ?_, ?_⟩
  · rw [List.getElem?_append_left (by simpa using lo2), List.getElem?_set_self lo2]
  · have := get_mid (S.set o (.ins 4 [(0, .obj S.length)])) (.lst ((raiseC R lo hi e).map clD)) T
    rwa [List.length_set] at this
def ovC (lo : Str) (hi : Option Str) (c : Cl) : Bool := below lo c.hi && below c.lo hi
/-- the greatest of a list -/
def IsMax (m : Int) (l : List Int) : Prop := m ∈ l ∧ ∀ x ∈ l, x ≤ m
theorem isMax_one {a b : Int} {l : List Int} (h1 : IsMax a l) (h2 : IsMax b l) : a = b := by
  have := h1.2 b h2.1
  have := h2.2 a h1.1
  omega
theorem overlap_run (l1 l2 : Str) (h1 h2 : Option Str) (S : Store) : V_overlap [.str l1, hiD h1, .str l2, hiD h2] S = .ok (.bl (below l1 h2 && below l2 h1)) S := by
  have b1 := belowE l1 h2 S
  have b2 := belowE l2 h1 S
  generalize hiD h1 = d1 at *
  generalize hiD h2 = d2 at *
  cases q : below l1 h2 <;> rw [q] at b1 <;> simp (config := { implicitDefEqProofs := false }) [V_overlap, m_overlap, b1, b2]
def hiO : D → Option Str
  | .str x => some x
  | _ => none
def clO : D → Cl
  | .tup [.str l, h, .int v] => ⟨l, hiO h, v⟩
  | _ => ⟨Str.ofString "", none, 0⟩
theorem hiO_hiD (h : Option Str) : hiO (hiD h) = h := by cases h <;> rfl
theorem clO_clD (c : Cl) : clO (clD c) = c := by
  unfold clD clO
  dsimp only
  rw [hiO_hiD]
theorem intsOf_map' : ∀ zs : List Int, BS.intsOf (zs.map D.int) = some zs
  | [] => rfl
  | z :: zs => by
    rw [List.map_cons]
    show (BS.intsOf (zs.map D.int)).map (z :: ·) = _
    rw [intsOf_map' zs]; rfl
theorem rows_run {S : Store} {o : Nat} {R : List Cl} (h : EpAt S o R) (hl : R.length ≤ 100000) : V_Epochs_rows [.obj o] S = .ok (.obj S.length) (S ++ [.lst (R.map clD)]) := by
  obtain ⟨c, ho, hc⟩ := h
  generalize R.map clD = rd at *
  simp (config := { implicitDefEqProofs := false }) [V_Epochs_rows, m_Epochs_rows, ho, hc]
theorem init_run (S : Store) : mNew 4 V_Epochs___init__ mNil ⟨[], []⟩ S = .ok (.obj S.length) (S ++ [.ins 4 [(0, .obj (S.length + 1))], .lst []]) := by
  simp (config := { implicitDefEqProofs := false }) [V_Epochs___init__, m_Epochs___init__]
theorem great_run {S : Store} {o : Nat} {R : List Cl} (h : EpAt S o R) (hl : R.length ≤ 100000) (lo : Str) (hi : Option Str) : ∃ m T, V_Epochs_greatest [.obj o, .str lo, hiD hi] S = .ok (.int m) (S ++ T) ∧ IsMax m (0 :: (R.filter (ovC lo hi)).map (·.v)) := by
  obtain ⟨c, ho, hc⟩ := h
  have lc := lcL_pure (G := fun S => S[c]? = some (.lst (R.map clD))) (t := LT.one 3) (e0 := ⟨[some (.obj o), some (.str lo), some (hiD hi), none], []⟩) (tt := mBl (mCall V_overlap (mCons (mVar 1) (mCons (mVar 2) (mCons (mIx (mVar 3) (mC (.int 0))) (mCons (mIx (mVar 3) (mC (.int 1))) mNil)))))) (el := mIx (mVar 3) (mC (.int 2))) S (fun d => ovC lo hi (clO d)) (fun d => .int (clO d).v) (R.map clD) (fun acc => at_ext hc _) (fun d hd => by
    obtain ⟨x, _, rfl⟩ := List.mem_map.mp hd
    refine ⟨[clD x], rfl, fun acc => ?_⟩
    have ov := overlap_run lo x.lo hi x.hi (S ++ [.lst acc])
    rw [clO_clD]
    unfold clD
    unfold ovC
    generalize hiD x.hi = h2 at *
    generalize hiD hi = h1 at *
    generalize (below lo x.hi && below x.lo hi) = bb at *
    exact ⟨by simp (config := { implicitDefEqProofs := false }) [ov], fun _ => by simp (config := { implicitDefEqProofs := false })⟩) [] (by
      simp only [List.length_map, List.length_nil]
      exact szL (by omega))
  rw [List.nil_append, List.filter_map, List.map_map] at lc
  have e1 : (R.filter ((fun d => ovC lo hi (clO d)) ∘ clD)).map ((fun d => D.int (clO d).v) ∘ clD) = ((R.filter (ovC lo hi)).map (·.v)).map D.int := by
    rw [List.map_map]
    have f1 : ((fun d => ovC lo hi (clO d)) ∘ clD) = ovC lo hi := by funext x; simp only [Function.comp, clO_clD]
    have f2 : ((fun d => D.int (clO d).v) ∘ clD) = D.int ∘ (·.v) := by funext x; simp only [Function.comp, clO_clD]
    rw [f1, f2]
  rw [e1] at lc
  have ll : 1 + (((R.filter (ovC lo hi)).map (·.v)).map D.int).length ≤ sizeLine := by
    have := List.length_filter_le (ovC lo hi) R
    simp only [List.length_map]
    have := sz
    omega
  have mx := maxI_ok (ns := 0 :: (R.filter (ovC lo hi)).map (·.v)) (by simp)
  have io := intsOf_map' (0 :: (R.filter (ovC lo hi)).map (·.v))
  rw [List.map_cons] at io
  generalize (R.filter (ovC lo hi)).map (·.v) = vs at *
  refine ⟨maxI (0 :: vs), [.lst (vs.map D.int)], ?_, mx⟩
  have g1 : (S ++ [O.lst (vs.map D.int)])[S.length]? = some (.lst (vs.map D.int)) := by simp
  have cl : catS false (S ++ [O.lst (vs.map D.int)]) (.lst [.int 0]) (.obj S.length) = .ok (.lst (D.int 0 :: vs.map D.int)) (S ++ [O.lst (vs.map D.int)]) := by
    simp only [catS, lvOf_lst, lvOf_obj, g1]
    rw [if_pos (by simpa using ll)]; rfl
  generalize vs.map D.int = vd at *
  generalize R.map clD = rd at *
  generalize hiD hi = h1 at *
  generalize hS1 : S ++ [O.lst vd] = S1 at *
  simp (config := { implicitDefEqProofs := false }) [V_Epochs_greatest, m_Epochs_greatest, ho, hc, wkA, lc, cl, io, hS1]
def lrun (bs : List Str) (ns : List Int) : List Cl := (List.range bs.length).map fun i => ⟨bs.getD i (Str.ofString ""), bs[i + 1]?, ns.getD i 0⟩
theorem lrun_len (bs : List Str) (ns : List Int) : (lrun bs ns).length = bs.length := by unfold lrun; rw [List.length_map, List.length_range]
theorem lrun_at? {bs : List Str} {ns : List Int} {j : Nat} (h : j < bs.length) : (lrun bs ns)[j]? = some ⟨bs.getD j (Str.ofString ""), bs[j + 1]?, ns.getD j 0⟩ := by
  unfold lrun
  rw [List.getElem?_map, List.getElem?_range h]; rfl
theorem getD_at {bs : List Str} {j : Nat} (h : j < bs.length) : bs[j]? = some (bs.getD j (Str.ofString "")) := by
  rw [List.getD_eq_getElem?_getD, List.getElem?_eq_getElem h]; rfl
theorem lrun_run {bs : List Str} (ns : List Int) (ha : Asc bs) : Run (lrun bs ns) := by
  refine run_idx _ (fun c hc => ?_) fun i c d h1 h2 => ?_
  · obtain ⟨j, hj, rfl⟩ := List.mem_map.mp hc
    have hj' := List.mem_range.mp hj
    refine inC_of (ltS_irrefl _) fun x hx => ?_
    rw [asc_at ha (getD_at hj') hx]
    exact decide_eq_true (Nat.lt_succ_self j)
  · have l2 : i + 1 < bs.length := by
      have := (List.getElem?_eq_some_iff.mp h2).1
      rwa [lrun_len] at this
    rw [lrun_at? (by omega)] at h1
    rw [lrun_at? l2] at h2
    cases h1
    cases h2
    exact getD_at l2
/-- where a text stands among the bounds -/
def At (bs : List Str) (k : Str) (j : Nat) : Prop := j < bs.length ∧ ∀ (s : Nat) (x : Str), bs[s]? = some x → ltS k x = decide (j < s)
theorem lrun_num {bs : List Str} (ns : List Int) (ha : Asc bs) {k : Str} {j : Nat} (h : At bs k j) : numAt (lrun bs ns) k = ns.getD j 0 := by
  refine num_mem _ (lrun_run ns ha) _ (List.mem_of_getElem? (lrun_at? h.1)) k ?_
  refine inC_of ?_ fun x hx => ?_
  · rw [h.2 j _ (getD_at h.1)]
    exact decide_eq_false (Nat.lt_irrefl j)
  · rw [h.2 (j + 1) x hx]
    exact decide_eq_true (Nat.lt_succ_self j)
theorem at_self {bs : List Str} (ha : Asc bs) {j : Nat} (h : j < bs.length) : At bs (bs.getD j (Str.ofString "")) j := ⟨h, fun s x hx => asc_at ha (getD_at h) hx⟩
theorem at_inC {bs : List Str} {k : Str} {j s t : Nat} (h : At bs k j) (hs : s < bs.length) (ht : t ≤ bs.length) : inC (bs.getD s (Str.ofString "")) bs[t]? k = (decide (s ≤ j) && decide (j < t)) := by
  have h1 := h.2 s _ (getD_at hs)
  unfold inC
  rw [h1]
  have e1 : (!decide (j < s)) = decide (s ≤ j) := by
    by_cases y : j < s
    · rw [decide_eq_true y, decide_eq_false (by omega)]; rfl
    · rw [decide_eq_false y, decide_eq_true (by omega)]; rfl
  rw [e1]
  congr 1
  cases q : bs[t]? with
  | none =>
    have : bs.length ≤ t := List.getElem?_eq_none_iff.mp q
    have := h.1
    exact (decide_eq_true (by omega)).symm
  | some x => exact h.2 t x q
/-- raised from s up to t -/
def nsUp (ns : List Int) (s t : Nat) (e : Int) : List Int := (List.range ns.length).map fun i => if s ≤ i ∧ i < t then max (ns.getD i 0) e else ns.getD i 0
theorem nsUp_len (ns : List Int) (s t : Nat) (e : Int) : (nsUp ns s t e).length = ns.length := by unfold nsUp; rw [List.length_map, List.length_range]
theorem nsUp_at {ns : List Int} {s t i : Nat} {e : Int} (h : i < ns.length) : (nsUp ns s t e).getD i 0 = if s ≤ i ∧ i < t then max (ns.getD i 0) e else ns.getD i 0 := by
  unfold nsUp
  rw [List.getD_eq_getElem?_getD, List.getElem?_map, List.getElem?_range h]
  rfl
def lcells (bs : List Str) (ns : List Int) : List Cl := (lrun bs ns).foldl pushC []
theorem up_one {bs : List Str} {ns : List Int} {p : Str} {r : List Str} (hb : bs = p :: r) (hp : p = Str.ofString "") (ha : Asc bs) (hn : ns.length = bs.length) {s t : Nat} (e : Int) (hs : s < bs.length) (ht : t ≤ bs.length) :
    raiseC (lcells bs ns) (bs.getD s (Str.ofString "")) bs[t]? e = lcells bs (nsUp ns s t e) := by
  obtain ⟨c1, c2⟩ := fold_run (lrun_run ns ha)
  obtain ⟨d1, d2⟩ := fold_run (lrun_run (nsUp ns s t e) ha)
  obtain ⟨e1, e2⟩ := raise_ok (R := lcells bs ns) (lo := bs.getD s (Str.ofString "")) (hi := bs[t]?) e
  refine canon_one _ _ e1 d1 fun k => ?_
  have k0 : ltS k p = false := by
    rw [hp]
    by_cases z : k = Str.ofString ""
    · rw [z]; exact ltS_irrefl _
    · exact ltS_asymm (ltS_emp z)
  obtain ⟨j, hj⟩ : ∃ j, At bs k j := by
    subst hb
    exact loc r p ha k k0
  refine (e2 k).trans (Eq.trans ?_ (d2 k).symm)
  rw [lrun_num _ ha hj, nsUp_at (by rw [hn]; exact hj.1)]
  unfold rz
  rw [at_inC hj hs ht]
  unfold lcells
  rw [c2 k, lrun_num _ ha hj]
  by_cases y : s ≤ j ∧ j < t
  · rw [if_pos y, decide_eq_true y.1, decide_eq_true y.2]; rfl
  · rw [if_neg y, if_neg]
    rw [Bool.and_eq_true, decide_eq_true_eq, decide_eq_true_eq]
    exact y
theorem ov_iff {lo : Str} {hi : Option Str} {c : Cl} (h1 : inC lo hi lo = true) (h2 : inC c.lo c.hi c.lo = true) (h : ovC lo hi c = true) : ∃ k, inC lo hi k = true ∧ inC c.lo c.hi k = true := by
  unfold ovC at h
  rw [Bool.and_eq_true] at h
  obtain ⟨b1, b2⟩ := h
  cases q : ltS lo c.lo with
  | true =>
    refine ⟨c.lo, inC_of (ltS_asymm q) fun x hx => ?_, h2⟩
    rw [hx] at b2; exact b2
  | false =>
    refine ⟨lo, h1, inC_of q fun x hx => ?_⟩
    rw [hx] at b1; exact b1
theorem ov_of {lo : Str} {hi : Option Str} {c : Cl} {k : Str} (h1 : inC lo hi k = true) (h2 : inC c.lo c.hi k = true) : ovC lo hi c = true := by
  unfold ovC
  rw [Bool.and_eq_true]
  constructor
  · cases q : c.hi with
    | none => rfl
    | some x =>
      rw [q] at h2
      exact le_lt (inC_lo h1) (inC_hi h2)
  · cases q : hi with
    | none => rfl
    | some x =>
      rw [q] at h1
      exact le_lt (inC_lo h2) (inC_hi h1)
theorem great_one {bs : List Str} {ns : List Int} (ha : Asc bs) (hn : ns.length = bs.length) (hp : ∀ n ∈ ns, 0 ≤ n) {p : Str} {r : List Str} (hb : bs = p :: r) (h0 : p = Str.ofString "") {s t : Nat} (hs : s < t) (ht : t ≤ bs.length) {m m' : Int}
    (h1 : IsMax m (0 :: ((lcells bs ns).filter (ovC (bs.getD s (Str.ofString "")) bs[t]?)).map (·.v))) (h2 : IsMax m' ((ns.take t).drop s)) : m = m' := by
  obtain ⟨c1, c2⟩ := fold_run (lrun_run ns ha)
  have hsb : s < bs.length := by omega
  have inS : ∀ i, s ≤ i → i < t → ns.getD i 0 ∈ (ns.take t).drop s := fun i a b => by
    refine List.mem_of_getElem? (i := i - s) ?_
    rw [List.getElem?_drop, show s + (i - s) = i by omega, List.getElem?_take, if_pos b, List.getD_eq_getElem?_getD, List.getElem?_eq_getElem (by omega)]
    rfl
  have ofS : ∀ x ∈ (ns.take t).drop s, ∃ i, s ≤ i ∧ i < t ∧ x = ns.getD i 0 := fun x hx => by
    obtain ⟨i, hi⟩ := List.mem_iff_getElem?.mp hx
    rw [List.getElem?_drop, List.getElem?_take] at hi
    split at hi
    · rename_i q
      exact ⟨s + i, by omega, q, by rw [List.getD_eq_getElem?_getD, hi]; rfl⟩
    · cases hi
  have nn : ∀ i, i < ns.length → 0 ≤ ns.getD i 0 := fun i hi => hp _ (by
    rw [List.getD_eq_getElem?_getD, List.getElem?_eq_getElem hi]; exact List.getElem_mem hi)
  have lohi : inC (bs.getD s (Str.ofString "")) bs[t]? (bs.getD s (Str.ofString "")) = true := by
    rw [at_inC (at_self ha hsb) hsb ht, decide_eq_true (Nat.le_refl s), decide_eq_true hs]; rfl
  have le1 : m ≤ m' := by
    rcases List.mem_cons.mp h1.1 with e | e
    · rw [e]
      obtain ⟨i, _, i2, e⟩ := ofS m' h2.1
      rw [e]
      exact nn i (by omega)
    · obtain ⟨c, hc, e⟩ := List.mem_map.mp e
      obtain ⟨hc, ho⟩ := List.mem_filter.mp hc
      have hi : inC c.lo c.hi c.lo = true := by
        have gen : ∀ (l : List Cl), Run l → ∀ c ∈ l, inC c.lo c.hi c.lo = true := by
          intro l
          induction l with
          | nil => intro _ c hc; cases hc
          | cons d l ih =>
            intro h c hc
            rcases List.mem_cons.mp hc with z | z
            · rw [z]; exact h.head
            · exact ih h.tail c z
        exact gen _ c1.run c hc
      obtain ⟨k, k1, k2⟩ := ov_iff lohi hi ho
      have nk := num_mem _ c1.run c hc k k2
      have k0 : ltS k p = false := by
        rw [h0]
        by_cases z : k = Str.ofString ""
        · rw [z]; exact ltS_irrefl _
        · exact ltS_asymm (ltS_emp z)
      obtain ⟨j, hj⟩ : ∃ j, At bs k j := by
        subst hb
        exact loc r p ha k k0
      rw [at_inC hj hsb ht, Bool.and_eq_true, decide_eq_true_eq, decide_eq_true_eq] at k1
      have nj := (c2 k).symm.trans nk
      rw [lrun_num _ ha hj] at nj
      rw [← e, ← nj]
      exact h2.2 _ (inS j k1.1 k1.2)
  have le2 : m' ≤ m := by
    obtain ⟨i, i1, i2, e⟩ := ofS m' h2.1
    by_cases z : ns.getD i 0 = 0
    · rw [e, z]
      exact h1.2 0 List.mem_cons_self
    · have hi := at_self ha (j := i) (by omega)
      have nk := (c2 _).trans (lrun_num ns ha hi)
      obtain ⟨c, hc, k1, k2⟩ := num_ex _ _ (by rw [nk]; exact z)
      rw [nk] at k2
      have k3 := at_inC hi hsb ht
      rw [decide_eq_true i1, decide_eq_true i2] at k3
      rw [e, ← k2]
      exact h1.2 _ (List.mem_cons_of_mem _ (List.mem_map.mpr ⟨c, List.mem_filter.mpr ⟨hc, ov_of k3 k1⟩, rfl⟩))
  omega
end L_k32
namespace L_k32
open PySem PySem.Spec PyProof.Rows L2 BS
theorem acell_ok (ns : List Int) (k : Nat) : ∃ v : Int, 0 ≤ v ∧ ∀ S, V__law_cell [.scr (ns.map .int), .int k] S = .ok (.int v) S := by
  by_cases h : k < ns.length
  · have h1 : (k : Int) < ns.length := by omega
    by_cases hn : ns[k] < 0
    · exact ⟨-ns[k], by omega, fun S => by simp [V__law_cell, m__law_cell, h, h1, List.getElem?_eq_getElem h, hn]⟩
    · exact ⟨ns[k], by omega, fun S => by simp [V__law_cell, m__law_cell, h, h1, List.getElem?_eq_getElem h, hn]⟩
  · have h1 : ¬ (k : Int) < ns.length := by omega
    exact ⟨0, by omega, fun S => by simp [V__law_cell, m__law_cell, h, h1, List.getElem?_eq_none (Nat.le_of_not_lt h)]⟩
theorem cutD_ints (ns : List Int) (lo hi : Option Int) : ∃ cs : List Int, BS.cutD (ns.map D.int) lo hi = cs.map D.int ∧ cs.length ≤ ns.length := by
  unfold BS.cutD
  rw [← List.map_drop, ← List.map_take]
  exact ⟨_, rfl, by simp; omega⟩
theorem draws_inner (S : Store) (x0 x1 x2 x4 x6 : Option D) : ∀ (n : Nat) (lo : Int) (v : Int) (x7 : Option D) (acc : List Int), (∀ d ∈ acc, 0 ≤ d) → acc.length + n ≤ 100000 → ∃ (v' : Int) (x7' : Option D) (acc' : List Int), (∀ d ∈ acc', 0 ≤ d) ∧ acc'.length ≤ acc.length + n ∧
    forL (fun _ => True) (gNm 7) lb__law_draws_0 (BS.intsFrom lo n) ⟨[x0, x1, x2, some (.obj S.length), x4, some (.int v), x6, x7], []⟩ (S ++ [.lst (acc.map .int)]) = .nx ⟨[x0, x1, x2, some (.obj S.length), x4, some (.int v'), x6, x7'], []⟩ (S ++ [.lst (acc'.map .int)])
  | 0, lo, v, x7, acc, ha, hl => ⟨v, x7, acc, ha, by omega, by rw [BS.intsFrom, forL_nil]⟩
  | n + 1, lo, v, x7, acc, ha, hl => by
    have kL : (S ++ [O.lst (acc.map D.int)])[S.length]? = some (.lst (acc.map .int)) := by simp
    have lz : (acc.map D.int).length < sizeLine := by rw [List.length_map]; have := sz; omega
    obtain ⟨acc1, h1, h2, st⟩ : ∃ acc1 : List Int, (∀ d ∈ acc1, 0 ≤ d) ∧ acc1.length ≤ acc.length + 1 ∧ (gNm 7 (.int lo) ⟨[x0, x1, x2, some (.obj S.length), x4, some (.int v), x6, x7], []⟩ (S ++ [.lst (acc.map .int)])).seq lb__law_draws_0 = .nx ⟨[x0, x1, x2, some (.obj S.length), x4, some (.int (v / 1000000)), x6, some (.int lo)], []⟩ (S ++ [.lst (acc1.map .int)]) := by
      by_cases h : 0 < v
      · refine ⟨acc ++ [v % 1000000], fun d hd => ?_, by simp, ?_⟩
        · rcases List.mem_append.mp hd with z | z
          · exact ha d z
          · rw [List.mem_singleton.mp z]; omega
        · have set1 : (S ++ [O.lst (acc.map D.int)]).set S.length (.lst (acc.map D.int ++ [.int (v % 1000000)])) = S ++ [.lst ((acc ++ [v % 1000000]).map .int)] := by
            rw [List.set_append, if_neg (by omega), Nat.sub_self, List.map_append]; rfl
          rw [← set1]
          generalize acc.map D.int = ad at *
          generalize S ++ [O.lst ad] = S1 at *
          simp (config := { implicitDefEqProofs := false }) [lb__law_draws_0, h, kL, lz]
      · refine ⟨acc, ha, by omega, ?_⟩
        generalize acc.map D.int = ad at *
        generalize S ++ [O.lst ad] = S1 at *
        simp (config := { implicitDefEqProofs := false }) [lb__law_draws_0, h, kL, lz]
    obtain ⟨v', x7', acc', h3, h4, q⟩ := draws_inner S x0 x1 x2 x4 x6 n (lo + 1) (v / 1000000) (some (.int lo)) acc1 h1 (by omega)
    refine ⟨v', x7', acc', h3, by omega, ?_⟩
    rw [BS.intsFrom, forL_cons, st, RS.loop_nx]
    exact q
theorem draws_step (S : Store) (x0 x1 x2 : Option D) (c : Int) (x4 x5 x6 x7 : Option D) (acc : List Int) (ha : ∀ d ∈ acc, 0 ≤ d) (hl : acc.length ≤ 10000) : ∃ (y5 y6 y7 : Option D) (acc' : List Int), (∀ d ∈ acc', 0 ≤ d) ∧ acc'.length ≤ acc.length + 24 ∧
    (gNm 4 (.int c) ⟨[x0, x1, x2, some (.obj S.length), x4, x5, x6, x7], []⟩ (S ++ [.lst (acc.map .int)])).seq lb__law_draws_1 = .nx ⟨[x0, x1, x2, some (.obj S.length), some (.int c), y5, y6, y7], []⟩ (S ++ [.lst (acc'.map .int)]) := by
  obtain ⟨v, hv, v0⟩ : ∃ v : Int, (if c < 0 then -c else c) = v ∧ 0 ≤ v := by
    by_cases h : c < 0
    · exact ⟨-c, if_pos h, by omega⟩
    · exact ⟨c, if_neg h, by omega⟩
  have kL : ∀ ad : List D, (S ++ [O.lst ad])[S.length]? = some (.lst ad) := fun ad => by simp
  have set1 : ∀ a b : List D, (S ++ [O.lst a]).set S.length (.lst b) = S ++ [.lst b] := fun a b => by
    rw [List.set_append, if_neg (by omega), Nat.sub_self]; rfl
  by_cases h : v < 1000000000000000000
  · generalize hm : (v * 39373 + 23) % 2147483647 = m
    refine ⟨some (.int v), some (.int m), x7, acc ++ [v] ++ [(m * 16807 + v / 6 + 3) % 2147483399 / 3] ++ [(m * 69621 + v / 11 + 8) % 2147483629 / 7], fun d hd => ?_, by simp, ?_⟩
    · simp only [List.mem_append, List.mem_singleton] at hd
      rcases hd with ((z | z) | z) | z
      · exact ha d z
      · rw [z]; exact v0
      · rw [z]; omega
      · rw [z]; omega
    · have lz : (acc.map D.int).length + 3 < sizeLine := by rw [List.length_map]; have := sz; omega
      have l1 : (acc.map D.int).length < sizeLine := by omega
      have l2 : (acc.map D.int).length + 1 < sizeLine := by omega
      have l3 : (acc.map D.int).length + 1 + 1 < sizeLine := by omega
      rw [List.map_append, List.map_append, List.map_append]
      generalize acc.map D.int = ad at *
      simp (config := { implicitDefEqProofs := false }) [lb__law_draws_1, hv, h, hm, kL, l1, l2, l3, set1]
  · obtain ⟨v', x7', acc', h3, h4, q⟩ := draws_inner S x0 x1 x2 (some (.int c)) x6 24 0 v x7 acc ha (by omega)
    refine ⟨some (.int v'), x6, x7', acc', h3, h4, ?_⟩
    rw [← q]
    have r24 : rngOk 24 := by decide
    generalize acc.map D.int = ad at *
    generalize S ++ [O.lst ad] = S1 at *
    simp (config := { implicitDefEqProofs := false }) [lb__law_draws_1, hv, h, r24]
theorem draws_ok (ns : List Int) (hn : ns.length ≤ 63) (a : Int) (m : Nat) (S : Store) : ∃ (L : List Int) (T : Store), V__law_draws [.scr (ns.map .int), .int a, .int m] S = .ok (.lst (L.map .int)) (S ++ T) ∧ (∀ d ∈ L, 0 ≤ d) ∧ L.length ≤ m := by
  obtain ⟨cs, hcs, cl⟩ := cutD_ints ns (some a) none
  have key : (V__law_draws [.scr (ns.map .int), .int a, .int m] S).gives fun d S' => ∃ (L : List Int) (T : Store), d = .lst (L.map .int) ∧ S' = S ++ T ∧ (∀ d ∈ L, 0 ≤ d) ∧ L.length ≤ m := by
    refine den_gives ?_
    show (m__law_draws ⟨[some (.scr (ns.map .int)), some (.int a), some (.int m), none, none, none, none, none], []⟩ S).ends _ _
    unfold m__law_draws
    have s3 : mSet 3 (mLst true mNil) ⟨[some (.scr (ns.map .int)), some (.int a), some (.int m), none, none, none, none, none], []⟩ S = .nx ⟨[some (.scr (ns.map .int)), some (.int a), some (.int m), some (.obj S.length), none, none, none, none], []⟩ (S ++ [.lst []]) := by
      generalize ns.map D.int = nd
      simp (config := { implicitDefEqProofs := false })
    rw [mSeq_ev, s3, RS.seq_nx, mSeq_ev]
    have it : iAny (mSl false (mVar 0) (oAt (mVar 1)) oNo) ⟨[some (.scr (ns.map .int)), some (.int a), some (.int m), some (.obj S.length), none, none, none, none], []⟩ (S ++ [.lst []]) = .ok ⟨cs.map D.int, fun _ => True⟩ (S ++ [.lst []]) := by
      have : ∀ S, slS false S (.scr (ns.map D.int)) (some a) none = .ok (.lst (cs.map D.int)) S := fun S => by
        rw [← hcs]; rfl
      generalize ns.map D.int = nd at *
      simp (config := { implicitDefEqProofs := false }) [this, wkA]
    rw [mFor_ev, it, BS.R.toS_ok]
    refine ends_seq (forL_ends (fun k e S' => ∃ (x4 x5 x6 x7 : Option D) (acc : List Int), e = ⟨[some (.scr (ns.map .int)), some (.int a), some (.int m), some (.obj S.length), x4, x5, x6, x7], []⟩ ∧ S' = S ++ [.lst (acc.map .int)] ∧ (∀ d ∈ acc, 0 ≤ d) ∧ acc.length ≤ 24 * k) ⟨none, none, none, none, [], rfl, rfl, fun d h => (nomatch h), by simp⟩ (fun _ _ _ _ => True.intro) ?_ ?_)
    · rintro k d e S' hd ⟨x4, x5, x6, x7, acc, rfl, rfl, ha, hl⟩
      have hk := (List.getElem?_eq_some_iff.mp hd).1
      rw [List.length_map] at hk
      rw [List.getElem?_map, Option.map_eq_some_iff] at hd
      obtain ⟨c, _, rfl⟩ := hd
      obtain ⟨y5, y6, y7, acc', h1, h2, st⟩ := draws_step S (some (.scr (ns.map .int))) (some (.int a)) (some (.int m)) c x4 x5 x6 x7 acc ha (by omega)
      rw [st, turns_nx]
      exact ⟨_, _, _, _, acc', rfl, rfl, h1, by omega⟩
    · rintro e S' ⟨x4, x5, x6, x7, acc, rfl, rfl, ha, hl⟩
      have sl : ∀ T : Store, T[S.length]? = some (.lst (acc.map .int)) → slS false T (.obj S.length) none (some (m : Int)) = .ok (.lst ((acc.take m).map .int)) T := fun T h => by
        rw [slS_obj, h]
        show fin false (cutD (acc.map D.int) none (some (m : Int))) T = _
        rw [cut_to, ← List.map_take]; rfl
      have kL : (S ++ [O.lst (acc.map D.int)])[S.length]? = some (.lst (acc.map .int)) := by simp
      have sl1 := sl _ kL
      have fin1 : ∃ (L : List Int) (T : Store), D.lst ((acc.take m).map .int) = .lst (L.map .int) ∧ S ++ [O.lst (acc.map D.int)] = S ++ T ∧ (∀ d ∈ L, 0 ≤ d) ∧ L.length ≤ m := ⟨acc.take m, [O.lst (acc.map D.int)], rfl, rfl, fun d hd => ha d (List.mem_of_mem_take hd), by simp; omega⟩
      generalize (acc.take m).map D.int = td at *
      generalize acc.map D.int = ad at *
      generalize hS1 : S ++ [O.lst ad] = S1 at *
      generalize ns.map D.int = nd at *
      rw [mRet_ev]
      have ev : mSl false (mVar 3) oNo (oAt (mVar 2)) ⟨[some (.scr nd), some (.int a), some (.int m), some (.obj S.length), x4, x5, x6, x7], []⟩ S1 = .ok (.lst td) S1 := by
        rw [← sl1]
        rfl
      rw [ev, BS.R.toS_ok, ends_rt]
      exact fin1
  obtain ⟨d, S', e1, L, T, rfl, rfl, h1, h2⟩ := gives_iff.mp key
  exact ⟨L, T, e1, h1, h2⟩
theorem lkey_ok (r : Int) : ∃ z : Str, z ≠ Str.ofString "" ∧ ∀ S, V__law_key [.int r] S = .ok (.str z) S := by
  have hm : 0 ≤ r % 3 ∧ r % 3 < 3 := ⟨by omega, by omega⟩
  obtain ⟨n, hn⟩ : ∃ n : Nat, 1 + r % 3 = n ∧ 1 ≤ n ∧ n ≤ 3 := ⟨(1 + r % 3).toNat, by omega⟩
  have loop : ∀ (k : Nat) (lo : Int) (v : Int) (z : Str) (x3 : Option D), z.length + k ≤ 1000 → ∃ (v' : Int) (z' : Str) (x3' : Option D), z'.length = z.length + k ∧ ∀ S, forL (fun _ => True) (gNm 3) lb__law_key_0 (BS.intsFrom lo k) ⟨[some (.int v), some (.str LL), some (.str z), x3], []⟩ S = .nx ⟨[some (.int v'), some (.str LL), some (.str z'), x3'], []⟩ S := by
    intro k
    induction k with
    | zero => intro lo v z x3 _; exact ⟨v, z, x3, rfl, fun S => by rw [BS.intsFrom, forL_nil]⟩
    | succ k ih =>
      intro lo v z x3 hz
      obtain ⟨v', z', x3', h1, h2⟩ := ih (lo + 1) (v / 5) (z ++ ⟨#[LL.cps.toList.getD (v / 5 % 26).toNat 0]⟩) (some (.int lo)) (by rw [Str.length_append]; show z.length + 1 + k ≤ 1000; omega)
      refine ⟨v', z', x3', by rw [h1, Str.length_append]; show z.length + 1 + k = _; omega, fun S => ?_⟩
      have hc := ix_word S (L := LL) (v / 5) (by rw [LL_len]; decide) (by rw [LL_len]; decide)
      rw [LL_len] at hc
      have hl1 : z.length + 1 ≤ sizeLine := szL (by omega)
      have step : (gNm 3 (.int lo) ⟨[some (.int v), some (.str LL), some (.str z), x3], []⟩ S).seq lb__law_key_0 = .nx ⟨[some (.int (v / 5)), some (.str LL), some (.str (z ++ ⟨#[LL.cps.toList.getD (v / 5 % 26).toNat 0]⟩)), some (.int lo)], []⟩ S := by
        have hc' : fIx S (.str LL) (.int (v / 5 % 26)) = some (.str ⟨#[LL.cps.toList.getD (v / 5 % 26).toNat 0]⟩) := hc
        clear hc
        generalize LL.cps.toList.getD (v / 5 % 26).toNat 0 = c at *
        generalize LL = L at *
        simp (config := { implicitDefEqProofs := false }) [lb__law_key_0, hc', hl1]
      rw [BS.intsFrom, forL_cons, step, RS.loop_nx]
      exact h2 S
  obtain ⟨v', z', x3', h1, h2⟩ := loop n 0 r "" none (by show 0 + n ≤ 1000; omega)
  refine ⟨z', fun e => ?_, fun S => ?_⟩
  · rw [e] at h1
    have : (Str.ofString "").length = 0 := by decide +kernel
    have e2 : ("" : Str).length = 0 := this
    omega
  · have it := iRng1 (as := mCons (mBin fAdd (mC (.int 1)) (mBin fMod (mVar 0) (mC (.int 3)))) mNil) (e := ⟨[some (.int r), some (.str LL), some (.str (Str.ofString "")), none], []⟩) (S := S) (S' := S) (j := n) (by simp (config := { implicitDefEqProofs := false }) [hn.1]) (rng_ok (by omega))
    rw [Int.toNat_natCast] at it
    have h3 := h2 S
    have e2 : ("" : Str) = Str.ofString "" := rfl
    rw [e2] at h3
    have hL : Str.ofString "abcdefghijklmnopqrstuvwxyz" = LL := rfl
    have b : m__law_key ⟨[some (.int r), none, none, none], []⟩ S = .rt (.str z') S := by
      unfold m__law_key
      rw [hL]
      rw [mSeq_ev, show mSet 1 (mC (.str LL)) ⟨[some (.int r), none, none, none], []⟩ S = .nx ⟨[some (.int r), some (.str LL), none, none], []⟩ S from rfl, RS.seq_nx]
      rw [mSeq_ev, show mSet 2 (mC (.str (Str.ofString ""))) ⟨[some (.int r), some (.str LL), none, none], []⟩ S = .nx ⟨[some (.int r), some (.str LL), some (.str (Str.ofString "")), none], []⟩ S from rfl, RS.seq_nx]
      rw [mSeq_ev, mFor_ev, it, BS.R.toS_ok, h3, RS.seq_nx]
      rfl
    have e1 : (List.map some [D.int r] ++ List.replicate (4 - [D.int r].length) none) = [some (.int r), none, none, none] := rfl
    rw [V__law_key, den_app, e1, b]
theorem ints8 : BS.intsFrom 0 8 = (List.range 8).map fun j : Nat => D.int (j : Int) := by
  apply List.ext_getElem?
  intro i
  by_cases h : i < 8
  · rw [intsFrom_get 8 i 0 h, List.getElem?_map, List.getElem?_range h, Int.zero_add]; rfl
  · rw [List.getElem?_eq_none (by rw [intsFrom_len]; omega), List.getElem?_eq_none (by simp; omega)]
def kfF (kf : Int → Str) (v : Int) (d : D) : D := match d with
  | .int i => .str (kf (v / (1 + 7 * i * i) + 3 * i))
  | _ => .non
def kfL (kf : Int → Str) (v : Int) : List Str := (List.range 8).map fun j : Nat => kf (v / (1 + 7 * (j : Int) * j) + 3 * j)
theorem kfL_eq (kf : Int → Str) (v : Int) : (BS.intsFrom 0 8).map (kfF kf v) = (kfL kf v).map D.str := by
  unfold kfL
  rw [ints8, List.map_map, List.map_map]
  exact List.map_congr_left fun j _ => rfl
theorem kfL_len (kf : Int → Str) (v : Int) : (kfL kf v).length = 8 := by unfold kfL; rw [List.length_map, List.length_range]
theorem small8 {j : Nat} (h8 : j < 8) : (0 : Int) < 1 + 7 * (j : Int) * (j : Int) ∧ (1 : Int) + 7 * (j : Int) * (j : Int) < 1073741824 := by
  have h1 : (j : Int) * (j : Int) ≤ 8 * 8 := Int.mul_le_mul (by omega) (by omega) (by omega) (by omega)
  have h2 : (0 : Int) ≤ (j : Int) * (j : Int) := Int.mul_nonneg (by omega) (by omega)
  rw [Int.mul_assoc]
  generalize (j : Int) * (j : Int) = q at *
  constructor <;> omega
theorem bounds_e1 (v q : Int) (S : Store) (s1 : (-18446744073709551616 : Int) < q) (s2 : q < 18446744073709551616) : mBin fMul (mBin fMul (mC (.int 7)) (mVar 2)) (mVar 2) ⟨[some (.int v), none, some (.int q)], []⟩ S = .ok (.int (7 * q * q)) S := by
  simp (config := { implicitDefEqProofs := false }) [s1, s2]
theorem bounds_e2 (v m : Int) (S : Store) (p1 : 0 < 1 + m) (p2 : 1 + m < 1073741824) : lift2 fDiv S (.int v) (.int (1 + m)) = .ok (.int (v / (1 + m))) S := by
  generalize 1 + m = w at *
  have : w ≠ 0 := by omega
  simp (config := { implicitDefEqProofs := false }) [p1, p2, this]
theorem bounds_el (kf : Int → Str) (hk : ∀ r S, V__law_key [.int r] S = .ok (.str (kf r)) S) (v : Int) (j : Nat) (h8 : j < 8) (S : Store) : mCall V__law_key (mCons (mBin fAdd (mBin fDiv (mVar 0) (mBin fAdd (mC (.int 1)) (mBin fMul (mBin fMul (mC (.int 7)) (mVar 2)) (mVar 2)))) (mBin fMul (mC (.int 3)) (mVar 2))) mNil) ⟨[some (.int v), none, some (.int j)], []⟩ S = .ok (.str (kf (v / (1 + 7 * (j : Int) * j) + 3 * j))) S := by
  obtain ⟨pos', s3⟩ := small8 h8
  have s1 : (-18446744073709551616 : Int) < (j : Int) := by omega
  have s2 : (j : Int) < 18446744073709551616 := by omega
  generalize (j : Int) = q at *
  have a0 : mVar 0 ⟨[some (.int v), none, some (.int q)], []⟩ S = .ok (.int v) S := rfl
  have a1 := bounds_e1 v q S s1 s2
  have a2 : mBin fAdd (mC (.int 1)) (mBin fMul (mBin fMul (mC (.int 7)) (mVar 2)) (mVar 2)) ⟨[some (.int v), none, some (.int q)], []⟩ S = .ok (.int (1 + 7 * q * q)) S := by
    rw [mBin_ev, show mC (.int 1) ⟨[some (.int v), none, some (.int q)], []⟩ S = .ok (.int 1) S from rfl, R_bind_ok, a1, R_bind_ok]
    rfl
  have d1 : mBin fDiv (mVar 0) (mBin fAdd (mC (.int 1)) (mBin fMul (mBin fMul (mC (.int 7)) (mVar 2)) (mVar 2))) ⟨[some (.int v), none, some (.int q)], []⟩ S = .ok (.int (v / (1 + 7 * q * q))) S := by
    rw [mBin_ev, a0, R_bind_ok, a2, R_bind_ok]
    exact bounds_e2 v (7 * q * q) S pos' s3
  have d2 : mBin fMul (mC (.int 3)) (mVar 2) ⟨[some (.int v), none, some (.int q)], []⟩ S = .ok (.int (3 * q)) S := by
    clear d1 a2 a1 pos' s3
    simp (config := { implicitDefEqProofs := false }) [s1, s2]
  have d3 : mBin fAdd (mBin fDiv (mVar 0) (mBin fAdd (mC (.int 1)) (mBin fMul (mBin fMul (mC (.int 7)) (mVar 2)) (mVar 2)))) (mBin fMul (mC (.int 3)) (mVar 2)) ⟨[some (.int v), none, some (.int q)], []⟩ S = .ok (.int (v / (1 + 7 * q * q) + 3 * q)) S := by
    rw [mBin_ev, d1, R_bind_ok, d2, R_bind_ok]
    rfl
  rw [mCall_ev, mCons_ev, d3, R_bind_ok, mNil_ev, R_bind_ok, R_bind_ok]
  exact hk _ S
theorem bounds_lc (kf : Int → Str) (hk : ∀ r S, V__law_key [.int r] S = .ok (.str (kf r)) S) (v : Int) (S : Store) : lcL S.length (fun _ => True) (LT.one 2) ⟨[some (.int v), none, none], []⟩ mYes (mCall V__law_key (mCons (mBin fAdd (mBin fDiv (mVar 0) (mBin fAdd (mC (.int 1)) (mBin fMul (mBin fMul (mC (.int 7)) (mVar 2)) (mVar 2)))) (mBin fMul (mC (.int 3)) (mVar 2))) mNil)) (BS.intsFrom 0 8) (S ++ [.lst []]) = .ok () (S ++ [.lst ((kfL kf v).map D.str)]) := by
  rw [← kfL_eq]
  refine lcL_map (i := 2) S (kfF kf v) (fun _ => True.intro) (fun d hd acc => ?_) (by rw [intsFrom_len]; exact szL (by omega))
  obtain ⟨j, hj⟩ := List.mem_iff_getElem?.mp hd
  obtain ⟨h8, rfl⟩ := ints_at hj
  rw [Int.zero_add]
  exact bounds_el kf hk v j h8 _
theorem bounds_ok (v : Int) (S : Store) : ∃ (ks : List Str) (T : Store), V__law_bounds [.int v] S = .ok (.lst ((Str.ofString "" :: setSort ks).map .str)) (S ++ T) ∧ (∀ k ∈ ks, k ≠ Str.ofString "") ∧ ks.length = 8 := by
  obtain ⟨kf, hk⟩ := Classical.skolem.mp lkey_ok
  have lc := bounds_lc kf (fun r => (hk r).2) v S
  have kn : ∀ k ∈ kfL kf v, k ≠ Str.ofString "" := fun k h => by
    obtain ⟨j, _, rfl⟩ := List.mem_map.mp h
    exact (hk _).1
  have k8 := kfL_len kf v
  generalize kfL kf v = ks at *
  refine ⟨ks, [.lst (ks.map .str)], ?_, kn, k8⟩
  have r8 : rngOk 8 := by decide
  have kL : (S ++ [O.lst (ks.map D.str)])[S.length]? = some (.lst (ks.map .str)) := by simp
  have so := strsOf_map ks
  have k1000 : ks.length < 1000 := by omega
  have ls := len_setSort ks
  have l1 : 1 + (setSort ks).length ≤ sizeLine := szL (by omega)
  rw [List.map_cons]
  generalize ks.map D.str = kd at *
  generalize hS1 : S ++ [O.lst kd] = S1 at *
  simp (config := { implicitDefEqProofs := false }) [V__law_bounds, m__law_bounds, r8, lc, hS1, kL, so, k1000, l1]
theorem asc_bounds {ks : List Str} (h : ∀ k ∈ ks, k ≠ Str.ofString "") : Asc (Str.ofString "" :: setSort ks) := by
  refine List.pairwise_cons.mpr ⟨fun k hk => ltS_emp (h k ((mem_setSort ks k).mp hk)), asc_setSort ks⟩
theorem lhigh_run (bs : List Str) (j : Nat) (S : Store) : V__law_high [.lst (bs.map .str), .int j] S = .ok (hiD bs[j]?) S := by
  have e : (bs.map D.str)[j]? = (bs[j]?).map D.str := List.getElem?_map
  have l : (bs.map D.str).length = bs.length := List.length_map ..
  by_cases h : j < bs.length
  · have h1 : (j : Int) < bs.length := by omega
    rw [List.getElem?_eq_getElem h] at e ⊢
    generalize bs.map D.str = bd at *
    simp (config := { implicitDefEqProofs := false }) [V__law_high, m__law_high, l, h1, e]
  · have h1 : ¬ (j : Int) < bs.length := by omega
    rw [List.getElem?_eq_none (by omega)]
    generalize bs.map D.str = bd at *
    simp (config := { implicitDefEqProofs := false }) [V__law_high, m__law_high, l, h1]
end L_k32
namespace L_k32
open PySem PySem.Spec PyProof.Rows L2 BS
theorem clD_fl (c : Cl) : Fl 2 (clD c) := by
  unfold clD
  exact .tup (.cons (.str _) (.cons (hiD_fl c.hi) (.cons (.int _) .nil)))
theorem cls_fl : ∀ l : List Cl, FlS 2 (l.map clD)
  | [] => .nil
  | c :: l => .cons (clD_fl c) (cls_fl l)
theorem lrows_step {S : Store} {bs : List Str} {ns : List Int} {nI : Nat} (hn : S[nI]? = some (.lst (ns.map .int))) (k : Nat) (hk : k < bs.length) (hl : ns.length = bs.length) (A : List Cl) (hA : A.length ≤ 100000) (x3 : Option D) :
    ((gNm 3 (.int k) ⟨[some (.lst (bs.map .str)), some (.obj nI), some (.obj S.length), x3], []⟩ (S ++ [.lst (A.map clD)])).seq lb__law_rows_0 = .nx ⟨[some (.lst (bs.map .str)), some (.obj nI), some (.obj S.length), some (.int k)], []⟩ (S ++ [.lst ((push A (bs.getD k (Str.ofString "")) bs[k + 1]? (ns.getD k 0)).map clD)]))
    ∨ ((gNm 3 (.int k) ⟨[some (.lst (bs.map .str)), some (.obj nI), some (.obj S.length), x3], []⟩ (S ++ [.lst (A.map clD)])).seq lb__law_rows_0 = .ct ⟨[some (.lst (bs.map .str)), some (.obj nI), some (.obj S.length), some (.int k)], []⟩ (S ++ [.lst ((push A (bs.getD k (Str.ofString "")) bs[k + 1]? (ns.getD k 0)).map clD)])) := by
  have hn1 := at_ext hn [.lst (A.map clD)]
  have b1 : (bs.map D.str)[k]? = some (.str (bs.getD k (Str.ofString ""))) := by rw [List.getElem?_map, getD_at hk]; rfl
  have n1 : (ns.map D.int)[k]? = some (.int (ns.getD k 0)) := by
    rw [List.getElem?_map, List.getD_eq_getElem?_getD, List.getElem?_eq_getElem (by omega)]; rfl
  have hh : ∀ S, V__law_high [.lst (bs.map .str), .int ((k : Int) + 1)] S = .ok (hiD bs[k + 1]?) S := fun S => by
    have := lhigh_run bs (k + 1) S
    rw [Int.natCast_add] at this
    exact this
  generalize bs.getD k (Str.ofString "") = p at *
  generalize ns.getD k 0 = v at *
  generalize bs[k + 1]? = q at *
  generalize bs.map D.str = bd at *
  generalize ns.map D.int = nd at *
  clear hn
  by_cases v0 : v = 0
  · subst v0
    rw [push_zero]
    right
    generalize S ++ [O.lst (A.map clD)] = S1 at *
    simp (config := { implicitDefEqProofs := false }) [lb__law_rows_0, hn1, n1]
  · left
    rcases List.eq_nil_or_concat A with eA | ⟨A', d, eA⟩
    · subst eA
      rw [show push [] p q v = [⟨p, q, v⟩] from by unfold push; rw [if_neg v0]]
      rw [List.map_nil] at hn1 ⊢
      rw [List.map_cons, List.map_nil]
      have kL := get_mid S (.lst []) []
      have sL := set_mid S (.lst []) (.lst [clD ⟨p, q, v⟩]) []
      rw [← sL]
      unfold clD
      have z := sz
      have z0 : 0 < sizeLine := by omega
      generalize hiD q = h' at *
      generalize S ++ [O.lst []] = S1 at *
      simp (config := { implicitDefEqProofs := false }) [lb__law_rows_0, v0, kL, z0, hn1, n1, b1, hh]
    · rw [List.concat_eq_append] at eA
      subst eA
      rw [push_last, if_neg v0]
      rw [List.map_append, List.map_cons, List.map_nil] at hn1 ⊢
      have kL := get_mid S (.lst (A'.map clD ++ [clD d])) []
      have len : (A'.map clD ++ [clD d]).length = A'.length + 1 := by simp
      have lz : A'.length + 1 < sizeLine := by
        simp at hA
        have := sz
        omega
      have at1 := atI_lastE (A'.map clD) (clD d)
      have ix1 := ixN_last (A'.map clD) (clD d)
      rw [len, List.length_map] at ix1
      have eh := fun S => eqh_run S d.hi p
      have pos : (0 : Int) < (A'.length : Int) + 1 := by omega
      by_cases hm : d.hi = some p ∧ d.v = v
      · rw [if_pos hm, List.map_append, List.map_cons, List.map_nil]
        have st := set_last (A'.map clD) (clD d) (clD ⟨d.lo, q, v⟩)
        rw [List.length_map] at st
        have sL := set_mid S (.lst (A'.map clD ++ [clD d])) (.lst (A'.map clD ++ [clD ⟨d.lo, q, v⟩])) []
        rw [← sL, ← st]
        have e1 : eqS (S ++ [O.lst (A'.map clD ++ [clD d])]) (hiD d.hi) (.str p) = some true := by rw [eh, decide_eq_true hm.1]
        have e2 := hm.2
        unfold clD at *
        generalize hiD q = h' at *
        generalize hiD d.hi = h3 at *
        generalize A'.map (fun c => D.tup [.str c.lo, hiD c.hi, .int c.v]) = am at *
        generalize hAm : am ++ [D.tup [.str d.lo, h3, .int d.v]] = am2 at *
        generalize S ++ [O.lst am2] = S1 at *
        simp (config := { implicitDefEqProofs := false }) [lb__law_rows_0, v0, kL, len, at1, ix1, e1, e2, pos, hn1, n1, b1, hh]
      · rw [if_neg hm, List.map_append, List.map_append, List.map_cons, List.map_nil, List.map_cons, List.map_nil]
        have sL := set_mid S (.lst (A'.map clD ++ [clD d])) (.lst (A'.map clD ++ [clD d] ++ [clD ⟨p, q, v⟩])) []
        rw [← sL]
        have e1 : eqS (S ++ [O.lst (A'.map clD ++ [clD d])]) (hiD d.hi) (.str p) = some (decide (d.hi = some p)) := eh _
        unfold clD at *
        generalize hiD q = h' at *
        by_cases h1 : d.hi = some p
        · have h2 : ¬ d.v = v := fun e => hm ⟨h1, e⟩
          rw [decide_eq_true h1] at e1
          generalize hiD d.hi = h3 at *
          generalize A'.map (fun c => D.tup [.str c.lo, hiD c.hi, .int c.v]) = am at *
          generalize hAm : am ++ [D.tup [.str d.lo, h3, .int d.v]] = am2 at *
          generalize S ++ [O.lst am2] = S1 at *
          simp (config := { implicitDefEqProofs := false }) [lb__law_rows_0, v0, kL, len, at1, ix1, e1, h2, pos, lz, hn1, n1, b1, hh]
        · rw [decide_eq_false h1] at e1
          generalize hiD d.hi = h3 at *
          generalize A'.map (fun c => D.tup [.str c.lo, hiD c.hi, .int c.v]) = am at *
          generalize hAm : am ++ [D.tup [.str d.lo, h3, .int d.v]] = am2 at *
          generalize S ++ [O.lst am2] = S1 at *
          simp (config := { implicitDefEqProofs := false }) [lb__law_rows_0, v0, kL, len, at1, ix1, e1, pos, lz, hn1, n1, b1, hh]
theorem lrows_run {S : Store} {bs : List Str} {ns : List Int} {nI : Nat} (hn : S[nI]? = some (.lst (ns.map .int))) (hl : ns.length = bs.length) (hb : bs.length ≤ 10000) : V__law_rows [.lst (bs.map .str), .obj nI] S = .ok (.obj S.length) (S ++ [.lst ((lcells bs ns).map clD)]) := by
  refine gives_eq (den_gives ?_)
  show (m__law_rows ⟨[some (.lst (bs.map .str)), some (.obj nI), none, none], []⟩ S).ends _ _
  unfold m__law_rows
  have s2 : mSet 2 (mLst true mNil) ⟨[some (.lst (bs.map .str)), some (.obj nI), none, none], []⟩ S = .nx ⟨[some (.lst (bs.map .str)), some (.obj nI), some (.obj S.length), none], []⟩ (S ++ [.lst []]) := by
    generalize bs.map D.str = bd
    simp (config := { implicitDefEqProofs := false })
  rw [mSeq_ev, s2, RS.seq_nx, mSeq_ev]
  have it := iRng1 (as := mCons (mCall fnLen (mCons (mVar 0) mNil)) mNil) (e := ⟨[some (.lst (bs.map .str)), some (.obj nI), some (.obj S.length), none], []⟩) (S := S ++ [.lst []]) (S' := S ++ [.lst []]) (j := bs.length) (by
    have : (bs.map D.str).length = bs.length := List.length_map ..
    generalize bs.map D.str = bd at *
    simp (config := { implicitDefEqProofs := false }) [this]) (rng_ok (by omega))
  rw [Int.toNat_natCast] at it
  rw [mFor_ev, it, BS.R.toS_ok]
  refine ends_seq (forL_ends (fun k e S' => ∃ x3, e = ⟨[some (.lst (bs.map .str)), some (.obj nI), some (.obj S.length), x3], []⟩ ∧ S' = S ++ [.lst ((((lrun bs ns).take k).foldl pushC []).map clD)]) ⟨none, rfl, rfl⟩ (fun _ _ _ _ => True.intro) ?_ ?_)
  · rintro k d e S' hd ⟨x3, rfl, rfl⟩
    obtain ⟨hk, rfl⟩ := ints_at hd
    rw [Int.zero_add]
    have tk : (lrun bs ns).take (k + 1) = (lrun bs ns).take k ++ [⟨bs.getD k (Str.ofString ""), bs[k + 1]?, ns.getD k 0⟩] := by rw [List.take_succ, lrun_at? hk]; rfl
    rw [tk, List.foldl_append, List.foldl_cons, List.foldl_nil]
    have ln : (((lrun bs ns).take k).foldl pushC []).length ≤ 100000 := by
      have h1 := fold_len ((lrun bs ns).take k) []
      have h2 := List.length_take_le' k (lrun bs ns)
      rw [lrun_len] at h2
      simp only [List.length_nil] at h1
      omega
    rcases lrows_step hn k hk hl _ ln x3 with h | h
    · rw [h, turns_nx]; exact ⟨_, rfl, rfl⟩
    · rw [h, turns_ct]; exact ⟨_, rfl, rfl⟩
  · rintro e S' ⟨x3, rfl, rfl⟩
    rw [intsFrom_len, List.take_of_length_le (by rw [lrun_len]; exact Nat.le_refl _)]
    rw [show (lrun bs ns).foldl pushC [] = lcells bs ns from rfl]
    generalize (lcells bs ns).map clD = cd
    generalize bs.map D.str = bd
    simp (config := { implicitDefEqProofs := false })
end L_k32
namespace L_k32
open PySem PySem.Spec PyProof.Rows L2 BS
theorem cut_both {α : Type} (f : α → D) (ds : List α) {s t : Nat} (hs : s < t) (ht : t ≤ ds.length) : BS.cutD (ds.map f) (some (s : Int)) (some (t : Int)) = ((ds.take t).drop s).map f := by
  unfold BS.cutD
  rw [HT.sIx_nat, HT.sIx_nat, List.length_map, Nat.min_eq_left ht, Nat.min_eq_left (show s ≤ ds.length by omega), List.map_drop, List.map_take, List.drop_take]
theorem EpAt.setn {S : Store} {o nI : Nat} {R : List Cl} {ns : List Int} (h : EpAt S o R) (hn : S[nI]? = some (.lst (ns.map .int))) (h1 : 0 < ns.length) (x : O) : EpAt (S.set nI x) o R := by
  obtain ⟨c, h2, h3⟩ := h
  have o1 : nI ≠ o := fun e => by rw [e, h2] at hn; cases hn
  have c1 : nI ≠ c := fun e => by
    rw [e, h3] at hn
    cases ns with
    | nil => simp at h1
    | cons n ns =>
      cases R with
      | nil => simp at hn
      | cons r R => simp [clD] at hn
  exact ⟨c, by rw [List.getElem?_set_ne o1]; exact h2, by rw [List.getElem?_set_ne c1]; exact h3⟩
theorem nsUp_zero (ns : List Int) (s : Nat) (e : Int) : nsUp ns s s e = ns := by
  apply List.ext_getElem?
  intro i
  by_cases h : i < ns.length
  · have := nsUp_at (s := s) (t := s) (e := e) h
    rw [if_neg (by omega)] at this
    rw [List.getD_eq_getElem?_getD, List.getD_eq_getElem?_getD, List.getElem?_eq_getElem h, List.getElem?_eq_getElem (by rw [nsUp_len]; exact h)] at this
    rw [List.getElem?_eq_getElem h, List.getElem?_eq_getElem (by rw [nsUp_len]; exact h)]
    exact congrArg some this
  · rw [List.getElem?_eq_none (by rw [nsUp_len]; omega), List.getElem?_eq_none (by omega)]
theorem getD_int {ns : List Int} {i : Nat} (h : i < ns.length) : ns[i]? = some (ns.getD i 0) := by
  rw [List.getD_eq_getElem?_getD, List.getElem?_eq_getElem h]; rfl
theorem nsUp_succ (ns : List Int) {s k : Nat} (e : Int) (h : s + k < ns.length) : (nsUp ns s (s + k) e).set (s + k) (max (ns.getD (s + k) 0) e) = nsUp ns s (s + (k + 1)) e := by
  apply List.ext_getElem?
  intro i
  by_cases hi : i < ns.length
  · rw [getD_int (ns := nsUp ns s (s + (k + 1)) e) (i := i) (by rw [nsUp_len]; exact hi), nsUp_at hi]
    by_cases q : s + k = i
    · subst q
      rw [List.getElem?_set_self (by rw [nsUp_len]; exact h), if_pos (by omega)]
    · rw [List.getElem?_set_ne q, getD_int (by rw [nsUp_len]; exact hi), nsUp_at hi]
      by_cases z : s ≤ i ∧ i < s + k
      · rw [if_pos z, if_pos (by omega)]
      · rw [if_neg z, if_neg (by omega)]
  · rw [List.getElem?_eq_none (by rw [List.length_set, nsUp_len]; omega), List.getElem?_eq_none (by rw [nsUp_len]; omega)]
theorem nsUp_pos {ns : List Int} (h : ∀ n ∈ ns, 0 ≤ n) (s t : Nat) (e : Int) : ∀ n ∈ nsUp ns s t e, 0 ≤ n := fun n hn => by
  obtain ⟨i, hi, rfl⟩ := List.mem_map.mp hn
  have hi' := List.mem_range.mp hi
  have p : 0 ≤ ns.getD i 0 := h _ (List.mem_of_getElem? (getD_int hi'))
  split
  · rw [Int.max_def]; split <;> omega
  · exact p
/-- the numbers and the object -/
structure LwAt (S : Store) (nI o : Nat) (bs : List Str) (ns : List Int) : Prop where
  hn : S[nI]? = some (.lst (ns.map .int))
  he : EpAt S o (lcells bs ns)
  hl : ns.length = bs.length
  hp : ∀ n ∈ ns, 0 ≤ n
theorem LwAt.ext {S : Store} {nI o : Nat} {bs : List Str} {ns : List Int} (h : LwAt S nI o bs ns) (T : Store) : LwAt (S ++ T) nI o bs ns := ⟨at_ext h.hn T, h.he.ext T, h.hl, h.hp⟩
theorem lcells_len (bs : List Str) (ns : List Int) : (lcells bs ns).length ≤ bs.length := by
  have := fold_len (lrun bs ns) []
  rw [lrun_len] at this
  simpa [lcells] using this
/-- the law's inner loop -/
theorem inner_run {S : Store} {nI : Nat} {ns : List Int} (hn : S[nI]? = some (.lst (ns.map .int))) {s t : Nat} (hs : s ≤ t) (ht : t ≤ ns.length) (e : Int) (x0 x1 x2 x4 x5 x9 x10 : Option D) :
    ∃ x9', forL (fun _ => True) (gNm 9) lb_law_0 (BS.intsFrom s (t - s)) ⟨[x0, x1, x2, some (.obj nI), x4, x5, some (.int s), some (.int t), some (.int e), x9, x10], []⟩ S = .nx ⟨[x0, x1, x2, some (.obj nI), x4, x5, some (.int s), some (.int t), some (.int e), x9', x10], []⟩ (S.set nI (.lst ((nsUp ns s t e).map .int))) := by
  have gen : ∀ (m k : Nat) (x9 : Option D), s + k + m ≤ ns.length → ∃ x9', forL (fun _ => True) (gNm 9) lb_law_0 (BS.intsFrom ((s + k : Nat) : Int) m) ⟨[x0, x1, x2, some (.obj nI), x4, x5, some (.int s), some (.int t), some (.int e), x9, x10], []⟩ (S.set nI (.lst ((nsUp ns s (s + k) e).map .int))) = .nx ⟨[x0, x1, x2, some (.obj nI), x4, x5, some (.int s), some (.int t), some (.int e), x9', x10], []⟩ (S.set nI (.lst ((nsUp ns s (s + (k + m)) e).map .int))) := by
    intro m
    induction m with
    | zero => intro k x9 _; exact ⟨x9, by rw [BS.intsFrom, forL_nil]; rfl⟩
    | succ m ih =>
      intro k x9 hk
      obtain ⟨x9', q⟩ := ih (k + 1) (some (.int ((s + k : Nat) : Int))) (by omega)
      refine ⟨x9', ?_⟩
      have l1 := (List.getElem?_eq_some_iff.mp hn).1
      have a1 : (S.set nI (.lst ((nsUp ns s (s + k) e).map .int)))[nI]? = some (.lst ((nsUp ns s (s + k) e).map .int)) := List.getElem?_set_self l1
      have a2 : ((nsUp ns s (s + k) e).map D.int)[s + k]? = some (.int (ns.getD (s + k) 0)) := by
        rw [List.getElem?_map, getD_int (by rw [nsUp_len]; omega), nsUp_at (by omega), if_neg (by omega)]; rfl
      have a3 : ixN ((nsUp ns s (s + k) e).map D.int).length ((s + k : Nat) : Int) = some (s + k) := by
        rw [List.length_map, nsUp_len, ixN_in (by omega) (by omega), Int.toNat_natCast]
      have a4 : (S.set nI (.lst ((nsUp ns s (s + k) e).map .int))).set nI (.lst (((nsUp ns s (s + k) e).map D.int).set (s + k) (.int (if ns.getD (s + k) 0 < e then e else ns.getD (s + k) 0)))) = S.set nI (.lst ((nsUp ns s (s + (k + 1)) e).map .int)) := by
        rw [List.set_set, ← nsUp_succ ns e (by omega), max_if, List.map_set]
      have step : (gNm 9 (.int ((s + k : Nat) : Int)) ⟨[x0, x1, x2, some (.obj nI), x4, x5, some (.int s), some (.int t), some (.int e), x9, x10], []⟩ (S.set nI (.lst ((nsUp ns s (s + k) e).map .int)))).seq lb_law_0 = .nx ⟨[x0, x1, x2, some (.obj nI), x4, x5, some (.int s), some (.int t), some (.int e), some (.int ((s + k : Nat) : Int)), x10], []⟩ (S.set nI (.lst ((nsUp ns s (s + (k + 1)) e).map .int))) := by
        rw [← a4]
        generalize (nsUp ns s (s + k) e).map D.int = nd at *
        generalize S.set nI (.lst nd) = S1 at *
        generalize ns.getD (s + k) 0 = v at *
        have a2' : atI nd ((s + k : Nat) : Int) = some (.int v) := by rw [BS.atI_nat]; exact a2
        generalize ((s + k : Nat) : Int) = j at *
        simp (config := { implicitDefEqProofs := false }) [lb_law_0, a1, a2', a3]
      rw [BS.intsFrom, forL_cons, step, RS.loop_nx]
      have e1 : ((s + k : Nat) : Int) + 1 = ((s + (k + 1) : Nat) : Int) := by omega
      have e2 : s + (k + (m + 1)) = s + (k + 1 + m) := by omega
      rw [e1, e2]
      exact q
  obtain ⟨x9', q⟩ := gen (t - s) 0 x9 (by omega)
  refine ⟨x9', ?_⟩
  rw [Nat.add_zero, nsUp_zero] at q
  have e0 : S.set nI (.lst (ns.map .int)) = S := by
    obtain ⟨a, b⟩ := List.getElem?_eq_some_iff.mp hn
    rw [← b]; exact List.set_getElem_self a
  rw [e0, show s + (0 + (t - s)) = t by omega] at q
  exact q
theorem mod_in (d : Int) {n : Nat} (h : 0 < n) : ∃ s : Nat, d % (n : Int) = s ∧ s < n := ⟨(d % (n : Int)).toNat, by
  have h1 := Int.emod_nonneg d (show (n : Int) ≠ 0 by omega)
  omega, by
  have h1 := Int.emod_nonneg d (show (n : Int) ≠ 0 by omega)
  have h2 := Int.emod_lt_of_pos d (show (0 : Int) < n by omega)
  omega⟩
theorem mod_up (d : Int) {n s : Nat} (h : s < n) : ∃ t : Nat, (s : Int) + 1 + d % ((n : Int) - s) = t ∧ s < t ∧ t ≤ n := by
  obtain ⟨u, h1, h2⟩ := mod_in d (n := n - s) (by omega)
  have e : ((n - s : Nat) : Int) = (n : Int) - s := by omega
  rw [e] at h1
  exact ⟨s + 1 + u, by rw [h1]; omega, by omega, by omega⟩
theorem law_step {S : Store} {nI o : Nat} {bs : List Str} {ns : List Int} {r : List Str} (hb : bs = Str.ofString "" :: r) (ha : Asc bs) (h9 : bs.length ≤ 9) (h : LwAt S nI o bs ns) (d : Int) (hd : 0 ≤ d) (x0 x5 x6 x7 x8 x9 x10 : Option D) :
    ∃ (y5 y6 y7 y8 y9 y10 : Option D) (S' : Store) (ns' : List Int), (gNm 5 (.int d) ⟨[x0, some (.lst (bs.map .str)), some (.int bs.length), some (.obj nI), some (.obj o), x5, x6, x7, x8, x9, x10], []⟩ S).seq lb_law_1 = .nx ⟨[x0, some (.lst (bs.map .str)), some (.int bs.length), some (.obj nI), some (.obj o), y5, y6, y7, y8, y9, y10], []⟩ S' ∧ LwAt S' nI o bs ns' := by
  have pos : 0 < bs.length := by rw [hb]; simp
  have nL : (0 : Int) < bs.length := by omega
  have nU : (bs.length : Int) < 1073741824 := by omega
  obtain ⟨s, es, ls⟩ := mod_in d pos
  obtain ⟨t, et, lt1, lt2⟩ := mod_up (d / 10) ls
  obtain ⟨s', es', ls'⟩ := mod_in (d / 1000) pos
  obtain ⟨t', et', lt1', lt2'⟩ := mod_up (d / 10000) ls'
  have ps : (0 : Int) < (bs.length : Int) - s ∧ (bs.length : Int) - s < 1073741824 := by omega
  have ps' : (0 : Int) < (bs.length : Int) - s' ∧ (bs.length : Int) - s' < 1073741824 := by omega
  generalize he : 1 + d / 100 % 9 = e
  have b1 : ∀ j, j < bs.length → (bs.map D.str)[j]? = some (.str (bs.getD j (Str.ofString ""))) := fun j hj => by rw [List.getElem?_map, getD_at hj]; rfl
  have bS := b1 s ls
  have bS' := b1 s' ls'
  have hh := fun S => lhigh_run bs t S
  have hh' := fun S => lhigh_run bs t' S
  -- the call
  obtain ⟨T1, r1⟩ := raise_run h.he (Nat.le_trans (lcells_len bs ns) (by omega)) (bs.getD s (Str.ofString "")) bs[t]? e
  have at1 := raise_at h.he (Nat.le_trans (lcells_len bs ns) (by omega)) (bs.getD s (Str.ofString "")) bs[t]? e T1
  rw [up_one hb rfl ha h.hl e ls lt2] at r1 at1
  have oI : S[o]? ≠ S[nI]? := by
    obtain ⟨c, h2, _⟩ := h.he
    rw [h2, h.hn]; intro z; cases z
  have n1 : (S.set o (.ins 4 [(0, .obj S.length)]))[nI]? = some (.lst (ns.map .int)) := by
    rw [List.getElem?_set_ne (fun z => oI (by rw [z]))]; exact h.hn
  have n1 := at_ext n1 (.lst ((lcells bs (nsUp ns s t e)).map clD) :: T1)
  generalize S.set o (.ins 4 [(0, .obj S.length)]) ++ O.lst ((lcells bs (nsUp ns s t e)).map clD) :: T1 = S1 at *
  -- the inner loop
  have hl := h.hl
  obtain ⟨y9, r2⟩ := inner_run n1 (show s ≤ t by omega) (by omega) e x0 (some (.lst (bs.map .str))) (some (.int bs.length)) (some (.obj o)) (some (.int d)) x9 x10
  have l1 := (List.getElem?_eq_some_iff.mp n1).1
  have L2 : LwAt (S1.set nI (.lst ((nsUp ns s t e).map .int))) nI o bs (nsUp ns s t e) := ⟨List.getElem?_set_self l1, at1.setn n1 (by omega) _, by rw [nsUp_len]; exact h.hl, nsUp_pos h.hp s t e⟩
  generalize S1.set nI (.lst ((nsUp ns s t e).map .int)) = S2 at *
  generalize hns : nsUp ns s t e = ns' at *
  -- the rows
  have cl1 : (lcells bs ns').length ≤ 100000 := Nat.le_trans (lcells_len bs ns') (by omega)
  have r3 := rows_run L2.he cl1
  have r4 := lrows_run (L2.ext [O.lst ((lcells bs ns').map clD)]).hn L2.hl (by omega)
  have k3 : (S2 ++ [O.lst ((lcells bs ns').map clD)])[S2.length]? = some (.lst ((lcells bs ns').map clD)) := by simp
  have k4 : (S2 ++ [O.lst ((lcells bs ns').map clD)] ++ [O.lst ((lcells bs ns').map clD)])[S2.length]? = some (.lst ((lcells bs ns').map clD)) := at_ext k3 _
  have k4' : (S2 ++ [O.lst ((lcells bs ns').map clD)] ++ [O.lst ((lcells bs ns').map clD)])[(S2 ++ [O.lst ((lcells bs ns').map clD)]).length]? = some (.lst ((lcells bs ns').map clD)) := by simp
  have q4 := eqS_objs k4 k4' (cls_fl _)
  have lz : ((lcells bs ns').map clD).length < sizeLine := by rw [List.length_map]; have := sz; omega
  have L5 : LwAt ((S2 ++ [O.lst ((lcells bs ns').map clD)] ++ [O.lst ((lcells bs ns').map clD)]).set S2.length (.lst ((lcells bs ns').map clD ++ [.str "spoilt"]))) nI o bs ns' := by
    rw [List.append_assoc]
    rw [show S2 ++ ([O.lst ((lcells bs ns').map clD)] ++ [O.lst ((lcells bs ns').map clD)]) = S2 ++ O.lst ((lcells bs ns').map clD) :: [O.lst ((lcells bs ns').map clD)] from rfl, set_mid]
    exact L2.ext _
  -- the greatest
  obtain ⟨m, T6, r6, mx6⟩ := great_run L5.he cl1 (bs.getD s' (Str.ofString "")) bs[t']?
  have mx7 := maxI_ok (ns := (ns'.take t').drop s') (by
    have := L2.hl
    rw [List.length_drop, List.length_take]
    omega)
  have mm := great_one ha L2.hl L2.hp hb rfl lt1' lt2' mx6 mx7
  have L7 := L5.ext T6
  have io := intsOf_map' ((ns'.take t').drop s')
  have pl : 0 < ((ns'.take t').drop s').length := by
    have := L2.hl
    rw [List.length_drop, List.length_take]
    omega
  have ct := cut_both D.int ns' (s := s') (t := t') lt1' (by rw [L2.hl]; exact lt2')
  generalize (ns'.take t').drop s' = cs at *
  rw [mm] at r6
  have n7 := L7.hn
  have n7' := L5.hn
  generalize (lcells bs ns').map clD = rd at *
  generalize S2 ++ [O.lst rd] = S3 at *
  generalize S3 ++ [O.lst rd] = S4 at *
  generalize hS5 : S4.set S2.length (.lst (rd ++ [.str "spoilt"])) = S5 at *
  generalize hS7 : S5 ++ T6 = S7 at *
  generalize ns'.map D.int = nd' at *
  generalize cs.map D.int = cd at *
  have sr : rngOk (s : Int) := rng_ok (by omega)
  have tr : rngOk (t : Int) := rng_ok (by omega)
  have it2 : ((t : Int) - s).toNat = t - s := by omega
  generalize bs.getD s (Str.ofString "") = ps1 at *
  generalize bs.getD s' (Str.ofString "") = ps2 at *
  generalize hiD bs[t]? = h1 at *
  generalize hiD bs[t']? = h2 at *
  generalize bs.map D.str = bd at *
  have kL : isIns 4 S (.obj o) = true := by
    obtain ⟨c, h2, _⟩ := h.he
    simp [isIns, h2]
  have kL2 : isIns 4 S2 (.obj o) = true := by
    obtain ⟨c, h2, _⟩ := L2.he
    simp [isIns, h2]
  have kL5 : isIns 4 S5 (.obj o) = true := by
    obtain ⟨c, h2, _⟩ := L5.he
    simp [isIns, h2]
  refine ⟨some (.int d), some (.int s'), some (.int t'), some (.int e), y9, some (.obj S2.length), S7, ns', ?_, L7⟩
  have ix1 : ∀ S, fIx S (.lst bd) (.int (s : Int)) = some (.str ps1) := fun S => by simp [bS]
  have ix2 : ∀ S, fIx S (.lst bd) (.int (s' : Int)) = some (.str ps2) := fun S => by simp [bS']
  have sl7 : slS false S7 (.obj nI) (some (s' : Int)) (some (t' : Int)) = .ok (.lst cd) S7 := by
    rw [slS_obj, n7]
    show fin false (BS.cutD nd' (some (s' : Int)) (some (t' : Int))) S7 = _
    rw [ct]; rfl
  have tl : tyS S3 (.obj S2.length) = some .list := by simp [k3]
  clear mx6 mx7 mm L2 L5 L7 at1 h ha hb hl n1 l1 oI b1 k4' n7'
  simp (config := { implicitDefEqProofs := false }) [lb_law_1, pos, ls, ls', es, et, he, nL, nU, ps.1, ps.2, bS, hh, r1, sr, tr, it2, r2, r3, k3, r4, q4, k4, lz, hS5, es', et', ps'.1, ps'.2, bS', hh', r6, hS7, n7, ct, io, pl, kL, kL2, kL5]
theorem law_true : ∀ ns : List Int, ns.length ≤ 63 → ∃ S, V_law [.scr (ns.map .int)] [] = .ok (.bl true) S := by
  intro ns hn
  obtain ⟨v, _, c0⟩ := acell_ok ns 0
  have c0 := c0 []
  obtain ⟨ks, T, b0, kn, k8⟩ := bounds_ok v []
  rw [List.nil_append] at b0
  have ha := asc_bounds kn
  have ls := len_setSort ks
  obtain ⟨bs, hb⟩ : ∃ bs, Str.ofString "" :: setSort ks = bs := ⟨_, rfl⟩
  have h9 : bs.length ≤ 9 := by rw [← hb, List.length_cons]; omega
  rw [hb] at ha b0
  have z := sz
  refine law_of ?_
  show (m_law ⟨[some (.scr (ns.map .int)), none, none, none, none, none, none, none, none, none, none], []⟩ []).ends _ _
  unfold m_law
  have s1 : mSet 1 (mCall V__law_bounds (mCons (mCall V__law_cell (mCons (mVar 0) (mCons (mC (.int 0)) mNil))) mNil)) ⟨[some (.scr (ns.map .int)), none, none, none, none, none, none, none, none, none, none], []⟩ [] = .nx ⟨[some (.scr (ns.map .int)), some (.lst (bs.map .str)), none, none, none, none, none, none, none, none, none], []⟩ T := by
    have c0' : V__law_cell [.scr (ns.map .int), .int 0] [] = .ok (.int v) [] := c0
    generalize ns.map D.int = nd at *
    generalize bs.map D.str = bd at *
    simp (config := { implicitDefEqProofs := false }) [c0', b0]
  rw [mSeq_ev, s1, RS.seq_nx, mSeq_ev]
  have s2 : mSet 2 (mCall fnLen (mCons (mVar 1) mNil)) ⟨[some (.scr (ns.map .int)), some (.lst (bs.map .str)), none, none, none, none, none, none, none, none, none], []⟩ T = .nx ⟨[some (.scr (ns.map .int)), some (.lst (bs.map .str)), some (.int bs.length), none, none, none, none, none, none, none, none], []⟩ T := by
    have : (bs.map D.str).length = bs.length := List.length_map ..
    generalize ns.map D.int = nd at *
    generalize bs.map D.str = bd at *
    simp (config := { implicitDefEqProofs := false }) [this]
  rw [s2, RS.seq_nx, mSeq_ev]
  have e0 : (List.replicate bs.length [D.int 0]).flatten = (List.replicate bs.length (0 : Int)).map .int := by
    rw [List.map_replicate]; simp
  have s3 : mSet 3 (mRep true (mLst false (mCons (mC (.int 0)) mNil)) (mVar 2)) ⟨[some (.scr (ns.map .int)), some (.lst (bs.map .str)), some (.int bs.length), none, none, none, none, none, none, none, none], []⟩ T = .nx ⟨[some (.scr (ns.map .int)), some (.lst (bs.map .str)), some (.int bs.length), some (.obj T.length), none, none, none, none, none, none, none], []⟩ (T ++ [.lst ((List.replicate bs.length (0 : Int)).map .int)]) := by
    have h2 : (bs.length : Int) < 9223372036854775808 := by omega
    have h3 : bs.length ≤ sizeLine := by omega
    rw [← e0]
    generalize ns.map D.int = nd at *
    generalize bs.map D.str = bd at *
    simp (config := { implicitDefEqProofs := false }) [repS, lvOf, h2, h3]
  rw [s3, RS.seq_nx, mSeq_ev]
  have s4 : mSet 4 (mNew 4 V_Epochs___init__ mNil) ⟨[some (.scr (ns.map .int)), some (.lst (bs.map .str)), some (.int bs.length), some (.obj T.length), none, none, none, none, none, none, none], []⟩ (T ++ [.lst ((List.replicate bs.length (0 : Int)).map .int)]) = .nx ⟨[some (.scr (ns.map .int)), some (.lst (bs.map .str)), some (.int bs.length), some (.obj T.length), some (.obj (T.length + 1)), none, none, none, none, none, none], []⟩ (T ++ [.lst ((List.replicate bs.length (0 : Int)).map .int)] ++ [.ins 4 [(0, .obj (T.length + 2))], .lst []]) := by
    have ln : (T ++ [O.lst ((List.replicate bs.length (0 : Int)).map .int)]).length = T.length + 1 := by simp
    generalize T ++ [O.lst ((List.replicate bs.length (0 : Int)).map .int)] = T1 at *
    generalize ns.map D.int = nd at *
    generalize bs.map D.str = bd at *
    rw [show T.length + 2 = T1.length + 1 by omega, ← ln]
    simp (config := { implicitDefEqProofs := false }) [V_Epochs___init__, m_Epochs___init__]
  rw [s4, RS.seq_nx, mSeq_ev]
  have L0 : LwAt (T ++ [.lst ((List.replicate bs.length (0 : Int)).map .int)] ++ [.ins 4 [(0, .obj (T.length + 2))], .lst []]) T.length (T.length + 1) bs (List.replicate bs.length 0) := by
    have l0 : lcells bs (List.replicate bs.length 0) = [] := by
      obtain ⟨d1, d2⟩ := fold_run (lrun_run (List.replicate bs.length (0 : Int)) ha)
      refine canon_one _ _ d1 True.intro fun k => (d2 k).trans ?_
      by_cases q : numAt (lrun bs (List.replicate bs.length 0)) k = 0
      · rw [q]; rfl
      · obtain ⟨c, hc, _, h2⟩ := num_ex _ _ q
        obtain ⟨i, hi, rfl⟩ := List.mem_map.mp hc
        rw [← h2]
        dsimp only
        rw [List.getD_eq_getElem?_getD, List.getElem?_replicate]
        split <;> rfl
    refine ⟨by simp, ⟨T.length + 2, by simp, by rw [l0]; simp⟩, by simp, fun n hm => ?_⟩
    rw [(List.mem_replicate.mp hm).2]
    exact Int.le_refl 0
  generalize T ++ [O.lst ((List.replicate bs.length (0 : Int)).map .int)] ++ [.ins 4 [(0, .obj (T.length + 2))], .lst []] = S0 at *
  obtain ⟨L, T2, dr, dp, _⟩ := draws_ok ns hn 1 20 S0
  have it : iAny (mCall V__law_draws (mCons (mVar 0) (mCons (mC (.int 1)) (mCons (mC (.int 20)) mNil)))) ⟨[some (.scr (ns.map .int)), some (.lst (bs.map .str)), some (.int bs.length), some (.obj T.length), some (.obj (T.length + 1)), none, none, none, none, none, none], []⟩ S0 = .ok ⟨L.map D.int, fun _ => True⟩ (S0 ++ T2) := by
    have dr' : V__law_draws [.scr (ns.map .int), .int 1, .int 20] S0 = .ok (.lst (L.map .int)) (S0 ++ T2) := dr
    generalize ns.map D.int = nd at *
    generalize bs.map D.str = bd at *
    generalize L.map D.int = ld at *
    simp (config := { implicitDefEqProofs := false }) [dr', wkA]
  rw [mFor_ev, it, BS.R.toS_ok]
  have L1 := L0.ext T2
  generalize S0 ++ T2 = S1 at *
  refine ends_seq (forL_ends (fun k e S' => ∃ (x5 x6 x7 x8 x9 x10 : Option D) (us : List Int), e = ⟨[some (.scr (ns.map .int)), some (.lst (bs.map .str)), some (.int bs.length), some (.obj T.length), some (.obj (T.length + 1)), x5, x6, x7, x8, x9, x10], []⟩ ∧ LwAt S' T.length (T.length + 1) bs us) ⟨_, _, _, _, _, _, _, rfl, L1⟩ (fun _ _ _ _ => True.intro) ?_ ?_)
  · rintro k d e S' hd ⟨x5, x6, x7, x8, x9, x10, us, rfl, hL⟩
    rw [List.getElem?_map, Option.map_eq_some_iff] at hd
    obtain ⟨c, hc, rfl⟩ := hd
    obtain ⟨y5, y6, y7, y8, y9, y10, S2, us2, q1, q2⟩ := law_step hb.symm ha h9 hL c (dp c (List.mem_of_getElem? hc)) (some (.scr (ns.map .int))) x5 x6 x7 x8 x9 x10
    rw [q1, turns_nx]
    exact ⟨_, _, _, _, _, _, us2, rfl, q2⟩
  · rintro e S' ⟨x5, x6, x7, x8, x9, x10, us, rfl, hL⟩
    have cl1 : (lcells bs us).length ≤ 100000 := Nat.le_trans (lcells_len bs us) (by omega)
    have r3 := rows_run hL.he cl1
    have r4 := lrows_run (hL.ext [.lst ((lcells bs us).map clD)]).hn hL.hl (by omega)
    have k3 : (S' ++ [O.lst ((lcells bs us).map clD)])[S'.length]? = some (.lst ((lcells bs us).map clD)) := by simp
    have k4 : (S' ++ [O.lst ((lcells bs us).map clD)] ++ [O.lst ((lcells bs us).map clD)])[S'.length]? = some (.lst ((lcells bs us).map clD)) := at_ext k3 _
    have k4' : (S' ++ [O.lst ((lcells bs us).map clD)] ++ [O.lst ((lcells bs us).map clD)])[(S' ++ [O.lst ((lcells bs us).map clD)]).length]? = some (.lst ((lcells bs us).map clD)) := by simp
    have q4 := eqS_objs k4 k4' (cls_fl _)
    have kL : isIns 4 S' (.obj (T.length + 1)) = true := by
      obtain ⟨c, h2, _⟩ := hL.he
      simp [isIns, h2]
    generalize (lcells bs us).map clD = rd at *
    generalize S' ++ [O.lst rd] = S3 at *
    generalize S3 ++ [O.lst rd] = S4 at *
    generalize ns.map D.int = nd at *
    generalize bs.map D.str = bd at *
    simp (config := { implicitDefEqProofs := false }) [r3, r4, q4, kL]
end L_k32
namespace L_k32
open PySem PySem.Spec PyProof.Rows L2 BS
theorem all_mk {P : Program} {w : World} {K : PySem.W.Frag} {h : Heap} {mg : Str → Option Value} {fa : Addr} (hF : ∀ ns : List Int, ns.length ≤ 63 → ∃ S, V_law [.scr (ns.map .int)] [] = .ok (.bl true) S) (X : K.In h) (G : h.Ns mainGlobals mg) (hfa : mg "law" = some (.ref fa))
    {C_Epochs : Addr}
    {f_below : Addr} {od_below an_below : Option Addr} {sl_below : Array (Option Value)} {oc_below kV_below dc_below pm_below cd_below ct_below : Value}
    {f_contains : Addr} {od_contains an_contains : Option Addr} {sl_contains : Array (Option Value)} {oc_contains kV_contains dc_contains pm_contains cd_contains ct_contains : Value}
    {f_overlap : Addr} {od_overlap an_overlap : Option Addr} {sl_overlap : Array (Option Value)} {oc_overlap kV_overlap dc_overlap pm_overlap cd_overlap ct_overlap : Value}
    {f_number_at : Addr} {od_number_at an_number_at : Option Addr} {sl_number_at : Array (Option Value)} {oc_number_at kV_number_at dc_number_at pm_number_at cd_number_at ct_number_at : Value}
    {f_highs : Addr} {od_highs an_highs : Option Addr} {sl_highs : Array (Option Value)} {oc_highs kV_highs dc_highs pm_highs cd_highs ct_highs : Value}
    {f_intervals : Addr} {od_intervals an_intervals : Option Addr} {sl_intervals : Array (Option Value)} {oc_intervals kV_intervals dc_intervals pm_intervals cd_intervals ct_intervals : Value}
    {f__law_cell : Addr} {od__law_cell an__law_cell : Option Addr} {sl__law_cell : Array (Option Value)} {oc__law_cell kV__law_cell dc__law_cell pm__law_cell cd__law_cell ct__law_cell : Value}
    {f__law_draws : Addr} {od__law_draws an__law_draws : Option Addr} {sl__law_draws : Array (Option Value)} {oc__law_draws kV__law_draws dc__law_draws pm__law_draws cd__law_draws ct__law_draws : Value}
    {f__law_key : Addr} {od__law_key an__law_key : Option Addr} {sl__law_key : Array (Option Value)} {oc__law_key kV__law_key dc__law_key pm__law_key cd__law_key ct__law_key : Value}
    {f__law_bounds : Addr} {od__law_bounds an__law_bounds : Option Addr} {sl__law_bounds : Array (Option Value)} {oc__law_bounds kV__law_bounds dc__law_bounds pm__law_bounds cd__law_bounds ct__law_bounds : Value}
    {f__law_high : Addr} {od__law_high an__law_high : Option Addr} {sl__law_high : Array (Option Value)} {oc__law_high kV__law_high dc__law_high pm__law_high cd__law_high ct__law_high : Value}
    {f__law_rows : Addr} {od__law_rows an__law_rows : Option Addr} {sl__law_rows : Array (Option Value)} {oc__law_rows kV__law_rows dc__law_rows pm__law_rows cd__law_rows ct__law_rows : Value}
    {f_Epochs___init__ : Addr} {od_Epochs___init__ an_Epochs___init__ : Option Addr} {sl_Epochs___init__ : Array (Option Value)} {oc_Epochs___init__ kV_Epochs___init__ dc_Epochs___init__ pm_Epochs___init__ cd_Epochs___init__ ct_Epochs___init__ : Value}
    {f_Epochs_greatest : Addr} {od_Epochs_greatest an_Epochs_greatest : Option Addr} {sl_Epochs_greatest : Array (Option Value)} {oc_Epochs_greatest kV_Epochs_greatest dc_Epochs_greatest pm_Epochs_greatest cd_Epochs_greatest ct_Epochs_greatest : Value}
    {f_Epochs_raise_to : Addr} {od_Epochs_raise_to an_Epochs_raise_to : Option Addr} {sl_Epochs_raise_to : Array (Option Value)} {oc_Epochs_raise_to kV_Epochs_raise_to dc_Epochs_raise_to pm_Epochs_raise_to cd_Epochs_raise_to ct_Epochs_raise_to : Value}
    {f_Epochs_rows : Addr} {od_Epochs_rows an_Epochs_rows : Option Addr} {sl_Epochs_rows : Array (Option Value)} {oc_Epochs_rows kV_Epochs_rows dc_Epochs_rows pm_Epochs_rows cd_Epochs_rows ct_Epochs_rows : Value}
    {f_law : Addr} {od_law an_law : Option Addr} {sl_law : Array (Option Value)} {oc_law kV_law dc_law pm_law cd_law ct_law : Value}
    (aC_Epochs : PySem.W.nsIn K mainGlobals "Epochs" = some (some (.ref C_Epochs)))
    (pg_Epochs : PySem.W.plainGet K C_Epochs Str.empty = true)
    (hd_Epochs : PySem.W.hasDictIn K C_Epochs = true)
    (po_Epochs : PySem.W.plainOver K C_Epochs = true)
    (sa_Epochs : PySem.W.findIn K (.ref C_Epochs) "__setattr__" = some (some (.builtin "object.__setattr__")))
    (mk_Epochs : PySem.W.makesIn K C_Epochs = true)
    (kc_Epochs : PySem.W.keepIn K (.ref C_Epochs) = true)
    (nf_Epochs_cells : PySem.W.findIn K (.ref C_Epochs) "cells" = some none)
    (z_range : PySem.W.nsIn K mainGlobals "range" = some none)
    (z_len : PySem.W.nsIn K mainGlobals "len" = some none)
    (z_sorted : PySem.W.nsIn K mainGlobals "sorted" = some none)
    (z_set : PySem.W.nsIn K mainGlobals "set" = some none)
    (z_int : PySem.W.nsIn K mainGlobals "int" = some none)
    (z_abs : PySem.W.nsIn K mainGlobals "abs" = some none)
    (z_max : PySem.W.nsIn K mainGlobals "max" = some none)
    (z_list : PySem.W.nsIn K mainGlobals "list" = some none)
    (z_isinstance : PySem.W.nsIn K mainGlobals "isinstance" = some none)
    (a_below : PySem.W.nsIn K mainGlobals "below" = some (some (.ref f_below)))
    (l_below : K.lookup f_below = some ⟨oc_below, od_below, .func (PySem.W.fnOf "below" "below" (defArgs s_below) (defBody s_below) (defScope s_below) .none kV_below dc_below pm_below an_below cd_below ct_below), sl_below⟩)
    (c_below : PySem.W.codeIn K cd_below "below" = true)
    (k_below : PySem.W.keepIn K (.ref f_below) = true)
    (a_contains : PySem.W.nsIn K mainGlobals "contains" = some (some (.ref f_contains)))
    (l_contains : K.lookup f_contains = some ⟨oc_contains, od_contains, .func (PySem.W.fnOf "contains" "contains" (defArgs s_contains) (defBody s_contains) (defScope s_contains) .none kV_contains dc_contains pm_contains an_contains cd_contains ct_contains), sl_contains⟩)
    (c_contains : PySem.W.codeIn K cd_contains "contains" = true)
    (k_contains : PySem.W.keepIn K (.ref f_contains) = true)
    (a_overlap : PySem.W.nsIn K mainGlobals "overlap" = some (some (.ref f_overlap)))
    (l_overlap : K.lookup f_overlap = some ⟨oc_overlap, od_overlap, .func (PySem.W.fnOf "overlap" "overlap" (defArgs s_overlap) (defBody s_overlap) (defScope s_overlap) .none kV_overlap dc_overlap pm_overlap an_overlap cd_overlap ct_overlap), sl_overlap⟩)
    (c_overlap : PySem.W.codeIn K cd_overlap "overlap" = true)
    (k_overlap : PySem.W.keepIn K (.ref f_overlap) = true)
    (a_number_at : PySem.W.nsIn K mainGlobals "number_at" = some (some (.ref f_number_at)))
    (l_number_at : K.lookup f_number_at = some ⟨oc_number_at, od_number_at, .func (PySem.W.fnOf "number_at" "number_at" (defArgs s_number_at) (defBody s_number_at) (defScope s_number_at) .none kV_number_at dc_number_at pm_number_at an_number_at cd_number_at ct_number_at), sl_number_at⟩)
    (c_number_at : PySem.W.codeIn K cd_number_at "number_at" = true)
    (k_number_at : PySem.W.keepIn K (.ref f_number_at) = true)
    (a_highs : PySem.W.nsIn K mainGlobals "highs" = some (some (.ref f_highs)))
    (l_highs : K.lookup f_highs = some ⟨oc_highs, od_highs, .func (PySem.W.fnOf "highs" "highs" (defArgs s_highs) (defBody s_highs) (defScope s_highs) .none kV_highs dc_highs pm_highs an_highs cd_highs ct_highs), sl_highs⟩)
    (c_highs : PySem.W.codeIn K cd_highs "highs" = true)
    (k_highs : PySem.W.keepIn K (.ref f_highs) = true)
    (a_intervals : PySem.W.nsIn K mainGlobals "intervals" = some (some (.ref f_intervals)))
    (l_intervals : K.lookup f_intervals = some ⟨oc_intervals, od_intervals, .func (PySem.W.fnOf "intervals" "intervals" (defArgs s_intervals) (defBody s_intervals) (defScope s_intervals) .none kV_intervals dc_intervals pm_intervals an_intervals cd_intervals ct_intervals), sl_intervals⟩)
    (c_intervals : PySem.W.codeIn K cd_intervals "intervals" = true)
    (k_intervals : PySem.W.keepIn K (.ref f_intervals) = true)
    (a__law_cell : PySem.W.nsIn K mainGlobals "_law_cell" = some (some (.ref f__law_cell)))
    (l__law_cell : K.lookup f__law_cell = some ⟨oc__law_cell, od__law_cell, .func (PySem.W.fnOf "_law_cell" "_law_cell" (defArgs s__law_cell) (defBody s__law_cell) (defScope s__law_cell) .none kV__law_cell dc__law_cell pm__law_cell an__law_cell cd__law_cell ct__law_cell), sl__law_cell⟩)
    (c__law_cell : PySem.W.codeIn K cd__law_cell "_law_cell" = true)
    (k__law_cell : PySem.W.keepIn K (.ref f__law_cell) = true)
    (a__law_draws : PySem.W.nsIn K mainGlobals "_law_draws" = some (some (.ref f__law_draws)))
    (l__law_draws : K.lookup f__law_draws = some ⟨oc__law_draws, od__law_draws, .func (PySem.W.fnOf "_law_draws" "_law_draws" (defArgs s__law_draws) (defBody s__law_draws) (defScope s__law_draws) .none kV__law_draws dc__law_draws pm__law_draws an__law_draws cd__law_draws ct__law_draws), sl__law_draws⟩)
    (c__law_draws : PySem.W.codeIn K cd__law_draws "_law_draws" = true)
    (k__law_draws : PySem.W.keepIn K (.ref f__law_draws) = true)
    (a__law_key : PySem.W.nsIn K mainGlobals "_law_key" = some (some (.ref f__law_key)))
    (l__law_key : K.lookup f__law_key = some ⟨oc__law_key, od__law_key, .func (PySem.W.fnOf "_law_key" "_law_key" (defArgs s__law_key) (defBody s__law_key) (defScope s__law_key) .none kV__law_key dc__law_key pm__law_key an__law_key cd__law_key ct__law_key), sl__law_key⟩)
    (c__law_key : PySem.W.codeIn K cd__law_key "_law_key" = true)
    (k__law_key : PySem.W.keepIn K (.ref f__law_key) = true)
    (a__law_bounds : PySem.W.nsIn K mainGlobals "_law_bounds" = some (some (.ref f__law_bounds)))
    (l__law_bounds : K.lookup f__law_bounds = some ⟨oc__law_bounds, od__law_bounds, .func (PySem.W.fnOf "_law_bounds" "_law_bounds" (defArgs s__law_bounds) (defBody s__law_bounds) (defScope s__law_bounds) .none kV__law_bounds dc__law_bounds pm__law_bounds an__law_bounds cd__law_bounds ct__law_bounds), sl__law_bounds⟩)
    (c__law_bounds : PySem.W.codeIn K cd__law_bounds "_law_bounds" = true)
    (k__law_bounds : PySem.W.keepIn K (.ref f__law_bounds) = true)
    (a__law_high : PySem.W.nsIn K mainGlobals "_law_high" = some (some (.ref f__law_high)))
    (l__law_high : K.lookup f__law_high = some ⟨oc__law_high, od__law_high, .func (PySem.W.fnOf "_law_high" "_law_high" (defArgs s__law_high) (defBody s__law_high) (defScope s__law_high) .none kV__law_high dc__law_high pm__law_high an__law_high cd__law_high ct__law_high), sl__law_high⟩)
    (c__law_high : PySem.W.codeIn K cd__law_high "_law_high" = true)
    (k__law_high : PySem.W.keepIn K (.ref f__law_high) = true)
    (a__law_rows : PySem.W.nsIn K mainGlobals "_law_rows" = some (some (.ref f__law_rows)))
    (l__law_rows : K.lookup f__law_rows = some ⟨oc__law_rows, od__law_rows, .func (PySem.W.fnOf "_law_rows" "_law_rows" (defArgs s__law_rows) (defBody s__law_rows) (defScope s__law_rows) .none kV__law_rows dc__law_rows pm__law_rows an__law_rows cd__law_rows ct__law_rows), sl__law_rows⟩)
    (c__law_rows : PySem.W.codeIn K cd__law_rows "_law_rows" = true)
    (k__law_rows : PySem.W.keepIn K (.ref f__law_rows) = true)
    (a_Epochs___init__ : PySem.W.findIn K (.ref C_Epochs) "__init__" = some (some (.ref f_Epochs___init__)))
    (i_Epochs___init__ : PySem.W.isFn K (.ref f_Epochs___init__) = true)
    (l_Epochs___init__ : K.lookup f_Epochs___init__ = some ⟨oc_Epochs___init__, od_Epochs___init__, .func (PySem.W.fnOf "__init__" "Epochs.__init__" (defArgs s_Epochs___init__) (defBody s_Epochs___init__) (defScope s_Epochs___init__) .none kV_Epochs___init__ dc_Epochs___init__ pm_Epochs___init__ an_Epochs___init__ cd_Epochs___init__ ct_Epochs___init__), sl_Epochs___init__⟩)
    (c_Epochs___init__ : PySem.W.codeIn K cd_Epochs___init__ "Epochs.__init__" = true)
    (k_Epochs___init__ : PySem.W.keepIn K (.ref f_Epochs___init__) = true)
    (a_Epochs_greatest : PySem.W.findIn K (.ref C_Epochs) "greatest" = some (some (.ref f_Epochs_greatest)))
    (i_Epochs_greatest : PySem.W.isFn K (.ref f_Epochs_greatest) = true)
    (l_Epochs_greatest : K.lookup f_Epochs_greatest = some ⟨oc_Epochs_greatest, od_Epochs_greatest, .func (PySem.W.fnOf "greatest" "Epochs.greatest" (defArgs s_Epochs_greatest) (defBody s_Epochs_greatest) (defScope s_Epochs_greatest) .none kV_Epochs_greatest dc_Epochs_greatest pm_Epochs_greatest an_Epochs_greatest cd_Epochs_greatest ct_Epochs_greatest), sl_Epochs_greatest⟩)
    (c_Epochs_greatest : PySem.W.codeIn K cd_Epochs_greatest "Epochs.greatest" = true)
    (k_Epochs_greatest : PySem.W.keepIn K (.ref f_Epochs_greatest) = true)
    (a_Epochs_raise_to : PySem.W.findIn K (.ref C_Epochs) "raise_to" = some (some (.ref f_Epochs_raise_to)))
    (i_Epochs_raise_to : PySem.W.isFn K (.ref f_Epochs_raise_to) = true)
    (l_Epochs_raise_to : K.lookup f_Epochs_raise_to = some ⟨oc_Epochs_raise_to, od_Epochs_raise_to, .func (PySem.W.fnOf "raise_to" "Epochs.raise_to" (defArgs s_Epochs_raise_to) (defBody s_Epochs_raise_to) (defScope s_Epochs_raise_to) .none kV_Epochs_raise_to dc_Epochs_raise_to pm_Epochs_raise_to an_Epochs_raise_to cd_Epochs_raise_to ct_Epochs_raise_to), sl_Epochs_raise_to⟩)
    (c_Epochs_raise_to : PySem.W.codeIn K cd_Epochs_raise_to "Epochs.raise_to" = true)
    (k_Epochs_raise_to : PySem.W.keepIn K (.ref f_Epochs_raise_to) = true)
    (a_Epochs_rows : PySem.W.findIn K (.ref C_Epochs) "rows" = some (some (.ref f_Epochs_rows)))
    (i_Epochs_rows : PySem.W.isFn K (.ref f_Epochs_rows) = true)
    (l_Epochs_rows : K.lookup f_Epochs_rows = some ⟨oc_Epochs_rows, od_Epochs_rows, .func (PySem.W.fnOf "rows" "Epochs.rows" (defArgs s_Epochs_rows) (defBody s_Epochs_rows) (defScope s_Epochs_rows) .none kV_Epochs_rows dc_Epochs_rows pm_Epochs_rows an_Epochs_rows cd_Epochs_rows ct_Epochs_rows), sl_Epochs_rows⟩)
    (c_Epochs_rows : PySem.W.codeIn K cd_Epochs_rows "Epochs.rows" = true)
    (k_Epochs_rows : PySem.W.keepIn K (.ref f_Epochs_rows) = true)
    (a_law : PySem.W.nsIn K mainGlobals "law" = some (some (.ref f_law)))
    (l_law : K.lookup f_law = some ⟨oc_law, od_law, .func (PySem.W.fnOf "law" "law" (defArgs s_law) (defBody s_law) (defScope s_law) .none kV_law dc_law pm_law an_law cd_law ct_law), sl_law⟩)
    (c_law : PySem.W.codeIn K cd_law "law" = true)
    (k_law : PySem.W.keepIn K (.ref f_law) = true)
    : ∃ fd : FuncData, (∀ (s : Shared) (u : Value), BindsTo s fd ⟨[u], []⟩ [("_law_script", u)]) ∧ ∀ base : Heap, K.In base → base.Ns mainGlobals mg → FnOk P w K mg base (L2.CX P w) 5 fa fd ["_law_script"] (spLaw K) := by
  have e := hfa.symm.trans (PySem.W.mg_of X G a_law)
  cases e
  refine ⟨PySem.W.fnOf "law" "law" (defArgs s_law) (defBody s_law) (defScope s_law) .none kV_law dc_law pm_law an_law cd_law ct_law, fun s u => .of_eq rfl, fun base _ _ => ?_⟩
  have gC_Epochs : mg "Epochs" = some (.ref C_Epochs) := PySem.W.mg_of X G aC_Epochs
  have cls_Epochs : Cls K C_Epochs := ⟨pg_Epochs, hd_Epochs, po_Epochs, sa_Epochs⟩
  have F_below := fun_mk (st := s_below) l_below c_below k_below
  have b_below := F_below.binds (ps := ["one", "other"]) fun _ _ _ _ _ _ us hl => match us, hl with | [_, _], _ => rfl
  have F_contains := fun_mk (st := s_contains) l_contains c_contains k_contains
  have b_contains := F_contains.binds (ps := ["low", "high", "bound"]) fun _ _ _ _ _ _ us hl => match us, hl with | [_, _, _], _ => rfl
  have F_overlap := fun_mk (st := s_overlap) l_overlap c_overlap k_overlap
  have b_overlap := F_overlap.binds (ps := ["low", "high", "other_low", "other_high"]) fun _ _ _ _ _ _ us hl => match us, hl with | [_, _, _, _], _ => rfl
  have F_number_at := fun_mk (st := s_number_at) l_number_at c_number_at k_number_at
  have b_number_at := F_number_at.binds (ps := ["cells", "key"]) fun _ _ _ _ _ _ us hl => match us, hl with | [_, _], _ => rfl
  have F_highs := fun_mk (st := s_highs) l_highs c_highs k_highs
  have b_highs := F_highs.binds (ps := ["cells", "high"]) fun _ _ _ _ _ _ us hl => match us, hl with | [_, _], _ => rfl
  have F_intervals := fun_mk (st := s_intervals) l_intervals c_intervals k_intervals
  have b_intervals := F_intervals.binds (ps := ["cells", "low", "high"]) fun _ _ _ _ _ _ us hl => match us, hl with | [_, _, _], _ => rfl
  have F__law_cell := fun_mk (st := s__law_cell) l__law_cell c__law_cell k__law_cell
  have b__law_cell := F__law_cell.binds (ps := ["_law_script", "_law_k"]) fun _ _ _ _ _ _ us hl => match us, hl with | [_, _], _ => rfl
  have F__law_draws := fun_mk (st := s__law_draws) l__law_draws c__law_draws k__law_draws
  have b__law_draws := F__law_draws.binds (ps := ["_law_script", "_law_start", "_law_most"]) fun _ _ _ _ _ _ us hl => match us, hl with | [_, _, _], _ => rfl
  have F__law_key := fun_mk (st := s__law_key) l__law_key c__law_key k__law_key
  have b__law_key := F__law_key.binds (ps := ["_law_number"]) fun _ _ _ _ _ _ us hl => match us, hl with | [_], _ => rfl
  have F__law_bounds := fun_mk (st := s__law_bounds) l__law_bounds c__law_bounds k__law_bounds
  have b__law_bounds := F__law_bounds.binds (ps := ["_law_cell_here"]) fun _ _ _ _ _ _ us hl => match us, hl with | [_], _ => rfl
  have F__law_high := fun_mk (st := s__law_high) l__law_high c__law_high k__law_high
  have b__law_high := F__law_high.binds (ps := ["_law_bounds_here", "_law_at"]) fun _ _ _ _ _ _ us hl => match us, hl with | [_, _], _ => rfl
  have F__law_rows := fun_mk (st := s__law_rows) l__law_rows c__law_rows k__law_rows
  have b__law_rows := F__law_rows.binds (ps := ["_law_bounds_here", "_law_numbers"]) fun _ _ _ _ _ _ us hl => match us, hl with | [_, _], _ => rfl
  have F_Epochs___init__ := fun_mk (st := s_Epochs___init__) l_Epochs___init__ c_Epochs___init__ k_Epochs___init__
  have b_Epochs___init__ := F_Epochs___init__.binds (ps := ["self"]) fun _ _ _ _ _ _ us hl => match us, hl with | [_], _ => rfl
  have F_Epochs_greatest := fun_mk (st := s_Epochs_greatest) l_Epochs_greatest c_Epochs_greatest k_Epochs_greatest
  have b_Epochs_greatest := F_Epochs_greatest.binds (ps := ["self", "low", "high"]) fun _ _ _ _ _ _ us hl => match us, hl with | [_, _, _], _ => rfl
  have F_Epochs_raise_to := fun_mk (st := s_Epochs_raise_to) l_Epochs_raise_to c_Epochs_raise_to k_Epochs_raise_to
  have b_Epochs_raise_to := F_Epochs_raise_to.binds (ps := ["self", "low", "high", "epoch"]) fun _ _ _ _ _ _ us hl => match us, hl with | [_, _, _, _], _ => rfl
  have F_Epochs_rows := fun_mk (st := s_Epochs_rows) l_Epochs_rows c_Epochs_rows k_Epochs_rows
  have b_Epochs_rows := F_Epochs_rows.binds (ps := ["self"]) fun _ _ _ _ _ _ us hl => match us, hl with | [_], _ => rfl
  have F_law := fun_mk (st := s_law) l_law c_law k_law
  have o_below : FnOk P w K mg base (L2.CX P w) 1 f_below _ ["one", "other"] (spD nm K mg 2 V_below) := ok_below F_below 
  have q0 : DefOk P w K mg base nm 1 "below" 2 V_below := def_mk (PySem.W.mg_of X G a_below) k_below rfl b_below o_below
  have o_contains : FnOk P w K mg base (L2.CX P w) 2 f_contains _ ["low", "high", "bound"] (spD nm K mg 3 V_contains) := ok_contains F_contains q0
  have o_overlap : FnOk P w K mg base (L2.CX P w) 2 f_overlap _ ["low", "high", "other_low", "other_high"] (spD nm K mg 4 V_overlap) := ok_overlap F_overlap q0
  have q1 : DefOk P w K mg base nm 2 "contains" 3 V_contains := def_mk (PySem.W.mg_of X G a_contains) k_contains rfl b_contains o_contains
  have o_number_at : FnOk P w K mg base (L2.CX P w) 3 f_number_at _ ["cells", "key"] (spD nm K mg 2 V_number_at) := ok_number_at F_number_at q1
  have o_highs : FnOk P w K mg base (L2.CX P w) 1 f_highs _ ["cells", "high"] (spD nm K mg 2 V_highs) := ok_highs F_highs 
  have q2 : DefOk P w K mg base nm 1 "highs" 2 V_highs := def_mk (PySem.W.mg_of X G a_highs) k_highs rfl b_highs o_highs
  have q3 : mg "range" = none := PySem.W.mg_none_of X G z_range
  have q4 : mg "len" = none := PySem.W.mg_none_of X G z_len
  have q5 : mg "sorted" = none := PySem.W.mg_none_of X G z_sorted
  have q6 : mg "set" = none := PySem.W.mg_none_of X G z_set
  have o_intervals : FnOk P w K mg base (L2.CX P w) 2 f_intervals _ ["cells", "low", "high"] (spD nm K mg 3 V_intervals) := ok_intervals F_intervals q2 q3 q4 q5 q6
  have q7 : mg "int" = none := PySem.W.mg_none_of X G z_int
  have q8 : mg "abs" = none := PySem.W.mg_none_of X G z_abs
  have o__law_cell : FnOk P w K mg base (L2.CX P w) 1 f__law_cell _ ["_law_script", "_law_k"] (spD nm K mg 2 V__law_cell) := ok__law_cell F__law_cell q4 q7 q8
  have o__law_draws : FnOk P w K mg base (L2.CX P w) 1 f__law_draws _ ["_law_script", "_law_start", "_law_most"] (spD nm K mg 3 V__law_draws) := ok__law_draws F__law_draws q7 q3 q8
  have o__law_key : FnOk P w K mg base (L2.CX P w) 1 f__law_key _ ["_law_number"] (spD nm K mg 1 V__law_key) := ok__law_key F__law_key q3 q7
  have q9 : DefOk P w K mg base nm 1 "_law_key" 1 V__law_key := def_mk (PySem.W.mg_of X G a__law_key) k__law_key rfl b__law_key o__law_key
  have o__law_bounds : FnOk P w K mg base (L2.CX P w) 2 f__law_bounds _ ["_law_cell_here"] (spD nm K mg 1 V__law_bounds) := ok__law_bounds F__law_bounds q5 q6 q3 q9
  have o__law_high : FnOk P w K mg base (L2.CX P w) 1 f__law_high _ ["_law_bounds_here", "_law_at"] (spD nm K mg 2 V__law_high) := ok__law_high F__law_high q4
  have q10 : DefOk P w K mg base nm 1 "_law_high" 2 V__law_high := def_mk (PySem.W.mg_of X G a__law_high) k__law_high rfl b__law_high o__law_high
  have o__law_rows : FnOk P w K mg base (L2.CX P w) 2 f__law_rows _ ["_law_bounds_here", "_law_numbers"] (spD nm K mg 2 V__law_rows) := ok__law_rows F__law_rows q3 q4 q10
  have q11 : FldOk K mg nm [4] 0 := (fld_one (x := "Epochs") (fx := "cells") (by decide +kernel) cl_Epochs fl_cells gC_Epochs cls_Epochs nf_Epochs_cells)
  have o_Epochs___init__ : FnOk P w K mg base (L2.CX P w) 1 f_Epochs___init__ _ ["self"] (spD nm K mg 1 V_Epochs___init__) := ok_Epochs___init__ F_Epochs___init__ q11
  have q12 : DefOk P w K mg base nm 2 "overlap" 4 V_overlap := def_mk (PySem.W.mg_of X G a_overlap) k_overlap rfl b_overlap o_overlap
  have q13 : mg "max" = none := PySem.W.mg_none_of X G z_max
  have o_Epochs_greatest : FnOk P w K mg base (L2.CX P w) 3 f_Epochs_greatest _ ["self", "low", "high"] (spD nm K mg 3 V_Epochs_greatest) := ok_Epochs_greatest F_Epochs_greatest q11 q12 q13
  have q14 : DefOk P w K mg base nm 2 "intervals" 3 V_intervals := def_mk (PySem.W.mg_of X G a_intervals) k_intervals rfl b_intervals o_intervals
  have q15 : DefOk P w K mg base nm 3 "number_at" 2 V_number_at := def_mk (PySem.W.mg_of X G a_number_at) k_number_at rfl b_number_at o_number_at
  have o_Epochs_raise_to : FnOk P w K mg base (L2.CX P w) 4 f_Epochs_raise_to _ ["self", "low", "high", "epoch"] (spD nm K mg 4 V_Epochs_raise_to) := ok_Epochs_raise_to F_Epochs_raise_to q11 q14 q4 q1 q13 q15
  have q16 : mg "list" = none := PySem.W.mg_none_of X G z_list
  have o_Epochs_rows : FnOk P w K mg base (L2.CX P w) 1 f_Epochs_rows _ ["self"] (spD nm K mg 1 V_Epochs_rows) := ok_Epochs_rows F_Epochs_rows q11 q16
  have q17 : MethOk P w K mg base nm 1 4 "rows" 1 V_Epochs_rows := meth_mk cl_Epochs gC_Epochs cls_Epochs a_Epochs_rows i_Epochs_rows k_Epochs_rows rfl b_Epochs_rows o_Epochs_rows (by decide +kernel)
  have q18 : DefOk P w K mg base nm 2 "_law_rows" 2 V__law_rows := def_mk (PySem.W.mg_of X G a__law_rows) k__law_rows rfl b__law_rows o__law_rows
  have q19 : DefOk P w K mg base nm 1 "_law_draws" 3 V__law_draws := def_mk (PySem.W.mg_of X G a__law_draws) k__law_draws rfl b__law_draws o__law_draws
  have q20 : MethOk P w K mg base nm 3 4 "greatest" 3 V_Epochs_greatest := meth_mk cl_Epochs gC_Epochs cls_Epochs a_Epochs_greatest i_Epochs_greatest k_Epochs_greatest rfl b_Epochs_greatest o_Epochs_greatest (by decide +kernel)
  have q21 : mg "isinstance" = none := PySem.W.mg_none_of X G z_isinstance
  have q22 : MethOk P w K mg base nm 4 4 "raise_to" 4 V_Epochs_raise_to := meth_mk cl_Epochs gC_Epochs cls_Epochs a_Epochs_raise_to i_Epochs_raise_to k_Epochs_raise_to rfl b_Epochs_raise_to o_Epochs_raise_to (by decide +kernel)
  have q23 : MakeOk P w K mg base nm 1 4 0 V_Epochs___init__ := make_mk cl_Epochs gC_Epochs mk_Epochs a_Epochs___init__ i_Epochs___init__ kc_Epochs rfl b_Epochs___init__ o_Epochs___init__
  have q24 : DefOk P w K mg base nm 2 "_law_bounds" 1 V__law_bounds := def_mk (PySem.W.mg_of X G a__law_bounds) k__law_bounds rfl b__law_bounds o__law_bounds
  have q25 : DefOk P w K mg base nm 1 "_law_cell" 2 V__law_cell := def_mk (PySem.W.mg_of X G a__law_cell) k__law_cell rfl b__law_cell o__law_cell
  exact law_end (ok_law F_law q17 q18 q19 q20 q10 q13 q21 q16 q3 q22 q23 q4 q24 q25) hF
end L_k32
open PySem PySem.W PyProof.Rows
set_option maxRecDepth 100000 in
set_option maxHeartbeats 0 in
theorem PySem.Challenge.cw_boundstone_k32_epochs_of_keys_holds : PySem.Challenge.rw_boundstone_k32_epochs_of_keys.Holds := by
  w_on; o_law; k_head; (case hw => w_witness2)
  k_fill
  refine BS.walk (l := PySem.Challenge.rw_boundstone_k32_epochs_of_keys) (k := 5) (x := "_law_script") rfl rfl ⟨rfl, by decide, by decide⟩ (fun w h Y => PySem.W.kIn_of Y) ?F
  case F =>
    intro w mg fa h KX G hmg
    refine' L_k32.all_mk L_k32.law_true KX G hmg ?aC_Epochs ?pg_Epochs ?hd_Epochs ?po_Epochs ?sa_Epochs ?mk_Epochs ?kc_Epochs ?nf_Epochs_cells ?z_range ?z_len ?z_sorted ?z_set ?z_int ?z_abs ?z_max ?z_list ?z_isinstance ?a_below ?l_below ?c_below ?k_below ?a_contains ?l_contains ?c_contains ?k_contains ?a_overlap ?l_overlap ?c_overlap ?k_overlap ?a_number_at ?l_number_at ?c_number_at ?k_number_at ?a_highs ?l_highs ?c_highs ?k_highs ?a_intervals ?l_intervals ?c_intervals ?k_intervals ?a__law_cell ?l__law_cell ?c__law_cell ?k__law_cell ?a__law_draws ?l__law_draws ?c__law_draws ?k__law_draws ?a__law_key ?l__law_key ?c__law_key ?k__law_key ?a__law_bounds ?l__law_bounds ?c__law_bounds ?k__law_bounds ?a__law_high ?l__law_high ?c__law_high ?k__law_high ?a__law_rows ?l__law_rows ?c__law_rows ?k__law_rows ?a_Epochs___init__ ?i_Epochs___init__ ?l_Epochs___init__ ?c_Epochs___init__ ?k_Epochs___init__ ?a_Epochs_greatest ?i_Epochs_greatest ?l_Epochs_greatest ?c_Epochs_greatest ?k_Epochs_greatest ?a_Epochs_raise_to ?i_Epochs_raise_to ?l_Epochs_raise_to ?c_Epochs_raise_to ?k_Epochs_raise_to ?a_Epochs_rows ?i_Epochs_rows ?l_Epochs_rows ?c_Epochs_rows ?k_Epochs_rows ?a_law ?l_law ?c_law ?k_law
    (case aC_Epochs => k_is)
    (case pg_Epochs => k_is)
    (case hd_Epochs => k_is)
    (case po_Epochs => k_is)
    (case sa_Epochs => k_is)
    (case mk_Epochs => k_is)
    (case kc_Epochs => k_is)
    (case nf_Epochs_cells => k_is)
    (case z_range => k_is)
    (case z_len => k_is)
    (case z_sorted => k_is)
    (case z_set => k_is)
    (case z_int => k_is)
    (case z_abs => k_is)
    (case z_max => k_is)
    (case z_list => k_is)
    (case z_isinstance => k_is)
    (case a_below => k_is)
    (case l_below => k_is)
    (case c_below => k_is)
    (case k_below => k_is)
    (case a_contains => k_is)
    (case l_contains => k_is)
    (case c_contains => k_is)
    (case k_contains => k_is)
    (case a_overlap => k_is)
    (case l_overlap => k_is)
    (case c_overlap => k_is)
    (case k_overlap => k_is)
    (case a_number_at => k_is)
    (case l_number_at => k_is)
    (case c_number_at => k_is)
    (case k_number_at => k_is)
    (case a_highs => k_is)
    (case l_highs => k_is)
    (case c_highs => k_is)
    (case k_highs => k_is)
    (case a_intervals => k_is)
    (case l_intervals => k_is)
    (case c_intervals => k_is)
    (case k_intervals => k_is)
    (case a__law_cell => k_is)
    (case l__law_cell => k_is)
    (case c__law_cell => k_is)
    (case k__law_cell => k_is)
    (case a__law_draws => k_is)
    (case l__law_draws => k_is)
    (case c__law_draws => k_is)
    (case k__law_draws => k_is)
    (case a__law_key => k_is)
    (case l__law_key => k_is)
    (case c__law_key => k_is)
    (case k__law_key => k_is)
    (case a__law_bounds => k_is)
    (case l__law_bounds => k_is)
    (case c__law_bounds => k_is)
    (case k__law_bounds => k_is)
    (case a__law_high => k_is)
    (case l__law_high => k_is)
    (case c__law_high => k_is)
    (case k__law_high => k_is)
    (case a__law_rows => k_is)
    (case l__law_rows => k_is)
    (case c__law_rows => k_is)
    (case k__law_rows => k_is)
    (case a_Epochs___init__ => k_is)
    (case i_Epochs___init__ => k_is)
    (case l_Epochs___init__ => k_is)
    (case c_Epochs___init__ => k_is)
    (case k_Epochs___init__ => k_is)
    (case a_Epochs_greatest => k_is)
    (case i_Epochs_greatest => k_is)
    (case l_Epochs_greatest => k_is)
    (case c_Epochs_greatest => k_is)
    (case k_Epochs_greatest => k_is)
    (case a_Epochs_raise_to => k_is)
    (case i_Epochs_raise_to => k_is)
    (case l_Epochs_raise_to => k_is)
    (case c_Epochs_raise_to => k_is)
    (case k_Epochs_raise_to => k_is)
    (case a_Epochs_rows => k_is)
    (case i_Epochs_rows => k_is)
    (case l_Epochs_rows => k_is)
    (case c_Epochs_rows => k_is)
    (case k_Epochs_rows => k_is)
    (case a_law => k_is)
    (case l_law => k_is)
    (case c_law => k_is)
    (case k_law => k_is)
