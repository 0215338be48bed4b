import PyProof.Rows.All
import Wide.All
import OpenK.AllK
import Wide.FinOn
import HandS.ForMost
import HandS.ForExc
import HandS.Wide
import HandS.CallSlots
import HandS.HotCalls
import KE.DataEq
import KE.DataCmp
import HandS.IsInst
import HandS.TupAny
import HandS.ExcInit
import KE.KxIndex
import HandS.ExcIs
import HandS.SortInts
import HandS.More
import HandS.DictComp
import HandS.Style
import HandS.SortKw
import HandS.Text
import HandS.StrMore
import HandS.StrSplit
import HandS.FStr
import HandS.ReplaceLit
import PyProof.StrLawsOcc
import PyProof.StrLawsFirst
import PySem.Challenge.RW_boundstone_k03_encode
set_option Elab.async false
set_option linter.all false
set_option maxRecDepth 100000
set_option maxHeartbeats 4000000
namespace BS
open PySem PySem.Spec PyProof.Rows L2
/-- plain data by value (lst: a list that nobody changes any more; scr: the script); obj n: the n-th object of the store -/
inductive D where
  | non | bl (b : Bool) | int (i : Int) | str (x : Str) | tup (ds : List D) | lst (ds : List D) | scr (ds : List D) | obj (n : Nat)
/-- objects that may change; classes and fields by numbers; lck: a dict over which a loop runs -/
inductive O where
  | lst (ds : List D) | dct (kvs : List (Key × D)) | ins (c : Nat) (fs : List (Nat × D)) | lck (kvs : List (Key × D))
abbrev Store := List O
inductive R (α : Type) where
  | ok (a : α) (S : Store) | exc (c : Nat) (fs : List (Nat × D)) (S : Store) | stuck
def R.bind {α β : Type} (r : R α) (k : α → Store → R β) : R β := match r with
  | .ok a S => k a S
  | .exc c fs S => .exc c fs S
  | .stuck => .stuck
@[simp] theorem R.bind_ok {α β : Type} (a : α) (S : Store) (k : α → Store → R β) : (R.ok a S).bind k = k a S := rfl
@[simp] theorem R.bind_exc {α β : Type} (c : Nat) (fs : List (Nat × D)) (S : Store) (k : α → Store → R β) : (R.exc c fs S).bind k = .exc c fs S := rfl
@[simp] theorem R.bind_stuck {α β : Type} (k : α → Store → R β) : (R.stuck : R α).bind k = .stuck := rfl
/-- the names' values; ex: the caught exceptions that names stand for -/
structure Ev where
  sl : List (Option D)
  ex : List (Nat × Nat × List (Nat × D)) := []
inductive RS where
  | nx (e : Ev) (S : Store) | rt (d : D) (S : Store) | bk (e : Ev) (S : Store) | ct (e : Ev) (S : Store) | exc (c : Nat) (fs : List (Nat × D)) (e : Ev) (S : Store) | stuck
abbrev EM := Ev → Store → R D
abbrev TM := Ev → Store → R Bool
abbrev AM := Ev → Store → R (List D)
abbrev SM := Ev → Store → RS
abbrev GM := D → Ev → Store → RS
/-- a def -/
abbrev FM := List D → Store → R D
/-- how classes and fields are named -/
structure Nms where
  cls : Nat → Str
  fld : Nat → Str
  most : Nat
  inj : ∀ i j, i < most → j < most → fld i = fld j → i = j
def KTup (K : PySem.W.Frag) (a : Addr) (xs : List V) : Prop :=
  ∃ (o : Obj) (its : Array Value) (n : Nat), K.lookup a = some o ∧ o.cls = .type "tuple" ∧ o.data = .seq its n ∧ its.size ≤ sizeLine ∧ Vals xs its.toList
def KLst (K : PySem.W.Frag) (a : Addr) (xs : List V) : Prop :=
  ∃ (o : Obj) (its : Array Value) (n : Nat), K.lookup a = some o ∧ o.cls = .type "list" ∧ o.dict = none ∧ o.data = .seq its n ∧ its.size ≤ sizeLine ∧ Vals xs its.toList
def TupAt (K : PySem.W.Frag) (H : Hp) (μ : List Addr) (a : Addr) (xs : List V) : Prop := (a ∉ μ ∧ Rd H a (.tup xs)) ∨ KTup K a xs
def LstAt (H : Hp) (μ : List Addr) (a : Addr) (xs : List V) : Prop := a ∉ μ ∧ H a = some (.lst xs)
def ScrAt (K : PySem.W.Frag) (H : Hp) (μ : List Addr) (a : Addr) (xs : List V) : Prop := (a ∉ μ ∧ Rd H a (.lst xs)) ∨ KLst K a xs
theorem TupAt.sq {K : PySem.W.Frag} {H : Hp} {μ : List Addr} {a : Addr} {xs : List V} (h : TupAt K H μ a xs) : SqT K H a xs := h.elim (fun h => .inl h.2) .inr
theorem ScrAt.sq {K : PySem.W.Frag} {H : Hp} {μ : List Addr} {a : Addr} {xs : List V} (h : ScrAt K H μ a xs) : SqL K H a xs := h.elim (fun h => .inl h.2) .inr
mutual
inductive RV (K : PySem.W.Frag) (H : Hp) (μ : List Addr) : V → D → Prop
  | non : RV K H μ .non .non
  | bl (b : Bool) : RV K H μ (.bl b) (.bl b)
  | int (i : Int) : RV K H μ (.int i) (.int i)
  | str (x : Str) : RV K H μ (.str x) (.str x)
  | tup {a : Addr} {xs : List V} {ds : List D} : TupAt K H μ a xs → RVs K H μ xs ds → RV K H μ (.ref a) (.tup ds)
  | lst {a : Addr} {xs : List V} {ds : List D} : LstAt H μ a xs → RVs K H μ xs ds → RV K H μ (.ref a) (.lst ds)
  | scr {a : Addr} {xs : List V} {ds : List D} : ScrAt K H μ a xs → RVs K H μ xs ds → RV K H μ (.ref a) (.scr ds)
  | obj {a : Addr} {n : Nat} : μ[n]? = some a → RV K H μ (.ref a) (.obj n)
inductive RVs (K : PySem.W.Frag) (H : Hp) (μ : List Addr) : List V → List D → Prop
  | nil : RVs K H μ [] []
  | cons {v : V} {vs : List V} {d : D} {ds : List D} : RV K H μ v d → RVs K H μ vs ds → RVs K H μ (v :: vs) (d :: ds)
end
section
variable {K : PySem.W.Frag} {H H' : Hp} {μ μ' : List Addr}
theorem RVs.length : ∀ {vs : List V} {ds : List D}, RVs K H μ vs ds → vs.length = ds.length
  | [], _, h => by cases h; rfl
  | _ :: vs, _, h => by
    cases h with
    | cons _ t => simp only [List.length_cons, RVs.length t]
theorem RVs.get : ∀ {vs : List V} {ds : List D} {i : Nat} {d : D}, RVs K H μ vs ds → ds[i]? = some d → ∃ v, vs[i]? = some v ∧ RV K H μ v d
  | [], _, _, _, h, e => by cases h; simp at e
  | v :: vs, _, 0, d, h, e => by
    cases h with
    | cons r _ => simp at e; subst e; exact ⟨v, rfl, r⟩
  | v :: vs, _, i + 1, d, h, e => by
    cases h with
    | cons _ t => exact RVs.get (vs := vs) t (by simpa using e)
theorem RVs.get' : ∀ {vs : List V} {ds : List D} {i : Nat} {v : V}, RVs K H μ vs ds → vs[i]? = some v → ∃ d, ds[i]? = some d ∧ RV K H μ v d
  | [], _, _, _, h, e => by simp at e
  | v :: vs, _, 0, w, h, e => by
    cases h with
    | cons r _ => simp at e; subst e; exact ⟨_, rfl, r⟩
  | v :: vs, _, i + 1, w, h, e => by
    cases h with
    | cons _ t =>
      obtain ⟨d, e1, r⟩ := RVs.get' (i := i) t (by simpa using e)
      exact ⟨d, by simpa using e1, r⟩
theorem RVs.append : ∀ {vs ws : List V} {ds es : List D}, RVs K H μ vs ds → RVs K H μ ws es → RVs K H μ (vs ++ ws) (ds ++ es)
  | [], _, _, _, h, t => by cases h; exact t
  | _ :: _, _, _, _, h, t => by
    cases h with
    | cons r h => exact .cons r (RVs.append h t)
theorem RVs.take : ∀ {vs : List V} {ds : List D} (n : Nat), RVs K H μ vs ds → RVs K H μ (vs.take n) (ds.take n)
  | _, _, 0, _ => .nil
  | [], _, _ + 1, h => by cases h; exact .nil
  | _ :: _, _, n + 1, h => by
    cases h with
    | cons r h => exact .cons r (RVs.take n h)
theorem RVs.drop : ∀ {vs : List V} {ds : List D} (n : Nat), RVs K H μ vs ds → RVs K H μ (vs.drop n) (ds.drop n)
  | _, _, 0, h => h
  | [], _, _ + 1, h => by cases h; exact .nil
  | _ :: _, _, n + 1, h => by
    cases h with
    | cons r h => exact RVs.drop n h
theorem RVs.set : ∀ {vs : List V} {ds : List D} (n : Nat) {v : V} {d : D}, RVs K H μ vs ds → RV K H μ v d → RVs K H μ (vs.set n v) (ds.set n d)
  | [], _, _, _, _, h, _ => by cases h; exact .nil
  | _ :: _, _, 0, _, _, h, r => by
    cases h with
    | cons _ h => exact .cons r h
  | _ :: _, _, n + 1, _, _, h, r => by
    cases h with
    | cons q h => exact .cons q (RVs.set n h r)
theorem RVs.eraseIdx : ∀ {vs : List V} {ds : List D} (n : Nat), RVs K H μ vs ds → RVs K H μ (vs.eraseIdx n) (ds.eraseIdx n)
  | [], _, _, h => by cases h; exact .nil
  | _ :: _, _, 0, h => by
    cases h with
    | cons _ h => exact h
  | _ :: _, _, n + 1, h => by
    cases h with
    | cons q h => exact .cons q (RVs.eraseIdx n h)
theorem rvs_ints : ∀ ns : List Int, RVs K H μ (ns.map V.int) (ns.map D.int)
  | [] => .nil
  | n :: r => .cons (.int n) (rvs_ints r)
theorem rvs_iff : ∀ {vs : List V} {ds : List D}, RVs K H μ vs ds ↔ Paired (RV K H μ) vs ds
  | [], [] => ⟨fun _ => .nil, fun _ => .nil⟩
  | [], _ :: _ => ⟨fun h => (nomatch h), fun h => (nomatch h)⟩
  | _ :: _, [] => ⟨fun h => (nomatch h), fun h => (nomatch h)⟩
  | _ :: _, _ :: _ => ⟨fun h => by cases h with | cons r t => exact .cons r (rvs_iff.mp t), fun h => by cases h with | cons r t => exact .cons r (rvs_iff.mpr t)⟩
/-- what an evaluation leaves as it was: all that is tracked and no object of the store; new objects of the store were free -/
structure ExtW (μ : List Addr) (H : Hp) (μ' : List Addr) (H' : Hp) : Prop where
  pre : ∃ ν, μ' = μ ++ ν
  fr : ∀ a, a ∈ μ' → a ∉ μ → H a = none
  keep : ∀ a o, a ∉ μ → H a = some o → H' a = some o
theorem ExtW.refl : ExtW μ H μ H := ⟨⟨[], by simp⟩, fun a h n => absurd h n, fun _ _ _ h => h⟩
theorem ExtW.trans {μ1 μ2 : List Addr} {H1 H2 : Hp} (a : ExtW μ H μ1 H1) (b : ExtW μ1 H1 μ2 H2) : ExtW μ H μ2 H2 := by
  obtain ⟨ν, e⟩ := a.pre
  obtain ⟨ν', e'⟩ := b.pre
  refine ⟨⟨ν ++ ν', by rw [e', e, List.append_assoc]⟩, fun x h n => ?_, fun x o n h => ?_⟩
  · by_cases q : x ∈ μ1
    · exact a.fr x q n
    · have z := b.fr x h q
      cases w : H x with
      | none => rfl
      | some o => rw [a.keep x o n w] at z; cases z
  · refine b.keep x o (fun q => ?_) (a.keep x o n h)
    have z := a.fr x q n
    rw [h] at z; cases z
theorem ExtW.rd {u : HO} {a : Addr} (x : ExtW μ H μ' H') (n : a ∉ μ) (h : Rd H a u) : Rd H' a u := by
  rcases h with h | ⟨o, h⟩
  · exact .inl (x.keep a _ n h)
  · exact .inr ⟨o, x.keep a _ n h⟩
theorem ExtW.out {u : HO} {a : Addr} (x : ExtW μ H μ' H') (n : a ∉ μ) (h : Rd H a u) : a ∉ μ' := fun q => by
  have z := x.fr a q n
  rcases h with h | ⟨o, h⟩ <;> (rw [h] at z; cases z)
theorem ExtW.at (x : ExtW μ H μ' H') {n : Nat} {a : Addr} (h : μ[n]? = some a) : μ'[n]? = some a := by
  obtain ⟨ν, e⟩ := x.pre
  rw [e, List.getElem?_append_left (List.getElem?_eq_some_iff.mp h).1, h]
theorem TupAt.extW {a : Addr} {xs : List V} (x : ExtW μ H μ' H') (h : TupAt K H μ a xs) : TupAt K H' μ' a xs :=
  h.elim (fun h => .inl ⟨x.out h.1 h.2, x.rd h.1 h.2⟩) .inr
theorem LstAt.extW {a : Addr} {xs : List V} (x : ExtW μ H μ' H') (h : LstAt H μ a xs) : LstAt H' μ' a xs :=
  ⟨x.out h.1 (.inl h.2), x.keep _ _ h.1 h.2⟩
theorem ScrAt.extW {a : Addr} {xs : List V} (x : ExtW μ H μ' H') (h : ScrAt K H μ a xs) : ScrAt K H' μ' a xs :=
  h.elim (fun h => .inl ⟨x.out h.1 h.2, x.rd h.1 h.2⟩) .inr
mutual
theorem RV.extW (x : ExtW μ H μ' H') : ∀ {v : V} (d : D), RV K H μ v d → RV K H' μ' v d
  | _, .non, h => by cases h; exact .non
  | _, .bl b, h => by cases h; exact .bl b
  | _, .int i, h => by cases h; exact .int i
  | _, .str y, h => by cases h; exact .str y
  | _, .tup ds, h => by
    cases h with
    | tup t r => exact .tup (t.extW x) (RVs.extW x ds r)
  | _, .lst ds, h => by
    cases h with
    | lst t r => exact .lst (t.extW x) (RVs.extW x ds r)
  | _, .scr ds, h => by
    cases h with
    | scr t r => exact .scr (t.extW x) (RVs.extW x ds r)
  | _, .obj n, h => by
    cases h with
    | obj e => exact .obj (x.at e)
theorem RVs.extW (x : ExtW μ H μ' H') : ∀ {vs : List V} (ds : List D), RVs K H μ vs ds → RVs K H' μ' vs ds
  | _, [], h => by cases h; exact .nil
  | _, d :: ds, h => by
    cases h with
    | cons r t => exact .cons (RV.extW x d r) (RVs.extW x ds t)
end
/-- .. and no object that is locked -/
structure Ext (μ : List Addr) (H : Hp) (μ' : List Addr) (H' : Hp) : Prop extends ExtW μ H μ' H' where
  fz : ∀ a o u, H a = some (.frz o u) → H' a = some (.frz o u)
theorem Ext.refl : Ext μ H μ H := ⟨.refl, fun _ _ _ h => h⟩
theorem Ext.trans {μ1 μ2 : List Addr} {H1 H2 : Hp} (a : Ext μ H μ1 H1) (b : Ext μ1 H1 μ2 H2) : Ext μ H μ2 H2 := ⟨a.toExtW.trans b.toExtW, fun x o u h => b.fz _ _ _ (a.fz _ _ _ h)⟩
theorem Ext.rd {u : HO} {a : Addr} (x : Ext μ H μ' H') (n : a ∉ μ) (h : Rd H a u) : Rd H' a u := x.toExtW.rd n h
theorem Ext.out {u : HO} {a : Addr} (x : Ext μ H μ' H') (n : a ∉ μ) (h : Rd H a u) : a ∉ μ' := x.toExtW.out n h
theorem Ext.at (x : Ext μ H μ' H') {n : Nat} {a : Addr} (h : μ[n]? = some a) : μ'[n]? = some a := x.toExtW.at h
theorem TupAt.ext {a : Addr} {xs : List V} (x : Ext μ H μ' H') (h : TupAt K H μ a xs) : TupAt K H' μ' a xs := h.extW x.toExtW
theorem LstAt.ext {a : Addr} {xs : List V} (x : Ext μ H μ' H') (h : LstAt H μ a xs) : LstAt H' μ' a xs := h.extW x.toExtW
theorem ScrAt.ext {a : Addr} {xs : List V} (x : Ext μ H μ' H') (h : ScrAt K H μ a xs) : ScrAt K H' μ' a xs := h.extW x.toExtW
theorem RV.ext (x : Ext μ H μ' H') {v : V} (d : D) (h : RV K H μ v d) : RV K H' μ' v d := RV.extW x.toExtW d h
theorem RVs.ext (x : Ext μ H μ' H') {vs : List V} (ds : List D) (h : RVs K H μ vs ds) : RVs K H' μ' vs ds := RVs.extW x.toExtW ds h
/-- named fields -/
abbrev RF (nm : Nms) (K : PySem.W.Frag) (H : Hp) (μ : List Addr) : List (Str × V) → List (Nat × D) → Prop :=
  Paired fun (p : Str × V) (q : Nat × D) => p.1 = nm.fld q.1 ∧ q.1 < nm.most ∧ RV K H μ p.2 q.2
abbrev RK (K : PySem.W.Frag) (H : Hp) (μ : List Addr) : List (Key × V) → List (Key × D) → Prop :=
  Paired fun (p : Key × V) (q : Key × D) => p.1 = q.1 ∧ RV K H μ p.2 q.2
theorem RF.extW {nm : Nms} (x : ExtW μ H μ' H') {gs : List (Str × V)} {fs : List (Nat × D)} (h : RF nm K H μ gs fs) : RF nm K H' μ' gs fs :=
  Paired.mapP h fun _ q z => ⟨z.1, z.2.1, RV.extW x q.2 z.2.2⟩
theorem RK.extW (x : ExtW μ H μ' H') {gs : List (Key × V)} {fs : List (Key × D)} (h : RK K H μ gs fs) : RK K H' μ' gs fs :=
  Paired.mapP h fun _ q z => ⟨z.1, RV.extW x q.2 z.2⟩
theorem RF.ext {nm : Nms} (x : Ext μ H μ' H') {gs : List (Str × V)} {fs : List (Nat × D)} (h : RF nm K H μ gs fs) : RF nm K H' μ' gs fs := RF.extW x.toExtW h
theorem RK.ext (x : Ext μ H μ' H') {gs : List (Key × V)} {fs : List (Key × D)} (h : RK K H μ gs fs) : RK K H' μ' gs fs := RK.extW x.toExtW h
def OK (nm : Nms) (K : PySem.W.Frag) (mg : Str → Option Value) (H : Hp) (μ : List Addr) (a : Addr) : O → Prop
  | .lst ds => ∃ xs, H a = some (.lst xs) ∧ RVs K H μ xs ds
  | .dct kvs => ∃ ys, H a = some (.dK ys) ∧ RK K H μ ys kvs
  | .ins c fs => ∃ C dx gs, mg (nm.cls c) = some (.ref C) ∧ H a = some (.ins C dx gs) ∧ RF nm K H μ gs fs
  | .lck kvs => ∃ od ys, H a = some (.frz od (.dK ys)) ∧ RK K H μ ys kvs
theorem OK.some {nm : Nms} {mg : Str → Option Value} {a : Addr} {o : O} (h : OK nm K mg H μ a o) : ∃ u, H a = some u := by
  cases o with
  | lst ds => obtain ⟨xs, e, _⟩ := h; exact ⟨_, e⟩
  | dct ds => obtain ⟨xs, e, _⟩ := h; exact ⟨_, e⟩
  | ins c fs => obtain ⟨C, dx, gs, _, e, _⟩ := h; exact ⟨_, e⟩
  | lck kvs => obtain ⟨od, ys, e, _⟩ := h; exact ⟨_, e⟩
/-- .. where the object itself stays -/
theorem OK.extW {nm : Nms} {mg : Str → Option Value} {a : Addr} {o : O} (x : ExtW μ H μ' H') (e : H' a = H a) (h : OK nm K mg H μ a o) : OK nm K mg H' μ' a o := by
  cases o with
  | lst ds => obtain ⟨xs, e1, r⟩ := h; exact ⟨xs, e.trans e1, RVs.extW x _ r⟩
  | dct kvs => obtain ⟨ys, e1, r⟩ := h; exact ⟨ys, e.trans e1, RK.extW x r⟩
  | ins c fs => obtain ⟨C, dx, gs, g, e1, r⟩ := h; exact ⟨C, dx, gs, g, e.trans e1, RF.extW x r⟩
  | lck kvs => obtain ⟨od, ys, e1, r⟩ := h; exact ⟨od, ys, e.trans e1, RK.extW x r⟩
theorem OK.ext {nm : Nms} {mg : Str → Option Value} {a : Addr} {o : O} (x : Ext μ H μ' H') (e : H' a = H a) (h : OK nm K mg H μ a o) : OK nm K mg H' μ' a o := h.extW x.toExtW e
structure Sim (nm : Nms) (K : PySem.W.Frag) (mg : Str → Option Value) (μ : List Addr) (S : Store) (H : Hp) : Prop where
  len : μ.length = S.length
  nd : μ.Nodup
  ob : ∀ (n : Nat) (a : Addr) (o : O), μ[n]? = some a → S[n]? = some o → OK nm K mg H μ a o
section
variable {nm : Nms} {mg : Str → Option Value} {S : Store}
theorem Sim.there (s : Sim nm K mg μ S H) {a : Addr} (h : a ∈ μ) : ∃ u, H a = Option.some u := by
  obtain ⟨n, hn, e⟩ := List.mem_iff_getElem.mp h
  have hn' : n < S.length := by rw [← s.len]; exact hn
  exact (s.ob n a S[n] (by rw [List.getElem?_eq_getElem hn, e]) (List.getElem?_eq_getElem hn')).some
theorem Sim.fresh (s : Sim nm K mg μ S H) {a : Addr} (h : H a = none) : a ∉ μ := fun q => by
  obtain ⟨u, e⟩ := s.there q
  rw [h] at e; cases e
/-- something new that is no object of the store -/
theorem Ext.laid (s : Sim nm K mg μ S H) {p : Addr} {u : HO} (h : H p = none) : Ext μ H μ (upd H p u) :=
  ⟨⟨⟨[], by simp⟩, fun a q n => absurd q n, fun a o _ e => by rw [upd_ne (ne_of_none e h)]; exact e⟩, fun a o u e => by rw [upd_ne (ne_of_none e h)]; exact e⟩
theorem Sim.keep (s : Sim nm K mg μ S H) (x : Ext μ H μ H') (h : ∀ a, a ∈ μ → H' a = H a) : Sim nm K mg μ S H' :=
  ⟨s.len, s.nd, fun n a o h1 h2 => (s.ob n a o h1 h2).ext x (h a (List.mem_of_getElem? h1))⟩
theorem Sim.laid (s : Sim nm K mg μ S H) {p : Addr} {u : HO} (h : H p = none) : Sim nm K mg μ S (upd H p u) :=
  s.keep (Ext.laid s h) fun a q => by
    obtain ⟨v, e⟩ := s.there q
    rw [upd_ne (ne_of_none e h)]
/-- a new object of the store at p -/
theorem Ext.made (s : Sim nm K mg μ S H) {p : Addr} {u : HO} (h : H p = none) : Ext μ H (μ ++ [p]) (upd H p u) :=
  ⟨⟨⟨[p], rfl⟩, fun a q n => by
    rcases List.mem_append.mp q with q | q
    · exact absurd q n
    · rw [List.mem_singleton] at q; rw [q]; exact h, fun a o _ e => by rw [upd_ne (ne_of_none e h)]; exact e⟩, fun a o u e => by rw [upd_ne (ne_of_none e h)]; exact e⟩
theorem Sim.made (s : Sim nm K mg μ S H) {p : Addr} {u : HO} {o : O} (h : H p = none) (ho : OK nm K mg (upd H p u) (μ ++ [p]) p o) : Sim nm K mg (μ ++ [p]) (S ++ [o]) (upd H p u) := by
  have hp : p ∉ μ := s.fresh h
  refine ⟨by simp [s.len], List.nodup_append.mpr ⟨s.nd, by simp, fun a ha b hb e => ?_⟩, fun n a ob h1 h2 => ?_⟩
  · rw [List.mem_singleton] at hb
    exact hp (hb ▸ e ▸ ha)
  · by_cases hn : n < μ.length
    · have hn' : n < S.length := by rw [← s.len]; exact hn
      rw [List.getElem?_append_left hn] at h1
      rw [List.getElem?_append_left hn'] at h2
      refine (s.ob n a ob h1 h2).ext (Ext.made s h) ?_
      obtain ⟨v, e⟩ := s.there (List.mem_of_getElem? h1)
      rw [upd_ne (ne_of_none e h)]
    · rw [List.getElem?_append_right (Nat.le_of_not_lt hn)] at h1
      rw [List.getElem?_append_right (by rw [← s.len]; exact Nat.le_of_not_lt hn)] at h2
      have hz : n - μ.length = 0 := by
        rcases Nat.eq_zero_or_pos (n - μ.length) with z | z
        · exact z
        · rw [List.getElem?_eq_none (by rw [List.length_singleton]; exact z)] at h1; cases h1
      rw [hz] at h1
      rw [← s.len, hz] at h2
      simp at h1 h2
      subst h1 h2
      exact ho
/-- an object of the store is written -/
theorem ExtW.wrote {p : Addr} {u : HO} (h : p ∈ μ) : ExtW μ H μ (upd H p u) :=
  ⟨⟨[], by simp⟩, fun a q n => absurd q n, fun a o n e => by rw [upd_ne (fun z => n (by rw [z]; exact h))]; exact e⟩
def NF (H : Hp) (p : Addr) : Prop := ∀ o u, H p ≠ Option.some (.frz o u)
theorem NF.of {p : Addr} {w : HO} (h : H p = Option.some w) (n : ∀ o u, w ≠ .frz o u := by intro _ _ h; cases h) : NF H p := fun o u e => by rw [h] at e; cases e; exact n _ _ rfl
theorem Ext.wrote {p : Addr} {u : HO} (h : p ∈ μ) (nf : NF H p) : Ext μ H μ (upd H p u) :=
  ⟨.wrote h, fun a o w e => by rw [upd_ne (fun z => by subst z; exact nf _ _ e)]; exact e⟩
theorem Sim.wrote (s : Sim nm K mg μ S H) {p : Addr} {u : HO} {n : Nat} {o : O} (hp : μ[n]? = Option.some p) (ho : OK nm K mg (upd H p u) μ p o) : Sim nm K mg μ (S.set n o) (upd H p u) := by
  have hm := List.mem_of_getElem? hp
  refine ⟨by simp [s.len], s.nd, fun i a ob h1 h2 => ?_⟩
  by_cases hi : i = n
  · subst hi
    rw [hp] at h1; cases h1
    have hl : i < S.length := by rw [← s.len]; exact (List.getElem?_eq_some_iff.mp hp).1
    rw [List.getElem?_set_self hl] at h2
    cases h2
    exact ho
  · rw [List.getElem?_set_ne (Ne.symm hi)] at h2
    refine (s.ob i a ob h1 h2).extW (ExtW.wrote hm) ?_
    rw [upd_ne]
    intro e
    subst e
    exact hi (nd_ix s.nd h1 hp)
/-- a lock is put on and taken off again -/
theorem Ext.unlock {p : Addr} {u w : HO} (x : Ext μ (upd H p u) μ' H') (h : p ∈ μ) (nf : NF H p) : Ext μ H μ' (upd H' p w) := by
  have hp : p ∈ μ' := by
    obtain ⟨ν, e⟩ := x.pre
    rw [e]; exact List.mem_append_left _ h
  refine ⟨⟨x.pre, fun a q n => ?_, fun a o n e => ?_⟩, fun a o v e => ?_⟩
  · have := x.fr a q n
    rwa [upd_ne (fun z => n (by rw [z]; exact h))] at this
  · have ne : a ≠ p := fun z => n (by rw [z]; exact h)
    rw [upd_ne ne]
    exact x.keep a o n (by rw [upd_ne ne]; exact e)
  · have ne : a ≠ p := fun z => by subst z; exact nf _ _ e
    rw [upd_ne ne]
    exact x.fz a o v (by rw [upd_ne ne]; exact e)
end
end
end BS
namespace BS
open PySem
/-- names from two tables -/
def mkNms (cls fld : List String) (h : (fld.map Str.ofString).Nodup) : Nms where
  cls := fun i => (cls.map Str.ofString).getD i ""
  fld := fun i => (fld.map Str.ofString).getD i ""
  most := fld.length
  inj := fun i j hi hj e => by
    have hi' : i < (fld.map Str.ofString).length := by rw [List.length_map]; exact hi
    have hj' : j < (fld.map Str.ofString).length := by rw [List.length_map]; exact hj
    rw [List.getD_eq_getElem?_getD, List.getD_eq_getElem?_getD, List.getElem?_eq_getElem hi', List.getElem?_eq_getElem hj'] at e
    exact (List.getElem_inj h).mp e
end BS
namespace BS
open PySem PySem.Spec PyProof.Rows L2
def ExcAt (nm : Nms) (K : PySem.W.Frag) (mg : Str → Option Value) (H : Hp) (μ : List Addr) (c : Nat) (fs : List (Nat × D)) (C : Addr) (d : Option Addr) : Prop :=
  mg (nm.cls c) = some (.ref C) ∧ match d with
    | none => fs = []
    | some dd => ∃ gs, dd ∉ μ ∧ H dd = some (.xd gs) ∧ RF nm K H μ gs fs ∧ fs ≠ []
theorem ExcAt.ext {nm : Nms} {K : PySem.W.Frag} {mg : Str → Option Value} {H H' : Hp} {μ μ' : List Addr} {c : Nat} {fs : List (Nat × D)} {C : Addr} {d : Option Addr} (x : Ext μ H μ' H') (h : ExcAt nm K mg H μ c fs C d) : ExcAt nm K mg H' μ' c fs C d := by
  refine ⟨h.1, ?_⟩
  cases d with
  | none => exact h.2
  | some dd =>
    obtain ⟨gs, n, e, r, ne⟩ := h.2
    exact ⟨gs, x.out n (.inl e), x.keep dd _ n e, RF.ext x r, ne⟩
abbrev St := L2.St
abbrev PA (α : Type) := α → Store → List Addr → Hp → Prop
abbrev PX := Value → Option Addr → Hp → Prop
section
variable {nm : Nms} {K : PySem.W.Frag} {mg : Str → Option Value} {H H' : Hp} {μ μ' : List Addr} {α β : Type}
def Post (nm : Nms) (K : PySem.W.Frag) (mg : Str → Option Value) (μ : List Addr) (H : Hp) (r : R α) (P : PA α) (E : PX) : Prop := match r with
  | .ok a S => ∀ μ' H', Ext μ H μ' H' → Sim nm K mg μ' S H' → P a S μ' H'
  | .exc c fs S => ∀ μ' H' C d, Ext μ H μ' H' → Sim nm K mg μ' S H' → ExcAt nm K mg H' μ' c fs C d → E (.ref C) d H'
  | .stuck => False
theorem Post.ext {r : R α} {P : PA α} {E : PX} (x : Ext μ H μ' H') (h : Post nm K mg μ H r P E) : Post nm K mg μ' H' r P E := by
  cases r with
  | ok a S => exact fun μ2 H2 x2 s2 => h μ2 H2 (x.trans x2) s2
  | exc c fs S => exact fun μ2 H2 C d x2 s2 => h μ2 H2 C d (x.trans x2) s2
  | stuck => exact h
theorem Post.mono {r : R α} {P P' : PA α} {E : PX} (h : Post nm K mg μ H r P E) (f : ∀ a S μ' H', Ext μ H μ' H' → Sim nm K mg μ' S H' → P a S μ' H' → P' a S μ' H') : Post nm K mg μ H r P' E := by
  cases r with
  | ok a S => exact fun μ2 H2 x2 s2 => f _ _ _ _ x2 s2 (h μ2 H2 x2 s2)
  | exc c fs S => exact h
  | stuck => exact h
theorem Post.bind {r : R α} {k : α → Store → R β} {P : PA β} {E : PX} (h : Post nm K mg μ H (r.bind k) P E) : Post nm K mg μ H r (fun a S μ1 H1 => Post nm K mg μ1 H1 (k a S) P E) E := by
  cases r with
  | ok a S => exact fun μ2 H2 x2 _ => Post.ext (r := k a S) x2 h
  | exc c fs S => exact h
  | stuck => exact h
end
/-- the names' values as the interpretation has them -/
structure EvR (nm : Nms) (X : Cx) (H : Hp) (μ : List Addr) (e : Ev) (σ : St) : Prop where
  len : e.sl.length = σ.length
  at_ : ∀ (i : Nat) (d : D), e.sl[i]? = some (some d) → ∃ v, σ[i]? = some (some v) ∧ RV X.K H μ v d
  ex : ∀ p ∈ e.ex, ∃ (a : Addr) (oe : Obj) (C : Addr) (d : Option Addr), σ[p.1]? = some (some (.ref a)) ∧ (a, oe) ∈ X.pn ∧ (Zc (.ref C) d oe ∧ ∃ vs, oe.data = .fields vs) ∧ ExcAt nm X.K X.mg H μ p.2.1 p.2.2 C d
theorem EvR.ext {nm : Nms} {X : Cx} {H H' : Hp} {μ μ' : List Addr} {e : Ev} {σ : St} (x : Ext μ H μ' H') (h : EvR nm X H μ e σ) : EvR nm X H' μ' e σ :=
  ⟨h.len, fun i d e => let ⟨v, a, b⟩ := h.at_ i d e; ⟨v, a, b.ext x⟩, fun p hp => let ⟨a, oe, C, d, h1, h2, h3, h4⟩ := h.ex p hp; ⟨a, oe, C, d, h1, h2, h3, h4.ext x⟩⟩
section
variable (nm : Nms) (X : Cx) (W : WX)
abbrev PostX {α : Type} (μ : List Addr) (H : Hp) (σ : St) (r : R α) (P : PA α) : Prop := Post nm X.K X.mg μ H r P fun c d H' => W c d σ H'
def rdE (m : EM) : TE := fun σ H Q => ∃ e S μ, EvR nm X H μ e σ ∧ Sim nm X.K X.mg μ S H ∧ PostX nm X W μ H σ (m e S) fun d _ μ' H' => ∀ v, RV X.K H' μ' v d → Q v H'
def rdT (m : TM) : TT := fun σ H Q => ∃ e S μ, EvR nm X H μ e σ ∧ Sim nm X.K X.mg μ S H ∧ PostX nm X W μ H σ (m e S) fun b _ _ H' => Q b H'
def rdA (m : AM) : TA := fun σ H Q => ∃ e S μ, EvR nm X H μ e σ ∧ Sim nm X.K X.mg μ S H ∧ PostX nm X W μ H σ (m e S) fun ds _ μ' H' => ∀ vs, RVs X.K H' μ' vs ds → Q vs H'
end
/-- the expression does what m says -/
structure ME (nm : Nms) (X : Cx) (e : Expr) (m : EM) : Prop where
  run : ∀ W, Takes X W → PE X e (rdE nm X W m)
structure MT (nm : Nms) (X : Cx) (e : Expr) (m : TM) : Prop where
  run : ∀ W, Takes X W → PT X e (rdT nm X W m)
structure MW (nm : Nms) (X : Cx) (e : Expr) (m : TM) : Prop where
  run : ∀ W, Takes X W → PW X e (rdT nm X W m)
structure MA (nm : Nms) (X : Cx) (es : List Expr) (m : AM) : Prop where
  run : ∀ W, Takes X W → L2.PA X es (rdA nm X W m)
  len : ∀ e S ds S', m e S = .ok ds S' → ds.length = es.length
theorem _root_.L2.PE.imp {X : Cx} {e : Expr} {t t' : TE} (h : PE X e t) (f : ∀ σ H Q, t' σ H Q → t σ H Q) : PE X e t' := ⟨fun pins s σ H Q I q => h.run pins s σ H Q I (f _ _ _ q)⟩
theorem _root_.L2.PT.imp {X : Cx} {e : Expr} {t t' : TT} (h : PT X e t) (f : ∀ σ H Q, t' σ H Q → t σ H Q) : PT X e t' := ⟨fun pins s σ H Q I q => h.run pins s σ H Q I (f _ _ _ q)⟩
theorem _root_.L2.PW.imp {X : Cx} {e : Expr} {t t' : TT} (h : PW X e t) (f : ∀ σ H Q, t' σ H Q → t σ H Q) : PW X e t' := ⟨fun wh pins s σ H Q I q => h.run wh pins s σ H Q I (f _ _ _ q)⟩
theorem _root_.L2.PA.imp {X : Cx} {e : List Expr} {t t' : TA} (h : L2.PA X e t) (f : ∀ σ H Q, t' σ H Q → t σ H Q) : L2.PA X e t' := ⟨fun p pins s σ H Q I q => h.run p pins s σ H Q I (f _ _ _ q)⟩
/-- the names at these places are the scope's own -/
def visAll (is : List Nat) (N : List Str) (sc : Scope) : Bool := is.all fun i => match N[i]? with
  | some x => (match sc.names.lookup x with | some .local => true | some .cell => true | some .free => true | _ => false) && (x == ("__debug__" : Str)) == false && (x == ("__classdict__" : Str)) == false
  | none => false
def locAll (is : List Nat) (N : List Str) (sc : Scope) : Bool := is.all fun i => match N[i]? with
  | some x => (match sc.names.lookup x with | some .local => true | some .cell => true | _ => false) && (x == ("__debug__" : Str)) == false && (x == ("__classdict__" : Str)) == false
  | none => false
theorem vis_of {is : List Nat} {N : List Str} {sc : Scope} (h : visAll is N sc = true) {i : Nat} {x : Str} (hi : is.contains i = true) (hN : N[i]? = some x) : Vis sc x ∧ (x == ("__debug__" : Str)) = false ∧ (x == ("__classdict__" : Str)) = false := by
  have h1 := List.all_eq_true.mp h i (by simpa using hi)
  simp only [hN, Bool.and_eq_true, beq_iff_eq] at h1
  refine ⟨?_, h1.1.2, h1.2⟩
  have h2 := h1.1.1
  unfold Vis
  split at h2
  · rename_i e; exact .inl e
  · rename_i e; exact .inr (.inl e)
  · rename_i e; exact .inr (.inr e)
  · cases h2
theorem loc_of {is : List Nat} {N : List Str} {sc : Scope} (h : locAll is N sc = true) {i : Nat} {x : Str} (hi : is.contains i = true) (hN : N[i]? = some x) : L2.Loc sc x ∧ (x == ("__debug__" : Str)) = false ∧ (x == ("__classdict__" : Str)) = false := by
  have h1 := List.all_eq_true.mp h i (by simpa using hi)
  simp only [hN, Bool.and_eq_true, beq_iff_eq] at h1
  refine ⟨?_, h1.1.2, h1.2⟩
  have h2 := h1.1.1
  unfold L2.Loc
  split at h2
  · rename_i e; exact .inl e
  · rename_i e; exact .inr e
  · cases h2
theorem locVis {is : List Nat} {N : List Str} {sc : Scope} (h : locAll is N sc = true) : visAll is N sc = true := by
  refine List.all_eq_true.mpr fun i hi => ?_
  have h1 := List.all_eq_true.mp h i hi
  cases hN : N[i]? with
  | none => rw [hN] at h1; cases h1
  | some x =>
    simp only [hN, Bool.and_eq_true, beq_iff_eq] at h1 ⊢
    refine ⟨⟨?_, h1.1.2⟩, h1.2⟩
    have h2 := h1.1.1
    split at h2
    · rename_i e; rw [e]
    · rename_i e; rw [e]
    · cases h2
/-- global names -/
def glAll (xs : List Str) (sc : Scope) : Bool := xs.all fun x => (match sc.names.lookup x with | some .globalImplicit => true | _ => false) && (x == ("__debug__" : Str)) == false && !(decide (x = "__name__"))
structure GlN (X : Cx) (x : Str) : Prop where
  g : Gl X x
  d : (x == ("__debug__" : Str)) = false
  n : x ≠ "__name__"
theorem glT {X : Cx} {x : Str} {pn : List (Addr × Obj)} {xe : Value → Shared → Prop} (h : GlN X x) : GlN (X.tr pn xe) x := ⟨h.g, h.d, h.n⟩
theorem glS {X : Cx} {x : Str} {a : Addr} {pn : List (Addr × Obj)} (h : GlN X x) : GlN (X.suite a pn) x := ⟨h.g, h.d, h.n⟩
theorem rhS {X : Cx} {k : Nat} {a : Addr} {pn : List (Addr × Obj)} (h : L2H.RoomH k X.A) : L2H.RoomH k (X.suite a pn).A := ⟨h.dp, h.un⟩
theorem gl_at {X : Cx} {xs : List Str} (h : glAll xs X.env.scope = true) (j : Nat) {x : Str} (hj : xs[j]? = some x := by rfl) : GlN X x := by
  have h1 := List.all_eq_true.mp h x (List.mem_of_getElem? hj)
  simp only [Bool.and_eq_true, beq_iff_eq] at h1
  refine ⟨?_, h1.1.2, by simpa using h1.2⟩
  have h2 := h1.1.1
  split at h2
  · rename_i e; exact e
  · cases h2
def mVar (i : Nat) : EM := fun e S => match e.sl[i]? with
  | some (some d) => .ok d S
  | _ => .stuck
def mC (d : D) : EM := fun _ S => .ok d S
section
variable {nm : Nms} {X : Cx} {pos : Pos} {a b c : Expr} {ma mb mc : EM}
theorem me_var {is : List Nat} (i : Nat) {x : Str} (hv : visAll is X.N X.env.scope = true) (hN : X.N[i]? = some x := by rfl) (hi : is.contains i = true := by rfl) : ME nm X (.Name x pos) (mVar i) := by
  obtain ⟨hv, hd, hcd⟩ := vis_of hv hi hN
  refine ⟨fun W tk => (pe_var (i := i) hN hv hd hcd).imp fun σ H Q h => ?_⟩
  obtain ⟨e, S, μ, E, s, p⟩ := h
  unfold mVar at p
  split at p
  · rename_i d hd
    obtain ⟨v, e1, r⟩ := E.at_ i d hd
    exact ⟨v, e1, p μ H .refl s v r⟩
  · exact False.elim p
theorem me_cn {e : Expr} {v : V} {d : D} (h : PE X e (tC v)) (r : ∀ H μ, RV X.K H μ v d) : ME nm X e (mC d) := by
  refine ⟨fun W tk => h.imp fun σ H Q h => ?_⟩
  obtain ⟨e, S, μ, E, s, p⟩ := h
  exact p μ H .refl s v (r _ _)
theorem me_int {i : Int} {j pos} : ME nm X (.Constant (.int i) j pos) (mC (.int i)) := me_cn pe_int fun _ _ => .int i
theorem me_bl {b : Bool} {j pos} : ME nm X (.Constant (.bool b) j pos) (mC (.bl b)) := me_cn pe_bl fun _ _ => .bl b
theorem me_non {j pos} : ME nm X (.Constant .none j pos) (mC .non) := me_cn pe_non fun _ _ => .non
theorem me_str {x : Str} {j pos} : ME nm X (.Constant (.str x) j pos) (mC (.str x)) := me_cn pe_str fun _ _ => .str x
/-- a module's constant -/
def GC (K : PySem.W.Frag) (mg : Str → Option Value) (x : Str) (d : D) : Prop := ∃ u v, mg x = some u ∧ RelV v u ∧ ∀ H μ, RV K H μ v d
theorem me_gc {x : Str} {d : D} (h : GC X.K X.mg x d) (hg : GlN X x) : ME nm X (.Name x pos) (mC d) := let ⟨u, v, h1, h2, h3⟩ := h; me_cn (pe_glob hg.g h1 h2 hg.d) h3
def lift2 (f : Store → D → D → Option D) (S : Store) (x y : D) : R D := match f S x y with
  | some d => .ok d S
  | none => .stuck
def mBin (f : Store → D → D → Option D) (a b : EM) : EM := fun e S => (a e S).bind fun x S => (b e S).bind fun y S => lift2 f S x y
def mUn (f : Store → D → Option D) (a : EM) : EM := fun e S => (a e S).bind fun x S => match f S x with
  | some d => .ok d S
  | none => .stuck
/-- what an operation asks of the interpretation -/
def rOpD (nm : Nms) (X : Cx) (f : Store → D → D → Option D) : R2 := fun x y H Q => ∃ S μ dx dy d, Sim nm X.K X.mg μ S H ∧ RV X.K H μ x dx ∧ RV X.K H μ y dy ∧ f S dx dy = some d ∧
  ∀ v μ' H', Ext μ H μ' H' → Sim nm X.K X.mg μ' S H' → RV X.K H' μ' v d → Q v H'
abbrev OpD (nm : Nms) (X : Cx) (g : Value → Value → Sem Value) (f : Store → D → D → Option D) : Prop := OpR X g (rOpD nm X f)
theorem bin_rd {f : Store → D → D → Option D} {W : WX} {σ : St} {H : Hp} {Q : VK} (h : rdE nm X W (mBin f ma mb) σ H Q) : tOp (rOpD nm X f) (rdE nm X W ma) (rdE nm X W mb) σ H Q := by
  obtain ⟨e, S, μ, E, s, p⟩ := h
  refine ⟨e, S, μ, E, s, (Post.bind p).mono fun dx S1 μ1 H1 x1 s1 p1 v rv => ?_⟩
  refine ⟨e, S1, μ1, E.ext x1, s1, (Post.bind p1).mono fun dy S2 μ2 H2 x2 s2 p2 u ru => ?_⟩
  unfold lift2 at p2
  split at p2
  · rename_i d hd
    exact ⟨S2, μ2, dx, dy, d, s2, rv.ext x2, ru, hd, fun w μ3 H3 x3 s3 r => p2 μ3 H3 x3 s3 w r⟩
  · exact False.elim p2
theorem me_bin {op : Operator} {f : Store → D → D → Option D} (ho : OpD nm X (binaryOp op) f) (ha : ME nm X a ma) (hb : ME nm X b mb) : ME nm X (.BinOp a op b pos) (mBin f ma mb) :=
  ⟨fun W tk => (pe_op ho (ha.run W tk) (hb.run W tk)).imp fun _ _ _ h => bin_rd h⟩
theorem me_cmp {op : CmpOp} {f : Store → D → D → Option D} (ho : OpD nm X (compareOp op) f) (ha : ME nm X a ma) (hb : ME nm X b mb) (hm : behindInMarks op b = false) : ME nm X (.Compare a [op] [b] pos) (mBin f ma mb) :=
  ⟨fun W tk => (pe_cmpR ho (ha.run W tk) (hb.run W tk) hm).imp fun _ _ _ h => bin_rd h⟩
def asB (d : D) : Option Bool := match d with
  | .bl b => some b
  | _ => none
@[simp] theorem asB_bl (b : Bool) : asB (.bl b) = some b := rfl
def mBl (m : EM) : TM := fun e S => (m e S).bind fun d S => match asB d with
  | some b => .ok b S
  | none => .stuck
theorem bl_rd {W : WX} {m : EM} {t : TE} (f : ∀ σ H Q, rdE nm X W m σ H Q → t σ H Q) {σ : St} {H : Hp} {Q : Bool → Hp → Prop} (h : rdT nm X W (mBl m) σ H Q) : t σ H fun x H' => ∃ k, x = .bl k ∧ Q k H' := by
  obtain ⟨e, S, μ, E, s, p⟩ := h
  refine f σ H _ ⟨e, S, μ, E, s, (Post.bind p).mono fun d S1 μ1 H1 x1 s1 p1 v rv => ?_⟩
  split at p1
  · rename_i b hb
    cases d with
    | bl b' => cases hb; cases rv; exact ⟨_, rfl, p1 μ1 H1 .refl s1⟩
    | _ => cases hb
  · exact False.elim p1
/-- a comparison as a test -/
theorem mt_cmp {op : CmpOp} {f : Store → D → D → Option D} (ho : OpD nm X (compareOp op) f) (ha : ME nm X a ma) (hb : ME nm X b mb) (hm : behindInMarks op b = false) : MT nm X (.Compare a [op] [b] pos) (mBl (mBin f ma mb)) :=
  ⟨fun W tk => (pt_cmpR ho (ha.run W tk) (hb.run W tk) hm).imp fun _ _ _ h => bl_rd (fun _ _ _ h => bin_rd h) h⟩
/-- an expression whose value is a truth, as a test -/
theorem mt_val {e : Expr} {m : EM} (h : ME nm X e m) (he : ∀ whole, isTrue e X.env whole = (do let v ← whole; standAt e.pos; holding [v] (truthy v)) := by intro _; rfl) : MT nm X e (mBl m) :=
  ⟨fun W tk => (pt_val (h.run W tk) he).imp fun _ _ _ h => bl_rd (fun _ _ _ h => h) h⟩
def mChain (f g : Store → D → D → Option D) (a b c : EM) : EM := fun e S => (a e S).bind fun x S => (b e S).bind fun y S => (lift2 f S x y).bind fun z S => match asB z with
  | some true => (c e S).bind fun w S => lift2 g S y w
  | some false => .ok (.bl false) S
  | none => .stuck
theorem chain_rd {f g : Store → D → D → Option D} {W : WX} {σ : St} {H : Hp} {Q : VK} (h : rdE nm X W (mChain f g ma mb mc) σ H Q) : tChain (rOpD nm X f) (rOpD nm X g) (rdE nm X W ma) (rdE nm X W mb) (rdE nm X W mc) σ H Q := by
  obtain ⟨e, S, μ, E, s, p⟩ := h
  refine ⟨e, S, μ, E, s, (Post.bind p).mono fun dx S1 μ1 H1 x1 s1 p1 v rv => ?_⟩
  refine ⟨e, S1, μ1, E.ext x1, s1, (Post.bind p1).mono fun dy S2 μ2 H2 x2 s2 p2 u ru => ?_⟩
  unfold lift2 at p2
  split at p2
  · rename_i d hd
    refine ⟨S2, μ2, dx, dy, d, s2, rv.ext x2, ru, hd, fun w μ3 H3 x3 s3 r => ?_⟩
    have p3 : Post nm X.K X.mg μ3 H3 (match asB d with
      | some true => (mc e S2).bind fun w S => (match g S dy w with | some d => R.ok d S | none => .stuck)
      | some false => .ok (.bl false) S2
      | none => .stuck) _ _ := Post.ext x3 p2
    cases d with
    | bl b =>
      cases r
      refine ⟨b, rfl, ?_⟩
      cases b with
      | false => rw [if_neg Bool.false_ne_true]; exact p3 μ3 H3 .refl s3 _ (.bl false)
      | true =>
        rw [if_pos rfl]
        refine ⟨e, S2, μ3, (E.ext (x1.trans x2)).ext x3, s3, (Post.bind (k := fun w S => (match g S dy w with | some d => R.ok d S | none => .stuck)) p3).mono fun dz S4 μ4 H4 x4 s4 p4 z rz => ?_⟩
        split at p4
        · rename_i d hd
          exact ⟨S4, μ4, dy, dz, d, s4, ru.ext (x3.trans x4), rz, hd, fun w μ5 H5 x5 s5 r => p4 μ5 H5 x5 s5 w r⟩
        · exact False.elim p4
    | _ => exact False.elim p3
  · exact False.elim p2
theorem me_chain {op op' : CmpOp} {f g : Store → D → D → Option D} (ho : OpD nm X (compareOp op) f) (ho' : OpD nm X (compareOp op') g) (ha : ME nm X a ma) (hb : ME nm X b mb) (hc : ME nm X c mc)
    (hm : lastMarks [op, op'] [b, c] = false := by rfl) : ME nm X (.Compare a [op, op'] [b, c] pos) (mChain f g ma mb mc) :=
  ⟨fun W tk => (pe_chain ho ho' (ha.run W tk) (hb.run W tk) (hc.run W tk) hm).imp fun _ _ _ h => chain_rd h⟩
theorem mt_chain {op op' : CmpOp} {f g : Store → D → D → Option D} (ho : OpD nm X (compareOp op) f) (ho' : OpD nm X (compareOp op') g) (ha : ME nm X a ma) (hb : ME nm X b mb) (hc : ME nm X c mc)
    (hm : lastMarks [op, op'] [b, c] = false := by rfl) : MT nm X (.Compare a [op, op'] [b, c] pos) (mBl (mChain f g ma mb mc)) :=
  ⟨fun W tk => (pt_chain ho ho' (ha.run W tk) (hb.run W tk) (hc.run W tk) hm).imp fun _ _ _ h => bl_rd (fun _ _ _ h => chain_rd h) h⟩
def mAnd (a b : TM) : TM := fun e S => (a e S).bind fun k S => if k = true then b e S else .ok false S
def mOr (a b : TM) : TM := fun e S => (a e S).bind fun k S => if k = true then .ok true S else b e S
def mNot (a : TM) : TM := fun e S => (a e S).bind fun k S => .ok (!k) S
variable {ta tb : TM} {rest : List Expr}
theorem MW.mt (h : MW nm X a ta) : MT nm X a ta := ⟨fun W tk => (h.run W tk).pt⟩
theorem mw_and1 (ha : MT nm X a ta) : MW nm X (.BoolOp .And [a] pos) ta := ⟨fun W tk => pw_and1 (ha.run W tk)⟩
theorem mw_or1 (ha : MT nm X a ta) : MW nm X (.BoolOp .Or [a] pos) ta := ⟨fun W tk => pw_or1 (ha.run W tk)⟩
theorem mw_and (ha : MT nm X a ta) (hb : MW nm X (.BoolOp .And (b :: rest) pos) tb) : MW nm X (.BoolOp .And (a :: b :: rest) pos) (mAnd ta tb) := by
  refine ⟨fun W tk => (pw_and (ha.run W tk) (hb.run W tk)).imp fun σ H Q h => ?_⟩
  obtain ⟨e, S, μ, E, s, p⟩ := h
  refine ⟨e, S, μ, E, s, (Post.bind p).mono fun k S1 μ1 H1 x1 s1 p1 => ?_⟩
  cases k with
  | true => rw [if_pos rfl] at p1 ⊢; exact ⟨e, S1, μ1, E.ext x1, s1, p1⟩
  | false => rw [if_neg Bool.false_ne_true] at p1 ⊢; exact p1 μ1 H1 .refl s1
theorem mw_or (ha : MT nm X a ta) (hb : MW nm X (.BoolOp .Or (b :: rest) pos) tb) : MW nm X (.BoolOp .Or (a :: b :: rest) pos) (mOr ta tb) := by
  refine ⟨fun W tk => (pw_or (ha.run W tk) (hb.run W tk)).imp fun σ H Q h => ?_⟩
  obtain ⟨e, S, μ, E, s, p⟩ := h
  refine ⟨e, S, μ, E, s, (Post.bind p).mono fun k S1 μ1 H1 x1 s1 p1 => ?_⟩
  cases k with
  | true => rw [if_pos rfl] at p1 ⊢; exact p1 μ1 H1 .refl s1
  | false => rw [if_neg Bool.false_ne_true] at p1 ⊢; exact ⟨e, S1, μ1, E.ext x1, s1, p1⟩
theorem mt_not (ha : MT nm X a ta) : MT nm X (.UnaryOp .Not a pos) (mNot ta) := by
  refine ⟨fun W tk => (pt_not (ha.run W tk)).imp fun σ H Q h => ?_⟩
  obtain ⟨e, S, μ, E, s, p⟩ := h
  exact ⟨e, S, μ, E, s, (Post.bind p).mono fun k S1 μ1 H1 x1 s1 p1 => p1 μ1 H1 .refl s1⟩
def mAndV (a b : EM) : EM := fun e S => (a e S).bind fun d S => match asB d with
  | some true => b e S
  | some false => .ok (.bl false) S
  | none => .stuck
def mOrV (a b : EM) : EM := fun e S => (a e S).bind fun d S => match asB d with
  | some false => b e S
  | some true => .ok (.bl true) S
  | none => .stuck
def mNotV (a : EM) : EM := fun e S => (a e S).bind fun d S => match asB d with
  | some k => .ok (.bl (!k)) S
  | none => .stuck
theorem me_one {op} (ha : ME nm X a ma) : ME nm X (.BoolOp op [a] pos) ma := ⟨fun W tk => pe_one (ha.run W tk)⟩
theorem me_and (ha : ME nm X a ma) (hb : ME nm X (.BoolOp .And (b :: rest) pos) mb) : ME nm X (.BoolOp .And (a :: b :: rest) pos) (mAndV ma mb) := by
  refine ⟨fun W tk => (pe_and (ha.run W tk) (hb.run W tk)).imp fun σ H Q h => ?_⟩
  obtain ⟨e, S, μ, E, s, p⟩ := h
  refine ⟨e, S, μ, E, s, (Post.bind p).mono fun d S1 μ1 H1 x1 s1 p1 v rv => ?_⟩
  split at p1
  · rename_i hb
    cases d with
    | bl b' => cases hb; cases rv; exact ⟨_, rfl, by rw [if_pos rfl]; exact ⟨e, S1, μ1, E.ext x1, s1, p1⟩⟩
    | _ => cases hb
  · rename_i hb
    cases d with
    | bl b' => cases hb; cases rv; exact ⟨_, rfl, by rw [if_neg Bool.false_ne_true]; exact p1 μ1 H1 .refl s1 _ (.bl false)⟩
    | _ => cases hb
  · exact False.elim p1
theorem me_or (ha : ME nm X a ma) (hb : ME nm X (.BoolOp .Or (b :: rest) pos) mb) : ME nm X (.BoolOp .Or (a :: b :: rest) pos) (mOrV ma mb) := by
  refine ⟨fun W tk => (pe_or (ha.run W tk) (hb.run W tk)).imp fun σ H Q h => ?_⟩
  obtain ⟨e, S, μ, E, s, p⟩ := h
  refine ⟨e, S, μ, E, s, (Post.bind p).mono fun d S1 μ1 H1 x1 s1 p1 v rv => ?_⟩
  split at p1
  · rename_i hb
    cases d with
    | bl b' => cases hb; cases rv; exact ⟨_, rfl, by rw [if_neg Bool.false_ne_true]; exact ⟨e, S1, μ1, E.ext x1, s1, p1⟩⟩
    | _ => cases hb
  · rename_i hb
    cases d with
    | bl b' => cases hb; cases rv; exact ⟨_, rfl, by rw [if_pos rfl]; exact p1 μ1 H1 .refl s1 _ (.bl true)⟩
    | _ => cases hb
  · exact False.elim p1
theorem me_not (ha : ME nm X a ma) : ME nm X (.UnaryOp .Not a pos) (mNotV ma) := by
  refine ⟨fun W tk => (pe_not (ha.run W tk)).imp fun σ H Q h => ?_⟩
  obtain ⟨e, S, μ, E, s, p⟩ := h
  refine ⟨e, S, μ, E, s, (Post.bind p).mono fun d S1 μ1 H1 x1 s1 p1 v rv => ?_⟩
  split at p1
  · rename_i hb
    cases d with
    | bl b' => cases hb; cases rv; exact ⟨_, rfl, p1 μ1 H1 .refl s1 _ (.bl _)⟩
    | _ => cases hb
  · exact False.elim p1
def mIf (c : TM) (a b : EM) : EM := fun e S => (c e S).bind fun k S => if k = true then a e S else b e S
theorem me_if {c : Expr} (hc : MT nm X c ta) (ha : ME nm X a ma) (hb : ME nm X b mb) : ME nm X (.IfExp c a b pos) (mIf ta ma mb) := by
  refine ⟨fun W tk => (pe_ifExp (hc.run W tk) (ha.run W tk) (hb.run W tk)).imp fun σ H Q h => ?_⟩
  obtain ⟨e, S, μ, E, s, p⟩ := h
  refine ⟨e, S, μ, E, s, (Post.bind p).mono fun k S1 μ1 H1 x1 s1 p1 => ?_⟩
  cases k with
  | true => rw [if_pos rfl] at p1 ⊢; exact ⟨e, S1, μ1, E.ext x1, s1, p1⟩
  | false => rw [if_neg Bool.false_ne_true] at p1 ⊢; exact ⟨e, S1, μ1, E.ext x1, s1, p1⟩
end
end BS
namespace BS
open PySem PySem.Spec PyProof.Rows L2
mutual
def pyF (f : Nat → PyData) : D → PyData
  | .non => .none
  | .bl b => .bool b
  | .int i => .int i
  | .str x => .str x
  | .tup ds => .tuple (pyFs f ds)
  | .lst ds => .list (pyFs f ds)
  | .scr ds => .list (pyFs f ds)
  | .obj n => f n
def pyFs (f : Nat → PyData) : List D → List PyData
  | [] => []
  | d :: ds => pyF f d :: pyFs f ds
end
def pyk : Nat → Store → Nat → PyData
  | 0, _, _ => .dict []
  | k + 1, S, n => match S[n]? with
    | some (.lst ds) => .list (pyFs (pyk k S) ds)
    | _ => .dict []
abbrev py (S : Store) (d : D) : PyData := pyF (pyk 3 S) d
abbrev pys (S : Store) (ds : List D) : List PyData := pyFs (pyk 3 S) ds
section
variable {nm : Nms} {K : PySem.W.Frag} {mg : Str → Option Value} {H : Hp} {μ : List Addr} {S : Store} {f : Nat → PyData}
mutual
theorem dp_F (hf : ∀ n a, μ[n]? = some a → (f n).plain = true → Dp K H (.ref a) (f n)) : ∀ {v : V} (d : D), RV K H μ v d → (pyF f d).plain = true → Dp K H v (pyF f d)
  | _, .non, h, _ => by cases h; exact .non
  | _, .bl b, h, _ => by cases h; exact .bl b
  | _, .int i, h, _ => by cases h; exact .int i
  | _, .str x, h, _ => by cases h; exact .str x
  | _, .tup ds, h, p => by
    cases h with
    | tup t r => exact .tup t.sq (dp_Fs hf ds r (by simpa [pyF, PyData.plain] using p))
  | _, .lst ds, h, p => by
    cases h with
    | lst t r => exact .lst (.of t.2) (dp_Fs hf ds r (by simpa [pyF, PyData.plain] using p))
  | _, .scr ds, h, p => by
    cases h with
    | scr t r => exact .lst t.sq (dp_Fs hf ds r (by simpa [pyF, PyData.plain] using p))
  | _, .obj n, h, p => by
    cases h with
    | obj e => exact hf n _ e p
theorem dp_Fs (hf : ∀ n a, μ[n]? = some a → (f n).plain = true → Dp K H (.ref a) (f n)) : ∀ {vs : List V} (ds : List D), RVs K H μ vs ds → PyData.plainAll (pyFs f ds) = true → DpAll K H vs (pyFs f ds)
  | _, [], h, _ => by cases h; exact .nil
  | _, d :: ds, h, p => by
    cases h with
    | cons r t =>
      have p' : (pyF f d).plain = true ∧ PyData.plainAll (pyFs f ds) = true := by simpa [pyFs, PyData.plainAll] using p
      exact .cons (dp_F hf d r p'.1) (dp_Fs hf ds t p'.2)
end
theorem dp_k (s : Sim nm K mg μ S H) : ∀ (k n : Nat) (a : Addr), μ[n]? = some a → (pyk k S n).plain = true → Dp K H (.ref a) (pyk k S n)
  | 0, n, a, _, p => by simp [pyk, PyData.plain] at p
  | k + 1, n, a, e, p => by
    unfold pyk at p ⊢
    split at p
    · rename_i ds hds
      obtain ⟨xs, e1, r⟩ := s.ob n a _ e hds
      exact .lst (.of e1) (dp_Fs (fun n a e p => dp_k s k n a e p) ds r (by simpa [PyData.plain] using p))
    · simp [PyData.plain] at p
theorem RV.dp (s : Sim nm K mg μ S H) {v : V} {d : D} (r : RV K H μ v d) (p : (py S d).plain = true) : Dp K H v (py S d) := dp_F (dp_k s 3) d r p
theorem RVs.dp (s : Sim nm K mg μ S H) {v : List V} {d : List D} (r : RVs K H μ v d) (p : PyData.plainAll (pys S d) = true) : DpAll K H v (pys S d) := dp_Fs (dp_k s 3) d r p
end
def small (a b : PyData) : Bool := a.plain && b.plain && decide (min a.depth b.depth < 100)
/-- x == y, where it may be asked -/
def eqS (S : Store) (x y : D) : Option Bool := if small (py S x) (py S y) = true then some (PyData.eqv (py S x) (py S y)) else none
def lstOf (S : Store) (d : D) : Option (List D) := match d with
  | .lst ds => some ds
  | .scr ds => some ds
  | .obj n => match S[n]? with
    | some (.lst ds) => some ds
    | _ => none
  | _ => none
def tupOf (d : D) : Option (List D) := match d with
  | .tup ds => some ds
  | _ => none
def seqOf (S : Store) (d : D) : Option (List D) := match tupOf d with
  | some ds => some ds
  | none => lstOf S d
section
variable {nm : Nms} {K : PySem.W.Frag} {mg : Str → Option Value} {H : Hp} {μ : List Addr} {S : Store} {v : V} {d : D} {ds : List D}
theorem lstOf_sq (s : Sim nm K mg μ S H) (r : RV K H μ v d) (h : lstOf S d = some ds) : ∃ a xs, v = .ref a ∧ SqL K H a xs ∧ RVs K H μ xs ds := by
  unfold lstOf at h
  split at h
  · cases h; cases r with | lst t r => exact ⟨_, _, rfl, .of t.2, r⟩
  · cases h; cases r with | scr t r => exact ⟨_, _, rfl, t.sq, r⟩
  · split at h
    · rename_i hds
      cases h
      cases r with | obj e =>
        obtain ⟨xs, e1, r⟩ := s.ob _ _ _ e hds
        exact ⟨_, xs, rfl, .of e1, r⟩
    · cases h
  · cases h
theorem tupOf_sq (r : RV K H μ v d) (h : tupOf d = some ds) : ∃ a xs, v = .ref a ∧ SqT K H a xs ∧ RVs K H μ xs ds := by
  unfold tupOf at h
  split at h
  · cases h; cases r with | tup t r => exact ⟨_, _, rfl, t.sq, r⟩
  · cases h
theorem seqOf_sq (s : Sim nm K mg μ S H) (r : RV K H μ v d) (h : seqOf S d = some ds) : ∃ a xs, v = .ref a ∧ (SqL K H a xs ∨ SqT K H a xs) ∧ RVs K H μ xs ds := by
  unfold seqOf at h
  split at h
  · rename_i e; cases h
    obtain ⟨a, xs, h1, h2, h3⟩ := tupOf_sq r e
    exact ⟨a, xs, h1, .inr h2, h3⟩
  · obtain ⟨a, xs, h1, h2, h3⟩ := lstOf_sq s r h
    exact ⟨a, xs, h1, .inl h2, h3⟩
end
/-- a list that has just been made: an object of the store, or one that stays as it is -/
def fin (new : Bool) (ds : List D) (S : Store) : R D := if new = true then .ok (.obj S.length) (S ++ [.lst ds]) else .ok (.lst ds) S
@[simp] theorem fin_t (ds : List D) (S : Store) : fin true ds S = .ok (.obj S.length) (S ++ [.lst ds]) := rfl
@[simp] theorem fin_f (ds : List D) (S : Store) : fin false ds S = .ok (.lst ds) S := rfl
section
variable {nm : Nms} {K : PySem.W.Frag} {mg : Str → Option Value} {H : Hp} {μ : List Addr} {S : Store}
theorem fin_post {new : Bool} {ds : List D} {xs : List V} {Q : VK} {E : PX} {p : Addr} (s : Sim nm K mg μ S H) (r : RVs K H μ xs ds) (np : H p = none)
    (h : Post nm K mg μ H (fin new ds S) (fun d _ μ' H' => ∀ v, RV K H' μ' v d → Q v H') E) : Q (.ref p) (upd H p (.lst xs)) := by
  cases new with
  | true =>
    have x := Ext.made (u := .lst xs) s np
    refine h _ _ x (s.made np ⟨xs, upd_same, RVs.ext x _ r⟩) _ (.obj ?_)
    rw [← s.len, List.getElem?_append_right (Nat.le_refl _)]
    simp
  | false =>
    have x := Ext.laid (u := .lst xs) s np
    exact h _ _ x (s.laid np) _ (.lst ⟨s.fresh np, upd_same⟩ (RVs.ext x _ r))
/-- a tuple that has just been made -/
theorem tup_post {ds : List D} {xs : List V} {Q : VK} {E : PX} {p : Addr} (s : Sim nm K mg μ S H) (r : RVs K H μ xs ds) (np : H p = none)
    (h : Post nm K mg μ H (.ok (.tup ds) S) (fun d _ μ' H' => ∀ v, RV K H' μ' v d → Q v H') E) : Q (.ref p) (upd H p (.tup xs)) := by
  have x := Ext.laid (u := .tup xs) s np
  exact h _ _ x (s.laid np) _ (.tup (.inl ⟨s.fresh np, .inl upd_same⟩) (RVs.ext x _ r))
end
def fI (g : Int → Int → Option D) : Store → D → D → Option D := fun _ x y => match x, y with
  | .int i, .int j => g i j
  | _, _ => none
def fAdd : Store → D → D → Option D := fun _ x y => match x, y with
  | .int i, .int j => some (.int (i + j))
  | .str a, .str b => if a.length + b.length ≤ sizeLine then some (.str (a ++ b)) else none
  | .tup a, .tup b => if a.length + b.length ≤ sizeLine then some (.tup (a ++ b)) else none
  | _, _ => none
abbrev fSub := fI fun i j => some (.int (i - j))
abbrev fMul := fI fun i j => if (-(2 ^ 64) < i ∧ i < 2 ^ 64) ∨ (-(2 ^ 64) < j ∧ j < 2 ^ 64) then some (.int (i * j)) else none
abbrev fMod := fI fun i j => if 0 < j then some (.int (i % j)) else none
abbrev fDiv := fI fun i j => if 0 < j ∧ j < 1073741824 then some (.int (i / j)) else none
abbrev fPow := fI fun i j => if 0 ≤ j ∧ j ≤ 1000000 ∧ i.natAbs < 2 ^ 64 then some (.int (i ^ j.toNat)) else none
def ltS (a b : Str) : Bool := decide (a.cps.toList < b.cps.toList)
def fCmp (g : Int → Int → Bool) (h : Str → Str → Bool) : Store → D → D → Option D := fun _ x y => match x, y with
  | .int i, .int j => some (.bl (g i j))
  | .str a, .str b => some (.bl (h a b))
  | _, _ => none
abbrev fLt := fCmp (fun i j => decide (i < j)) fun a b => ltS a b
abbrev fLe := fCmp (fun i j => decide (i ≤ j)) fun a b => !ltS b a
abbrev fGt := fCmp (fun i j => decide (j < i)) fun a b => ltS b a
abbrev fGe := fCmp (fun i j => decide (j ≤ i)) fun a b => !ltS a b
def fEq : Store → D → D → Option D := fun S x y => (eqS S x y).map .bl
def fNe : Store → D → D → Option D := fun S x y => (eqS S x y).map fun b => .bl (!b)
def isNon (d : D) : Bool := match d with
  | .non => true
  | _ => false
@[simp] theorem isNon_non : isNon .non = true := rfl
@[simp] theorem isNon_bl (b : Bool) : isNon (.bl b) = false := rfl
@[simp] theorem isNon_int (b : Int) : isNon (.int b) = false := rfl
@[simp] theorem isNon_str (b : Str) : isNon (.str b) = false := rfl
@[simp] theorem isNon_tup (b : List D) : isNon (.tup b) = false := rfl
@[simp] theorem isNon_lst (b : List D) : isNon (.lst b) = false := rfl
@[simp] theorem isNon_obj (b : Nat) : isNon (.obj b) = false := rfl
def fIs : Store → D → D → Option D := fun _ x y => if isNon y = true then some (.bl (isNon x)) else none
def fIsNot : Store → D → D → Option D := fun _ x y => if isNon y = true then some (.bl (!isNon x)) else none
section
variable {nm : Nms} {X : Cx}
theorem opI_D {f : Value → Value → Sem Value} {C : Int → Int → Prop} {g : Int → Int → V} {h : Int → Int → Option D} (o : OpR X f (rI C g)) (hc : ∀ i j d, h i j = some d → C i j ∧ ∀ H μ, RV X.K H μ (g i j) d) : OpD nm X f (fI h) := by
  intro pins s σ H x y v u Q I rv ru hh
  obtain ⟨S, μ, dx, dy, d, sm, rx, ry, e, q⟩ := hh
  unfold fI at e
  split at e
  · cases rx; cases ry
    obtain ⟨c, r⟩ := hc _ _ _ e
    exact o pins s σ H _ _ v u Q I rv ru ⟨_, _, rfl, rfl, c, q _ μ H .refl sm (r _ _)⟩
  · cases e
theorem opI0_D {f : Value → Value → Sem Value} {g : Int → Int → Int} (o : OpR X f (rI0 fun i j => .int (g i j))) : OpD nm X f (fI fun i j => some (.int (g i j))) := by
  intro pins s σ H x y v u Q I rv ru hh
  obtain ⟨S, μ, dx, dy, d, sm, rx, ry, e, q⟩ := hh
  unfold fI at e
  split at e
  · cases rx; cases ry; cases e
    exact o pins s σ H _ _ v u Q I rv ru ⟨_, _, rfl, rfl, q _ μ H .refl sm (.int _)⟩
  · cases e
theorem o_sub : OpD nm X (binaryOp .Sub) fSub := opI0_D op_sub
theorem o_mul : OpD nm X (binaryOp .Mult) fMul := opI_D op_mul fun i j d h => by
  split at h
  · rename_i c; cases h; exact ⟨c, fun _ _ => .int _⟩
  · cases h
theorem o_mod : OpD nm X (binaryOp .Mod) fMod := opI_D op_mod fun i j d h => by
  split at h
  · rename_i c; cases h; exact ⟨c, fun _ _ => .int _⟩
  · cases h
theorem o_div : OpD nm X (binaryOp .FloorDiv) fDiv := opI_D op_fdiv fun i j d h => by
  split at h
  · rename_i c; cases h; exact ⟨c, fun _ _ => .int _⟩
  · cases h
theorem o_pow : OpD nm X (binaryOp .Pow) fPow := opI_D op_pow fun i j d h => by
  split at h
  · rename_i c; cases h; exact ⟨c, fun _ _ => .int _⟩
  · cases h
theorem o_add : OpD nm X (binaryOp .Add) fAdd := by
  intro pins s σ H x y v u Q I rv ru hh
  obtain ⟨S, μ, dx, dy, d, sm, rx, ry, e, q⟩ := hh
  unfold fAdd at e
  split at e
  · cases rx; cases ry; cases e
    exact op_add pins s σ H _ _ v u Q I rv ru ⟨_, _, rfl, rfl, q _ μ H .refl sm (.int _)⟩
  · split at e
    · rename_i c; cases rx; cases ry; cases e
      exact op_add_str pins s σ H _ _ v u Q I rv ru ⟨_, _, rfl, rfl, c, q _ μ H .refl sm (.str _)⟩
    · cases e
  · rename_i a b
    split at e
    · rename_i c
      cases e
      cases rx with | tup t1 r1 =>
      cases ry with | @tup b2 ys _ t2 r2 =>
      rename_i a1 xs
      have l1 := r1.length
      have l2 := r2.length
      refine op_catA pins s σ H _ _ v u Q I rv ru ⟨_, _, xs, ys, rfl, rfl, t1.sq, t2.sq, by rw [l1, l2]; exact c, fun z => ?_, fun _ z => ?_, fun _ _ p np => ?_⟩
      · subst z
        have ha : a = [] := by
          cases a with
          | nil => rfl
          | cons _ _ => simp at l1
        subst ha
        exact q _ μ H .refl sm (.tup t2 r2)
      · subst z
        have hb : b = [] := by
          cases b with
          | nil => rfl
          | cons _ _ => simp at l2
        subst hb
        rw [List.append_nil] at q
        exact q _ μ H .refl sm (.tup t1 r1)
      · exact tup_post (E := fun _ _ _ => False) sm (r1.append r2) np fun μ' H' x s' v' r' => q v' μ' H' x s' r'
    · cases e
  · cases e
theorem opC_D {op : CmpOp} {g : Int → Int → Bool} {h : Str → Str → Bool} (o : OpR X (compareOp op) (rI0 fun i j => .bl (g i j)))
    (p : OpR X (compareOp op) (fun x y H Q => ∃ i j, x = .str i ∧ y = .str j ∧ Q (.bl (h i j)) H)) : OpD nm X (compareOp op) (fCmp g h) := by
  intro pins s σ H x y v u Q I rv ru hh
  obtain ⟨S, μ, dx, dy, d, sm, rx, ry, e, q⟩ := hh
  unfold fCmp at e
  split at e
  · cases rx; cases ry; cases e
    exact o pins s σ H _ _ v u Q I rv ru ⟨_, _, rfl, rfl, q _ μ H .refl sm (.bl _)⟩
  · cases rx; cases ry; cases e
    exact p pins s σ H _ _ v u Q I rv ru ⟨_, _, rfl, rfl, q _ μ H .refl sm (.bl _)⟩
  · cases e
theorem o_lt : OpD nm X (compareOp .Lt) fLt := opC_D op_lt op_lt_str
theorem o_le : OpD nm X (compareOp .LtE) fLe := opC_D op_le op_le_str
theorem o_gt : OpD nm X (compareOp .Gt) fGt := opC_D op_gt op_gt_str
theorem o_ge : OpD nm X (compareOp .GtE) fGe := opC_D op_ge op_ge_str
theorem o_eq {k : Nat} (hr : L2H.RoomH k X.A) : OpD nm X (compareOp .Eq) fEq := by
  intro pins s σ H x y v u Q I rv ru hh
  obtain ⟨S, μ, dx, dy, d, sm, rx, ry, e, q⟩ := hh
  unfold fEq eqS at e
  split at e
  · rename_i c
    cases e
    simp only [small, Bool.and_eq_true, decide_eq_true_eq] at c
    obtain ⟨as, h1⟩ := Dp.reads I _ _ _ (rx.dp sm c.1.1) rv
    obtain ⟨bs, h2⟩ := Dp.reads I _ _ _ (ry.dp sm c.1.2) ru
    have := hr.un
    exact SeqAt.eq_plain h1 h2 c.1.1 c.1.2 (by omega) ⟨.bl _, H, I, rfl, q _ μ H .refl sm (.bl _)⟩
  · cases e
theorem o_ne {k : Nat} (hr : L2H.RoomH k X.A) : OpD nm X (compareOp .NotEq) fNe := by
  intro pins s σ H x y v u Q I rv ru hh
  obtain ⟨S, μ, dx, dy, d, sm, rx, ry, e, q⟩ := hh
  unfold fNe eqS at e
  split at e
  · rename_i c
    cases e
    simp only [small, Bool.and_eq_true, decide_eq_true_eq] at c
    obtain ⟨as, h1⟩ := Dp.reads I _ _ _ (rx.dp sm c.1.1) rv
    obtain ⟨bs, h2⟩ := Dp.reads I _ _ _ (ry.dp sm c.1.2) ru
    have := hr.un
    exact SeqAt.ne_plain h1 h2 c.1.1 c.1.2 (by omega) ⟨.bl _, H, I, rfl, q _ μ H .refl sm (.bl _)⟩
  · cases e
theorem isNon_iff {K : PySem.W.Frag} {H : Hp} {μ : List Addr} {v : V} {d : D} (r : RV K H μ v d) : decide (v = .non) = isNon d := by
  cases r <;> first | rfl | simp [isNon]
theorem o_is : OpD nm X (compareOp .Is) fIs := by
  intro pins s σ H x y v u Q I rv ru hh
  obtain ⟨S, μ, dx, dy, d, sm, rx, ry, e, q⟩ := hh
  unfold fIs at e
  split at e
  · rename_i c
    cases e
    refine op_isN pins s σ H _ _ v u Q I rv ru ⟨?_, q _ μ H .refl sm ?_⟩
    · have := isNon_iff ry; rw [c] at this; exact of_decide_eq_true this
    · rw [isNon_iff rx]; exact .bl _
  · cases e
theorem o_isnot : OpD nm X (compareOp .IsNot) fIsNot := by
  intro pins s σ H x y v u Q I rv ru hh
  obtain ⟨S, μ, dx, dy, d, sm, rx, ry, e, q⟩ := hh
  unfold fIsNot at e
  split at e
  · rename_i c
    cases e
    refine op_notN pins s σ H _ _ v u Q I rv ru ⟨?_, q _ μ H .refl sm ?_⟩
    · have := isNon_iff ry; rw [c] at this; exact of_decide_eq_true this
    · rw [isNon_iff rx]; exact .bl _
  · cases e
end
def inStr (a b : Str) : Bool := !(Builtin.Str.occurrences b a 0 b.length 1).isEmpty
def keyOf (d : D) : Option Key := match d with
  | .int i => some (.inl i)
  | .str x => some (.inr x)
  | _ => none
def getK (kvs : List (Key × D)) (k : Key) : Option D := (kvs.find? fun kv => decide (kv.1 = k)).map (·.2)
def dctOf (S : Store) (d : D) : Option (List (Key × D)) := match d with
  | .obj n => match S[n]? with
    | some (.dct kvs) => some kvs
    | _ => none
  | _ => none
def inS (S : Store) (x y : D) : Option Bool := match y with
  | .str b => match x with
    | .str a => some (inStr a b)
    | _ => none
  | _ => match dctOf S y with
    | some kvs => (keyOf x).map fun k => (getK kvs k).isSome
    | none => match seqOf S y with
      | some ys => if ((py S x).plain && PyData.plainAll (pys S ys) && decide (min (PyData.depthAll (pys S ys)) (py S x).depth < 100)) = true then some ((pys S ys).any fun z => PyData.eqv z (py S x)) else none
      | none => none
def fIn : Store → D → D → Option D := fun S x y => (inS S x y).map .bl
def fNotIn : Store → D → D → Option D := fun S x y => (inS S x y).map fun b => .bl (!b)
section
variable {nm : Nms} {X : Cx}
theorem getK_val {K : PySem.W.Frag} {H : Hp} {μ : List Addr} : ∀ {ys : List (Key × V)} {kvs : List (Key × D)} (k : Key), RK K H μ ys kvs → (valV ys k = none ∧ getK kvs k = none) ∨ ∃ v d, valV ys k = some v ∧ getK kvs k = some d ∧ RV K H μ v d
  | _, _, k, .nil => .inl ⟨rfl, rfl⟩
  | p :: ys, q :: kvs, k, .cons r t => by
    by_cases e : p.1 = k
    · refine .inr ⟨p.2, q.2, valV_pos e, ?_, r.2⟩
      unfold getK
      rw [List.find?_cons_of_pos (by rw [← r.1]; simpa using e)]
      rfl
    · rcases getK_val k t with ⟨h1, h2⟩ | ⟨v, d, h1, h2, h3⟩
      · refine .inl ⟨by rw [valV_neg e]; exact h1, ?_⟩
        unfold getK at h2 ⊢
        rw [List.find?_cons_of_neg (by rw [← r.1]; simpa using e)]
        exact h2
      · refine .inr ⟨v, d, by rw [valV_neg e]; exact h1, ?_, h3⟩
        unfold getK at h2 ⊢
        rw [List.find?_cons_of_neg (by rw [← r.1]; simpa using e)]
        exact h2
theorem keyOf_kV {K : PySem.W.Frag} {H : Hp} {μ : List Addr} {v : V} {d : D} {k : Key} (r : RV K H μ v d) (e : keyOf d = some k) : v = kV k := by
  unfold keyOf at e
  split at e
  · cases e; cases r; rfl
  · cases e; cases r; rfl
  · cases e
theorem dctOf_at {K : PySem.W.Frag} {mg : Str → Option Value} {H : Hp} {μ : List Addr} {S : Store} {v : V} {d : D} {kvs : List (Key × D)} (s : Sim nm K mg μ S H) (r : RV K H μ v d) (h : dctOf S d = some kvs) :
    ∃ n a ys, d = .obj n ∧ v = .ref a ∧ μ[n]? = some a ∧ S[n]? = some (.dct kvs) ∧ H a = some (.dK ys) ∧ RK K H μ ys kvs := by
  unfold dctOf at h
  split at h
  · split at h
    · rename_i hds
      cases h
      cases r with | obj e =>
        obtain ⟨ys, e1, r⟩ := s.ob _ _ _ e hds
        exact ⟨_, _, ys, rfl, rfl, e, hds, e1, r⟩
    · cases h
  · cases h
theorem in_core {k : Nat} {neg : Bool} (hr : L2H.RoomH k X.A) {op : CmpOp} (hop : op = if neg = true then .NotIn else .In) : OpD nm X (compareOp op) (fun S x y => (inS S x y).map fun b => .bl (if neg = true then !b else b)) := by
  intro pins s σ H x y v u Q I rv ru hh
  obtain ⟨S, μ, dx, dy, d, sm, rx, ry, e0, q⟩ := hh
  have hun := hr.un
  obtain ⟨b, e, e1⟩ := Option.map_eq_some_iff.mp e0
  clear e0
  subst e1
  have q : Q (.bl (if neg = true then !b else b)) H := q _ μ H .refl sm (.bl _)
  unfold inS at e
  split at e
  · split at e
    · cases e; cases rx; cases ry
      subst hop
      cases neg with
      | true => exact op_notin_str pins s σ H _ _ v u Q I rv ru ⟨_, _, rfl, rfl, q⟩
      | false => exact op_in_str pins s σ H _ _ v u Q I rv ru ⟨_, _, rfl, rfl, q⟩
    · cases e
  · split at e
    · rename_i kvs hk
      obtain ⟨key, hkey, rfl⟩ := Option.map_eq_some_iff.mp e
      obtain ⟨n, a, ys, rfl, rfl, _, _, e1, r1⟩ := dctOf_at sm ry hk
      have ek := keyOf_kV rx hkey
      subst ek
      cases ru
      have hs : (valV ys key).isSome = (getK kvs key).isSome := by
        rcases getK_val key r1 with ⟨h1, h2⟩ | ⟨_, _, h1, h2, _⟩ <;> rw [h1, h2] <;> rfl
      subst hop
      cases neg with
      | true => exact d_notIn (by omega) I (DGet.k e1) rv fun s' I' => ⟨.bl _, H, I', rfl, by rw [hs]; exact q⟩
      | false => exact d_in (by omega) I (DGet.k e1) rv fun s' I' => ⟨.bl _, H, I', rfl, by rw [hs]; exact q⟩
    · split at e
      · rename_i ys hys
        split at e
        · rename_i c
          cases e
          simp only [Bool.and_eq_true, decide_eq_true_eq] at c
          obtain ⟨as, h1⟩ := Dp.reads I _ _ _ (rx.dp sm c.1.1) rv
          obtain ⟨a, xs, rfl, hs, r⟩ := seqOf_sq sm ry hys
          cases ru
          subst hop
          rcases hs with hs | hs
          · obtain ⟨its, rvs, ⟨o, n, ho, hc, _, hd⟩, _⟩ := I.list hs
            obtain ⟨bs, h2⟩ := Dp.readsAll I _ _ _ (r.dp sm c.1.2) rvs
            cases neg with
            | true => exact SeqAt.notIn_list_data (Reads.list ho hc hd h2) h1 c.1.2 c.1.1 (by omega) ⟨.bl _, H, I, rfl, q⟩
            | false => exact SeqAt.in_list_data (Reads.list ho hc hd h2) h1 c.1.2 c.1.1 (by omega) ⟨.bl _, H, I, rfl, q⟩
          · obtain ⟨its, rvs, ⟨o, ho, hc, n, hd⟩, _⟩ := I.tuple hs
            obtain ⟨bs, h2⟩ := Dp.readsAll I _ _ _ (r.dp sm c.1.2) rvs
            cases neg with
            | true => exact SeqAt.notIn_tuple_data (Reads.tuple ho hc hd h2) h1 c.1.2 c.1.1 (by omega) ⟨.bl _, H, I, rfl, q⟩
            | false => exact SeqAt.in_tuple_data (Reads.tuple ho hc hd h2) h1 c.1.2 c.1.1 (by omega) ⟨.bl _, H, I, rfl, q⟩
        · cases e
      · cases e
theorem o_in {k : Nat} (hr : L2H.RoomH k X.A) : OpD nm X (compareOp .In) fIn := in_core (neg := false) hr rfl
theorem o_notin {k : Nat} (hr : L2H.RoomH k X.A) : OpD nm X (compareOp .NotIn) fNotIn := in_core (neg := true) hr rfl
theorem un_D {op : UnaryOp} {f : Store → D → Option D} {a : Expr} {ma : EM} {pos : Pos} {r : V → Hp → VK → Prop} (hu : UnR X (unaryOp op) r) (h : ∀ S μ H x dx d Q, Sim nm X.K X.mg μ S H → RV X.K H μ x dx → f S dx = some d → (∀ v, RV X.K H μ v d → Q v H) → r x H Q)
    (ha : ME nm X a ma) : ME nm X (.UnaryOp op a pos) (mUn f ma) := by
  refine ⟨fun W tk => (pe_un hu (ha.run W tk)).imp fun σ H Q hh => ?_⟩
  obtain ⟨e, S, μ, E, s, p⟩ := hh
  refine ⟨e, S, μ, E, s, (Post.bind p).mono fun dx S1 μ1 H1 x1 s1 p1 v rv => ?_⟩
  split at p1
  · rename_i d hd
    exact h S1 μ1 H1 v dx d Q s1 rv hd fun w r => p1 μ1 H1 .refl s1 w r
  · exact False.elim p1
def fNeg : Store → D → Option D := fun _ x => match x with
  | .int i => some (.int (-i))
  | _ => none
theorem me_neg {a : Expr} {ma : EM} {pos : Pos} (ha : ME nm X a ma) : ME nm X (.UnaryOp .USub a pos) (mUn fNeg ma) := un_D un_neg (fun S μ H x dx d Q s r e q => by
  unfold fNeg at e
  split at e
  · cases e; cases r; exact ⟨_, rfl, q _ (.int _)⟩
  · cases e) ha
end
end BS
namespace BS
open PySem PySem.Spec PyProof.Rows L2
section
variable {nm : Nms} {X : Cx} {pos : Pos} {e : Expr} {es : List Expr} {me : EM} {ma : AM}
def mNil : AM := fun _ S => .ok [] S
def mCons (m : EM) (r : AM) : AM := fun e S => (m e S).bind fun d S => (r e S).bind fun ds S => .ok (d :: ds) S
theorem ma_nil : MA nm X [] mNil := ⟨fun W tk => pa_nil.imp fun σ H Q h => by
  obtain ⟨e, S, μ, E, s, p⟩ := h
  exact p μ H .refl s _ .nil, fun e S ds S' h => by cases h; rfl⟩
theorem ma_cons (ha : ME nm X e me) (hr : MA nm X es ma) (hs : starEach (e :: es) X.env = (false, eval e X.env) :: starEach es X.env := by rfl) : MA nm X (e :: es) (mCons me ma) := by
  refine ⟨fun W tk => (pa_cons (ha.run W tk) (hr.run W tk) hs).imp fun σ H Q h => ?_, fun e S ds S' h => ?_⟩
  · obtain ⟨e, S, μ, E, s, p⟩ := h
    refine ⟨e, S, μ, E, s, (Post.bind p).mono fun d S1 μ1 H1 x1 s1 p1 v rv => ?_⟩
    refine ⟨e, S1, μ1, E.ext x1, s1, (Post.bind p1).mono fun ds S2 μ2 H2 x2 s2 p2 vs rvs => ?_⟩
    exact p2 μ2 H2 .refl s2 _ (.cons (rv.ext x2) rvs)
  · unfold mCons at h
    cases h1 : me e S with
    | ok d S1 =>
      rw [h1, R.bind_ok] at h
      cases h2 : ma e S1 with
      | ok ds1 S2 =>
        rw [h2, R.bind_ok] at h
        cases h
        rw [List.length_cons, List.length_cons, hr.len _ _ _ _ h2]
      | exc c fs S2 => rw [h2] at h; cases h
      | stuck => rw [h2] at h; cases h
    | exc c fs S1 => rw [h1] at h; cases h
    | stuck => rw [h1] at h; cases h
def mTup (m : AM) : EM := fun e S => (m e S).bind fun ds S => .ok (.tup ds) S
def mLst (new : Bool) (m : AM) : EM := fun e S => (m e S).bind fun ds S => fin new ds S
theorem lenOk {n : Nat} (h : n ≤ 1000) : n ≤ sizeLine := Nat.le_of_lt (small1000 h)
theorem post_len {W : WX} {σ : St} {H : Hp} {μ : List Addr} {ev : Ev} {S : Store} {P : PA (List D)} (hm : MA nm X es ma) (p : PostX nm X W μ H σ (ma ev S) P) : PostX nm X W μ H σ (ma ev S) fun ds S' μ' H' => ds.length = es.length ∧ P ds S' μ' H' := by
  cases h : ma ev S with
  | ok ds S' => rw [h] at p; exact fun μ' H' x s => ⟨hm.len _ _ _ _ h, p μ' H' x s⟩
  | exc c fs S' => rw [h] at p; exact p
  | stuck => rw [h] at p; exact p
theorem me_tup {x1} (h : MA nm X es ma) (hl : es.length ≤ 1000 := by decide) : ME nm X (.Tuple es x1 pos) (mTup ma) := by
  refine ⟨fun W tk => (pe_tup (h.run W tk)).imp fun σ H Q hh => ?_⟩
  obtain ⟨e, S, μ, E, s, p⟩ := hh
  refine ⟨e, S, μ, E, s, (post_len h (Post.bind p)).mono fun ds S1 μ1 H1 x1 s1 p1 vs rvs => ⟨?_, fun p np => tup_post s1 rvs np p1.2⟩⟩
  rw [rvs.length, p1.1]; exact lenOk hl
theorem me_lst (new : Bool) (h : MA nm X es ma) (hl : es.length ≤ 1000 := by decide) : ME nm X (.List es pos) (mLst new ma) := by
  refine ⟨fun W tk => (pe_lst (h.run W tk)).imp fun σ H Q hh => ?_⟩
  obtain ⟨e, S, μ, E, s, p⟩ := hh
  refine ⟨e, S, μ, E, s, (post_len h (Post.bind p)).mono fun ds S1 μ1 H1 x1 s1 p1 vs rvs => ⟨?_, fun p np => fin_post s1 rvs np p1.2⟩⟩
  rw [rvs.length, p1.1]; exact lenOk hl
/-- {} -/
def mDct : EM := fun _ S => .ok (.obj S.length) (S ++ [.dct []])
theorem made_dct {K : PySem.W.Frag} {mg : Str → Option Value} {μ : List Addr} {S : Store} {H : Hp} {p : Addr} (s : Sim nm K mg μ S H) (np : H p = none) : Sim nm K mg (μ ++ [p]) (S ++ [.dct []]) (upd H p (.dK [])) :=
  s.made np ⟨[], upd_same, .nil⟩
theorem new_at {K : PySem.W.Frag} {mg : Str → Option Value} {μ : List Addr} {S : Store} {H : Hp} {p : Addr} (s : Sim nm K mg μ S H) : (μ ++ [p])[S.length]? = some p := by
  rw [← s.len, List.getElem?_append_right (Nat.le_refl _)]; simp
theorem me_dct : ME nm X (.Dict [] [] pos) mDct := by
  refine ⟨fun W tk => pe_dnewK.imp fun σ H Q hh => ?_⟩
  obtain ⟨e, S, μ, E, s, p⟩ := hh
  intro q nq
  exact p _ _ (Ext.made s nq) (made_dct s nq) _ (.obj (new_at s))
def strAt (c : Nat) : D := .str ⟨#[c]⟩
/-- a dict that may be read: also one over which a loop runs -/
def dctR (S : Store) (d : D) : Option (List (Key × D)) := match d with
  | .obj n => match S[n]? with
    | some (.dct kvs) => some kvs
    | some (.lck kvs) => some kvs
    | _ => none
  | _ => none
theorem dctR_at {nm : Nms} {K : PySem.W.Frag} {mg : Str → Option Value} {H : Hp} {μ : List Addr} {S : Store} {v : V} {d : D} {kvs : List (Key × D)} (s : Sim nm K mg μ S H) (r : RV K H μ v d) (h : dctR S d = some kvs) :
    ∃ n a ys, d = .obj n ∧ v = .ref a ∧ μ[n]? = some a ∧ Rd H a (.dK ys) ∧ RK K H μ ys kvs := by
  unfold dctR at h
  split at h
  · split at h
    · rename_i hds
      cases h
      cases r with | obj e =>
        obtain ⟨ys, e1, r⟩ := s.ob _ _ _ e hds
        exact ⟨_, _, ys, rfl, rfl, e, .inl e1, r⟩
    · rename_i hds
      cases h
      cases r with | obj e =>
        obtain ⟨od, ys, e1, r⟩ := s.ob _ _ _ e hds
        exact ⟨_, _, ys, rfl, rfl, e, .inr ⟨od, e1⟩, r⟩
    · cases h
  · cases h
def fIx : Store → D → D → Option D := fun S x i => match i with
  | .int i => match x with
    | .str z => if z.length ≤ sizeLine then (atI z.cps.toList i).map strAt else none
    | _ => match seqOf S x with
      | some ds => atI ds i
      | none => match dctR S x with
        | some kvs => getK kvs (.inl i)
        | none => none
  | .str k => match dctR S x with
    | some kvs => getK kvs (.inr k)
    | none => none
  | _ => none
theorem atI_rvs {K : PySem.W.Frag} {H : Hp} {μ : List Addr} {xs : List V} {ds : List D} {i : Int} {d : D} (r : RVs K H μ xs ds) (h : atI ds i = some d) : ∃ v, atI xs i = some v ∧ RV K H μ v d := by
  unfold atI at h ⊢
  rw [← r.length] at h
  cases e : ixN xs.length i with
  | none => rw [e] at h; cases h
  | some j =>
    rw [e] at h
    obtain ⟨v, h1, h2⟩ := r.get (i := j) h
    exact ⟨v, h1, h2⟩
theorem dict_tail {prog : Program} {w : World} {A : Around} {E : Value → Shared → Prop} {s₂ : Shared} {value slice : Expr} {o i : Value} {Q : Value → Shared → Prop} (hT : s₂.TypeIs o "dict") (hs : subscripted slice false o i = operate [o, i] (getItem o i))
    (h₂ : wpAny (model prog w) A (getItem o i) Q E s₂) : wpAny (model prog w) A (subscriptTail value slice o i) Q E s₂ := by
  unfold subscriptTail
  refine wpAny_bind ?_
  rw [getitemInPython_of_ne hT.not_modules]
  refine wpAny_bind (wpAny_specialOf hT PySem.F.slot_dict_getitem.lookup ?_)
  have fin : wpAny (model prog w) A (subscripted slice false o i) (fun r s₃ => wpAny (model prog w) A (letTemporaryGo value o r >>= fun _ => pure r) Q E s₃) E s₂ := by
    rw [hs]
    exact wpAny_operating (wpAny_mono h₂ (fun r s₃ h₃ => wpAny_bind (wpAny_letTemporaryGo (wpAny_pure h₃))) fun _ _ x => x)
  first
    | exact wpAny_pure (wpAny_bind fin)
    | exact wpAny_bind (wpAny_pure (wpAny_bind fin))
    | exact wpAny_bind fin
/-- the read o[i] of a sequence or a dict, as the two rules of the layer give it -/
def mIx (a b : EM) : EM := mBin fIx a b
theorem ix_core (hr : X.A.units + 1 < cLine) {a b : Expr} {ta tb : TE} (ha : PE X a ta) (hb : PE X b tb) (hs : PlainIx b) : PE X (.Subscript a b pos) (tOp (rOpD nm X fIx) ta tb) := by
  refine ⟨fun pins s σ H Q I h => ?_⟩
  -- which rule is decided by the values: run both subexpressions, then the tail
  have key : ∀ (pins : List (Addr × Obj)) (s : Shared) (σ : St) (H : Hp) (x y : V) (v u : Value) (Q : VK), Inv X pins σ H s → RelV x v → RelV y u → rOpD nm X fIx x y H Q →
      (rIx X.K x y H Q) ∨ ∃ a w, x = .ref a ∧ DGet H a y (some w) ∧ Q w H := by
    intro pins s σ H x y v u Q I rv ru hh
    obtain ⟨S, μ, dx, dy, d, sm, rx, ry, e, q⟩ := hh
    have q : ∀ v, RV X.K H μ v d → Q v H := fun v r => q v μ H .refl sm r
    unfold fIx at e
    split at e
    · cases ry
      split at e
      · cases rx
        split at e
        · rename_i c
          obtain ⟨z, h1, rfl⟩ := Option.map_eq_some_iff.mp e
          exact .inl (.inr (.inr ⟨_, _, z, rfl, rfl, c, h1, q _ (.str _)⟩))
        · cases e
      · split at e
        · rename_i ds hds
          obtain ⟨a, xs, rfl, hs, r⟩ := seqOf_sq sm rx hds
          obtain ⟨w, h1, h2⟩ := atI_rvs r e
          rcases hs with hs | hs
          · exact .inl (.inl ⟨a, xs, _, w, rfl, rfl, hs, h1, q _ h2⟩)
          · exact .inl (.inr (.inl ⟨a, xs, _, w, rfl, rfl, hs, h1, q _ h2⟩))
        · split at e
          · rename_i kvs hk
            obtain ⟨n, a, ys, rfl, rfl, _, e1, r1⟩ := dctR_at sm rx hk
            rcases getK_val _ r1 with ⟨h1, h2⟩ | ⟨w, d', h1, h2, h3⟩
            · rw [h2] at e; cases e
            · rw [h2] at e; cases e
              exact .inr ⟨a, w, rfl, h1 ▸ (.inl ⟨ys, Sum.inl _, e1, rfl, rfl⟩ : DGet H a (kV (Sum.inl _)) (valV ys (Sum.inl _))), q _ h3⟩
          · cases e
    · cases ry
      split at e
      · rename_i kvs hk
        obtain ⟨n, a, ys, rfl, rfl, _, e1, r1⟩ := dctR_at sm rx hk
        rcases getK_val _ r1 with ⟨h1, h2⟩ | ⟨w, d', h1, h2, h3⟩
        · rw [h2] at e; cases e
        · rw [h2] at e; cases e
          exact .inr ⟨a, w, rfl, h1 ▸ (.inl ⟨ys, Sum.inr _, e1, rfl, rfl⟩ : DGet H a (kV (Sum.inr _)) (valV ys (Sum.inr _))), q _ h3⟩
      · cases e
    · cases e
  refine Subscript_ (thn (ha.run pins s σ H _ I h) fun v s1 ⟨x, H1, I1, r1, q1⟩ => thn (hb.run pins s1 σ H1 _ I1 q1) fun u s2 ⟨y, H2, I2, r2, q2⟩ => ?_)
  rcases key pins s2 σ H2 x y v u Q I2 r1 r2 q2 with h | ⟨a', w, rfl, g, q⟩
  · exact ix_seq a b pins s2 σ H2 x y v u Q I2 r1 r2 h (hs _ _)
  · cases r1
    exact dict_tail (dict_typeIs I2 g) (hs _ _) (d_getItem hr I2 g r2 fun w' s' I' rw' => ⟨w, H2, I', rw', q⟩)
theorem me_ix {k : Nat} (hr : L2H.RoomH k X.A) {a b : Expr} {ma mb : EM} (ha : ME nm X a ma) (hb : ME nm X b mb) (hs : PlainIx b := by exact fun _ _ => rfl) : ME nm X (.Subscript a b pos) (mIx ma mb) :=
  ⟨fun W tk => (ix_core (nm := nm) (by have := hr.un; omega) (ha.run W tk) (hb.run W tk) hs).imp fun _ _ _ h => bin_rd h⟩
abbrev OM := Ev → Store → R (Option Int)
def rdO (nm : Nms) (X : Cx) (W : WX) (m : OM) : TO := fun σ H Q => ∃ e S μ, EvR nm X H μ e σ ∧ Sim nm X.K X.mg μ S H ∧ PostX nm X W μ H σ (m e S) fun o _ μ' H' => Q o H'
structure MO (nm : Nms) (X : Cx) (e : Option Expr) (m : OM) : Prop where
  run : ∀ W, Takes X W → PO X e (rdO nm X W m)
theorem _root_.L2.PO.imp {X : Cx} {e : Option Expr} {t t' : TO} (h : PO X e t) (f : ∀ σ H Q, t' σ H Q → t σ H Q) : PO X e t' := ⟨fun pins s σ H Q I q => h.run pins s σ H Q I (f _ _ _ q)⟩
def oNo : OM := fun _ S => .ok none S
def oAt (m : EM) : OM := fun e S => (m e S).bind fun d S => match d with
  | .int i => .ok (some i) S
  | _ => .stuck
theorem mo_no : MO nm X none oNo := ⟨fun W tk => po_none.imp fun σ H Q h => by
  obtain ⟨e, S, μ, E, s, p⟩ := h
  exact p μ H .refl s⟩
theorem mo_at (h : ME nm X e me) : MO nm X (some e) (oAt me) := ⟨fun W tk => (po_some (h.run W tk)).imp fun σ H Q h => by
  obtain ⟨e, S, μ, E, s, p⟩ := h
  refine ⟨e, S, μ, E, s, (Post.bind p).mono fun d S1 μ1 H1 x1 s1 p1 v rv => ?_⟩
  split at p1
  · cases rv; exact ⟨_, rfl, p1 μ1 H1 .refl s1⟩
  · exact False.elim p1⟩
def cutD (xs : List D) (lo hi : Option Int) : List D := (xs.drop (HT.sIx xs.length 0 lo)).take (HT.sIx xs.length xs.length hi - HT.sIx xs.length 0 lo)
theorem cut_rvs {K : PySem.W.Frag} {H : Hp} {μ : List Addr} {xs : List V} {ds : List D} (r : RVs K H μ xs ds) (lo hi : Option Int) : RVs K H μ (cutV xs lo hi) (cutD ds lo hi) := by
  unfold cutV cutD
  rw [r.length]
  exact (r.drop _).take _
def slS (new : Bool) (S : Store) (x : D) (lo hi : Option Int) : R D := match x with
  | .str z => if z.length ≤ sizeLine then .ok (.str (cutS z lo hi)) S else .stuck
  | .tup ds => .ok (.tup (cutD ds lo hi)) S
  | _ => match lstOf S x with
    | some ds => fin new (cutD ds lo hi) S
    | none => .stuck
def mSl (new : Bool) (a : EM) (lo hi : OM) : EM := fun e S => (a e S).bind fun x S => (lo e S).bind fun l S => (hi e S).bind fun h S => slS new S x l h
theorem me_sl (new : Bool) {lo hi : Option Expr} {ml mh : OM} {p2 : Pos} (he : ME nm X e me) (hl : MO nm X lo ml) (hu : MO nm X hi mh) : ME nm X (.Subscript e (.Slice lo hi none p2) pos) (mSl new me ml mh) := by
  refine ⟨fun W tk => (pe_slice ((sl_str.or sl_tupA).or sl_list) (he.run W tk) (hl.run W tk) (hu.run W tk)).imp fun σ H Q h => ?_⟩
  obtain ⟨e, S, μ, E, s, p⟩ := h
  refine ⟨e, S, μ, E, s, (Post.bind p).mono fun d S1 μ1 H1 x1 s1 p1 v rv => ?_⟩
  refine ⟨e, S1, μ1, E.ext x1, s1, (Post.bind p1).mono fun l S2 μ2 H2 x2 s2 p2 => ?_⟩
  refine ⟨e, S2, μ2, E.ext (x1.trans x2), s2, (Post.bind p2).mono fun h S3 μ3 H3 x3 s3 p3 => ?_⟩
  have rv := rv.ext (x2.trans x3)
  unfold slS at p3
  split at p3
  · cases rv
    split at p3
    · rename_i c; exact .inl (.inl ⟨_, rfl, c, p3 μ3 H3 .refl s3 _ (.str _)⟩)
    · exact False.elim p3
  · cases rv with | tup t r =>
    refine .inl (.inr ⟨_, _, rfl, t.sq, fun c => ?_, fun _ p np => tup_post s3 (cut_rvs r l h) np p3⟩)
    rename_i ds a xs
    have e : cutD ds l h = ds := by
      rw [r.length] at c
      unfold cutD
      rw [c.1, c.2]
      simp
    rw [e] at p3
    exact p3 μ3 H3 .refl s3 _ (.tup t r)
  · split at p3
    · rename_i ds hds
      obtain ⟨a, xs, rfl, hs, r⟩ := lstOf_sq s3 rv hds
      exact .inr ⟨a, xs, rfl, hs, fun p np => fin_post s3 (cut_rvs r l h) np p3⟩
    · exact False.elim p3
def getN {α : Type} : List (Nat × α) → Nat → Option α
  | [], _ => none
  | p :: r, k => if p.1 = k then some p.2 else getN r k
def setN {α : Type} (k : Nat) (v : α) : List (Nat × α) → List (Nat × α)
  | [] => [(k, v)]
  | p :: r => if p.1 = k then (k, v) :: r else p :: setN k v r
theorem rf_get {K : PySem.W.Frag} {H : Hp} {μ : List Addr} : ∀ {gs : List (Str × V)} {fs : List (Nat × D)} (f : Nat), f < nm.most → RF nm K H μ gs fs → (gs.lookup (nm.fld f) = none ∧ getN fs f = none) ∨ ∃ v d, gs.lookup (nm.fld f) = some v ∧ getN fs f = some d ∧ RV K H μ v d
  | _, _, f, _, .nil => .inl ⟨rfl, rfl⟩
  | p :: gs, q :: fs, f, hf, .cons r t => by
    by_cases e : q.1 = f
    · refine .inr ⟨p.2, q.2, ?_, by unfold getN; rw [if_pos e], r.2.2⟩
      rw [List.lookup_cons, r.1, e]
      simp
    · have ne : nm.fld f ≠ p.1 := fun z => e (nm.inj _ _ r.2.1 hf (by rw [← r.1]; exact z.symm))
      have hb : (nm.fld f == p.1) = false := by simpa using ne
      rw [List.lookup_cons, hb]
      unfold getN
      rw [if_neg e]
      exact rf_get f hf t
theorem rf_set {K : PySem.W.Frag} {H : Hp} {μ : List Addr} : ∀ {gs : List (Str × V)} {fs : List (Nat × D)} (f : Nat) {v : V} {d : D}, f < nm.most → RV K H μ v d → RF nm K H μ gs fs → RF nm K H μ (putF (nm.fld f) v gs) (setN f d fs)
  | _, _, f, v, d, hf, rv, .nil => .cons ⟨rfl, hf, rv⟩ .nil
  | p :: gs, q :: fs, f, v, d, hf, rv, .cons r t => by
    unfold putF setN
    by_cases e : q.1 = f
    · rw [if_pos (by rw [r.1, e]), if_pos e]
      exact .cons ⟨by rw [r.1, e], hf, rv⟩ t
    · have ne : ¬ p.1 = nm.fld f := fun z => e (nm.inj _ _ r.2.1 hf (by rw [← r.1]; exact z))
      rw [if_neg ne, if_neg e]
      exact .cons r (rf_set f hf rv t)
theorem rf_length {K : PySem.W.Frag} {H : Hp} {μ : List Addr} {gs : List (Str × V)} {fs : List (Nat × D)} (r : RF nm K H μ gs fs) : gs.length = fs.length := Paired.length r
/-- what the text's class (for each of cs) says of the field f -/
def FldOk (K : PySem.W.Frag) (mg : Str → Option Value) (nm : Nms) (cs : List Nat) (f : Nat) : Prop := f < nm.most ∧ ∀ c ∈ cs, ∀ C, mg (nm.cls c) = some (.ref C) → Cls K C ∧ NoAttr K C (nm.fld f)
def insOf (S : Store) (d : D) : Option (Nat × List (Nat × D)) := match d with
  | .obj n => match S[n]? with
    | some (.ins c fs) => some (c, fs)
    | _ => none
  | _ => none
theorem insOf_at {K : PySem.W.Frag} {mg : Str → Option Value} {H : Hp} {μ : List Addr} {S : Store} {v : V} {d : D} {c : Nat} {fs : List (Nat × D)} (s : Sim nm K mg μ S H) (r : RV K H μ v d) (h : insOf S d = some (c, fs)) :
    ∃ n a C dx gs, d = .obj n ∧ v = .ref a ∧ μ[n]? = some a ∧ S[n]? = some (.ins c fs) ∧ mg (nm.cls c) = some (.ref C) ∧ H a = some (.ins C dx gs) ∧ RF nm K H μ gs fs := by
  unfold insOf at h
  split at h
  · split at h
    · rename_i hds
      cases h
      cases r with | obj e =>
        obtain ⟨C, dx, gs, g, e1, r⟩ := s.ob _ _ _ e hds
        exact ⟨_, _, C, dx, gs, rfl, rfl, e, hds, g, e1, r⟩
    · cases h
  · cases h
def getF (cs : List Nat) (f : Nat) (S : Store) (x : D) : Option D := match insOf S x with
  | some (c, fs) => if cs.contains c = true then getN fs f else none
  | none => none
def mFld (cs : List Nat) (f : Nat) (o : EM) : EM := mUn (getF cs f) o
theorem me_fld {cs : List Nat} {f : Nat} {fx : Str} (h : FldOk X.K X.mg nm cs f) (ho : ME nm X e me) (hf : nm.fld f = fx) (hb : attributeBase e fx X.env (eval e X.env) = eval e X.env := by rfl) : ME nm X (.Attribute e fx pos) (mFld cs f me) := by
  subst hf
  refine ⟨fun W tk => (pe_fld (ho.run W tk) hb).imp fun σ H Q hh => ?_⟩
  obtain ⟨e, S, μ, E, s, p⟩ := hh
  refine ⟨e, S, μ, E, s, (Post.bind p).mono fun d S1 μ1 H1 x1 s1 p1 v rv => ?_⟩
  split at p1
  · rename_i d' hd
    unfold getF at hd
    split at hd
    · rename_i c fs hi
      split at hd
      · rename_i hc
        obtain ⟨n, a, C, dx, gs, rfl, rfl, h1, h2, h3, h4, h5⟩ := insOf_at s1 rv hi
        obtain ⟨k1, k2⟩ := h.2 c (by simpa using hc) C h3
        rcases rf_get f h.1 h5 with ⟨_, z⟩ | ⟨w, d2, z1, z2, z3⟩
        · rw [z] at hd; cases hd
        · rw [z2] at hd; cases hd
          exact ⟨a, C, dx, gs, w, rfl, h4, k1, k2, z1, p1 μ1 H1 .refl s1 w z3⟩
      · cases hd
    · cases hd
  · exact False.elim p1
/-- a def by its value: what is promised of it -/
def spD (nm : Nms) (K : PySem.W.Frag) (mg : Str → Option Value) (n : Nat) (F : FM) : Sp := fun vs H Q E => ∃ ds S μ, RVs K H μ vs ds ∧ ds.length = n ∧ Sim nm K mg μ S H ∧ Post nm K mg μ H (F ds S) (fun d _ μ' H' => ∀ v, RV K H' μ' v d → Q v H') E
section
variable (P : Program) (w : World) (K : PySem.W.Frag) (mg : Str → Option Value) (base : Heap) (nm : Nms)
def DefOk (k : Nat) (x : Str) (n : Nat) (F : FM) : Prop :=
  ∃ f fd ps, mg x = some (.ref f) ∧ PySem.W.keepIn K (.ref f) = true ∧ ps.length = n ∧ Binds K fd ps [] ∧ FnOk P w K mg base (L2.CX P w) k f fd ps (spD nm K mg n F)
def MethOk (k : Nat) (c : Nat) (m : Str) (n : Nat) (F : FM) : Prop :=
  ∃ C f fd ps, mg (nm.cls c) = some (.ref C) ∧ Cls K C ∧ Meth K C m f ∧ ps.length = n ∧ Binds K fd ps [] ∧ FnOk P w K mg base (L2.CX P w) k f fd ps (spD nm K mg n F) ∧ ∀ i, i < nm.most → nm.fld i ≠ m
def MakeOk (k : Nat) (c : Nat) (n : Nat) (F : FM) : Prop :=
  ∃ C f fd ps, mg (nm.cls c) = some (.ref C) ∧ Mk K C f ∧ ps.length = n + 1 ∧ Binds K fd ps [] ∧ FnOk P w K mg base (L2.CX P w) k f fd ps (spD nm K mg (n + 1) F)
end
theorem DefOk.mono {P : Program} {w : World} {K : PySem.W.Frag} {mg : Str → Option Value} {base : Heap} {k k' : Nat} {x : Str} {n : Nat} {F : FM} (h : DefOk P w K mg base nm k x n F) (hk : k ≤ k') : DefOk P w K mg base nm k' x n F :=
  let ⟨f, fd, ps, h1, h2, h3, h4, h5⟩ := h; ⟨f, fd, ps, h1, h2, h3, h4, h5.mono hk⟩
theorem MethOk.mono {P : Program} {w : World} {K : PySem.W.Frag} {mg : Str → Option Value} {base : Heap} {k k' c : Nat} {x : Str} {n : Nat} {F : FM} (h : MethOk P w K mg base nm k c x n F) (hk : k ≤ k') : MethOk P w K mg base nm k' c x n F :=
  let ⟨C, f, fd, ps, h1, h2, h3, h4, h5, h6, h7⟩ := h; ⟨C, f, fd, ps, h1, h2, h3, h4, h5, h6.mono hk, h7⟩
theorem MakeOk.mono {P : Program} {w : World} {K : PySem.W.Frag} {mg : Str → Option Value} {base : Heap} {k k' c : Nat} {n : Nat} {F : FM} (h : MakeOk P w K mg base nm k c n F) (hk : k ≤ k') : MakeOk P w K mg base nm k' c n F :=
  let ⟨C, f, fd, ps, h1, h2, h3, h4, h5⟩ := h; ⟨C, f, fd, ps, h1, h2, h3, h4, h5.mono hk⟩
theorem spD.imp {K : PySem.W.Frag} {mg : Str → Option Value} {n : Nat} {F G : FM} (h : ∀ ds S, ds.length = n → G ds S ≠ .stuck → F ds S = G ds S) : ∀ vs H Q E, spD nm K mg n G vs H Q E → spD nm K mg n F vs H Q E := by
  rintro vs H Q E ⟨ds, S, μ, h1, h2, h3, h4⟩
  refine ⟨ds, S, μ, h1, h2, h3, ?_⟩
  rw [h ds S h2 (fun z => by rw [z] at h4; exact h4)]
  exact h4
/-- another value for a def: wherever it says something, it says what the def does -/
theorem DefOk.imp {P : Program} {w : World} {K : PySem.W.Frag} {mg : Str → Option Value} {base : Heap} {k : Nat} {x : Str} {n : Nat} {F G : FM} (h : DefOk P w K mg base nm k x n F) (g : ∀ ds S, ds.length = n → G ds S ≠ .stuck → F ds S = G ds S) : DefOk P w K mg base nm k x n G :=
  let ⟨f, fd, ps, h1, h2, h3, h4, h5⟩ := h; ⟨f, fd, ps, h1, h2, h3, h4, h5.imp (spD.imp g)⟩
theorem MethOk.imp {P : Program} {w : World} {K : PySem.W.Frag} {mg : Str → Option Value} {base : Heap} {k c : Nat} {x : Str} {n : Nat} {F G : FM} (h : MethOk P w K mg base nm k c x n F) (g : ∀ ds S, ds.length = n → G ds S ≠ .stuck → F ds S = G ds S) : MethOk P w K mg base nm k c x n G :=
  let ⟨C, f, fd, ps, h1, h2, h3, h4, h5, h6, h7⟩ := h; ⟨C, f, fd, ps, h1, h2, h3, h4, h5, h6.imp (spD.imp g), h7⟩
def mCall (F : FM) (as : AM) : EM := fun e S => (as e S).bind F
section
variable {pins : List (Addr × Obj)} {σ : St} {H : Hp} {s : Shared} {W : WX} {k n : Nat} {x m : Str} {F : FM} {vs : List V} {us : List Value} {ds : List D} {S : Store} {μ : List Addr} {Q : VK} {p apos : Pos}
theorem run_spD {f : Addr} {fd : FuncData} {ps : List Str} (F' : FnOk X.prog X.w X.K X.mg X.base (L2.CX X.prog X.w) k f fd ps (spD nm X.K X.mg n F)) (hb : Binds X.K fd ps []) (hr : Room k X.A) (tk : Takes X W) (I : Inv X pins σ H s) (r : Vals vs us) (rv : RVs X.K H μ vs ds) (hl : ds.length = n)
    (sm : Sim nm X.K X.mg μ S H) (q : PostX nm X W μ H σ (F ds S) fun d _ μ' H' => ∀ v, RV X.K H' μ' v d → Q v H') : wpAny (model X.prog X.w) X.A (call (.ref f) us) (EP X pins σ Q) X.xe s :=
  run_fnS F' hr hb (passAt tk σ) I r ⟨ds, S, μ, rv, hl, sm, q⟩
theorem me_call {e : Expr} {es : List Expr} {ma : AM} (h : DefOk X.prog X.w X.K X.mg X.base nm k x n F) (hr : Room k X.A) (hg : GlN X x) (ha : MA nm X (e :: es) ma) (hn : (e :: es).length = n := by rfl)
    (he : starEach (e :: es) X.env = (false, eval e X.env) :: starEach es X.env := by rfl) (hpl : (backTo pos (starEach es X.env)).any (·.1) = false := by rfl) : ME nm X (.Call (.Name x p) (e :: es) [] pos) (mCall F ma) := by
  obtain ⟨f, fd, ps, h1, h2, h3, h4, h5⟩ := h
  refine ⟨fun W tk => (pe_callS (E := WE W) h5 hr hg.g h1 h2 h4 (passAt tk) (ha.run W tk) hg.d he hpl).imp fun σ H Q hh => ?_⟩
  obtain ⟨ev, S, μ, E, s, q⟩ := hh
  exact ⟨ev, S, μ, E, s, (post_len ha (Post.bind q)).mono fun ds S1 μ1 H1 x1 s1 q1 vs rvs => ⟨ds, S1, μ1, rvs, by rw [q1.1, hn], s1, q1.2⟩⟩
theorem me_call0 (h : DefOk X.prog X.w X.K X.mg X.base nm k x 0 F) (hr : Room k X.A) (hg : GlN X x) : ME nm X (.Call (.Name x p) [] [] pos) (mCall F mNil) := by
  obtain ⟨f, fd, ps, h1, h2, h3, h4, h5⟩ := h
  refine ⟨fun W tk => ⟨fun pins s σ H Q I hh => ?_⟩⟩
  obtain ⟨ev, S, μ, E, sm, q⟩ := hh
  refine wpAny_Call_Name_kw (ld_glob I hg.g h1 ?_ hg.d)
  exact PySem.W.callWith_K0 I.kIn h2 (run_spD h5 h4 hr tk I .nil .nil rfl sm q)
def isIns (c : Nat) (S : Store) (x : D) : Bool := match insOf S x with
  | some (c', _) => c' == c
  | none => false
def mMeth (c : Nat) (F : FM) (o : EM) (as : AM) : EM := fun e S => (o e S).bind fun x S => if isIns c S x = true then (as e S).bind fun ds S => F (x :: ds) S else .stuck
theorem rf_no {K : PySem.W.Frag} {H : Hp} {μ : List Addr} {m : Str} (hm : ∀ i, i < nm.most → nm.fld i ≠ m) : ∀ {gs : List (Str × V)} {fs : List (Nat × D)}, RF nm K H μ gs fs → gs.lookup m = none
  | _, _, .nil => rfl
  | p :: gs, q :: fs, .cons r t => by
    have ne : m ≠ p.1 := fun z => hm q.1 r.2.1 (by rw [← r.1, z])
    have hb : (m == p.1) = false := by simpa using ne
    rw [List.lookup_cons, hb]
    exact rf_no hm t
theorem ins_meth {K : PySem.W.Frag} {mg : Str → Option Value} {C : Addr} {c : Nat} {v : V} {d : D} (hC : mg (nm.cls c) = some (.ref C)) (hm : ∀ i, i < nm.most → nm.fld i ≠ m) (s : Sim nm K mg μ S H) (r : RV K H μ v d) (h : isIns c S d = true) :
    ∃ a dx gs, v = .ref a ∧ H a = some (.ins C dx gs) ∧ gs.lookup m = none := by
  unfold isIns at h
  split at h
  · rename_i c' fs hi
    have : c' = c := by simpa using h
    subst this
    obtain ⟨n, a, C', dx, gs, rfl, rfl, h1, h2, h3, h4, h5⟩ := insOf_at s r hi
    rw [hC] at h3; cases h3
    exact ⟨a, dx, gs, rfl, h4, rf_no hm h5⟩
  · cases h
theorem me_meth {c : Nat} {o e : Expr} {es : List Expr} {mo : EM} {ma : AM} {pl : Sem Bool} (h : MethOk X.prog X.w X.K X.mg X.base nm k c m n F) (hr : Room k X.A) (ho : ME nm X o mo) (ha : MA nm X (e :: es) ma) (hn : (e :: es).length + 1 = n := by rfl)
    (hst : starEach (e :: es) X.env = (false, eval e X.env) :: starEach es X.env := by rfl) (hpl : (backTo pos (starEach es X.env)).any (·.1) = false := by rfl)
    (ht : eval (.Call (.Attribute o m apos) (e :: es) [] pos) X.env = (do
      let ov ← eval o X.env
      standAt apos.atName
      let (f, first) ← holding [ov] (getMethod ov m pl)
      callWith pos f first (backTo pos (starEach (e :: es) X.env)) (backToKw pos (keywordEach [] X.env))) := by rfl) : ME nm X (.Call (.Attribute o m apos) (e :: es) [] pos) (mMeth c F mo ma) := by
  obtain ⟨C, f, fd, ps, g1, g2, g3, g4, g5, g6, g7⟩ := h
  refine ⟨fun W tk => ⟨fun pins s σ H Q I hh => ?_⟩⟩
  obtain ⟨ev, S, μ, E, sm, q⟩ := hh
  refine PySem.W.methodCall_KW (pl := pl) (thn ((ho.run W tk).run pins s σ H (fun x H1 => ∃ S1 μ1 d, EvR nm X H1 μ1 ev σ ∧ Sim nm X.K X.mg μ1 S1 H1 ∧ RV X.K H1 μ1 x d ∧ isIns c S1 d = true ∧ PostX nm X W μ1 H1 σ ((ma ev S1).bind fun ds S => F (d :: ds) S) fun d _ μ' H' => ∀ v, RV X.K H' μ' v d → Q v H') I
    ⟨ev, S, μ, E, sm, (Post.bind q).mono fun d S1 μ1 H1 x1 s1 q1 v rv => ?_⟩) fun u s1 ⟨x, H1, I1, rx, S1, μ1, d, E1, sm1, rd, hi, q1⟩ => ?_) ht
  · split at q1
    · rename_i hi; exact ⟨S1, μ1, d, E.ext x1, s1, rv, hi, q1⟩
    · exact False.elim q1
  · obtain ⟨a, dx, gs, rfl, ea, l⟩ := ins_meth g1 g7 sm1 rd hi
    obtain rfl : u = Value.ref a := rx
    refine getmeth_ok I1 ea g2 g3 l ?_
    refine PySem.W.callWith_K (first := [.ref a]) (h₀ := X.base) I1.ok.mod.kin g3.kp (thn ((ha.run W tk).run pos pins s1 σ H1 (fun vs H2 => ∃ ds S2 μ2, RVs X.K H2 μ2 (.ref a :: vs) (d :: ds) ∧ (d :: ds).length = n ∧ Sim nm X.K X.mg μ2 S2 H2 ∧ PostX nm X W μ2 H2 σ (F (d :: ds) S2) fun d _ μ' H' => ∀ v, RV X.K H' μ' v d → Q v H') I1
      ⟨ev, S1, μ1, E1, sm1, (post_len ha (Post.bind q1)).mono fun ds S2 μ2 H2 x2 s2 q2 vs rvs => ⟨ds, S2, μ2, .cons (rd.ext x2) rvs, by rw [List.length_cons, q2.1, hn], s2, q2.2⟩⟩) fun us s2 ⟨vs, H2, I2, r, ds, S2, μ2, rvs, hl, sm2, q2⟩ => ⟨I2.kIn, ?_⟩) hst hpl
    exact run_spD (us := .ref a :: us) (vs := .ref a :: vs) g6 g5 hr tk I2 (.cons rfl r) rvs hl sm2 q2
theorem me_meth0 {c : Nat} {o : Expr} {mo : EM} {pl : Sem Bool} (h : MethOk X.prog X.w X.K X.mg X.base nm k c m 1 F) (hr : Room k X.A) (ho : ME nm X o mo)
    (ht : eval (.Call (.Attribute o m apos) [] [] pos) X.env = (do
      let ov ← eval o X.env
      standAt apos.atName
      let (f, first) ← holding [ov] (getMethod ov m pl)
      callWith pos f first (backTo pos (starEach [] X.env)) (backToKw pos (keywordEach [] X.env))) := by rfl) : ME nm X (.Call (.Attribute o m apos) [] [] pos) (mMeth c F mo mNil) := by
  obtain ⟨C, f, fd, ps, g1, g2, g3, g4, g5, g6, g7⟩ := h
  refine ⟨fun W tk => ⟨fun pins s σ H Q I hh => ?_⟩⟩
  obtain ⟨ev, S, μ, E, sm, q⟩ := hh
  refine PySem.W.methodCall_KW (pl := pl) (thn ((ho.run W tk).run pins s σ H (fun x H1 => ∃ S1 μ1 d, Sim nm X.K X.mg μ1 S1 H1 ∧ RV X.K H1 μ1 x d ∧ isIns c S1 d = true ∧ PostX nm X W μ1 H1 σ (F [d] S1) fun d _ μ' H' => ∀ v, RV X.K H' μ' v d → Q v H') I
    ⟨ev, S, μ, E, sm, (Post.bind q).mono fun d S1 μ1 H1 x1 s1 q1 v rv => ?_⟩) fun u s1 ⟨x, H1, I1, rx, S1, μ1, d, sm1, rd, hi, q1⟩ => ?_) ht
  · split at q1
    · rename_i hi; exact ⟨S1, μ1, d, s1, rv, hi, q1⟩
    · exact False.elim q1
  · obtain ⟨a, dx, gs, rfl, ea, l⟩ := ins_meth g1 g7 sm1 rd hi
    obtain rfl : u = Value.ref a := rx
    refine getmeth_ok I1 ea g2 g3 l ?_
    exact PySem.W.callWith_K0 (first := [.ref a]) I1.kIn g3.kp (run_spD (us := [.ref a]) (vs := [.ref a]) g6 g5 hr tk I1 (.cons rfl .nil) (.cons rd .nil) rfl sm1 q1)
def mNew (c : Nat) (F : FM) (as : AM) : EM := fun e S => (as e S).bind fun ds S => (F (.obj S.length :: ds) (S ++ [.ins c []])).bind fun d S' => if isNon d = true then .ok (.obj S.length) S' else .stuck
theorem run_mk {C f : Addr} {c : Nat} {fd : FuncData} {ps : List Str} (hC : X.mg (nm.cls c) = some (.ref C)) (M : Mk X.K C f) (F' : FnOk X.prog X.w X.K X.mg X.base (L2.CX X.prog X.w) k f fd ps (spD nm X.K X.mg (n + 1) F)) (hb : Binds X.K fd ps []) (hr : Room (k + 1) X.A) (tk : Takes X W)
    (I : Inv X pins σ H s) (r : Vals vs us) (rv : RVs X.K H μ vs ds) (hl : ds.length = n) (sm : Sim nm X.K X.mg μ S H)
    (q : PostX nm X W μ H σ ((F (.obj S.length :: ds) (S ++ [.ins c []])).bind fun d S' => if isNon d = true then R.ok (D.obj S.length) S' else .stuck) fun d _ μ' H' => ∀ v, RV X.K H' μ' v d → Q v H') : wpAny (model X.prog X.w) X.A (call (.ref C) us) (EP X pins σ Q) X.xe s := by
  have nx : H (s.heap.objs.size + 1) = none := I.hok.fresh (Nat.le_succ _)
  have nd : H s.heap.objs.size = none := I.hok.fresh (Nat.le_refl _)
  have ne : s.heap.objs.size ≠ s.heap.objs.size + 1 := Nat.ne_of_lt (Nat.lt_succ_self _)
  have s1 : Sim nm X.K X.mg μ S (upd H s.heap.objs.size (.own (s.heap.objs.size + 1))) := sm.laid nd
  have nx1 : (upd H s.heap.objs.size (.own (s.heap.objs.size + 1))) (s.heap.objs.size + 1) = none := by rw [upd_ne ne.symm]; exact nx
  have x2 : Ext μ H (μ ++ [s.heap.objs.size + 1]) (upd (upd H s.heap.objs.size (.own (s.heap.objs.size + 1))) (s.heap.objs.size + 1) (.ins C s.heap.objs.size [])) := (Ext.laid sm nd).trans (Ext.made s1 nx1)
  have s2 : Sim nm X.K X.mg (μ ++ [s.heap.objs.size + 1]) (S ++ [.ins c []]) (upd (upd H s.heap.objs.size (.own (s.heap.objs.size + 1))) (s.heap.objs.size + 1) (.ins C s.heap.objs.size [])) :=
    s1.made nx1 ⟨C, _, [], hC, upd_same, .nil⟩
  have rself : RV X.K (upd (upd H s.heap.objs.size (.own (s.heap.objs.size + 1))) (s.heap.objs.size + 1) (.ins C s.heap.objs.size [])) (μ ++ [s.heap.objs.size + 1]) (.ref (s.heap.objs.size + 1)) (.obj S.length) := .obj (new_at s1)
  have hq : spD nm X.K X.mg (n + 1) F (.ref (s.heap.objs.size + 1) :: vs) (upd (upd H s.heap.objs.size (.own (s.heap.objs.size + 1))) (s.heap.objs.size + 1) (.ins C s.heap.objs.size [])) (fun v H2 => v = .non ∧ Q (.ref (s.heap.objs.size + 1)) H2) (WE W σ) := by
    refine ⟨.obj S.length :: ds, S ++ [.ins c []], μ ++ [s.heap.objs.size + 1], .cons rself (RVs.ext x2 _ rv), by rw [List.length_cons, hl], s2, ((Post.bind (Post.ext x2 q)).mono fun d S3 μ3 H3 x3 s3 q3 v r3 => ?_)⟩
    split at q3
    · rename_i hn
      refine ⟨?_, q3 μ3 H3 .refl s3 _ (rself.ext x3)⟩
      have := isNon_iff r3; rw [hn] at this; exact of_decide_eq_true this
    · exact False.elim q3
  have I2 := Inv.made (C := C) I
  have r2 : Vals (V.ref (s.heap.objs.size + 1) :: vs) (Value.ref (s.heap.objs.size + 1) :: us) := .cons rfl r
  have hlen : (Value.ref (s.heap.objs.size + 1) :: us).length = ps.length := by
    have e := r2.length
    rw [F'.len _ _ _ _ hq] at e
    exact e.symm
  have hbb := hb _ (Value.ref (s.heap.objs.size + 1) :: us) I2.kIn (by rw [List.append_nil]; exact hlen)
  rw [List.append_nil] at hbb
  refine wpAny_call (make_map (f := f) I.kIn M.makes M.init (beq_iff_eq.mp M.fn) (codeAny_mono (F'.run _ X.stack _ _ ⟨Value.ref (s.heap.objs.size + 1) :: us, []⟩ (Value.ref (s.heap.objs.size + 1) :: us) _ _ (WE W σ) (hr.make C us [])
    (I2.env0.make C us []) hbb r2 hq) fun r s' hq' => ?_))
  cases r with
  | error e => exact passAt tk σ pins _ _ e s' I2 hq'
  | ok fl =>
    cases fl with
    | ret u =>
      obtain ⟨v, H', I3, rv, ev, q3⟩ := I2.after hq'
      subst ev
      exact ⟨rv, ⟨V.ref (s.heap.objs.size + 1), H', I3, rfl, q3⟩⟩
    | next => exact False.elim hq'
    | brk => exact False.elim hq'
    | cont => exact False.elim hq'
theorem me_new {c : Nat} {e : Expr} {es : List Expr} {ma : AM} (h : MakeOk X.prog X.w X.K X.mg X.base nm k c n F) (hr : Room (k + 1) X.A) (hg : GlN X x) (ha : MA nm X (e :: es) ma) (hx : nm.cls c = x) (hn : (e :: es).length = n := by rfl)
    (he : starEach (e :: es) X.env = (false, eval e X.env) :: starEach es X.env := by rfl) (hpl : (backTo pos (starEach es X.env)).any (·.1) = false := by rfl) : ME nm X (.Call (.Name x p) (e :: es) [] pos) (mNew c F ma) := by
  subst hx
  obtain ⟨C, f, fd, ps, h1, h2, h3, h4, h5⟩ := h
  refine ⟨fun W tk => ⟨fun pins s σ H Q I hh => ?_⟩⟩
  obtain ⟨ev, S, μ, E, sm, q⟩ := hh
  refine wpAny_Call_Name_kw (ld_glob I hg.g h1 ?_ hg.d)
  refine PySem.W.callWith_K (h₀ := X.base) I.ok.mod.kin h2.kp (thn ((ha.run W tk).run pos pins s σ H (fun vs H1 => ∃ ds S1 μ1, RVs X.K H1 μ1 vs ds ∧ ds.length = n ∧ Sim nm X.K X.mg μ1 S1 H1 ∧
    PostX nm X W μ1 H1 σ ((F (.obj S1.length :: ds) (S1 ++ [.ins c []])).bind fun d S' => if isNon d = true then R.ok (D.obj S1.length) S' else .stuck) fun d _ μ' H' => ∀ v, RV X.K H' μ' v d → Q v H') I
    ⟨ev, S, μ, E, sm, (post_len ha (Post.bind q)).mono fun ds S1 μ1 H1 x1 s1 q1 vs rvs => ⟨ds, S1, μ1, rvs, by rw [q1.1, hn], s1, q1.2⟩⟩) fun us s1 ⟨vs, H1, I1, r, ds, S1, μ1, rvs, hl, sm1, q1⟩ => ⟨I1.kIn, ?_⟩) he hpl
  exact run_mk h1 h2 h5 h4 hr tk I1 r rvs hl sm1 q1
theorem me_new0 {c : Nat} (h : MakeOk X.prog X.w X.K X.mg X.base nm k c 0 F) (hr : Room (k + 1) X.A) (hg : GlN X x) (hx : nm.cls c = x) : ME nm X (.Call (.Name x p) [] [] pos) (mNew c F mNil) := by
  subst hx
  obtain ⟨C, f, fd, ps, h1, h2, h3, h4, h5⟩ := h
  refine ⟨fun W tk => ⟨fun pins s σ H Q I hh => ?_⟩⟩
  obtain ⟨ev, S, μ, E, sm, q⟩ := hh
  refine wpAny_Call_Name_kw (ld_glob I hg.g h1 ?_ hg.d)
  exact PySem.W.callWith_K0 I.kIn h2.kp (run_mk h1 h2 h5 h4 hr tk I .nil .nil rfl sm q)
end
end
end BS
namespace BS
open PySem PySem.Spec PyProof.Rows L2
def Ev.set (e : Ev) (i : Nat) (d : D) : Ev := { sl := e.sl.set i (some d), ex := e.ex.filter fun p => p.1 != i }
def Ev.clr (e : Ev) : Ev := { sl := e.sl, ex := [] }
@[simp] theorem Ev.set_sl (l : List (Option D)) (i : Nat) (d : D) : Ev.set ⟨l, []⟩ i d = ⟨l.set i (some d), []⟩ := rfl
@[simp] theorem Ev.clr_mk (l : List (Option D)) (x) : Ev.clr ⟨l, x⟩ = ⟨l, []⟩ := rfl
def R.toS {α : Type} (r : R α) (e : Ev) (k : α → Store → RS) : RS := match r with
  | .ok a S => k a S
  | .exc c fs S => .exc c fs e S
  | .stuck => .stuck
@[simp] theorem R.toS_ok {α : Type} (a : α) (S : Store) (e : Ev) (k : α → Store → RS) : (R.ok a S).toS e k = k a S := rfl
@[simp] theorem R.toS_exc {α : Type} (c : Nat) (fs : List (Nat × D)) (S : Store) (e : Ev) (k : α → Store → RS) : (R.exc c fs S).toS e k = .exc c fs e S := rfl
@[simp] theorem R.toS_stuck {α : Type} (e : Ev) (k : α → Store → RS) : (R.stuck : R α).toS e k = .stuck := rfl
def RS.seq (r : RS) (k : Ev → Store → RS) : RS := match r with
  | .nx e S => k e S
  | r => r
@[simp] theorem RS.seq_nx (e : Ev) (S : Store) (k : Ev → Store → RS) : (RS.nx e S).seq k = k e S := rfl
@[simp] theorem RS.seq_rt (d : D) (S : Store) (k : Ev → Store → RS) : (RS.rt d S).seq k = .rt d S := rfl
@[simp] theorem RS.seq_bk (e : Ev) (S : Store) (k : Ev → Store → RS) : (RS.bk e S).seq k = .bk e S := rfl
@[simp] theorem RS.seq_ct (e : Ev) (S : Store) (k : Ev → Store → RS) : (RS.ct e S).seq k = .ct e S := rfl
@[simp] theorem RS.seq_exc (c : Nat) (fs : List (Nat × D)) (e : Ev) (S : Store) (k : Ev → Store → RS) : (RS.exc c fs e S).seq k = .exc c fs e S := rfl
@[simp] theorem RS.seq_stuck (k : Ev → Store → RS) : RS.stuck.seq k = .stuck := rfl
/-- a loop's turn is through -/
def RS.loop (r : RS) (k : Ev → Store → RS) : RS := match r with
  | .nx e S => k e S
  | .ct e S => k e S
  | .bk e S => .nx e S
  | r => r
@[simp] theorem RS.loop_nx (e : Ev) (S : Store) (k : Ev → Store → RS) : (RS.nx e S).loop k = k e S := rfl
@[simp] theorem RS.loop_rt (d : D) (S : Store) (k : Ev → Store → RS) : (RS.rt d S).loop k = .rt d S := rfl
@[simp] theorem RS.loop_bk (e : Ev) (S : Store) (k : Ev → Store → RS) : (RS.bk e S).loop k = .nx e S := rfl
@[simp] theorem RS.loop_ct (e : Ev) (S : Store) (k : Ev → Store → RS) : (RS.ct e S).loop k = k e S := rfl
@[simp] theorem RS.loop_exc (c : Nat) (fs : List (Nat × D)) (e : Ev) (S : Store) (k : Ev → Store → RS) : (RS.exc c fs e S).loop k = .exc c fs e S := rfl
@[simp] theorem RS.loop_stuck (k : Ev → Store → RS) : RS.stuck.loop k = .stuck := rfl
section
variable (nm : Nms) (X : Cx)
def PostS (W : WX) (μ : List Addr) (H : Hp) (r : RS) (D : Ends) : Prop := match r with
  | .nx e S => ∀ σ' μ' H', Ext μ H μ' H' → Sim nm X.K X.mg μ' S H' → EvR nm X H' μ' e σ' → D.nx σ' H'
  | .bk e S => ∀ σ' μ' H', Ext μ H μ' H' → Sim nm X.K X.mg μ' S H' → EvR nm X H' μ' e σ' → D.bk σ' H'
  | .ct e S => ∀ σ' μ' H', Ext μ H μ' H' → Sim nm X.K X.mg μ' S H' → EvR nm X H' μ' e σ' → D.ct σ' H'
  | .rt d S => ∀ v μ' H', Ext μ H μ' H' → Sim nm X.K X.mg μ' S H' → RV X.K H' μ' v d → D.rt v H'
  | .exc c fs e S => ∀ σ' μ' H' C d, Ext μ H μ' H' → Sim nm X.K X.mg μ' S H' → EvR nm X H' μ' e σ' → ExcAt nm X.K X.mg H' μ' c fs C d → W (.ref C) d σ' H'
  | .stuck => False
def rdS (W : WX) (m : SM) : TS := fun D σ H => ∃ e S μ, EvR nm X H μ e σ ∧ Sim nm X.K X.mg μ S H ∧ PostS nm X W μ H (m e S) D
def rdG (W : WX) (g : GM) : TG := fun v σ H Q => ∃ d e S μ, RV X.K H μ v d ∧ EvR nm X H μ e σ ∧ Sim nm X.K X.mg μ S H ∧ PostS nm X W μ H (g d e S) { nx := Q, rt := fun _ _ => False }
def rdGs (W : WX) (g : List D → Ev → Store → RS) : TGs := fun vs σ H Q => ∃ ds e S μ, RVs X.K H μ vs ds ∧ EvR nm X H μ e σ ∧ Sim nm X.K X.mg μ S H ∧ PostS nm X W μ H (g ds e S) { nx := Q, rt := fun _ _ => False }
end
structure MS (nm : Nms) (X : Cx) (st : Stmt) (m : SM) : Prop where
  run : ∀ W, Takes X W → PS X st (rdS nm X W m)
structure MB (nm : Nms) (X : Cx) (sts : List Stmt) (m : SM) : Prop where
  run : ∀ W, Takes X W → PSs X sts (rdS nm X W m)
structure MG (nm : Nms) (X : Cx) (t : Expr) (g : GM) : Prop where
  run : ∀ W, Takes X W → PG X t (rdG nm X W g)
structure MGs (nm : Nms) (X : Cx) (ts : List Expr) (g : List D → Ev → Store → RS) : Prop where
  run : ∀ W, Takes X W → PGs X ts (rdGs nm X W g)
theorem _root_.L2.PS.imp {X : Cx} {e : Stmt} {t t' : TS} (h : PS X e t) (f : ∀ D σ H, t' D σ H → t D σ H) : PS X e t' := ⟨fun pins s σ H D I q => h.run pins s σ H D I (f _ _ _ q)⟩
theorem _root_.L2.PSs.imp {X : Cx} {e : List Stmt} {t t' : TS} (h : PSs X e t) (f : ∀ D σ H, t' D σ H → t D σ H) : PSs X e t' := ⟨fun pins s σ H D I q => h.run pins s σ H D I (f _ _ _ q)⟩
theorem _root_.L2.PG.imp {X : Cx} {e : Expr} {t t' : TG} (h : PG X e t) (f : ∀ v σ H Q, t' v σ H Q → t v σ H Q) : PG X e t' := ⟨fun pins s σ H v u Q I r q => h.run pins s σ H v u Q I r (f _ _ _ _ q)⟩
theorem _root_.L2.PGs.imp {X : Cx} {e : List Expr} {t t' : TGs} (h : PGs X e t) (f : ∀ v σ H Q, t' v σ H Q → t v σ H Q) : PGs X e t' := ⟨fun pins s σ H v u Q I r q => h.run pins s σ H v u Q I r (f _ _ _ _ q)⟩
section
variable {nm : Nms} {X : Cx} {W : WX} {H H' : Hp} {μ μ' : List Addr} {D : Ends} {σ : St}
theorem PostS.ext {r : RS} (x : Ext μ H μ' H') (h : PostS nm X W μ H r D) : PostS nm X W μ' H' r D := by
  cases r with
  | nx e S => exact fun σ2 μ2 H2 x2 => h σ2 μ2 H2 (x.trans x2)
  | bk e S => exact fun σ2 μ2 H2 x2 => h σ2 μ2 H2 (x.trans x2)
  | ct e S => exact fun σ2 μ2 H2 x2 => h σ2 μ2 H2 (x.trans x2)
  | rt d S => exact fun v μ2 H2 x2 => h v μ2 H2 (x.trans x2)
  | exc c fs e S => exact fun σ2 μ2 H2 C d x2 => h σ2 μ2 H2 C d (x.trans x2)
  | stuck => exact h
theorem PostS.mono {r : RS} {D' : Ends} (h : PostS nm X W μ H r D) (h1 : ∀ σ H, D.nx σ H → D'.nx σ H) (h2 : ∀ v H, D.rt v H → D'.rt v H) (h3 : ∀ σ H, D.bk σ H → D'.bk σ H) (h4 : ∀ σ H, D.ct σ H → D'.ct σ H) : PostS nm X W μ H r D' := by
  cases r with
  | nx e S => exact fun σ2 μ2 H2 x2 s r => h1 _ _ (h σ2 μ2 H2 x2 s r)
  | bk e S => exact fun σ2 μ2 H2 x2 s r => h3 _ _ (h σ2 μ2 H2 x2 s r)
  | ct e S => exact fun σ2 μ2 H2 x2 s r => h4 _ _ (h σ2 μ2 H2 x2 s r)
  | rt d S => exact fun v μ2 H2 x2 s r => h2 _ _ (h v μ2 H2 x2 s r)
  | exc c fs e S => exact h
  | stuck => exact h
/-- behind an expression -/
theorem PostS.toS {α : Type} {r : R α} {e : Ev} {k : α → Store → RS} (E : EvR nm X H μ e σ) (h : PostS nm X W μ H (r.toS e k) D) : PostX nm X W μ H σ r fun a S' μ' H' => PostS nm X W μ' H' (k a S') D := by
  cases r with
  | ok a S => exact fun μ2 H2 x2 _ => PostS.ext (r := k a S) x2 h
  | exc c fs S => exact fun μ2 H2 C d x2 s ea => h σ μ2 H2 C d x2 s (E.ext x2) ea
  | stuck => exact h
/-- behind a statement -/
theorem PostS.seq {r : RS} {k : Ev → Store → RS} (h : PostS nm X W μ H (r.seq k) D) : PostS nm X W μ H r { D with nx := fun σ H' => ∃ e S μ', EvR nm X H' μ' e σ ∧ Sim nm X.K X.mg μ' S H' ∧ PostS nm X W μ' H' (k e S) D } := by
  cases r with
  | nx e S => exact fun σ2 μ2 H2 x2 s r => ⟨e, S, μ2, r, s, PostS.ext (r := k e S) x2 h⟩
  | bk e S => exact h
  | ct e S => exact h
  | rt d S => exact h
  | exc c fs e S => exact h
  | stuck => exact h
theorem EvR.set {e : Ev} {i : Nat} {v : V} {d : BS.D} (E : EvR nm X H μ e σ) (r : RV X.K H μ v d) : EvR nm X H μ (e.set i d) (σ.set i (some v)) := by
  refine ⟨by simp [Ev.set, E.len], fun j d' hj => ?_, fun p hp => ?_⟩
  · by_cases e1 : i = j
    · subst e1
      have hl : i < e.sl.length := by
        have := (List.getElem?_eq_some_iff.mp hj).1
        simpa [Ev.set] using this
      have : (e.sl.set i (some d))[i]? = some (some d) := List.getElem?_set_self hl
      unfold Ev.set at hj
      rw [this] at hj; cases hj
      exact ⟨v, List.getElem?_set_self (by rw [← E.len]; exact hl), r⟩
    · unfold Ev.set at hj
      rw [show ({ sl := e.sl.set i (some d), ex := e.ex.filter fun p => p.1 != i } : Ev).sl = e.sl.set i (some d) from rfl, List.getElem?_set_ne e1] at hj
      obtain ⟨w, h1, h2⟩ := E.at_ j d' hj
      exact ⟨w, by rw [List.getElem?_set_ne e1]; exact h1, h2⟩
  · obtain ⟨h1, h2⟩ := List.mem_filter.mp (show p ∈ e.ex.filter fun p => p.1 != i from hp)
    obtain ⟨a, oe, C, dd, g1, g2, g3, g4⟩ := E.ex p h1
    have ne : i ≠ p.1 := by
      intro z
      simp [z] at h2
    exact ⟨a, oe, C, dd, by rw [List.getElem?_set_ne ne]; exact g1, g2, g3, g4⟩
end
section
variable {nm : Nms} {X : Cx} {pos : Pos} {e : Expr} {me : EM} {st : Stmt} {rest : List Stmt} {ms mr : SM}
def mSkip : SM := fun e S => .nx e S
def mSeq (a b : SM) : SM := fun e S => (a e S).seq b
theorem mb_nil : MB nm X [] mSkip := ⟨fun W tk => pss_nil.imp fun D σ H h => by
  obtain ⟨e, S, μ, E, s, p⟩ := h
  exact p σ μ H .refl s E⟩
theorem mb_cons (h1 : MS nm X st ms) (h2 : MB nm X rest mr) : MB nm X (st :: rest) (mSeq ms mr) := ⟨fun W tk => (pss_cons (h1.run W tk) (h2.run W tk)).imp fun D σ H h => by
  obtain ⟨e, S, μ, E, s, p⟩ := h
  exact ⟨e, S, μ, E, s, PostS.seq p⟩⟩
theorem mb_one (h1 : MS nm X st ms) : MB nm X [st] ms := ⟨fun W tk => pss_one (h1.run W tk)⟩
theorem ms_skip {t : TS} (h : PS X st t) (f : ∀ D σ H, D.nx σ H → t D σ H) : MS nm X st mSkip := ⟨fun W tk => h.imp fun D σ H h => by
  obtain ⟨e, S, μ, E, s, p⟩ := h
  exact f _ _ _ (p σ μ H .refl s E)⟩
theorem ms_pass : MS nm X (.Pass pos) mSkip := ms_skip ps_pass fun _ _ _ h => h
theorem ms_doc {x j pos pos'} : MS nm X (.Expr (.Constant (.str x) j pos) pos') mSkip := ms_skip ps_doc fun _ _ _ h => h
def mBrk : SM := fun e S => .bk e S
def mCnt : SM := fun e S => .ct e S
theorem ms_brk : MS nm X (.Break pos) mBrk := ⟨fun W tk => ps_break.imp fun D σ H h => by
  obtain ⟨e, S, μ, E, s, p⟩ := h
  exact p σ μ H .refl s E⟩
theorem ms_cnt : MS nm X (.Continue pos) mCnt := ⟨fun W tk => ps_continue.imp fun D σ H h => by
  obtain ⟨e, S, μ, E, s, p⟩ := h
  exact p σ μ H .refl s E⟩
def mExpr (m : EM) : SM := fun e S => (m e S).toS e fun _ S => .nx e S
theorem ms_expr (he : ME nm X e me) (hs : swapsWith e none pos.line X.env = pure false := by rfl) : MS nm X (.Expr e pos) (mExpr me) := ⟨fun W tk => (ps_expr (he.run W tk) hs).imp fun D σ H h => by
  obtain ⟨e, S, μ, E, s, p⟩ := h
  exact ⟨e, S, μ, E, s, (PostS.toS E p).mono fun a S' μ' H' x s' q v r => q σ μ' H' .refl s' (E.ext x)⟩⟩
def mRet (m : EM) : SM := fun e S => (m e S).toS e fun d S => .rt d S
theorem ms_ret (he : ME nm X e me) : MS nm X (.Return (some e) pos) (mRet me) := ⟨fun W tk => (ps_ret (he.run W tk)).imp fun D σ H h => by
  obtain ⟨e, S, μ, E, s, p⟩ := h
  exact ⟨e, S, μ, E, s, (PostS.toS E p).mono fun a S' μ' H' x s' q v r => q v μ' H' .refl s' r⟩⟩
def mRetN : SM := fun _ S => .rt .non S
theorem ms_retN : MS nm X (.Return none pos) mRetN := ⟨fun W tk => ps_retN.imp fun D σ H h => by
  obtain ⟨e, S, μ, E, s, p⟩ := h
  exact p _ μ H .refl s .non⟩
def mIfS (c : TM) (a b : SM) : SM := fun e S => (c e S).toS e fun k S => if k = true then a e S else b e S
theorem ms_if {c : Expr} {tc : TM} {a b : List Stmt} {ma mb : SM} (hc : MT nm X c tc) (ha : MB nm X a ma) (hb : MB nm X b mb) : MS nm X (.If c a b pos) (mIfS tc ma mb) := ⟨fun W tk => (ps_if (hc.run W tk) (ha.run W tk) (hb.run W tk)).imp fun D σ H h => by
  obtain ⟨e, S, μ, E, s, p⟩ := h
  refine ⟨e, S, μ, E, s, (PostS.toS E p).mono fun k S' μ' H' x s' q => ?_⟩
  cases k with
  | true => rw [if_pos rfl] at q ⊢; exact ⟨e, S', μ', E.ext x, s', q⟩
  | false => rw [if_neg Bool.false_ne_true] at q ⊢; exact ⟨e, S', μ', E.ext x, s', q⟩⟩
def gNm (i : Nat) : GM := fun d e S => .nx (e.set i d) S
theorem mg_name {is : List Nat} (i : Nat) {x : Str} (hN : X.N.Nodup) (hl : locAll is X.N X.env.scope = true) (hi : X.N[i]? = some x := by rfl) (hc : is.contains i = true := by rfl) (hf : X.fn x = true ∨ X.env.scope.names.lookup x = some .local := by first | exact .inl rfl | exact .inr rfl | assumption) :
    MG nm X (.Name x pos) (gNm i) := ⟨fun W tk => (pg_name hN hi (loc_of hl hc hi).1 hf).imp fun v σ H Q h => by
  obtain ⟨d, e, S, μ, r, E, s, p⟩ := h
  exact p _ μ H .refl s (E.set r)⟩
abbrev GsM := List D → Ev → Store → RS
def gsNil : GsM := fun ds e S => match ds with
  | [] => .nx e S
  | _ => .stuck
def gsCons (g : GM) (r : GsM) : GsM := fun ds e S => match ds with
  | d :: ds => (g d e S).seq fun e S => r ds e S
  | [] => .stuck
theorem mgs_nil : MGs nm X [] gsNil := ⟨fun W tk => pgs_nil.imp fun vs σ H Q h => by
  obtain ⟨ds, e, S, μ, r, E, s, p⟩ := h
  unfold gsNil at p
  split at p
  · cases r; exact ⟨rfl, p σ μ H .refl s E⟩
  · exact False.elim p⟩
theorem mgs_cons {t : Expr} {ts : List Expr} {g : GM} {gr : GsM} (h1 : MG nm X t g) (h2 : MGs nm X ts gr) (hs : (assignEach (t :: ts) X.env).map (·.2) = assign t X.env :: (assignEach ts X.env).map (·.2) := by rfl) : MGs nm X (t :: ts) (gsCons g gr) := ⟨fun W tk => (pgs_cons (h1.run W tk) (h2.run W tk) hs).imp fun vs σ H Q h => by
  obtain ⟨ds, e, S, μ, r, E, s, p⟩ := h
  unfold gsCons at p
  split at p
  · cases r with | cons r1 rr =>
    rename_i d ds v vs
    refine ⟨v, vs, rfl, d, e, S, μ, r1, E, s, ?_⟩
    -- the rest's values have to be carried over
    have q := PostS.seq p
    cases hg : g d e S with
    | nx e' S' =>
      rw [hg] at p
      exact fun σ2 μ2 H2 x2 s2 E2 => ⟨ds, e', S', μ2, RVs.ext x2 _ rr, E2, s2, PostS.ext (r := gr ds e' S') x2 p⟩
    | bk e' S' => rw [hg] at p; exact fun σ2 μ2 H2 x2 s2 E2 => (p σ2 μ2 H2 x2 s2 E2)
    | ct e' S' => rw [hg] at p; exact fun σ2 μ2 H2 x2 s2 E2 => (p σ2 μ2 H2 x2 s2 E2)
    | rt d' S' => rw [hg] at p; exact fun v μ2 H2 x2 s2 E2 => (p v μ2 H2 x2 s2 E2)
    | exc c fs e' S' => rw [hg] at p; exact p
    | stuck => rw [hg] at p; exact p
  · exact False.elim p⟩
def gTp (n : Nat) (g : GsM) : GM := fun d e S => match tupOf d with
  | some ds => if ds.length = n then g ds e S else .stuck
  | none => .stuck
theorem mg_tup {es : List Expr} {k : Nat} {g : GsM} (hc : X.calm = true) (n : Nat) (h : MGs nm X es g) (hn : (assignEach es X.env).length = n := by rfl) (hst : (assignEach es X.env).findIdx? (·.1) = none := by rfl) : MG nm X (.Tuple es k pos) (gTp n g) := ⟨fun W tk => (pg_tup hc (h.run W tk) hn hst).imp fun v σ H Q hh => by
  obtain ⟨d, e, S, μ, r, E, s, p⟩ := hh
  unfold gTp at p
  split at p
  · rename_i ds hds
    split at p
    · rename_i hl
      obtain ⟨a, xs, rfl, hs, rs⟩ := tupOf_sq r hds
      exact ⟨a, xs, rfl, hs, by rw [rs.length, hl], ds, e, S, μ, rs, E, s, p⟩
    · exact False.elim p
  · exact False.elim p⟩
def mAsg (m : EM) (g : GM) : SM := fun e S => (m e S).toS e fun d S => g d e S
theorem asg_rd {W : WX} {D : Ends} {σ : St} {H : Hp} {g : GM} (tk : Takes X W) (h : rdS nm X W (mAsg me g) D σ H) (hg : ∀ d e S, ∀ d' S', g d e S ≠ .rt d' S' ∧ ∀ e', g d e S ≠ .bk e' S' ∧ g d e S ≠ .ct e' S') : tAsg (rdE nm X W me) (rdG nm X W g) D σ H := by
  obtain ⟨e, S, μ, E, s, p⟩ := h
  refine ⟨e, S, μ, E, s, (PostS.toS E p).mono fun d S' μ' H' x s' q v r => ⟨d, e, S', μ', r, E.ext x, s', ?_⟩⟩
  cases hh : g d e S' with
  | nx e' S2 => rw [hh] at q; exact q
  | bk e' S2 => exact absurd hh ((hg d e S' d S2).2 e').1
  | ct e' S2 => exact absurd hh ((hg d e S' d S2).2 e').2
  | rt d' S2 => exact absurd hh (hg d e S' d' S2).1
  | exc c fs e' S2 => rw [hh] at q; exact q
  | stuck => rw [hh] at q; exact q
/-- what a target never does -/
def GOk (g : GM) : Prop := ∀ d e S, ∀ d' S', g d e S ≠ .rt d' S' ∧ ∀ e', g d e S ≠ .bk e' S' ∧ g d e S ≠ .ct e' S'
theorem gok_nm (i : Nat) : GOk (gNm i) := fun d e S d' S' => ⟨fun h => (nomatch h), fun e' => ⟨fun h => (nomatch h), fun h => (nomatch h)⟩⟩
def GsOk (g : GsM) : Prop := ∀ d e S, ∀ d' S', g d e S ≠ .rt d' S' ∧ ∀ e', g d e S ≠ .bk e' S' ∧ g d e S ≠ .ct e' S'
theorem gsok_nil : GsOk gsNil := fun d e S d' S' => by
  unfold gsNil
  split <;> exact ⟨fun h => (nomatch h), fun e' => ⟨fun h => (nomatch h), fun h => (nomatch h)⟩⟩
theorem gsok_cons {g : GM} {r : GsM} (h1 : GOk g) (h2 : GsOk r) : GsOk (gsCons g r) := fun ds e S d' S' => by
  unfold gsCons
  split
  · rename_i d ds
    cases hg : g d e S with
    | nx e1 S1 => exact h2 ds e1 S1 d' S'
    | bk e1 S1 => exact absurd hg ((h1 d e S d S1).2 e1).1
    | ct e1 S1 => exact absurd hg ((h1 d e S d S1).2 e1).2
    | rt d1 S1 => exact absurd hg (h1 d e S d1 S1).1
    | exc c fs e1 S1 => exact ⟨fun h => (nomatch h), fun e' => ⟨fun h => (nomatch h), fun h => (nomatch h)⟩⟩
    | stuck => exact ⟨fun h => (nomatch h), fun e' => ⟨fun h => (nomatch h), fun h => (nomatch h)⟩⟩
  · exact ⟨fun h => (nomatch h), fun e' => ⟨fun h => (nomatch h), fun h => (nomatch h)⟩⟩
theorem gok_tp {n : Nat} {g : GsM} (h : GsOk g) : GOk (gTp n g) := fun d e S d' S' => by
  unfold gTp
  split
  · split
    · exact h _ _ _ _ _
    · exact ⟨fun h => (nomatch h), fun e' => ⟨fun h => (nomatch h), fun h => (nomatch h)⟩⟩
  · exact ⟨fun h => (nomatch h), fun e' => ⟨fun h => (nomatch h), fun h => (nomatch h)⟩⟩
def mSet (i : Nat) (m : EM) : SM := mAsg m (gNm i)
theorem ms_set {is : List Nat} (i : Nat) {x : Str} {pos' : Pos} (hN : X.N.Nodup) (hl : locAll is X.N X.env.scope = true) (he : ME nm X e me) (hi : X.N[i]? = some x := by rfl) (hc : is.contains i = true := by rfl)
    (hs : swapsWith e (some (.Name x pos')) pos.line X.env = pure false := by rfl) (hf : X.fn x = true ∨ X.env.scope.names.lookup x = some .local := by first | exact .inl rfl | exact .inr rfl | assumption) : MS nm X (.Assign [.Name x pos'] e pos) (mSet i me) :=
  ⟨fun W tk => (ps_set hN hi (loc_of hl hc hi).1 (he.run W tk) hs hf).imp fun D σ H h => by
    obtain ⟨e, S, μ, E, s, p⟩ := h
    exact ⟨e, S, μ, E, s, (PostS.toS E p).mono fun d S' μ' H' x s' q v r => q _ μ' H' .refl s' ((E.ext x).set r)⟩⟩
theorem ms_asg {t : Expr} {g : GM} (he : ME nm X e me) (hg : MG nm X t g) (ok : GOk g) (hs : swapsWithSole [t] e pos.line X.env = pure false := by rfl) (hw : swappedStores [t] e X.env = pure none := by rfl)
    (h1 : (assignEach [t] X.env).map (·.2) = [assign t X.env] := by rfl) : MS nm X (.Assign [t] e pos) (mAsg me g) :=
  ⟨fun W tk => (ps_asg (he.run W tk) (hg.run W tk) hs hw h1).imp fun D σ H h => asg_rd tk h ok⟩
/-- a, b = x, y -/
def mPar (i j : Nat) (m : AM) : SM := fun e S => (m e S).toS e fun ds S => match ds with
  | [a, b] => .nx ((e.set i a).set j b) S
  | _ => .stuck
theorem ms_par (i j : Nat) {x y : Str} {a b : Expr} {ma : AM} {px py pt : Pos} {kt k2 pt2} (hc : X.calm = true) (hN : X.N.Nodup) (ha : MA nm X [a, b] ma) (hi : X.N[i]? = some x := by rfl) (hj : X.N[j]? = some y := by rfl) (hij : i ≠ j := by decide)
    (hx : X.env.scope.names.lookup x = some .local := by rfl) (hy : X.env.scope.names.lookup y = some .local := by rfl)
    (hw : swappedStores [.Tuple [.Name x px, .Name y py] kt pt] (.Tuple [a, b] k2 pt2) X.env = pure (some [x, y]) := by rfl)
    (hs : swapsWithSole [.Tuple [.Name x px, .Name y py] kt pt] (.Tuple [a, b] k2 pt2) pos.line X.env = pure false := by rfl) : MS nm X (.Assign [.Tuple [.Name x px, .Name y py] kt pt] (.Tuple [a, b] k2 pt2) pos) (mPar i j ma) :=
  ⟨fun W tk => (ps_par hc hN hi hj hij hx hy (ha.run W tk) hw hs).imp fun D σ H h => by
    obtain ⟨e, S, μ, E, s, p⟩ := h
    refine ⟨e, S, μ, E, s, (PostS.toS E p).mono fun ds S' μ' H' x s' q vs r => ?_⟩
    split at q
    · cases r with | cons r1 r =>
      cases r with | cons r2 r =>
      cases r
      exact ⟨_, _, rfl, q _ μ' H' .refl s' (((E.ext x).set r1).set r2)⟩
    · exact False.elim q⟩
def putF_ (cs : List Nat) (f : Nat) (S : Store) (x y : D) : Option Store := match x with
  | .obj n => match S[n]? with
    | some (.ins c fs) => if cs.contains c = true ∧ fs.length < 1000 then some (S.set n (.ins c (setN f y fs))) else none
    | _ => none
  | _ => none
def mSetF (cs : List Nat) (f : Nat) (o m : EM) : SM := fun e S => (m e S).toS e fun y S => (o e S).toS e fun x S => match putF_ cs f S x y with
  | some S => .nx e S
  | none => .stuck
theorem putF_at {cs : List Nat} {f : Nat} {S S' : Store} {x y : D} {H : Hp} {μ : List Addr} {v u : V} (h : FldOk X.K X.mg nm cs f) (s : Sim nm X.K X.mg μ S H) (r : RV X.K H μ v x) (ry : RV X.K H μ u y) (hp : putF_ cs f S x y = some S') :
    ∃ a C dx gs, v = .ref a ∧ H a = some (.ins C dx gs) ∧ Cls X.K C ∧ NoAttr X.K C (nm.fld f) ∧ gs.length < 1000 ∧ Ext μ H μ (upd H a (.ins C dx (putF (nm.fld f) u gs))) ∧ Sim nm X.K X.mg μ S' (upd H a (.ins C dx (putF (nm.fld f) u gs))) ∧ ∃ c, c ∈ cs ∧ X.mg (nm.cls c) = some (.ref C) := by
  unfold putF_ at hp
  split at hp
  · split at hp
    · rename_i n c fs hds
      split at hp
      · rename_i hc
        cases hp
        cases r with | @obj a n e =>
        obtain ⟨C, dx, gs, g, e1, r1⟩ := s.ob _ _ _ e hds
        obtain ⟨k1, k2⟩ := h.2 c (by simpa using hc.1) C g
        have x := Ext.wrote (H := H) (u := .ins C dx (putF (nm.fld f) u gs)) (List.mem_of_getElem? e) (NF.of e1)
        exact ⟨a, C, dx, gs, rfl, e1, k1, k2, by rw [rf_length r1]; exact hc.2, x, s.wrote e ⟨C, dx, _, g, upd_same, RF.ext x (rf_set f h.1 ry r1)⟩, c, by simpa using hc.1, g⟩
      · cases hp
    · cases hp
  · cases hp
theorem ms_setF {cs : List Nat} {f : Nat} {fx : Str} {o : Expr} {mo : EM} {pos' : Pos} (h : FldOk X.K X.mg nm cs f) (ho : ME nm X o mo) (he : ME nm X e me) (hf : nm.fld f = fx) (hs : swapsWith e (some (.Attribute o fx pos')) pos.line X.env = pure false := by rfl) :
    MS nm X (.Assign [.Attribute o fx pos'] e pos) (mSetF cs f mo me) := by
  subst hf
  exact ⟨fun W tk => (ps_fld (ho.run W tk) (he.run W tk) hs).imp fun D σ H hh => by
    obtain ⟨e, S, μ, E, s, p⟩ := hh
    refine ⟨e, S, μ, E, s, (PostS.toS E p).mono fun d S' μ' H' x s' q v r => ?_⟩
    refine ⟨e, S', μ', E.ext x, s', (PostS.toS (E.ext x) q).mono fun d2 S2 μ2 H2 x2 s2 q2 v2 r2 => ?_⟩
    split at q2
    · rename_i S3 hp
      obtain ⟨a, C, dx, gs, h1, h2, h3, h4, h5, h6, h7, _⟩ := putF_at h s2 r2 (r.ext x2) hp
      exact ⟨a, C, dx, gs, h1, h2, h3, h4, h5, q2 _ _ _ h6 h7 (((E.ext x).ext x2).ext h6)⟩
    · exact False.elim q2⟩
end
end BS
namespace BS
open PySem PySem.Spec PyProof.Rows L2
/-- G: what the store must bear at each turn -/
structure Wk where
  ds : List D
  G : Store → Prop
abbrev IM := Ev → Store → R Wk
def WOk (nm : Nms) (X : Cx) (J : It) (w : Wk) (C : Hp → List Addr → Prop) : Prop := ∀ (i : Nat) (S : Store) (μ : List Addr) (H : Hp), Sim nm X.K X.mg μ S H → C H μ → w.G S →
  (∀ d, w.ds[i]? = some d → J.go i H ∧ ∀ x H', J.yld i H x H' → Ext μ H μ H' ∧ Sim nm X.K X.mg μ S H' ∧ RV X.K H' μ x d) ∧ (w.ds.length ≤ i → J.stop i H)
def Stable (C : Hp → List Addr → Prop) : Prop := ∀ μ H μ' H', Ext μ H μ' H' → C H μ → C H' μ'
structure MI (nm : Nms) (X : Cx) (tg iter : Expr) (it : IM) : Prop where
  run : ∀ W, Takes X W → PI X tg iter (fun σ H R => ∃ e S μ, EvR nm X H μ e σ ∧ Sim nm X.K X.mg μ S H ∧ PostX nm X W μ H σ (it e S) fun w S' μ' H' => ∀ J C, Stable C → C H' μ' → WOk nm X J w C → R J H')
theorem _root_.L2.PI.imp {X : Cx} {tg e : Expr} {t t' : TI} (h : PI X tg e t) (f : ∀ σ H Q, t' σ H Q → t σ H Q) : PI X tg e t' := ⟨fun pins s σ H Q I q => h.run pins s σ H Q I (f _ _ _ q)⟩
section
variable {nm : Nms} {X : Cx} {tg : Expr} {e : Expr} {me : EM} {pos : Pos}
theorem wok_list {a : Addr} {xs : List V} {ds : List D} {w : Wk} {C : Hp → List Addr → Prop} (hd : w.ds = ds) (hc : ∀ S μ H, Sim nm X.K X.mg μ S H → C H μ → w.G S → ∃ xs, SqL X.K H a xs ∧ RVs X.K H μ xs ds) : WOk nm X (Itl X.K a) w C := by
  intro i S μ H s c g
  obtain ⟨xs, h1, h2⟩ := hc S μ H s c g
  refine ⟨fun d e => ?_, fun h => ⟨xs, h1, by rw [h2.length, ← hd]; exact h⟩⟩
  rw [hd] at e
  obtain ⟨v, e1, r⟩ := h2.get e
  refine ⟨⟨xs, v, h1, e1⟩, fun x H' y => ?_⟩
  obtain ⟨e2, y⟩ := y
  subst e2
  have : x = v := Option.some.inj ((y xs h1).symm.trans e1)
  subst this
  exact ⟨.refl, s, r⟩
theorem wok_tup {a : Addr} {xs : List V} {ds : List D} {w : Wk} {C : Hp → List Addr → Prop} (hd : w.ds = ds) (hc : ∀ S μ H, Sim nm X.K X.mg μ S H → C H μ → w.G S → ∃ xs, SqT X.K H a xs ∧ RVs X.K H μ xs ds) : WOk nm X (Itt X.K a) w C := by
  intro i S μ H s c g
  obtain ⟨xs, h1, h2⟩ := hc S μ H s c g
  refine ⟨fun d e => ?_, fun h => ⟨xs, h1, by rw [h2.length, ← hd]; exact h⟩⟩
  rw [hd] at e
  obtain ⟨v, e1, r⟩ := h2.get e
  refine ⟨⟨xs, v, h1, e1⟩, fun x H' y => ?_⟩
  obtain ⟨e2, y⟩ := y
  subst e2
  have : x = v := Option.some.inj ((y xs h1).symm.trans e1)
  subst this
  exact ⟨.refl, s, r⟩
/-- a list, a tuple -/
def wkS (S : Store) (x : D) : R Wk := match x with
  | .lst ds => .ok ⟨ds, fun _ => True⟩ S
  | .scr ds => .ok ⟨ds, fun _ => True⟩ S
  | .obj n => match S[n]? with
    | some (.lst ds) => .ok ⟨ds, fun S => S[n]? = some (.lst ds)⟩ S
    | _ => .stuck
  | _ => .stuck
def iLs (m : EM) : IM := fun e S => (m e S).bind fun x S => wkS S x
theorem mi_lst (h : ME nm X e me) : MI nm X tg e (iLs me) := by
  refine ⟨fun W tk => (pi_list (h.run W tk)).imp fun σ H R hh => ?_⟩
  obtain ⟨ev, S, μ, E, s, p⟩ := hh
  refine ⟨ev, S, μ, E, s, (Post.bind p).mono fun d S1 μ1 H1 x1 s1 p1 v rv => ?_⟩
  unfold wkS at p1
  split at p1
  · rename_i ds
    cases rv with | @lst a xs _ t r =>
    exact ⟨a, rfl, ⟨xs, .of t.2⟩, p1 μ1 H1 .refl s1 (Itl X.K a) (fun H μ => LstAt H μ a xs ∧ RVs X.K H μ xs ds) (fun μ H μ' H' x c => ⟨c.1.ext x, RVs.ext x _ c.2⟩) ⟨t, r⟩ (wok_list (xs := xs) rfl fun S μ H s c g => ⟨xs, .of c.1.2, c.2⟩)⟩
  · rename_i ds
    cases rv with | @scr a xs _ t r =>
    exact ⟨a, rfl, ⟨xs, t.sq⟩, p1 μ1 H1 .refl s1 (Itl X.K a) (fun H μ => ScrAt X.K H μ a xs ∧ RVs X.K H μ xs ds) (fun μ H μ' H' x c => ⟨c.1.ext x, RVs.ext x _ c.2⟩) ⟨t, r⟩ (wok_list (xs := xs) rfl fun S μ H s c g => ⟨xs, c.1.sq, c.2⟩)⟩
  · rename_i n
    split at p1
    · rename_i ds hds
      cases rv with | @obj a _ en =>
      obtain ⟨xs, e1, r⟩ := s1.ob _ _ _ en hds
      exact ⟨a, rfl, ⟨xs, .of e1⟩, p1 μ1 H1 .refl s1 (Itl X.K a) (fun H μ => μ[n]? = some a) (fun μ H μ' H' x c => x.at c) en (wok_list (xs := xs) rfl fun S μ H s c g => by
        obtain ⟨xs, e1, r⟩ := s.ob _ _ _ c g
        exact ⟨xs, .of e1, r⟩)⟩
    · exact False.elim p1
  · exact False.elim p1
def iTp (m : EM) : IM := fun e S => (m e S).bind fun x S => match tupOf x with
  | some ds => .ok ⟨ds, fun _ => True⟩ S
  | none => .stuck
theorem mi_tup (h : ME nm X e me) : MI nm X tg e (iTp me) := by
  refine ⟨fun W tk => (pi_tup (h.run W tk)).imp fun σ H R hh => ?_⟩
  obtain ⟨ev, S, μ, E, s, p⟩ := hh
  refine ⟨ev, S, μ, E, s, (Post.bind p).mono fun d S1 μ1 H1 x1 s1 p1 v rv => ?_⟩
  split at p1
  · rename_i ds hds
    cases d with
    | tup ds' =>
      cases hds
      cases rv with | @tup a xs ds t r =>
      exact ⟨a, rfl, ⟨xs, t.sq⟩, p1 μ1 H1 .refl s1 (Itt X.K a) (fun H μ => TupAt X.K H μ a xs ∧ RVs X.K H μ xs ds) (fun μ H μ' H' x c => ⟨c.1.ext x, RVs.ext x _ c.2⟩) ⟨t, r⟩ (wok_tup (xs := xs) rfl fun S μ H s c g => ⟨xs, c.1.sq, c.2⟩)⟩
    | _ => cases hds
  · exact False.elim p1
def intsFrom (lo : Int) : Nat → List D
  | 0 => []
  | n + 1 => .int lo :: intsFrom (lo + 1) n
theorem intsFrom_len (lo : Int) : ∀ n, (intsFrom lo n).length = n
  | 0 => rfl
  | n + 1 => by rw [intsFrom, List.length_cons, intsFrom_len (lo + 1) n]
theorem intsFrom_get : ∀ (n i : Nat) (lo : Int), i < n → (intsFrom lo n)[i]? = some (.int (lo + i))
  | 0, _, _, h => absurd h (Nat.not_lt_zero _)
  | n + 1, 0, lo, _ => by simp [intsFrom]
  | n + 1, i + 1, lo, h => by
    rw [intsFrom, List.getElem?_cons_succ, intsFrom_get n i (lo + 1) (Nat.lt_of_succ_lt_succ h)]
    congr 2
    omega
theorem wok_range {lo : Int} {n : Nat} : WOk nm X (Itr lo n) ⟨intsFrom lo n, fun _ => True⟩ fun _ _ => True := by
  intro i S μ H s _ _
  refine ⟨fun d e => ?_, fun h => by rw [intsFrom_len] at h; exact h⟩
  have hl : i < n := by have := (List.getElem?_eq_some_iff.mp e).1; rwa [intsFrom_len] at this
  rw [intsFrom_get n i lo hl] at e
  cases e
  refine ⟨hl, fun x H' y => ?_⟩
  obtain ⟨e2, rfl⟩ := y
  subst e2
  exact ⟨.refl, s, .int _⟩
def rngOk (i : Int) : Prop := -(2 ^ 62) ≤ i ∧ i < 2 ^ 62
instance (i : Int) : Decidable (rngOk i) := inferInstanceAs (Decidable (_ ∧ _))
def iRng (as : AM) : IM := fun e S => (as e S).bind fun ds S => match ds with
  | [.int j] => if rngOk j then .ok ⟨intsFrom 0 j.toNat, fun _ => True⟩ S else .stuck
  | [.int i, .int j] => if rngOk i ∧ rngOk j then .ok ⟨intsFrom i (j - i).toNat, fun _ => True⟩ S else .stuck
  | _ => .stuck
theorem mi_range1 {a : Expr} {ma : AM} {p : Pos} (hg : GlN X "range") (hm : X.mg "range" = none) (ha : MA nm X [a] ma) (hs : starEach [a] X.env = [(false, eval a X.env)] := by rfl) : MI nm X tg (.Call (.Name "range" p) [a] [] pos) (iRng ma) := by
  refine ⟨fun W tk => (pi_range1 hg.g hm (ha.run W tk) hs).imp fun σ H R hh => ?_⟩
  obtain ⟨ev, S, μ, E, s, p⟩ := hh
  refine ⟨ev, S, μ, E, s, (post_len ha (Post.bind p)).mono fun d S1 μ1 H1 x1 s1 p1 v rv => ?_⟩
  obtain ⟨hl, p1⟩ := p1
  split at p1
  · split at p1
    · rename_i c
      cases rv with | cons r1 r => cases r1; cases r; exact ⟨_, rfl, c.1, c.2, p1 μ1 H1 .refl s1 _ _ (fun _ _ _ _ _ _ => True.intro) True.intro wok_range⟩
    · exact False.elim p1
  · cases hl
  · exact False.elim p1
theorem mi_range2 {a b : Expr} {ma : AM} {p : Pos} (hg : GlN X "range") (hm : X.mg "range" = none) (ha : MA nm X [a, b] ma) (hs : starEach [a, b] X.env = [(false, eval a X.env), (false, eval b X.env)] := by rfl) (hs2 : starEach [b] X.env = [(false, eval b X.env)] := by rfl) : MI nm X tg (.Call (.Name "range" p) [a, b] [] pos) (iRng ma) := by
  refine ⟨fun W tk => (pi_range2 hg.g hm (ha.run W tk) hs hs2).imp fun σ H R hh => ?_⟩
  obtain ⟨ev, S, μ, E, s, p⟩ := hh
  refine ⟨ev, S, μ, E, s, (post_len ha (Post.bind p)).mono fun d S1 μ1 H1 x1 s1 p1 v rv => ?_⟩
  obtain ⟨hl, p1⟩ := p1
  split at p1
  · cases hl
  · split at p1
    · rename_i c
      cases rv with | cons r1 r => cases r with | cons r2 r => cases r1; cases r2; cases r; exact ⟨_, _, rfl, ⟨c.1.1, c.1.2, c.2.1, c.2.2⟩, p1 μ1 H1 .refl s1 _ _ (fun _ _ _ _ _ _ => True.intro) True.intro wok_range⟩
    · exact False.elim p1
  · exact False.elim p1
/-- the signs of a text -/
def signs (z : Str) : List D := z.cps.toList.map strAt
end
open Classical in
/-- the loop itself -/
noncomputable def forL (G : Store → Prop) (g : GM) (b : SM) : List D → Ev → Store → RS
  | [], e, S => if G S then .nx e S else .stuck
  | d :: ds, e, S => if G S then ((g d e S).seq b).loop (forL G g b ds) else .stuck
noncomputable def mFor (it : IM) (g : GM) (b : SM) : SM := fun e S => (it e S).toS e fun w S => forL w.G g b w.ds e S
theorem forL_nil {g : GM} {b : SM} {e : Ev} {S : Store} : forL (fun _ => True) g b [] e S = .nx e S := by simp [forL]
theorem forL_cons {g : GM} {b : SM} {d : D} {ds : List D} {e : Ev} {S : Store} : forL (fun _ => True) g b (d :: ds) e S = ((g d e S).seq b).loop (forL (fun _ => True) g b ds) := by simp [forL]
section
variable {nm : Nms} {X : Cx} {tg iter : Expr} {it : IM} {g : GM} {body : List Stmt} {mb : SM} {pos : Pos}
/-- behind a turn -/
theorem PostS.loop {W : WX} {μ : List Addr} {H : Hp} {D : Ends} {r : RS} {k : Ev → Store → RS} (h : PostS nm X W μ H (r.loop k) D) :
    PostS nm X W μ H r { D with nx := fun σ H' => ∃ e S μ', EvR nm X H' μ' e σ ∧ Sim nm X.K X.mg μ' S H' ∧ Ext μ H μ' H' ∧ PostS nm X W μ' H' (k e S) D, ct := fun σ H' => ∃ e S μ', EvR nm X H' μ' e σ ∧ Sim nm X.K X.mg μ' S H' ∧ Ext μ H μ' H' ∧ PostS nm X W μ' H' (k e S) D, bk := D.nx } := by
  cases r with
  | nx e S => exact fun σ2 μ2 H2 x2 s r => ⟨e, S, μ2, r, s, x2, PostS.ext (r := k e S) x2 h⟩
  | bk e S => exact h
  | ct e S => exact fun σ2 μ2 H2 x2 s r => ⟨e, S, μ2, r, s, x2, PostS.ext (r := k e S) x2 h⟩
  | rt d S => exact h
  | exc c fs e S => exact h
  | stuck => exact h
/-- the turns of a loop -/
theorem for_tail {W : WX} {D : Ends} {σ : St} {w : Wk} {e : Ev} {S1 : Store} {μ1 : List Addr} {H1 : Hp} {J : It} {C : Hp → List Addr → Prop} (E1 : EvR nm X H1 μ1 e σ) (s1 : Sim nm X.K X.mg μ1 S1 H1) (p1 : PostS nm X W μ1 H1 (forL w.G g mb w.ds e S1) D) (ok : GOk g) (st : Stable C) (c0 : C H1 μ1) (ok' : WOk nm X J w C) :
    ∃ V : Nat → Nat → St → Hp → Prop, (∃ m, V 0 m σ H1) ∧ ∀ (i m : Nat) (σ : St) (H : Hp), V i m σ H → J.stop i H ∧ D.nx σ H ∨ J.go i H ∧ ∃ N : St → Hp → Prop, (∀ σ' H', N σ' H' → ∃ m', m' < m ∧ V (i + 1) m' σ' H') ∧ ∀ x H', J.yld i H x H' → rdG nm X W g x σ H' fun σ2 H2 => rdS nm X W mb { nx := N, rt := D.rt, bk := D.nx, ct := N } σ2 H2 := by
  refine ⟨fun i m σ H => m = w.ds.length - i ∧ i ≤ w.ds.length ∧ ∃ e S μ, EvR nm X H μ e σ ∧ Sim nm X.K X.mg μ S H ∧ C H μ ∧ PostS nm X W μ H (forL w.G g mb (w.ds.drop i) e S) D,
    ⟨w.ds.length, rfl, Nat.zero_le _, e, S1, μ1, E1, s1, c0, p1⟩, ?_⟩
  rintro i m σ H ⟨rfl, hi, e, S, μ, E, s, c, p⟩
  by_cases hlt : i < w.ds.length
  · obtain ⟨d, hd⟩ : ∃ d, w.ds[i]? = some d := ⟨_, List.getElem?_eq_getElem hlt⟩
    have hdr : w.ds.drop i = d :: w.ds.drop (i + 1) := by
      rw [List.drop_eq_getElem_cons hlt]
      rw [List.getElem?_eq_getElem hlt] at hd
      cases hd; rfl
    rw [hdr] at p
    unfold forL at p
    split at p
    · rename_i hG
      obtain ⟨go, yl⟩ := (ok' i S μ H s c hG).1 d hd
      refine .inr ⟨go, fun σ' H' => ∃ m', m' < w.ds.length - i ∧ m' = w.ds.length - (i + 1) ∧ i + 1 ≤ w.ds.length ∧ ∃ e S μ, EvR nm X H' μ e σ' ∧ Sim nm X.K X.mg μ S H' ∧ C H' μ ∧ PostS nm X W μ H' (forL w.G g mb (w.ds.drop (i + 1)) e S) D, fun σ' H' h => h, fun x H' y => ?_⟩
      obtain ⟨x2, s2, r2⟩ := yl x H' y
      refine ⟨d, e, S, μ, r2, E.ext x2, s2, ?_⟩
      have q := PostS.seq (PostS.loop (PostS.ext x2 p))
      have turn : ∀ {σ' : St} {H3 : Hp}, (∃ e S μ', EvR nm X H3 μ' e σ' ∧ Sim nm X.K X.mg μ' S H3 ∧ Ext μ H' μ' H3 ∧ PostS nm X W μ' H3 (forL w.G g mb (w.ds.drop (i + 1)) e S) D) →
          ∃ m', m' < w.ds.length - i ∧ m' = w.ds.length - (i + 1) ∧ i + 1 ≤ w.ds.length ∧ ∃ e S μ, EvR nm X H3 μ e σ' ∧ Sim nm X.K X.mg μ S H3 ∧ C H3 μ ∧ PostS nm X W μ H3 (forL w.G g mb (w.ds.drop (i + 1)) e S) D := by
        rintro σ' H3 ⟨e, S, μ3, E3, s3, x3, p3⟩
        exact ⟨_, by omega, rfl, hlt, e, S, μ3, E3, s3, st _ _ _ _ (x2.trans x3) c, p3⟩
      have conv : ∀ {σ' : St} {H3 : Hp}, (∃ e S μ', EvR nm X H3 μ' e σ' ∧ Sim nm X.K X.mg μ' S H3 ∧ PostS nm X W μ' H3 (mb e S) { D with nx := fun σ H'' => ∃ e S μ', EvR nm X H'' μ' e σ ∧ Sim nm X.K X.mg μ' S H'' ∧ Ext μ H' μ' H'' ∧ PostS nm X W μ' H'' (forL w.G g mb (w.ds.drop (i + 1)) e S) D, ct := fun σ H'' => ∃ e S μ', EvR nm X H'' μ' e σ ∧ Sim nm X.K X.mg μ' S H'' ∧ Ext μ H' μ' H'' ∧ PostS nm X W μ' H'' (forL w.G g mb (w.ds.drop (i + 1)) e S) D, bk := D.nx }) →
          rdS nm X W mb { D with nx := fun σ' H' => ∃ m', m' < w.ds.length - i ∧ m' = w.ds.length - (i + 1) ∧ i + 1 ≤ w.ds.length ∧ ∃ e S μ, EvR nm X H' μ e σ' ∧ Sim nm X.K X.mg μ S H' ∧ C H' μ ∧ PostS nm X W μ H' (forL w.G g mb (w.ds.drop (i + 1)) e S) D, ct := fun σ' H' => ∃ m', m' < w.ds.length - i ∧ m' = w.ds.length - (i + 1) ∧ i + 1 ≤ w.ds.length ∧ ∃ e S μ, EvR nm X H' μ e σ' ∧ Sim nm X.K X.mg μ S H' ∧ C H' μ ∧ PostS nm X W μ H' (forL w.G g mb (w.ds.drop (i + 1)) e S) D, bk := D.nx } σ' H3 := by
        rintro σ' H3 ⟨e, S, μ3, E3, s3, p3⟩
        exact ⟨e, S, μ3, E3, s3, p3.mono (fun _ _ h => turn h) (fun _ _ h => h) (fun _ _ h => h) (fun _ _ h => turn h)⟩
      cases hh : g d e S with
      | nx e' S' => rw [hh] at q; exact fun σ3 μ3 H3 x3 s3 E3 => conv (q σ3 μ3 H3 x3 s3 E3)
      | bk e' S' => exact absurd hh ((ok d e S d S').2 e').1
      | ct e' S' => exact absurd hh ((ok d e S d S').2 e').2
      | rt d' S' => exact absurd hh (ok d e S d' S').1
      | exc c fs e' S' => rw [hh] at q; exact q
      | stuck => rw [hh] at q; exact q
    · exact False.elim p
  · have hz : w.ds.drop i = [] := List.drop_eq_nil_of_le (Nat.le_of_not_lt hlt)
    rw [hz] at p
    unfold forL at p
    split at p
    · rename_i hG
      exact .inl ⟨(ok' i S μ H s c hG).2 (Nat.le_of_not_lt hlt), p σ μ H .refl s E⟩
    · exact False.elim p
theorem ms_for (hp : PassesOwn (model X.prog X.w) X.A X.env X.xe) (hc : X.calm = true) (hi : MI nm X tg iter it) (hg : MG nm X tg g) (ok : GOk g) (hb : MB nm X body mb) (hs : ∀ x, foldedSetIterable iter X.env x = pure x := by intro _; rfl) : MS nm X (.For tg iter body [] pos) (mFor it g mb) := by
  refine ⟨fun W tk => (ps_for hp hc (hi.run W tk) (hg.run W tk) (hb.run W tk) hs).imp fun D σ H h => ?_⟩
  obtain ⟨e, S, μ, E, s, p⟩ := h
  refine ⟨e, S, μ, E, s, (PostS.toS E p).mono fun w S1 μ1 H1 x1 s1 p1 J C st c0 ok' => ?_⟩
  exact for_tail (E.ext x1) s1 p1 ok st c0 ok'
def whileL (c : TM) (b : SM) : Nat → SM
  | 0, _, _ => .stuck
  | n + 1, e, S => (c e S).toS e fun k S => if k = true then (b e S).loop (whileL c b n) else .nx e S
def mWhile (n : Nat) (c : TM) (b : SM) : SM := whileL c b n
theorem ms_while (n : Nat) {c : Expr} {mc : TM} (hp : PassesOwn (model X.prog X.w) X.A X.env X.xe) (hc : MT nm X c mc) (hb : MB nm X body mb) : MS nm X (.While c body [] pos) (mWhile n mc mb) := by
  refine ⟨fun W tk => (ps_while hp (hc.run W tk) (hb.run W tk)).imp fun D σ H h => ?_⟩
  obtain ⟨e, S, μ, E, s, p⟩ := h
  refine ⟨fun m σ H => ∃ e S μ, EvR nm X H μ e σ ∧ Sim nm X.K X.mg μ S H ∧ PostS nm X W μ H (whileL mc mb m e S) D, ⟨n, e, S, μ, E, s, p⟩, ?_⟩
  rintro m σ H ⟨e, S, μ, E, s, p⟩
  cases m with
  | zero => exact False.elim p
  | succ m =>
    unfold whileL at p
    refine ⟨e, S, μ, E, s, (PostS.toS E p).mono fun k S1 μ1 H1 x1 s1 p1 => ?_⟩
    cases k with
    | false => rw [if_neg Bool.false_ne_true] at p1 ⊢; exact p1 σ μ1 H1 .refl s1 (E.ext x1)
    | true =>
      rw [if_pos rfl] at p1 ⊢
      have conv : ∀ {σ : St} {H' : Hp}, (∃ e S μ', EvR nm X H' μ' e σ ∧ Sim nm X.K X.mg μ' S H' ∧ Ext μ1 H1 μ' H' ∧ PostS nm X W μ' H' (whileL mc mb m e S) D) → ∃ m', m' < m + 1 ∧ ∃ e S μ, EvR nm X H' μ e σ ∧ Sim nm X.K X.mg μ S H' ∧ PostS nm X W μ H' (whileL mc mb m' e S) D := by
        rintro σ H' ⟨e, S, μ, E, s, _, p⟩
        exact ⟨m, Nat.lt_succ_self m, e, S, μ, E, s, p⟩
      refine ⟨fun σ' H' => ∃ m', m' < m + 1 ∧ ∃ e S μ, EvR nm X H' μ e σ' ∧ Sim nm X.K X.mg μ S H' ∧ PostS nm X W μ H' (whileL mc mb m' e S) D, fun σ' H' h => h, e, S1, μ1, E.ext x1, s1, (PostS.loop p1).mono (fun _ _ h => conv h) (fun _ _ h => h) (fun _ _ h => h) (fun _ _ h => conv h)⟩
end
end BS
namespace BS
open PySem PySem.Spec PyProof.Rows L2
section
variable {nm : Nms} {X : Cx} {pos : Pos} {e : Expr} {me : EM}
def putD (kvs : List (Key × D)) (k : Key) (v : D) : List (Key × D) := if (kvs.any fun kv => decide (kv.1 = k)) = true then kvs.map (fun kv => if kv.1 = k then (kv.1, v) else kv) else kvs ++ [(k, v)]
theorem any_rk {K : PySem.W.Frag} {H : Hp} {μ : List Addr} (k : Key) : ∀ {ys : List (Key × V)} {kvs : List (Key × D)}, RK K H μ ys kvs → (ys.any fun kv => decide (kv.1 = k)) = kvs.any fun kv => decide (kv.1 = k)
  | _, _, .nil => rfl
  | p :: ys, q :: kvs, .cons r t => by rw [List.any_cons, List.any_cons, any_rk k t, r.1]
theorem paired_app {α β : Type} {R : α → β → Prop} : ∀ {l : List α} {m : List β} {l' : List α} {m' : List β}, Paired R l m → Paired R l' m' → Paired R (l ++ l') (m ++ m')
  | _, _, _, _, .nil, h => h
  | _, _, _, _, .cons r t, h => .cons r (paired_app t h)
theorem put_rk {K : PySem.W.Frag} {H : Hp} {μ : List Addr} {k : Key} {v : V} {d : D} (rv : RV K H μ v d) {ys : List (Key × V)} {kvs : List (Key × D)} (r : RK K H μ ys kvs) : RK K H μ (putK ys k v) (putD kvs k d) := by
  unfold putK putD
  rw [any_rk k r]
  split
  · rename_i hany
    clear hany
    induction r with
    | nil => exact .nil
    | @cons p q ys kvs r t ih =>
      rw [List.map_cons, List.map_cons]
      refine .cons ?_ ih
      rw [r.1]
      split
      · exact ⟨rfl, rv⟩
      · exact ⟨r.1, r.2⟩
  · exact paired_app r (.cons ⟨rfl, rv⟩ .nil)
def dropD (kvs : List (Key × D)) (k : Key) : List (Key × D) := kvs.filter fun kv => decide (kv.1 ≠ k)
theorem drop_rk {K : PySem.W.Frag} {H : Hp} {μ : List Addr} {k : Key} {ys : List (Key × V)} {kvs : List (Key × D)} (r : RK K H μ ys kvs) : RK K H μ (dropK ys k) (dropD kvs k) := by
  unfold dropK dropD
  induction r with
  | nil => exact .nil
  | @cons p q ys kvs r t ih =>
    rw [List.filter_cons, List.filter_cons, r.1]
    split
    · exact .cons r ih
    · exact ih
theorem rk_len {K : PySem.W.Frag} {H : Hp} {μ : List Addr} {ys : List (Key × V)} {kvs : List (Key × D)} (r : RK K H μ ys kvs) : ys.length = kvs.length := Paired.length r
def setS (S : Store) (o i v : D) : Option Store := match o with
  | .obj n => match S[n]? with
    | some (.lst ds) => match i with
      | .int k => (ixN ds.length k).map fun j => S.set n (.lst (ds.set j v))
      | _ => none
    | some (.dct kvs) => match keyOf i with
      | some k => if kvs.length < sizeLine then some (S.set n (.dct (putD kvs k v))) else none
      | none => none
    | _ => none
  | _ => none
def rSetD (nm : Nms) (X : Cx) : TSet := fun o i v H Q => ∃ S μ ox ix vx S', Sim nm X.K X.mg μ S H ∧ RV X.K H μ o ox ∧ RV X.K H μ i ix ∧ RV X.K H μ v vx ∧ setS S ox ix vx = some S' ∧ ∀ H', Ext μ H μ H' → Sim nm X.K X.mg μ S' H' → Q H'
theorem set_D {k : Nat} (hr : L2H.RoomH k X.A) : PSet X (rSetD nm X) := by
  intro pins s σ H o i v ov iv u Q I ro ri rv h
  obtain ⟨S, μ, ox, ix, vx, S', sm, r1, r2, r3, e, q⟩ := h
  have hun := hr.un
  unfold setS at e
  split at e
  · cases r1 with | @obj a n en =>
    split at e
    · rename_i ds hds
      split at e
      · obtain ⟨j, hj, rfl⟩ := Option.map_eq_some_iff.mp e
        cases r2
        obtain ⟨xs, e1, r⟩ := sm.ob _ _ _ en hds
        have x := Ext.wrote (H := H) (u := .lst (xs.set j v)) (List.mem_of_getElem? en) (NF.of e1)
        exact set_list pins s σ H _ _ v ov iv u Q I ro ri rv ⟨a, xs, _, j, rfl, rfl, e1, by rw [r.length]; exact hj, q _ x (sm.wrote en ⟨_, upd_same, RVs.ext x _ (r.set j r3)⟩)⟩
      · cases e
    · rename_i kvs hds
      split at e
      · rename_i k hk
        split at e
        · rename_i hl
          cases e
          have ek := keyOf_kV r2 hk
          subst ek
          obtain ⟨ys, e1, r⟩ := sm.ob _ _ _ en hds
          have x := Ext.wrote (H := H) (u := .dK (putK ys k v)) (List.mem_of_getElem? en) (NF.of e1)
          cases ro
          exact d_setItem (by omega) I (DPut.k e1 (by rw [rk_len r]; exact hl)) ri rv fun s' I' => ⟨_, I', q _ x (sm.wrote en ⟨_, upd_same, RK.ext x (put_rk r3 r)⟩)⟩
        · cases e
      · cases e
    · cases e
  · cases e
def gSb (o i : EM) : GM := fun v e S => (o e S).toS e fun x S => (i e S).toS e fun y S => match setS S x y v with
  | some S => .nx e S
  | none => .stuck
theorem mg_sub {k : Nat} (hr : L2H.RoomH k X.A) {o i : Expr} {mo mi : EM} (ho : ME nm X o mo) (hi : ME nm X i mi) (ha : ∀ v, assign (.Subscript o i pos) X.env v = (do
      let ov ← holding [v] (eval o X.env)
      let iv ← holding [v, ov] (eval i X.env)
      standAt pos
      holding [v, ov, iv] (setItem ov iv v)
      release [v, ov, iv] []) := by intro _; rfl) : MG nm X (.Subscript o i pos) (gSb mo mi) := ⟨fun W tk => (pg_sub (ho.run W tk) (hi.run W tk) (set_D hr) ha).imp fun v σ H Q h => by
  obtain ⟨d, e, S, μ, r, E, s, p⟩ := h
  refine ⟨e, S, μ, E, s, (PostS.toS E p).mono fun ox S1 μ1 H1 x1 s1 p1 vo ro => ?_⟩
  refine ⟨e, S1, μ1, E.ext x1, s1, (PostS.toS (E.ext x1) p1).mono fun ix S2 μ2 H2 x2 s2 p2 vi ri => ?_⟩
  split at p2
  · rename_i S3 hS
    exact ⟨S2, μ2, ox, ix, d, S3, s2, ro.ext x2, ri, (r.ext x1).ext x2, hS, fun H3 x3 s3 => p2 σ μ2 H3 x3 s3 (((E.ext x1).ext x2).ext x3)⟩
  · exact False.elim p2⟩
theorem gok_sb {o i : EM} : GOk (gSb o i) := fun d e S d' S' => by
  unfold gSb
  cases h1 : o e S with
  | ok x S1 =>
    rw [R.toS_ok]
    cases h2 : i e S1 with
    | ok y S2 =>
      rw [R.toS_ok]
      split <;> exact ⟨fun h => (nomatch h), fun e' => ⟨fun h => (nomatch h), fun h => (nomatch h)⟩⟩
    | exc c fs S2 => exact ⟨fun h => (nomatch h), fun e' => ⟨fun h => (nomatch h), fun h => (nomatch h)⟩⟩
    | stuck => exact ⟨fun h => (nomatch h), fun e' => ⟨fun h => (nomatch h), fun h => (nomatch h)⟩⟩
  | exc c fs S2 => exact ⟨fun h => (nomatch h), fun e' => ⟨fun h => (nomatch h), fun h => (nomatch h)⟩⟩
  | stuck => exact ⟨fun h => (nomatch h), fun e' => ⟨fun h => (nomatch h), fun h => (nomatch h)⟩⟩
def mSetI (m o i : EM) : SM := mAsg m (gSb o i)
theorem ms_setI {k : Nat} (hr : L2H.RoomH k X.A) {o i : Expr} {mo mi : EM} {pos' : Pos} (ho : ME nm X o mo) (hi : ME nm X i mi) (he : ME nm X e me) (ha : ∀ v, assign (.Subscript o i pos') X.env v = (do
      let ov ← holding [v] (eval o X.env)
      let iv ← holding [v, ov] (eval i X.env)
      standAt pos'
      holding [v, ov, iv] (setItem ov iv v)
      release [v, ov, iv] []) := by intro _; rfl) (hs : swapsWithSole [.Subscript o i pos'] e pos.line X.env = pure false := by rfl) (hw : swappedStores [.Subscript o i pos'] e X.env = pure none := by rfl)
    (h1 : (assignEach [.Subscript o i pos'] X.env).map (·.2) = [assign (.Subscript o i pos') X.env] := by rfl) : MS nm X (.Assign [.Subscript o i pos'] e pos) (mSetI me mo mi) :=
  ms_asg he (mg_sub hr ho hi ha) gok_sb hs hw h1
theorem ip_D {op : Operator} {f : Int → Int → Int} (o : OpR X (inplaceOp op) (rI0 fun i j => .int (f i j))) : OpD nm X (inplaceOp op) (fI fun i j => some (.int (f i j))) := opI0_D o
theorem i_sub : OpD nm X (inplaceOp .Sub) fSub := opI0_D iop_sub
def iAdd : Store → D → D → Option D := fun _ x y => match x, y with
  | .int i, .int j => some (.int (i + j))
  | .str a, .str b => if a.length + b.length ≤ sizeLine then some (.str (a ++ b)) else none
  | _, _ => none
theorem i_add : OpD nm X (inplaceOp .Add) iAdd := by
  intro pins s σ H x y v u Q I rv ru hh
  obtain ⟨S, μ, dx, dy, d, sm, rx, ry, e, q⟩ := hh
  unfold iAdd at e
  split at e
  · cases rx; cases ry; cases e
    exact iop_add pins s σ H _ _ v u Q I rv ru ⟨_, _, rfl, rfl, q _ μ H .refl sm (.int _)⟩
  · split at e
    · rename_i c; cases rx; cases ry; cases e
      exact iop_add_str pins s σ H _ _ v u Q I rv ru ⟨_, _, rfl, rfl, c, q _ μ H .refl sm (.str _)⟩
    · cases e
  · cases e
def mAug (i : Nat) (f : Store → D → D → Option D) (m : EM) : SM := fun e S => match e.sl[i]? with
  | some (some x) => (m e S).toS e fun y S => (lift2 f S x y).toS e fun z S => .nx (e.set i z) S
  | _ => .stuck
theorem ms_aug {is : List Nat} (i : Nat) {x : Str} {op : Operator} {f : Store → D → D → Option D} {pos' : Pos} (hN : X.N.Nodup) (hl : locAll is X.N X.env.scope = true) (ho : OpD nm X (inplaceOp op) f) (he : ME nm X e me) (hi : X.N[i]? = some x := by rfl) (hc : is.contains i = true := by rfl)
    (hf : X.fn x = true ∨ X.env.scope.names.lookup x = some .local := by first | exact .inl rfl | exact .inr rfl | assumption) : MS nm X (.AugAssign (.Name x pos') op e pos) (mAug i f me) :=
  ⟨fun W tk => (ps_aug hN hi (loc_of hl hc hi).1 (he.run W tk) (ti := rOpD nm X f) (fun pins s σ H x y v u Q I rx ry q => ho pins s σ H x y v u Q I rx ry q) hf).imp fun D σ H h => by
    obtain ⟨e, S, μ, E, s, p⟩ := h
    unfold mAug at p
    split at p
    · rename_i d hd
      obtain ⟨v, h1, r1⟩ := E.at_ i d hd
      refine ⟨v, h1, e, S, μ, E, s, (PostS.toS E p).mono fun y S1 μ1 H1 x1 s1 p1 u ru => ?_⟩
      unfold lift2 at p1
      split at p1
      · rename_i z hz
        exact ⟨S1, μ1, d, y, z, s1, r1.ext x1, ru, hz, fun w μ2 H2 x2 s2 r2 => p1 _ μ2 H2 x2 s2 (((E.ext x1).ext x2).set r2)⟩
      · exact False.elim p1
    · exact False.elim p⟩
/-- o.f op= e -/
def mAugF (c : Nat) (f : Nat) (g : Store → D → D → Option D) (o m : EM) : SM := fun e S => (o e S).toS e fun x S => match getF [c] f S x with
  | some y => (m e S).toS e fun z S => (lift2 g S y z).toS e fun w S => match putF_ [c] f S x w with
    | some S => .nx e S
    | none => .stuck
  | none => .stuck
theorem ms_augF {c : Nat} {f : Nat} {fx : Str} {op : Operator} {g : Store → D → D → Option D} {o : Expr} {mo : EM} {pos' : Pos} (h : FldOk X.K X.mg nm [c] f) (hop : OpD nm X (inplaceOp op) g) (ho : ME nm X o mo) (he : ME nm X e me) (hf : nm.fld f = fx) :
    MS nm X (.AugAssign (.Attribute o fx pos') op e pos) (mAugF c f g mo me) := by
  subst hf
  exact ⟨fun W tk => (ps_fldaug (rd := rOpD nm X g) (ho.run W tk) (he.run W tk) (fun pins s σ H x y u v Q I rx ry q => hop pins s σ H x y u v Q I rx ry q)).imp fun D σ H hh => by
    obtain ⟨e, S, μ, E, s, p⟩ := hh
    refine ⟨e, S, μ, E, s, (PostS.toS E p).mono fun d S1 μ1 H1 x1 s1 p1 v rv => ?_⟩
    split at p1
    · rename_i y hy
      unfold getF at hy
      split at hy
      · rename_i c' fs hi
        split at hy
        · rename_i hc
          have hc' : c' = c := by simpa using hc
          subst hc'
          obtain ⟨n, a, C, dx, gs, rfl, rfl, h1, h2, h3, h4, h5⟩ := insOf_at s1 rv hi
          obtain ⟨k1, k2⟩ := h.2 c' (by simp) C h3
          rcases rf_get f h.1 h5 with ⟨_, z⟩ | ⟨w, d2, z1, z2, z3⟩
          · rw [z] at hy; cases hy
          · rw [z2] at hy; cases hy
            refine ⟨a, C, dx, gs, w, rfl, h4, k1, k2, z1, e, S1, μ1, E.ext x1, s1, (PostS.toS (E.ext x1) p1).mono fun zd S2 μ2 H2 x2 s2 p2 u ru => ?_⟩
            unfold lift2 at p2
            split at p2
            · rename_i wd hw
              refine ⟨S2, μ2, _, zd, wd, s2, z3.ext x2, ru, hw, fun w' μ3 H3 x3 s3 r3 => ?_⟩
              have p3 : PostS nm X W μ3 H3 (match putF_ [c'] f S2 (.obj n) wd with | some S => RS.nx e S | none => .stuck) D := PostS.ext x3 p2
              split at p3
              · rename_i S4 hp
                obtain ⟨a', C', dx', gs', g1, g2, g3, g4, g5, g6, g7, c2, g8, g9⟩ := putF_at h s3 (rv.ext (x2.trans x3)) r3 hp
                cases g1
                have : c2 = c' := by simpa using g8
                subst this
                rw [h3] at g9
                cases g9
                exact ⟨dx', gs', g2, g5, p3 σ μ3 _ g6 g7 ((((E.ext x1).ext x2).ext x3).ext g6)⟩
              · exact False.elim p3
            · exact False.elim p2
        · cases hy
      · cases hy
    · exact False.elim p1⟩
/-- del d[k] -/
def delS (S : Store) (o i : D) : Option Store := match o with
  | .obj n => match S[n]? with
    | some (.dct kvs) => match keyOf i with
      | some k => if (getK kvs k).isSome = true then some (S.set n (.dct (dropD kvs k))) else none
      | none => none
    | _ => none
  | _ => none
def mDel (o i : EM) : SM := fun e S => (o e S).toS e fun x S => (i e S).toS e fun y S => match delS S x y with
  | some S => .nx e S
  | none => .stuck
theorem ms_del {o i : Expr} {mo mi : EM} {tpos : Pos} (ho : ME nm X o mo) (hi : ME nm X i mi) : MS nm X (.Delete [.Subscript o i tpos] pos) (mDel mo mi) := ⟨fun W tk => (ps_ddel (ho.run W tk) (hi.run W tk)).imp fun D σ H h => by
  obtain ⟨e, S, μ, E, s, p⟩ := h
  refine ⟨e, S, μ, E, s, (PostS.toS E p).mono fun ox S1 μ1 H1 x1 s1 p1 vo ro => ?_⟩
  refine ⟨e, S1, μ1, E.ext x1, s1, (PostS.toS (E.ext x1) p1).mono fun ix S2 μ2 H2 x2 s2 p2 vi ri => ?_⟩
  split at p2
  · rename_i S3 hS
    unfold delS at hS
    split at hS
    · split at hS
      · rename_i kvs hds
        split at hS
        · rename_i k hk
          split at hS
          · rename_i hg
            cases hS
            cases ro.ext x2 with | @obj a n en =>
            have ek := keyOf_kV ri hk
            obtain ⟨ys, e1, r⟩ := s2.ob _ _ _ en hds
            have x := Ext.wrote (H := H2) (u := .dK (dropK ys k)) (List.mem_of_getElem? en) (NF.of e1)
            refine ⟨a, ys, k, rfl, e1, ek, ?_, p2 σ μ2 _ x (s2.wrote en ⟨_, upd_same, RK.ext x (drop_rk r)⟩) (((E.ext x1).ext x2).ext x)⟩
            rcases getK_val k r with ⟨_, z⟩ | ⟨w, d, z1, z2, _⟩
            · rw [z] at hg; cases hg
            · rw [z1]; rfl
          · cases hS
        · cases hS
      · cases hS
    · cases hS
  · exact False.elim p2⟩
section
variable {C : Addr} {bmB : List Value} {B newId initId : String}
/-- X() -/
theorem pmk_own0 {x : Str} {p pos : Pos} (F : ExcBaseFacts B newId initId bmB) (q : PySem.W.excIn X.K C bmB newId = true) (gC : X.mg x = some (.ref C)) (kC : PySem.W.keepIn X.K (.ref C) = true) (r : Raises X (.ref C)) (hg : Gl X x)
    (hdb : (x == ("__debug__" : Str)) = false := by decide) : PMk X (.Call (.Name x p) [] [] pos) (fun _ H Q => Q (.ref C) none H) := by
  intro pins s σ H Q I h
  refine wpAny_Call_Name_kw (ld_glob I hg gC ?_ hdb)
  refine PySem.W.callWith_K0 I.kIn kC ?_
  obtain ⟨bm, N, nm, qn, bs, hdct, sn, sub, ab, col, dd, k0, k1, k2, k3, k5, mN, hC, hN, hni, T⟩ := exc_obj I.kIn q
  refine wpAny_call_exc_subT F T hC hN hni (fun h' e hm => ?_) (by show 0 ≤ sizeLine; decide)
  exact mk_of I hm r h (I.hok.gone hm.new)
end
/-- what the written part says of an exception class without own __init__ -/
def ExcOk (K : PySem.W.Frag) (mg : Str → Option Value) (x : Str) : Prop := ∃ C, mg x = some (.ref C) ∧ PySem.W.excIn K C [.type "ValueError", .type "Exception", .type "BaseException", .type "object"] "ValueError.__new__" = true ∧ PySem.W.keepIn K (.ref C) = true ∧
  PySem.W.subIn K (.ref C) (.type "BaseException") = some true ∧ PySem.W.typeIn K (.ref C) = some (.type "type")
def mRaise0 (c : Nat) : SM := fun e S => .exc c [] e S
theorem ms_raise0 {c : Nat} {x : Str} {p pos' : Pos} (h : ExcOk X.K X.mg x) (hc : X.calm = true) (hg : GlN X x) (hx : nm.cls c = x) : MS nm X (.Raise (some (.Call (.Name x p) [] [] pos')) none pos) (mRaise0 c) := by
  subst hx
  obtain ⟨C, h1, h2, h3, h4, h5⟩ := h
  exact ⟨fun W tk => (ps_raise hc tk (pmk_own0 PySem.F.excBase_ValueError h2 h1 h3 (raises_own h4 h5) hg.g hg.d)).imp fun D σ H hh => by
    obtain ⟨e, S, μ, E, s, p⟩ := hh
    exact p σ μ H C none .refl s E ⟨h1, rfl⟩⟩
/-- a raise that the proof never comes to, or any statement -/
def mNever : SM := fun _ _ => .stuck
theorem ms_never {st : Stmt} : MS nm X st mNever := ⟨fun W tk => ps_never.imp fun D σ H hh => by
  obtain ⟨e, S, μ, E, s, p⟩ := hh
  exact p⟩
def RS.clr (r : RS) : RS := match r with
  | .nx e S => .nx e.clr S
  | .bk e S => .bk e.clr S
  | .ct e S => .ct e.clr S
  | .exc c fs e S => .exc c fs e.clr S
  | r => r
@[simp] theorem RS.clr_nx (e : Ev) (S : Store) : (RS.nx e S).clr = .nx e.clr S := rfl
@[simp] theorem RS.clr_bk (e : Ev) (S : Store) : (RS.bk e S).clr = .bk e.clr S := rfl
@[simp] theorem RS.clr_ct (e : Ev) (S : Store) : (RS.ct e S).clr = .ct e.clr S := rfl
@[simp] theorem RS.clr_rt (d : D) (S : Store) : (RS.rt d S).clr = .rt d S := rfl
@[simp] theorem RS.clr_exc (c : Nat) (fs : List (Nat × D)) (e : Ev) (S : Store) : (RS.exc c fs e S).clr = .exc c fs e.clr S := rfl
@[simp] theorem RS.clr_stuck : RS.stuck.clr = .stuck := rfl
/-- which of the known classes a clause catches -/
structure Catch (K : PySem.W.Frag) (mg : Str → Option Value) (nm : Nms) (x : Str) (yes no : List Nat) : Prop where
  ex : ∃ cv, mg x = some cv ∧ (∀ c ∈ yes, ∀ C, mg (nm.cls c) = some (.ref C) → PySem.W.exmOne K (.ref C) cv = some true) ∧ (∀ c ∈ no, ∀ C, mg (nm.cls c) = some (.ref C) → PySem.W.exmOne K (.ref C) cv = some false)
/-- a body's exception, by its class -/
def RS.caught (r : RS) (yes no : List Nat) (k : Nat → List (Nat × D) → Ev → Store → RS) : RS := match r with
  | .exc c fs e S => if yes.contains c = true then k c fs e.clr S else if no.contains c = true then .exc c fs e.clr S else .stuck
  | r => r.clr
@[simp] theorem RS.caught_nx (e : Ev) (S : Store) (y n : List Nat) (k) : (RS.nx e S).caught y n k = .nx e.clr S := rfl
@[simp] theorem RS.caught_bk (e : Ev) (S : Store) (y n : List Nat) (k) : (RS.bk e S).caught y n k = .bk e.clr S := rfl
@[simp] theorem RS.caught_ct (e : Ev) (S : Store) (y n : List Nat) (k) : (RS.ct e S).caught y n k = .ct e.clr S := rfl
@[simp] theorem RS.caught_rt (d : D) (S : Store) (y n : List Nat) (k) : (RS.rt d S).caught y n k = .rt d S := rfl
@[simp] theorem RS.caught_stuck (y n : List Nat) (k) : RS.stuck.caught y n k = .stuck := rfl
@[simp] theorem RS.caught_exc (c : Nat) (fs : List (Nat × D)) (e : Ev) (S : Store) (y n : List Nat) (k) : (RS.exc c fs e S).caught y n k = if y.contains c = true then k c fs e.clr S else if n.contains c = true then .exc c fs e.clr S else .stuck := rfl
/-- a suite that raises nothing -/
def RS.nox (r : RS) : RS := match r with
  | .exc _ _ _ _ => .stuck
  | r => r.clr
@[simp] theorem RS.nox_nx (e : Ev) (S : Store) : (RS.nx e S).nox = .nx e.clr S := rfl
@[simp] theorem RS.nox_bk (e : Ev) (S : Store) : (RS.bk e S).nox = .bk e.clr S := rfl
@[simp] theorem RS.nox_ct (e : Ev) (S : Store) : (RS.ct e S).nox = .ct e.clr S := rfl
@[simp] theorem RS.nox_rt (d : D) (S : Store) : (RS.rt d S).nox = .rt d S := rfl
@[simp] theorem RS.nox_exc (c : Nat) (fs : List (Nat × D)) (e : Ev) (S : Store) : (RS.exc c fs e S).nox = .stuck := rfl
@[simp] theorem RS.nox_stuck : RS.stuck.nox = .stuck := rfl
def mTry (yes no : List Nat) (b s : SM) : SM := fun e S => (b e.clr S).caught yes no fun _ _ e S => (s e S).nox
theorem EvR.clr {X X' : Cx} {H : Hp} {μ : List Addr} {e : Ev} {σ : St} (E : EvR nm X H μ e σ) (hK : X'.K = X.K) : EvR nm X' H μ e.clr σ :=
  ⟨E.len, fun i d h => by rw [hK]; exact E.at_ i d h, fun p hp => absurd (show p ∈ ([] : List _) from hp) (by simp)⟩
/-- what is wanted with the caught exceptions forgotten holds in every other context of the same program -/
theorem PostS.back {X X' : Cx} {W : WX} {μ : List Addr} {H : Hp} {D : Ends} {r : RS} (hK : X'.K = X.K) (hm : X'.mg = X.mg) (h : PostS nm X W μ H r.clr D) : PostS nm X' W μ H r D := by
  cases r with
  | nx e S => exact fun σ' μ' H' x s E => h σ' μ' H' x (by rw [← hK, ← hm]; exact s) (E.clr hK.symm)
  | bk e S => exact fun σ' μ' H' x s E => h σ' μ' H' x (by rw [← hK, ← hm]; exact s) (E.clr hK.symm)
  | ct e S => exact fun σ' μ' H' x s E => h σ' μ' H' x (by rw [← hK, ← hm]; exact s) (E.clr hK.symm)
  | rt d S => exact fun v μ' H' x s r => h v μ' H' x (by rw [← hK, ← hm]; exact s) (by rw [← hK]; exact r)
  | exc c fs e S => exact fun σ' μ' H' C d x s E a => h σ' μ' H' C d x (by rw [← hK, ← hm]; exact s) (E.clr hK.symm) (by rw [← hK, ← hm]; exact a)
  | stuck => exact h
theorem PostS.noW {W : WX} {μ : List Addr} {H : Hp} {D : Ends} {r : RS} (h : PostS nm X W μ H r.nox D) : PostS nm X (fun _ _ _ _ => False) μ H r.clr D := by
  cases r <;> first | exact h | exact False.elim h
/-- the reading of a body or suite in a context that is not known yet -/
def rdC (nm : Nms) (X : Cx) (W : WX) (m : SM) : TS := fun D σ H => ∃ e S μ, EvR nm X H μ e σ ∧ Sim nm X.K X.mg μ S H ∧ e.ex = [] ∧ PostS nm X W μ H (m e S).clr D
theorem rdC_to (X : Cx) {X' : Cx} {W : WX} {m : SM} {D : Ends} {σ : St} {H : Hp} (hK : X'.K = X.K) (hm : X'.mg = X.mg) (h : rdC nm X W m D σ H) : rdS nm X' W m D σ H := by
  obtain ⟨e, S, μ, E, s, ee, p⟩ := h
  have E' := E.clr (X' := X') hK
  have : e.clr = e := by
    obtain ⟨a, b⟩ := e
    cases ee; rfl
  rw [this] at E'
  exact ⟨e, S, μ, E', by rw [hK, hm]; exact s, PostS.back hK hm p⟩
theorem try_rd {W : WX} {D : Ends} {σ : St} {H : Hp} {mb : SM} {yes no : List Nat} {k : Nat → List (Nat × BS.D) → Ev → Store → RS} {W' : WX} (h : rdS nm X W (fun e S => (mb e.clr S).caught yes no k) D σ H)
    (hy : ∀ c ∈ yes, ∀ fs (e : Ev) S σ' μ' H' C d, X.mg (nm.cls c) = some (.ref C) → Sim nm X.K X.mg μ' S H' → EvR nm X H' μ' e.clr σ' → ExcAt nm X.K X.mg H' μ' c fs C d → PostS nm X W μ' H' (k c fs e.clr S) D → W' (.ref C) d σ' H')
    (hn : ∀ c ∈ no, ∀ C d σ' H', X.mg (nm.cls c) = some (.ref C) → W (.ref C) d σ' H' → W' (.ref C) d σ' H') : rdC nm X W' mb D σ H := by
  obtain ⟨e, S, μ, E, s, p⟩ := h
  refine ⟨e.clr, S, μ, E.clr rfl, s, rfl, ?_⟩
  have p : PostS nm X W μ H ((mb e.clr S).caught yes no k) D := p
  cases hr : mb e.clr S with
  | nx e' S' => rw [hr] at p; exact p
  | bk e' S' => rw [hr] at p; exact p
  | ct e' S' => rw [hr] at p; exact p
  | rt d S' => rw [hr] at p; exact p
  | stuck => rw [hr] at p; exact p
  | exc c fs e' S' =>
    rw [hr, RS.caught_exc] at p
    intro σ' μ' H' C d x s' E' a
    split at p
    · rename_i hc
      exact hy c (by simpa using hc) fs e' S' σ' μ' H' C d a.1 s' E' a (PostS.ext x p)
    · split at p
      · rename_i hc
        exact hn c (by simpa using hc) C d σ' H' a.1 (p σ' μ' H' C d x s' E' a)
      · exact False.elim p
theorem ms_try {x : Str} {body suite : List Stmt} {b₀ : Stmt} {np pos' : Pos} {mb ms : SM} {yes no : List Nat} (hs : X.stack = X.env :: X.outer) (hf : X.env.frame = some X.env.locals) (hg : GlN X x) (hc : Catch X.K X.mg nm x yes no)
    (hb : ∀ (pn : List (Addr × Obj)) (xe : Value → Shared → Prop), PassesOwn (model X.prog X.w) X.A X.env xe → MB nm (X.tr pn xe) body mb)
    (hsu : ∀ (a : Addr) (oe : Obj) (pn : List (Addr × Obj)), MB nm (X.suite a ((a, oe) :: pn)) (b₀ :: suite) ms) :
    MS nm X (.Try body [.ExceptHandler (some (.Name x np)) none (b₀ :: suite) pos'] [] [] pos) (mTry yes no mb ms) := by
  obtain ⟨cv, h1, h2, h3⟩ := hc
  refine ⟨fun W tk => (ps_try_only (c := cv) (tb := fun W => rdC nm X W mb) (ts := fun a _ _ => rdC nm X (fun _ _ _ _ => False) ms) hs hf ⟨hg.g, hg.d, .inl h1⟩ tk
    (fun W' pn xe tk' hp => ((hb pn xe hp).run W' tk').imp fun D σ H hh => rdC_to X rfl rfl hh) (fun a oe cls d pn hz hv => ((hsu a oe pn).run _ takes0).imp fun D σ H hh => rdC_to X rfl rfl hh)).imp fun D σ H hh => ?_⟩
  refine try_rd hh (fun c hc fs e S σ' μ' H' C d g s E a p => ⟨true, h2 c hc C g, fun _ a na => ⟨e.clr, S, μ', E, s, rfl, PostS.noW p⟩, fun q => (nomatch q)⟩) fun c hc C d σ' H' g w => ⟨false, h3 c hc C g, fun q => (nomatch q), fun _ => w⟩
/-- n stands for the exception -/
def Ev.exn (e : Ev) (i c : Nat) (fs : List (Nat × D)) : Ev := { sl := e.sl.set i none, ex := [(i, c, fs)] }
/-- n goes -/
def RS.gone (r : RS) (i : Nat) : RS := match r with
  | .nx e S => .nx ⟨e.sl.set i none, []⟩ S
  | .bk e S => .bk ⟨e.sl.set i none, []⟩ S
  | .ct e S => .ct ⟨e.sl.set i none, []⟩ S
  | .exc _ _ _ _ => .stuck
  | r => r
@[simp] theorem RS.gone_nx (i : Nat) (e : Ev) (S : Store) : (RS.nx e S).gone i = .nx ⟨e.sl.set i none, []⟩ S := rfl
@[simp] theorem RS.gone_bk (i : Nat) (e : Ev) (S : Store) : (RS.bk e S).gone i = .bk ⟨e.sl.set i none, []⟩ S := rfl
@[simp] theorem RS.gone_ct (i : Nat) (e : Ev) (S : Store) : (RS.ct e S).gone i = .ct ⟨e.sl.set i none, []⟩ S := rfl
@[simp] theorem RS.gone_rt (i : Nat) (d : D) (S : Store) : (RS.rt d S).gone i = .rt d S := rfl
@[simp] theorem RS.gone_exc (i : Nat) (c : Nat) (fs : List (Nat × D)) (e : Ev) (S : Store) : (RS.exc c fs e S).gone i = .stuck := rfl
@[simp] theorem RS.gone_stuck (i : Nat) : RS.stuck.gone i = .stuck := rfl
def mTryAs (i : Nat) (yes no : List Nat) (b s : SM) : SM := fun e S => (b e.clr S).caught yes no fun c fs e S => if i < e.sl.length then (s (e.exn i c fs) S).gone i else .stuck
theorem EvR.unset {H : Hp} {μ : List Addr} {e : Ev} {σ : St} (i : Nat) {X' : Cx} (hK : X'.K = X.K) (E : EvR nm X H μ e σ) : EvR nm X' H μ ⟨e.sl.set i none, []⟩ (σ.set i none) := by
  refine ⟨by simp [E.len], fun j d h => ?_, fun p hp => absurd (show p ∈ ([] : List _) from hp) (by simp)⟩
  by_cases e1 : i = j
  · subst e1
    have hl : i < e.sl.length := by simpa using (List.getElem?_eq_some_iff.mp h).1
    have h : (e.sl.set i none)[i]? = some (some d) := h
    rw [List.getElem?_set_self hl] at h; cases h
  · have h : (e.sl.set i none)[j]? = some (some d) := h
    rw [List.getElem?_set_ne e1] at h
    obtain ⟨v, a, b⟩ := E.at_ j d h
    exact ⟨v, by rw [List.getElem?_set_ne e1]; exact a, by rw [hK]; exact b⟩
theorem EvR.weak {H : Hp} {μ : List Addr} {e : Ev} {σ : St} (i : Nat) (v : V) {X' : Cx} (hK : X'.K = X.K) (E : EvR nm X H μ e.clr σ) : EvR nm X' H μ ⟨e.sl.set i none, []⟩ (σ.set i (some v)) := by
  refine ⟨by have := E.len; simpa [Ev.clr] using this, fun j d h => ?_, fun p hp => absurd (show p ∈ ([] : List _) from hp) (by simp)⟩
  by_cases e1 : i = j
  · subst e1
    have hl : i < e.sl.length := by simpa using (List.getElem?_eq_some_iff.mp h).1
    have h : (e.sl.set i none)[i]? = some (some d) := h
    rw [List.getElem?_set_self hl] at h; cases h
  · have h : (e.sl.set i none)[j]? = some (some d) := h
    rw [List.getElem?_set_ne e1] at h
    obtain ⟨v, a, b⟩ := E.at_ j d h
    exact ⟨v, by rw [List.getElem?_set_ne e1]; exact a, by rw [hK]; exact b⟩
theorem ms_tryAs (i : Nat) {x n : Str} {body suite : List Stmt} {b₀ : Stmt} {np pos' : Pos} {mb ms : SM} {yes no : List Nat} (hs : X.stack = X.env :: X.outer) (hf : X.env.frame = some X.env.locals) (hN : X.N.Nodup) (hg : GlN X x) (hc : Catch X.K X.mg nm x yes no)
    (hb : ∀ (pn : List (Addr × Obj)) (xe : Value → Shared → Prop), PassesOwn (model X.prog X.w) X.A X.env xe → MB nm (X.tr pn xe) body mb)
    (hsu : ∀ (a : Addr) (oe : Obj) (pn : List (Addr × Obj)), MB nm (X.suite a ((a, oe) :: pn)) (b₀ :: suite) ms) (hln : X.env.kindOf n = some .local) (hi : X.N[i]? = some n := by rfl) :
    MS nm X (.Try body [.ExceptHandler (some (.Name x np)) (some n) (b₀ :: suite) pos'] [] [] pos) (mTryAs i yes no mb ms) := by
  obtain ⟨cv, h1, h2, h3⟩ := hc
  -- the suite's reading, at the exception's address
  let ts : Addr → Value → Option Addr → TS := fun a cls d D σ H => ∃ c fs, ∃ e : Ev, ∃ S μ C, cls = .ref C ∧ EvR nm X H μ ⟨e.sl.set i none, []⟩ σ ∧ σ[i]? = some (some (.ref a)) ∧ Sim nm X.K X.mg μ S H ∧ ExcAt nm X.K X.mg H μ c fs C d ∧
    ∀ X', X'.K = X.K → X'.mg = X.mg → PostS nm X' (fun _ _ _ _ => False) μ H (ms (e.exn i c fs) S) D
  refine ⟨fun W tk => (ps_try_as (c := cv) (tb := fun W => rdC nm X W mb) (ts := ts) hs hf hN hi hln ⟨hg.g, hg.d, .inl h1⟩ tk
    (fun W' pn xe tk' hp => ((hb pn xe hp).run W' tk').imp fun D σ H hh => rdC_to X rfl rfl hh) (fun a oe cls d pn hz hv => ((hsu a oe pn).run _ takes0).imp fun D σ H hh => ?_)).imp fun D σ H hh => ?_⟩
  · obtain ⟨c, fs, e, S, μ, C, rfl, E, ha, s, ea, p⟩ := hh
    refine ⟨e.exn i c fs, S, μ, ⟨E.len, E.at_, fun q hq => ?_⟩, s, p _ rfl rfl⟩
    rcases List.mem_singleton.mp (show q ∈ [(i, c, fs)] from hq) with rfl
    exact ⟨a, oe, C, d, ha, List.mem_cons_self, ⟨hz, hv⟩, ea⟩
  · refine try_rd hh (fun c hc fs e S σ' μ' H' C d g s E ea p => ?_) fun c hc C d σ' H' g w => ⟨false, h3 c hc C g, fun q => (nomatch q), fun _ => w⟩
    have p : PostS nm X W μ' H' (if i < e.clr.sl.length then (ms (e.clr.exn i c fs) S).gone i else .stuck) D := p
    split at p
    · rename_i hl
      have hl2 : i < σ'.length := by rw [← E.len]; exact hl
      refine ⟨true, h2 c hc C g, fun _ a na => ⟨c, fs, e.clr, S, μ', C, rfl, E.weak i _ rfl, List.getElem?_set_self hl2, s, ea, fun X' hK hm => ?_⟩, fun q => (nomatch q)⟩
      cases hr : ms (e.clr.exn i c fs) S with
      | nx e' S' => rw [hr] at p; exact fun σ2 μ2 H2 x s E => p _ μ2 H2 x (by rw [← hK, ← hm]; exact s) (E.unset i hK.symm)
      | bk e' S' => rw [hr] at p; exact fun σ2 μ2 H2 x s E => p _ μ2 H2 x (by rw [← hK, ← hm]; exact s) (E.unset i hK.symm)
      | ct e' S' => rw [hr] at p; exact fun σ2 μ2 H2 x s E => p _ μ2 H2 x (by rw [← hK, ← hm]; exact s) (E.unset i hK.symm)
      | rt d' S' => rw [hr] at p; exact fun v μ2 H2 x s r => p v μ2 H2 x (by rw [← hK, ← hm]; exact s) (by rw [← hK]; exact r)
      | exc c' fs' e' S' => rw [hr] at p; exact False.elim p
      | stuck => rw [hr] at p; exact False.elim p
    · exact False.elim p
def den (n : Nat) (m : SM) : FM := fun ds S => match m ⟨ds.map some ++ List.replicate (n - ds.length) none, []⟩ S with
  | .nx _ S => .ok .non S
  | .rt d S => .ok d S
  | .exc c fs _ S => .exc c fs S
  | _ => .stuck
theorem evr_start {H : Hp} {μ : List Addr} {N : List Str} {vs : List V} {ds : List D} (r : RVs X.K H μ vs ds) (hl : ds.length ≤ N.length) : EvR nm X H μ ⟨ds.map some ++ List.replicate (N.length - ds.length) none, []⟩ (start N vs) := by
  refine ⟨by simp [L2.start, r.length], fun i d h => ?_, fun p hp => absurd (show p ∈ ([] : List _) from hp) (by simp)⟩
  have h : (ds.map some ++ List.replicate (N.length - ds.length) none)[i]? = some (some d) := h
  by_cases hi : i < ds.length
  · rw [List.getElem?_append_left (by simpa using hi), List.getElem?_map] at h
    cases h1 : ds[i]? with
    | none => rw [h1] at h; cases h
    | some d' =>
      rw [h1] at h; cases h
      obtain ⟨v, h2, h3⟩ := r.get h1
      refine ⟨v, ?_, h3⟩
      unfold L2.start
      rw [List.getElem?_append_left (by rw [List.length_map, r.length]; exact hi), List.getElem?_map, h2]
      rfl
  · rw [List.getElem?_append_right (by simpa using Nat.le_of_not_lt hi)] at h
    obtain ⟨hlt, e⟩ := List.getElem?_eq_some_iff.mp h
    rw [List.getElem_replicate] at e
    cases e
theorem den_ok {P : Program} {w : World} {K : PySem.W.Frag} {mg : Str → Option Value} {base : Heap} {x qual : Str} {st : Stmt} {f : Addr} {fd : FuncData} {N ps : List Str} {k : Nat} {m : SM} (F : Fun K x qual st f fd) (S : FnScope N ps (defScope st))
    (hb : ∀ (cdv : Value) (A : Around) (outer : List Env) (s : Shared) (H : Hp) (E : XK), Room k (A.deeper (envOfC qual (defScope st) s.heap.objs.size f cdv)) → MB nm (cxOf (L2.CX P w) P w K mg base N qual (defScope st) f cdv A outer s H E) (defBody st) m) {V : FM} {n : Nat} (hV : den N.length m = V) (hn : ps.length = n) :
    FnOk P w K mg base (L2.CX P w) (k + 1) f fd ps (spD nm K mg n V) := by
  subst hV hn
  refine F.okX S (fun vs H Q E h => ?_) fun cdv A outer s H vs Q E hr h => ?_
  · obtain ⟨ds, S, μ, r, hl, _⟩ := h
    rw [r.length, hl]
  · obtain ⟨ds, S', μ, r, hl, sm, p⟩ := h
    refine ⟨_, (hb cdv A outer s H E hr).run (fun cls d _ H => E cls d H) (takes_of rfl rfl rfl rfl), ⟨ds.map some ++ List.replicate (N.length - ds.length) none, []⟩, S', μ, evr_start r ?_, sm, ?_⟩
    · have := congrArg List.length S.pre
      rw [List.length_take] at this
      omega
    · unfold den at p
      cases hr : m ⟨ds.map some ++ List.replicate (N.length - ds.length) none, []⟩ S' with
      | nx e S2 => rw [hr] at p; exact fun σ' μ' H' x s _ => p μ' H' x s _ .non
      | bk e S2 => rw [hr] at p; exact False.elim p
      | ct e S2 => rw [hr] at p; exact False.elim p
      | rt d S2 => rw [hr] at p; exact fun v μ' H' x s r => p μ' H' x s v r
      | exc c fs e S2 => rw [hr] at p; exact fun σ' μ' H' C d x s _ a => p μ' H' C d x s a
      | stuck => rw [hr] at p; exact False.elim p
end
end BS
namespace BS
open PySem PySem.Spec PyProof.Rows L2
section
variable {nm : Nms} {X : Cx} {pos : Pos} {e : Expr} {es : List Expr} {me : EM} {ma : AM}
def rCallD (nm : Nms) (X : Cx) (F : FM) : List V → Hp → VK → Prop := fun xs H Q => ∃ ds S μ E, RVs X.K H μ xs ds ∧ Sim nm X.K X.mg μ S H ∧ Post nm X.K X.mg μ H (F ds S) (fun d _ μ' H' => ∀ v, RV X.K H' μ' v d → Q v H') E
abbrev CallD (nm : Nms) (X : Cx) (f : Value) (F : FM) : Prop := CallR X f (rCallD nm X F)
theorem me_callB {id : String} {x : Str} {p : Pos} {F : FM} (hc : CallD nm X (.builtin id) F) (hg : GlN X x) (hm : X.mg x = none) (hv : bootBuiltins x = some (.builtin id)) (ha : MA nm X (e :: es) ma)
    (he : starEach (e :: es) X.env = (false, eval e X.env) :: starEach es X.env := by rfl) (hpl : (backTo pos (starEach es X.env)).any (·.1) = false := by rfl) : ME nm X (.Call (.Name x p) (e :: es) [] pos) (mCall F ma) :=
  ⟨fun W tk => (pe_callB hc hg.g hm hv (ha.run W tk) hg.n hg.d he hpl).imp fun σ H Q h => by
    obtain ⟨e, S, μ, E, s, q⟩ := h
    exact ⟨e, S, μ, E, s, (Post.bind q).mono fun ds S1 μ1 H1 x1 s1 p1 vs rvs => ⟨ds, S1, μ1, _, rvs, s1, p1⟩⟩⟩
theorem me_callT {T : String} {x : Str} {p : Pos} {F : FM} (hc : CallD nm X (.type T) F) (hg : GlN X x) (hm : X.mg x = none) (hv : bootBuiltins x = some (.type T)) (ha : MA nm X (e :: es) ma)
    (he : starEach (e :: es) X.env = (false, eval e X.env) :: starEach es X.env := by rfl) (hpl : (backTo pos (starEach es X.env)).any (·.1) = false := by rfl) : ME nm X (.Call (.Name x p) (e :: es) [] pos) (mCall F ma) :=
  ⟨fun W tk => (pe_callTy hc hg.g hm hv (ha.run W tk) hg.n hg.d he hpl).imp fun σ H Q h => by
    obtain ⟨e, S, μ, E, s, q⟩ := h
    exact ⟨e, S, μ, E, s, (Post.bind q).mono fun ds S1 μ1 H1 x1 s1 p1 vs rvs => ⟨ds, S1, μ1, _, rvs, s1, p1⟩⟩⟩
theorem one_rv {K : PySem.W.Frag} {H : Hp} {μ : List Addr} {xs : List V} {d : D} (r : RVs K H μ xs [d]) : ∃ v, xs = [v] ∧ RV K H μ v d := by
  cases r with | cons r t => cases t; exact ⟨_, rfl, r⟩
theorem two_rv {K : PySem.W.Frag} {H : Hp} {μ : List Addr} {xs : List V} {d d' : D} (r : RVs K H μ xs [d, d']) : ∃ v w, xs = [v, w] ∧ RV K H μ v d ∧ RV K H μ w d' := by
  cases r with | cons r t => obtain ⟨w, rfl, r'⟩ := one_rv t; exact ⟨_, _, rfl, r, r'⟩
def fnInt : FM := fun ds S => match ds with
  | [.int i] => .ok (.int i) S
  | [.bl b] => .ok (.int (if b = true then 1 else 0)) S
  | [.str a] => match PySem.intText? a with
    | some n => if a.length ≤ 640 then .ok (.int n) S else .stuck
    | none => .stuck
  | _ => .stuck
theorem c_int : CallD nm X (.type "int") fnInt := by
  intro pins s σ H xs us Q I r h
  obtain ⟨ds, S, μ, E, rv, sm, p⟩ := h
  unfold fnInt at p
  split at p
  · obtain ⟨v, rfl, r1⟩ := one_rv rv; cases r1
    exact call_int1 pins s σ H _ us Q I r (.inl ⟨_, rfl, p μ H .refl sm _ (.int _)⟩)
  · obtain ⟨v, rfl, r1⟩ := one_rv rv; cases r1
    exact call_int1 pins s σ H _ us Q I r (.inr ⟨_, rfl, p μ H .refl sm _ (.int _)⟩)
  · obtain ⟨v, rfl, r1⟩ := one_rv rv; cases r1
    split at p
    · rename_i n hn
      split at p
      · rename_i hl
        exact call_int_str pins s σ H _ us Q I r ⟨_, n, rfl, hn, hl, p μ H .refl sm _ (.int _)⟩
      · exact False.elim p
    · exact False.elim p
  · exact False.elim p
def lenS (S : Store) (d : D) : Option Nat := match d with
  | .str z => if z.length ≤ sizeLine then some z.length else none
  | _ => match seqOf S d with
    | some ds => some ds.length
    | none => (dctOf S d).map (·.length)
def fnLen : FM := fun ds S => match ds with
  | [d] => match lenS S d with
    | some n => .ok (.int n) S
    | none => .stuck
  | _ => .stuck
theorem c_len : CallD nm X (.builtin "len") fnLen := by
  intro pins s σ H xs us Q I r h
  obtain ⟨ds, S, μ, E, rv, sm, p⟩ := h
  unfold fnLen at p
  split at p
  · rename_i d
    obtain ⟨v, rfl, r1⟩ := one_rv rv
    split at p
    · rename_i n hn
      have q := p μ H .refl sm _ (.int _)
      unfold lenS at hn
      split at hn
      · split at hn
        · rename_i hl; cases hn; cases r1
          exact call_len pins s σ H _ us Q I r ⟨_, _, rfl, ⟨hl, rfl⟩, q⟩
        · cases hn
      · split at hn
        · rename_i ds hds
          cases hn
          obtain ⟨a, xs, rfl, hs, r2⟩ := seqOf_sq sm r1 hds
          refine call_len pins s σ H _ us Q I r ⟨_, _, rfl, ?_, q⟩
          rcases hs with hs | hs
          · exact .inl ⟨xs, hs, r2.length.symm⟩
          · exact .inr ⟨xs, hs, r2.length.symm⟩
        · obtain ⟨kvs, hk, rfl⟩ := Option.map_eq_some_iff.mp hn
          obtain ⟨n, a, ys, rfl, rfl, _, _, e1, r2⟩ := dctOf_at sm r1 hk
          cases r with | cons r t =>
          cases r; cases t
          exact d_len I (.inl e1) fun t s' I' => ⟨.int _, H, I', ⟨t, rfl⟩, by rw [rk_len r2]; exact q⟩
    · exact False.elim p
  · exact False.elim p
def fnList (new : Bool) : FM := fun ds S => match ds with
  | [d] => match seqOf S d with
    | some ds => fin new ds S
    | none => .stuck
  | _ => .stuck
theorem c_list (new : Bool) : CallD nm X (.type "list") (fnList new) := by
  intro pins s σ H xs us Q I r h
  obtain ⟨ds, S, μ, E, rv, sm, p⟩ := h
  unfold fnList at p
  split at p
  · obtain ⟨v, rfl, r1⟩ := one_rv rv
    split at p
    · rename_i ds hds
      obtain ⟨a, xs, rfl, hs, r2⟩ := seqOf_sq sm r1 hds
      exact call_list_of pins s σ H _ us Q I r ⟨a, xs, rfl, hs, fun l hl => fin_post sm r2 hl p⟩
    · exact False.elim p
  · exact False.elim p
def fnTuple : FM := fun ds S => match ds with
  | [.tup ds] => .ok (.tup ds) S
  | [d] => match lstOf S d with
    | some ds => .ok (.tup ds) S
    | none => .stuck
  | _ => .stuck
theorem c_tuple : CallD nm X (.type "tuple") fnTuple := by
  intro pins s σ H xs us Q I r h
  obtain ⟨ds, S, μ, E, rv, sm, p⟩ := h
  unfold fnTuple at p
  split at p
  · obtain ⟨v, rfl, r1⟩ := one_rv rv
    cases r1 with | tup t r2 =>
    exact call_tuple_of pins s σ H _ us Q I r ⟨_, _, rfl, .inr ⟨t.sq, p μ H .refl sm _ (.tup t r2)⟩⟩
  · obtain ⟨v, rfl, r1⟩ := one_rv rv
    split at p
    · rename_i ds hds
      obtain ⟨a, xs, rfl, hs, r2⟩ := lstOf_sq sm r1 hds
      exact call_tuple_of pins s σ H _ us Q I r ⟨a, xs, rfl, .inl ⟨hs, fun l hl => tup_post sm r2 hl p⟩⟩
    · exact False.elim p
  · exact False.elim p
def fnAbs : FM := fun ds S => match ds with
  | [.int i] => .ok (.int (if i < 0 then -i else i)) S
  | _ => .stuck
theorem c_abs : CallD nm X (.builtin "abs") fnAbs := by
  intro pins s σ H xs us Q I r h
  obtain ⟨ds, S, μ, E, rv, sm, p⟩ := h
  unfold fnAbs at p
  split at p
  · obtain ⟨v, rfl, r1⟩ := one_rv rv; cases r1
    exact call_abs pins s σ H _ us Q I r ⟨_, rfl, p μ H .refl sm _ (.int _)⟩
  · exact False.elim p
def fnStr : FM := fun ds S => match ds with
  | [.int i] => if i.natAbs.log2 < 1920 then .ok (.str (Str.ofString (toString i))) S else .stuck
  | _ => .stuck
theorem c_str : CallD nm X (.type "str") fnStr := by
  intro pins s σ H xs us Q I r h
  obtain ⟨ds, S, μ, E, rv, sm, p⟩ := h
  unfold fnStr at p
  split at p
  · obtain ⟨v, rfl, r1⟩ := one_rv rv; cases r1
    split at p
    · rename_i c
      exact call_str_int pins s σ H _ us Q I r ⟨_, rfl, c, p μ H .refl sm _ (.str _)⟩
    · exact False.elim p
  · exact False.elim p
def fnOrd : FM := fun ds S => match ds with
  | [.str z] => if z.length = 1 then .ok (.int (z.cps.getD 0 0 : Nat)) S else .stuck
  | _ => .stuck
theorem c_ord : CallD nm X (.builtin "ord") fnOrd := by
  intro pins s σ H xs us Q I r h
  obtain ⟨ds, S, μ, E, rv, sm, p⟩ := h
  unfold fnOrd at p
  split at p
  · obtain ⟨v, rfl, r1⟩ := one_rv rv; cases r1
    split at p
    · rename_i c
      exact call_ord pins s σ H _ us Q I r ⟨_, rfl, c, p μ H .refl sm _ (.int _)⟩
    · exact False.elim p
  · exact False.elim p
inductive Ty where
  | none | bool | int | str | tuple | list | dict
def Ty.n : Ty → String
  | .none => "NoneType" | .bool => "bool" | .int => "int" | .str => "str" | .tuple => "tuple" | .list => "list" | .dict => "dict"
def isTy (a b : Ty) : Bool := match b with
  | .none => match a with | .none => true | _ => false
  | .bool => match a with | .bool => true | _ => false
  | .int => match a with | .int => true | .bool => true | _ => false
  | .str => match a with | .str => true | _ => false
  | .tuple => match a with | .tuple => true | _ => false
  | .list => match a with | .list => true | _ => false
  | .dict => match a with | .dict => true | _ => false
theorem kitB_ty (a b : Ty) : kitB a.n b.n = some (isTy a b) := by
  cases a <;> cases b <;> decide +kernel
def tyS (S : Store) (d : D) : Option Ty := match d with
  | .non => some .none
  | .bl _ => some .bool
  | .int _ => some .int
  | .str _ => some .str
  | .tup _ => some .tuple
  | .lst _ => some .list
  | .scr _ => some .list
  | .obj n => match S[n]? with
    | some (.lst _) => some .list
    | some (.dct _) => some .dict
    | _ => none
theorem tyS_of {K : PySem.W.Frag} {mg : Str → Option Value} {H : Hp} {μ : List Addr} {S : Store} {v : V} {d : D} {t : Ty} (s : Sim nm K mg μ S H) (r : RV K H μ v d) (h : tyS S d = some t) : TyX K H v (.type t.n) := by
  unfold tyS at h
  split at h
  · cases h; cases r; exact .base .non
  · cases h; cases r; exact .base (.bl _)
  · cases h; cases r; exact .base (.int _)
  · cases h; cases r; exact .base (.str _)
  · cases h; cases r with | tup t r =>
    rcases t with ⟨_, t | ⟨o, t⟩⟩ | ⟨o, its, n, k1, k2, _⟩
    · exact .base (.tup t)
    · exact .fTuple t
    · exact .kTuple k1 k2
  · cases h; cases r with | lst t r => exact .base (.lst t.2)
  · cases h; cases r with | scr t r =>
    rcases t with ⟨_, t | ⟨o, t⟩⟩ | ⟨o, its, n, k1, k2, _⟩
    · exact .base (.lst t)
    · exact .base (.frz t)
    · exact .kList k1 k2
  · cases r with | obj e =>
    split at h
    · rename_i hds; cases h
      obtain ⟨xs, e1, _⟩ := s.ob _ _ _ e hds
      exact .base (.lst e1)
    · rename_i hds; cases h
      obtain ⟨xs, e1, _⟩ := s.ob _ _ _ e hds
      exact .base (.dK e1)
    · cases h
def mIsi (T : Ty) (a : EM) : EM := mUn (fun S d => (tyS S d).map fun t => .bl (isTy t T)) a
theorem me_isi (T : Ty) {a : Expr} {m : EM} {p p2 : Pos} {x : Str} (ha : ME nm X a m) (hg : GlN X "isinstance") (hm : X.mg "isinstance" = none) (hgT : GlN X x) (hmT : X.mg x = none) (hb : bootBuiltins "isinstance" = some (.builtin "isinstance")) (hT : bootBuiltins x = some (.type T.n))
    (he : starEach (a :: [.Name x p2]) X.env = (false, eval a X.env) :: starEach [.Name x p2] X.env := by rfl) (he2 : starEach (.Name x p2 :: []) X.env = (false, eval (.Name x p2) X.env) :: starEach [] X.env := by rfl) (hpl : (backTo pos (starEach [.Name x p2] X.env)).any (·.1) = false := by rfl) :
    ME nm X (.Call (.Name "isinstance" p) [a, .Name x p2] [] pos) (mIsi T m) := by
  refine ⟨fun W tk => (pe_callB call_isi hg.g hm hb (pa_cons (ha.run W tk) (pa_cons (pe_bltn (v := .ty T.n) hgT.g hmT hT rfl hgT.n hgT.d) pa_nil he2) he) hg.n hg.d he hpl).imp fun σ H Q hh => ?_⟩
  obtain ⟨e, S, μ, E, s, p⟩ := hh
  refine ⟨e, S, μ, E, s, (Post.bind p).mono fun d S1 μ1 H1 x1 s1 p1 v rv => ?_⟩
  split at p1
  · rename_i d' hd
    obtain ⟨t, ht, rfl⟩ := Option.map_eq_some_iff.mp hd
    exact ⟨v, .ty T.n, .type t.n, .type T.n, isTy t T, rfl, .ty _, tyS_of s1 rv ht, kit_ty (kitB_ty t T), p1 μ1 H1 .refl s1 _ (.bl _)⟩
  · exact False.elim p1
def rMtD (nm : Nms) (X : Cx) (F : FM) : V → List V → Hp → VK → Prop := fun x xs H Q => rCallD nm X F (x :: xs) H Q
abbrev MtD (nm : Nms) (X : Cx) (id : String) (F : FM) : Prop := MtR X id (rMtD nm X F)
def mBm (T : Ty) (F : FM) (o : EM) (as : AM) : EM := fun e S => (o e S).bind fun x S => match tyS S x with
  | some t => if isTy t T = true then (as e S).bind fun ds S => F (x :: ds) S else .stuck
  | none => .stuck
theorem tyV_of {K : PySem.W.Frag} {mg : Str → Option Value} {H : Hp} {μ : List Addr} {S : Store} {v : V} {d : D} {t T : Ty} (hT : T = .str ∨ T = .list ∨ T = .dict) (s : Sim nm K mg μ S H) (r : RV K H μ v d) (h : tyS S d = some t) (ht : isTy t T = true) : tyV K T.n v H := by
  have e : t = T := by
    rcases hT with rfl | rfl | rfl <;> cases t <;> first | rfl | cases ht
  subst e
  clear ht
  unfold tyS at h
  split at h
  · cases h; rcases hT with z | z | z <;> cases z
  · cases h; rcases hT with z | z | z <;> cases z
  · cases h; rcases hT with z | z | z <;> cases z
  · cases h; cases r; rfl
  · cases h; rcases hT with z | z | z <;> cases z
  · cases h; cases r with | lst t r => exact .inl ⟨rfl, _, .of t.2⟩
  · cases h; cases r with | scr t r => exact .inl ⟨rfl, _, t.sq⟩
  · cases r with | obj e =>
    split at h
    · rename_i hds; cases h
      obtain ⟨xs, e1, _⟩ := s.ob _ _ _ e hds
      exact .inl ⟨rfl, _, .of e1⟩
    · rename_i hds; cases h
      obtain ⟨xs, e1, _⟩ := s.ob _ _ _ e hds
      exact .inr (.inr (.inl ⟨rfl, .inl ⟨_, e1⟩⟩))
    · cases h
theorem me_bm {T : Ty} {id : String} {name : Str} {F : FM} {o : Expr} {mo : EM} {apos : Pos} (pa : PlainAttrs T.n) (slot : Slot T.n name id) (hty : typeOf (.builtin id) = pure (.type "method_descriptor")) (hm : MtD nm X id F) (ho : ME nm X o mo) (ha : MA nm X (e :: es) ma) (hT : T = .str ∨ T = .list ∨ T = .dict := by simp)
    (hbase : attributeBase o name X.env (eval o X.env) = eval o X.env := by rfl)
    (hfew : ((backTo pos (starEach (e :: es) X.env)).all (fun x => !x.1) && (backToKw pos (keywordEach [] X.env)).all (fun x => x.1.isSome)
      && decide ((e :: es).length + ([] : List Keyword).length + (if ([] : List Keyword).isEmpty then 0 else 1) < 30)) = true := by rfl)
    (hline : (apos.endLine == pos.line) = true := by rfl) (hs : starEach (e :: es) X.env = (false, eval e X.env) :: starEach es X.env := by rfl) (hplain : (backTo pos (starEach es X.env)).any (·.1) = false := by rfl) :
    ME nm X (.Call (.Attribute o name apos) (e :: es) [] pos) (mBm T F mo ma) := by
  refine ⟨fun W tk => ⟨fun pins s σ H Q I h => ?_⟩⟩
  obtain ⟨ev, S, μ, E, sm, q⟩ := h
  refine wpAny_Call_method_late hbase hfew hline rfl (thn ((ho.run W tk).run pins s σ H (fun x H1 => ∃ S1 μ1 d, EvR nm X H1 μ1 ev σ ∧ Sim nm X.K X.mg μ1 S1 H1 ∧ RV X.K H1 μ1 x d ∧ tyV X.K T.n x H1 ∧ PostX nm X W μ1 H1 σ ((ma ev S1).bind fun ds S => F (d :: ds) S) fun d _ μ' H' => ∀ v, RV X.K H' μ' v d → Q v H') I
    ⟨ev, S, μ, E, sm, (Post.bind q).mono fun d S1 μ1 H1 x1 s1 q1 v rv => ?_⟩) fun v s1 ⟨x, H1, I1, r1, S1, μ1, d, E1, sm1, rd, ty, q1⟩ => ?_)
  · split at q1
    · rename_i t ht
      split at q1
      · rename_i hi; exact ⟨S1, μ1, d, E.ext x1, s1, rv, tyV_of hT s1 rv ht hi, q1⟩
      · exact False.elim q1
    · exact False.elim q1
  · obtain ⟨h1, h2⟩ := tyV_is I1 r1 ty
    refine ⟨T.n, id, pa, slot, hty, h1, h2, ?_⟩
    have hA := (ha.run W tk).run pos pins s1 σ H1 (fun vs H2 => ∃ ds S2 μ2, RVs X.K H2 μ2 (x :: vs) (d :: ds) ∧ Sim nm X.K X.mg μ2 S2 H2 ∧ PostX nm X W μ2 H2 σ (F (d :: ds) S2) fun d _ μ' H' => ∀ v, RV X.K H' μ' v d → Q v H') I1
      ⟨ev, S1, μ1, E1, sm1, (Post.bind q1).mono fun ds S2 μ2 H2 x2 s2 q2 vs rvs => ⟨ds, S2, μ2, .cons (rd.ext x2) rvs, s2, q2⟩⟩
    rw [hs] at hA ⊢
    refine Calls.callWith_builtin (by show (false || (backTo pos (starEach es X.env)).any (·.1)) = false; rw [hplain] <;> rfl) (Calls.evalArgs_plain ?_)
    exact thn hA fun us s2 ⟨vs, H2, I2, r2, ds, S2, μ2, rvs, sm2, q2⟩ => hm pins s2 σ H2 x vs v us Q I2 r1 r2 ⟨d :: ds, S2, μ2, _, rvs, sm2, q2⟩
theorem me_bm0 {T : Ty} {id : String} {name : Str} {F : FM} {o : Expr} {mo : EM} {apos : Pos} (pa : PlainAttrs T.n) (slot : Slot T.n name id) (hty : typeOf (.builtin id) = pure (.type "method_descriptor")) (hm : MtD nm X id F) (ho : ME nm X o mo) (hT : T = .str ∨ T = .list ∨ T = .dict := by simp)
    (hbase : attributeBase o name X.env (eval o X.env) = eval o X.env := by rfl) (hline : (apos.endLine == pos.line) = true := by rfl) :
    ME nm X (.Call (.Attribute o name apos) [] [] pos) (mBm T F mo mNil) := by
  refine ⟨fun W tk => (pe_bm0 pa slot hty hm (ho.run W tk) hbase hline).imp fun σ H Q h => ?_⟩
  obtain ⟨e, S, μ, E, s, p⟩ := h
  refine ⟨e, S, μ, E, s, (Post.bind p).mono fun d S1 μ1 H1 x1 s1 p1 v rv => ?_⟩
  split at p1
  · rename_i t ht
    split at p1
    · rename_i hi; exact ⟨tyV_of hT s1 rv ht hi, [d], S1, μ1, _, .cons rv .nil, s1, p1⟩
    · exact False.elim p1
  · exact False.elim p1
theorem rvs_cons {K : PySem.W.Frag} {H : Hp} {μ : List Addr} {x : V} {xs : List V} {d : D} {ds : List D} (r : RVs K H μ (x :: xs) (d :: ds)) : RV K H μ x d ∧ RVs K H μ xs ds := by
  cases r with | cons r t => exact ⟨r, t⟩
/-- a list of the store is written -/
theorem lst_wr {W : WX} {σ : St} {S S' : Store} {μ : List Addr} {H : Hp} {n : Nat} {a : Addr} {xs : List V} {ds : List D} {v : V} {d : D} {E : PX} {Q : VK} (sm : Sim nm X.K X.mg μ S H) (en : μ[n]? = some a) (nf : NF H a) (r : RVs X.K H μ xs ds) (rv : RV X.K H μ v d)
    (p : Post nm X.K X.mg μ H (.ok d (S.set n (.lst ds))) (fun d _ μ' H' => ∀ v, RV X.K H' μ' v d → Q v H') E) : Q v (upd H a (.lst xs)) := by
  have x := Ext.wrote (H := H) (u := .lst xs) (List.mem_of_getElem? en) nf
  exact p μ _ x (sm.wrote en ⟨xs, upd_same, RVs.ext x _ r⟩) v (rv.ext x)
def fnAppend : FM := fun ds S => match ds with
  | [.obj n, d] => match S[n]? with
    | some (.lst ds) => if ds.length < sizeLine then .ok .non (S.set n (.lst (ds ++ [d]))) else .stuck
    | _ => .stuck
  | _ => .stuck
theorem t_append : MtD nm X "list.append" fnAppend := by
  intro pins s σ H x xs v us Q I rx r h
  obtain ⟨ds, S, μ, E, rv, sm, p⟩ := h
  unfold fnAppend at p
  split at p
  · rename_i n d
    obtain ⟨r1, rt⟩ := rvs_cons rv
    obtain ⟨w, rfl, r2⟩ := one_rv rt
    clear rt
    split at p
    · rename_i ds hds
      split at p
      · rename_i hl
        cases r1 with | @obj a _ en =>
        obtain ⟨xs, e1, rs⟩ := sm.ob _ _ _ en hds
        exact mt_append pins s σ H _ _ v us Q I rx r ⟨a, xs, w, rfl, rfl, e1, by rw [rs.length]; exact hl, lst_wr (W := fun _ _ _ _ => False) (σ := σ) (S' := S) sm en (NF.of e1) (rs.append (.cons r2 .nil)) .non p⟩
      · exact False.elim p
    · exact False.elim p
  · exact False.elim p
def fnExtend : FM := fun ds S => match ds with
  | [.obj n, d] => match S[n]? with
    | some (.lst ds) => match d with
      | .scr _ => .stuck
      | _ => match lstOf S d with
        | some es => if ds.length + es.length ≤ sizeLine then .ok .non (S.set n (.lst (ds ++ es))) else .stuck
        | none => .stuck
    | _ => .stuck
  | _ => .stuck
theorem lstOf_at {K : PySem.W.Frag} {mg : Str → Option Value} {H : Hp} {μ : List Addr} {S : Store} {v : V} {d : D} {ds : List D} (s : Sim nm K mg μ S H) (r : RV K H μ v d) (hn : ∀ l, d ≠ .scr l) (h : lstOf S d = some ds) : ∃ a xs, v = .ref a ∧ H a = some (.lst xs) ∧ RVs K H μ xs ds := by
  unfold lstOf at h
  split at h
  · cases h; cases r with | lst t r => exact ⟨_, _, rfl, t.2, r⟩
  · exact absurd rfl (hn _)
  · split at h
    · rename_i hds
      cases h
      cases r with | obj e =>
        obtain ⟨xs, e1, r⟩ := s.ob _ _ _ e hds
        exact ⟨_, xs, rfl, e1, r⟩
    · cases h
  · cases h
theorem t_extend : MtD nm X "list.extend" fnExtend := by
  intro pins s σ H x xs v us Q I rx r h
  obtain ⟨ds, S, μ, E, rv, sm, p⟩ := h
  unfold fnExtend at p
  split at p
  · rename_i n d
    obtain ⟨r1, rt⟩ := rvs_cons rv
    obtain ⟨w, rfl, r2⟩ := one_rv rt
    clear rt
    split at p
    · rename_i ds hds
      split at p
      · exact False.elim p
      · rename_i hns
        split at p
        · rename_i es hes
          split at p
          · rename_i hl
            cases r1 with | @obj a _ en =>
            obtain ⟨xs, e1, rs⟩ := sm.ob _ _ _ en hds
            obtain ⟨b, zs, rfl, e2, rs2⟩ := lstOf_at sm r2 (fun l z => hns l z) hes
            exact mt_extend pins s σ H _ _ v us Q I rx r ⟨a, b, xs, zs, rfl, rfl, e1, e2, by rw [rs.length, rs2.length]; exact hl, lst_wr (W := fun _ _ _ _ => False) (σ := σ) (S' := S) sm en (NF.of e1) (rs.append rs2) .non p⟩
          · exact False.elim p
        · exact False.elim p
    · exact False.elim p
  · exact False.elim p
/-- xs.pop(i), d.pop(k), there -/
def fnPopL : FM := fun ds S => match ds with
  | [.obj n, .int i] => match S[n]? with
    | some (.lst ds) => match ixN ds.length i with
      | some k => match ds[k]? with
        | some d => if i < 2 ^ 62 then .ok d (S.set n (.lst (ds.eraseIdx k))) else .stuck
        | none => .stuck
      | none => .stuck
    | _ => .stuck
  | _ => .stuck
theorem t_popL : MtD nm X "list.pop" fnPopL := by
  intro pins s σ H x xs v us Q I rx r h
  obtain ⟨ds, S, μ, E, rv, sm, p⟩ := h
  unfold fnPopL at p
  split at p
  · rename_i n i
    obtain ⟨r1, rt⟩ := rvs_cons rv
    obtain ⟨w, rfl, r2⟩ := one_rv rt
    clear rt rv
    cases r2
    split at p
    · rename_i ds hds
      split at p
      · rename_i k hk
        split at p
        · rename_i d hd
          split at p
          · rename_i hl
            cases r1 with | @obj a _ en =>
            obtain ⟨xs, e1, rs⟩ := sm.ob _ _ _ en hds
            obtain ⟨y, e2, ry⟩ := rs.get hd
            obtain ⟨h1, h2, h3, h4⟩ := ixN_seq hk
            have hz : xs.length ≤ sizeLine := (I.lstM e1).1
            have := rs.length
            have h63 : (sizeLine : Int) < 2 ^ 62 := by decide
            exact mt_popAt pins s σ H _ _ v us Q I rx r ⟨a, xs, i, k, y, rfl, rfl, e1, by omega, by omega, by rw [rs.length]; exact h1, e2, lst_wr (W := fun _ _ _ _ => False) (σ := σ) (S' := S) sm en (NF.of e1) (rs.eraseIdx k) ry p⟩
          · exact False.elim p
        · exact False.elim p
      · exact False.elim p
    · exact False.elim p
  · exact False.elim p
def getX (ex : List (Nat × Nat × List (Nat × D))) (i c f : Nat) : Option D := match ex with
  | [(j, c', fs)] => if j = i ∧ c' = c then getN fs f else none
  | _ => none
def mXf (i c f : Nat) : EM := fun e S => match getX e.ex i c f with
  | some d => .ok d S
  | none => .stuck
/-- what the written part says of an exception class with fields -/
def XcOk (K : PySem.W.Frag) (mg : Str → Option Value) (nm : Nms) (c f : Nat) : Prop := f < nm.most ∧ ∃ C, mg (nm.cls c) = some (.ref C) ∧ PySem.W.findIn K (.ref C) "__getattribute__" = some (some (.builtin "BaseException.__getattribute__")) ∧ PySem.W.findIn K (.ref C) "__getattr__" = some none ∧
  PySem.W.subIn K (.ref C) (.type "BaseException") = some true ∧ PySem.W.findIn K (.ref C) (nm.fld f) = some none ∧ PySem.W.hasDictIn K C = true
theorem me_xf (i c f : Nat) {n fx : Str} {p : Pos} {is : List Nat} (h : XcOk X.K X.mg nm c f) (hv : visAll is X.N X.env.scope = true) (hf : nm.fld f = fx) (hN : X.N[i]? = some n := by rfl) (hi : is.contains i = true := by rfl) (hb : attributeBase (.Name n p) fx X.env (eval (.Name n p) X.env) = eval (.Name n p) X.env := by rfl) : ME nm X (.Attribute (.Name n p) fx pos) (mXf i c f) := by
  subst hf
  obtain ⟨hv, hd, hcd⟩ := vis_of hv hi hN
  obtain ⟨hl, C, h1, h2, h3, h4, h5, h6⟩ := h
  refine ⟨fun W tk => ⟨fun pins s σ H Q I hh => ?_⟩⟩
  obtain ⟨e, S, μ, E, sm, q⟩ := hh
  unfold mXf at q
  split at q
  · rename_i d hd'
    unfold getX at hd'
    split at hd'
    · rename_i j c' fs hex
      split at hd'
      · rename_i hc
        obtain ⟨a, oe, C', dd, g1, g2, ⟨g3, vs, g4⟩, g5⟩ := E.ex (j, c', fs) (by rw [hex]; exact List.mem_cons_self)
        obtain ⟨rfl, rfl⟩ := hc
        obtain ⟨k1, k2⟩ := g5
        rw [h1] at k1
        cases k1
        cases dd with
        | none =>
          have k2 : fs = [] := k2
          subst k2
          cases hd'
        | some dx =>
          obtain ⟨gs, n1, n2, n3, _⟩ := k2
          rcases rf_get f hl n3 with ⟨_, z⟩ | ⟨w, d2, z1, z2, z3⟩
          · rw [z] at hd'; cases hd'
          · rw [z2] at hd'; cases hd'
            refine attr_of hb (thn ((pe_var hN hv hd hcd).run pins s σ H (fun x H1 => x = .ref a ∧ H1 = H) I ⟨_, g1, rfl, rfl⟩) fun u s1 hh => ?_)
            obtain ⟨x, H1, I1, rx, rfl, rfl⟩ := hh
            obtain rfl : u = Value.ref a := rx
            obtain ⟨ha, _⟩ := I1.pin (a, oe) (List.mem_append_left _ g2)
            have hx : ObjOk X.prog X.w H1 s1.heap dx (.xd gs) := I1.hok dx _ n2
            obtain ⟨mA, hns, hr⟩ := hx
            obtain ⟨od, ho, hlk⟩ := lookIn_ns hns
            obtain ⟨u, hu, ru⟩ := RelO.some_of (v := w) (o := mA (nm.fld f)) (by rw [← z1]; exact hr (nm.fld f))
            have J : PySem.W.InstAt s1.heap a oe C (some od) := ⟨ha, g3.1, by unfold PySem.W.notCls; rw [g4] <;> rfl, by rw [g3.2]; exact ho⟩
            exact HandSPX.exc_get I1.kIn J h2 h3 h4 (PySem.W.findObj_own h6 h5 rfl (by rw [hlk, hu])) (handed_of ru) ⟨w, H1, I1.tok _, ru, q μ H1 .refl sm w z3⟩
      · cases hd'
    · cases hd'
  · exact False.elim q
def spX2 (K : PySem.W.Frag) (f1 f2 : Str) : Sp := fun vs H Q _ => ∃ (a C : Addr) (y1 y2 : V), vs = [.ref a, y1, y2] ∧ OexC K C ∧ PySem.W.findIn K (.ref C) f1 = some none ∧ PySem.W.findIn K (.ref C) f2 = some none ∧ H a = some (exo a C none) ∧
  ∀ dx, H dx = none → dx ≠ a → Q .non (upd (upd (upd H dx (exd dx [(f1, y1)])) a (exo a C (some dx))) dx (exd dx [(f2, y2), (f1, y1)]))
theorem exc2_den {P : Program} {w : World} {K : PySem.W.Frag} {mg : Str → Option Value} {base : Heap} {x qual : Str} {st : Stmt} {f : Addr} {fd : FuncData} {n0 n1 n2 f1 f2 : Str} {k : Nat} (F : Fun K x qual st f fd) (S : FnScope [n0, n1, n2] [n0, n1, n2] (defScope st))
    (hb : ∀ (cdv : Value) (A : Around) (outer : List Env) (s : Shared) (H : Hp) (E : XK), PSs (cxOf (L2.CX P w) P w K mg base [n0, n1, n2] qual (defScope st) f cdv A outer s H E) (defBody st) (tSeq (tOst K f1 (tVar 0) (tVar 1)) (tOst K f2 (tVar 0) (tVar 2)))) :
    FnOk P w K mg base (L2.CX P w) (k + 1) f fd [n0, n1, n2] (spX2 K f1 f2) := by
  refine F.okX S (fun vs H Q E h => ?_) fun cdv A outer s H vs Q E hr h => ?_
  · obtain ⟨a, C, y1, y2, rfl, _⟩ := h; rfl
  · obtain ⟨a, C, y1, y2, rfl, T, g1, g2, ea, q⟩ := h
    refine ⟨_, hb cdv A outer s H E, ?_⟩
    refine ⟨y1, rfl, .ref a, rfl, a, C, rfl, T, g1, .inl ⟨ea, fun dx nd ne => ?_⟩⟩
    refine ⟨y2, rfl, .ref a, rfl, a, C, rfl, T, g2, .inr ⟨dx, [(f1, y1)], upd_same, ?_, by simp, q dx nd ne⟩⟩
    rw [upd_ne ne, upd_same]
def Exc2Ok (P : Program) (w : World) (K : PySem.W.Frag) (mg : Str → Option Value) (base : Heap) (nm : Nms) (k c f1 f2 : Nat) : Prop := ∃ C fI fd ps, mg (nm.cls c) = some (.ref C) ∧ OexC K C ∧ PySem.W.findIn K (.ref C) "__init__" = some (some (.ref fI)) ∧
  PySem.W.typeIn K (.ref fI) = some (.type "function") ∧ ps.length = 3 ∧ Binds K fd ps [] ∧ FnOk P w K mg base (L2.CX P w) k fI fd ps (spX2 K (nm.fld f1) (nm.fld f2)) ∧ PySem.W.findIn K (.ref C) (nm.fld f1) = some none ∧ PySem.W.findIn K (.ref C) (nm.fld f2) = some none ∧ f1 < nm.most ∧ f2 < nm.most
def mRaise2 (c f1 f2 : Nat) (as : AM) : SM := fun e S => (as e S).toS e fun ds S => match ds with
  | [x, y] => .exc c [(f2, y), (f1, x)] e S
  | _ => .stuck
theorem ms_raise2 {k c f1 f2 : Nat} {x : Str} {p pos' : Pos} {a b : Expr} (h : Exc2Ok X.prog X.w X.K X.mg X.base nm k c f1 f2) (hr : Room (k + 1) X.A) (hc : X.calm = true) (hg : GlN X x) (ha : MA nm X [a, b] ma) (hx : nm.cls c = x)
    (he : starEach (a :: [b]) X.env = (false, eval a X.env) :: starEach [b] X.env := by rfl) (hpl : (backTo pos' (starEach [b] X.env)).any (·.1) = false := by rfl) : MS nm X (.Raise (some (.Call (.Name x p) [a, b] [] pos')) none pos) (mRaise2 c f1 f2 ma) := by
  subst hx
  obtain ⟨C, fI, fd, ps, h1, h2, h3, h4, hps, h5, h6, h7, h8, h9, h10⟩ := h
  exact ⟨fun W tk => (ps_raise hc tk (pmk_oex h2 h3 h4 h6 hr h5 .nil passL hg.g h1 (ha.run W tk) hg.d he hpl)).imp fun D σ H hh => by
    obtain ⟨e, S, μ, E, s, p⟩ := hh
    refine ⟨e, S, μ, E, s, (post_len ha (PostS.toS E p)).mono fun ds S1 μ1 H1 x1 s1 p1 vs rvs => ?_⟩
    obtain ⟨hl, p1⟩ := p1
    split at p1
    · rename_i d1 d2
      obtain ⟨v1, v2, rfl, r1, r2⟩ := two_rv rvs
      refine ⟨by simp, fun a na => ⟨a, C, v1, v2, rfl, h2, h7, h8, upd_same, fun dx nd ne => ⟨rfl, dx, _, ?_, upd_same, ?_, ?_⟩⟩⟩
      · rw [upd_ne ne.symm, upd_same]
      · rw [upd_ne ne] at nd; exact nd
      · have nd1 : H1 dx = none := by rw [upd_ne ne] at nd; exact nd
        have hE : ∀ b, b ≠ a → b ≠ dx → upd (del (upd (upd (upd (upd H1 a (exo a C none)) dx (exd dx [(nm.fld f1, v1)])) a (exo a C (some dx))) dx (exd dx [(nm.fld f2, v2), (nm.fld f1, v1)])) a) dx (.xd [(nm.fld f2, v2), (nm.fld f1, v1)]) b = H1 b := fun b hb1 hb2 => by
          rw [upd_ne hb2, del_ne hb1, upd_ne hb2, upd_ne hb1, upd_ne hb2, upd_ne hb1]
        have x : Ext μ1 H1 μ1 (upd (del (upd (upd (upd (upd H1 a (exo a C none)) dx (exd dx [(nm.fld f1, v1)])) a (exo a C (some dx))) dx (exd dx [(nm.fld f2, v2), (nm.fld f1, v1)])) a) dx (.xd [(nm.fld f2, v2), (nm.fld f1, v1)])) :=
          ⟨⟨⟨[], by simp⟩, fun b q n => absurd q n, fun b o n hb => by rw [hE b (ne_of_none hb na) (ne_of_none hb nd1)]; exact hb⟩, fun b o u hb => by rw [hE b (ne_of_none hb na) (ne_of_none hb nd1)]; exact hb⟩
        have s2 := s1.keep x fun b hb => by
          obtain ⟨u, e1⟩ := s1.there hb
          exact hE b (ne_of_none e1 na) (ne_of_none e1 nd1)
        exact p1 σ μ1 _ C (some dx) x s2 ((E.ext x1).ext x) ⟨h1, _, s1.fresh nd1, upd_same, .cons ⟨rfl, h10, r2.ext x⟩ (.cons ⟨rfl, h9, r1.ext x⟩ .nil), by simp⟩
    · exact False.elim p1⟩
end
end BS
namespace BS
open PySem PySem.Spec PyProof.Rows L2
/-- the law's own promise -/
def spLaw (K : PySem.W.Frag) : Sp := fun vs H Q _ => ∃ (a : Addr) (ns : List Int), vs = [.ref a] ∧ SqL K H a (ns.map V.int) ∧ ns.length ≤ 63 ∧ ∀ H', Q (.bl true) H'
theorem law_end {P : Program} {w : World} {K : PySem.W.Frag} {mg : Str → Option Value} {base : Heap} {nm : Nms} {k : Nat} {fa : Addr} {fd : FuncData} {x : Str} {F : FM} (h : FnOk P w K mg base (L2.CX P w) k fa fd [x] (spD nm K mg 1 F))
    (hF : ∀ ns : List Int, ns.length ≤ 63 → ∃ S, F [.scr (ns.map .int)] [] = .ok (.bl true) S) : FnOk P w K mg base (L2.CX P w) k fa fd [x] (spLaw K) := by
  refine h.imp fun vs H Q E hh => ?_
  obtain ⟨a, ns, rfl, hs, hl, q⟩ := hh
  obtain ⟨S, e⟩ := hF ns hl
  refine ⟨[.scr (ns.map .int)], [], [], .cons (.scr ?_ (rvs_ints ns)) .nil, rfl, ⟨rfl, List.nodup_nil, fun n a o h => by simp at h⟩, ?_⟩
  · rcases hs with hs | hs
    · exact .inl ⟨by simp, hs⟩
    · exact .inr hs
  · rw [e]
    intro μ' H' x s v r
    cases r
    exact q H'
theorem walk {l : PySem.W.OpenLaw} {q : Program} {loose : List Str} {XP : (Str → Option Value) → Heap → Prop} {YP : World → Heap → Prop} {d : DefRec} {K : Params → PySem.W.Frag} {k : Nat} {x : Str} (hn : l.most = some 63) (hdf : d.params.defaults = []) (hr : Room k callerA)
    (hY : ∀ (w : World) (h : Heap), YP w h → (K w.params).In h)
    (F : ∀ (w : World) (mg : Str → Option Value) (fa : Addr) (h : Heap), (K w.params).In h → h.Ns mainGlobals mg → mg d.name = some (.ref fa) →
      ∃ fd : FuncData, (∀ (s : Shared) (u : Value), BindsTo s fd ⟨[u], []⟩ [(x, u)]) ∧ ∀ base : Heap, (K w.params).In base → base.Ns mainGlobals mg → FnOk l.prog w (K w.params) mg base (L2.CX l.prog w) k fa fd [x] (spLaw (K w.params))) :
    PySem.W.WalkO q loose XP YP l.row.toRowW d [] (fun f vs => PySem.call f vs) :=
  L2.walk_of (n := 63) (k := k) (x := x) (CX := fun w => L2.CX l.prog w) (sp := fun w => spLaw (K w.params)) hn (by decide) hdf hr hY F (fun _ _ a ns hl _ hS => ⟨a, ns, rfl, hS, hl, fun _ => rfl⟩) fun _ _ _ _ _ z => by
    obtain ⟨_, _, _, _, _, _, _, _, _, _, _, _, z⟩ := z
    exact z.elim
section
variable {P : Program} {w : World} {K : PySem.W.Frag} {mg : Str → Option Value} {base : Heap} {nm : Nms} {h : Heap}
theorem gc_int {x : Str} {i : Int} {t : Tok} (X : K.In h) (G : h.Ns mainGlobals mg) (a : PySem.W.nsIn K mainGlobals x = some (some (.int i t))) : GC K mg x (.int i) := ⟨_, .int i, PySem.W.mg_of X G a, ⟨t, rfl⟩, fun _ _ => .int i⟩
theorem gc_str {x z : Str} {t : Tok} (X : K.In h) (G : h.Ns mainGlobals mg) (a : PySem.W.nsIn K mainGlobals x = some (some (.str z t))) : GC K mg x (.str z) := ⟨_, .str z, PySem.W.mg_of X G a, ⟨t, rfl⟩, fun _ _ => .str z⟩
theorem uniq {c : Nat} {x : Str} {C C' : Addr} (hx : nm.cls c = x) (g : mg x = some (.ref C)) (g' : mg (nm.cls c) = some (.ref C')) : C' = C := by
  rw [hx, g] at g'; cases g'; rfl
theorem fld_one {c f : Nat} {x fx : Str} {C : Addr} (hl : f < nm.most) (hx : nm.cls c = x) (hf : nm.fld f = fx) (g : mg x = some (.ref C)) (k : Cls K C) (n : PySem.W.findIn K (.ref C) fx = some none) : FldOk K mg nm [c] f := by
  subst hf
  refine ⟨hl, fun c' hc C' g' => ?_⟩
  rcases List.mem_singleton.mp hc with rfl
  rw [uniq hx g g']
  exact ⟨k, n⟩
theorem fld_cons {c f : Nat} {cs : List Nat} (h1 : FldOk K mg nm [c] f) (h2 : FldOk K mg nm cs f) : FldOk K mg nm (c :: cs) f := by
  refine ⟨h1.1, fun c' hc C' g' => ?_⟩
  rcases List.mem_cons.mp hc with rfl | hc
  · exact h1.2 _ (List.mem_singleton.mpr rfl) C' g'
  · exact h2.2 _ hc C' g'
theorem catch_of {x : Str} {cv : Value} {yes no : List Nat} (g : mg x = some cv) (hy : ∀ c ∈ yes, ∀ C, mg (nm.cls c) = some (.ref C) → PySem.W.exmOne K (.ref C) cv = some true) (hn : ∀ c ∈ no, ∀ C, mg (nm.cls c) = some (.ref C) → PySem.W.exmOne K (.ref C) cv = some false) : Catch K mg nm x yes no := ⟨⟨cv, g, hy, hn⟩⟩
theorem catch_cons {cv : Value} {b : Bool} {c : Nat} {cs : List Nat} {x : Str} {C : Addr} (hx : nm.cls c = x) (g : mg x = some (.ref C)) (e : PySem.W.exmOne K (.ref C) cv = some b) (h : ∀ c ∈ cs, ∀ C, mg (nm.cls c) = some (.ref C) → PySem.W.exmOne K (.ref C) cv = some b) :
    ∀ c' ∈ c :: cs, ∀ C, mg (nm.cls c') = some (.ref C) → PySem.W.exmOne K (.ref C) cv = some b := by
  intro c' hc C' g'
  rcases List.mem_cons.mp hc with rfl | hc
  · rw [uniq hx g g']; exact e
  · exact h c' hc C' g'
theorem catch_nil {cv : Value} {b : Bool} : ∀ c' ∈ ([] : List Nat), ∀ C, mg (nm.cls c') = some (.ref C) → PySem.W.exmOne K (.ref C) cv = some b := fun _ h => by cases h
/-- no field is called m -/
def noFld (nm : Nms) (m : Str) : Bool := (List.range nm.most).all fun i => !decide (nm.fld i = m)
theorem noFld_of {m : Str} (h : noFld nm m = true) : ∀ i, i < nm.most → nm.fld i ≠ m := fun i hi => by
  have := List.all_eq_true.mp h i (List.mem_range.mpr hi)
  simpa using this
end
end BS
namespace BS
open PySem PySem.Spec PyProof.Rows L2
theorem exm_of {K : PySem.W.Frag} {S C : Addr} {b : Bool} (h1 : PySem.W.subIn K (.ref C) (.type "BaseException") = some true) (h2 : PySem.W.isClsIn K C = true) (h3 : PySem.W.typeIn K (.ref C) = some (.type "type")) (h4 : PySem.W.subIn K (.ref S) (.ref C) = some b) :
    PySem.W.exmOne K (.ref S) (.ref C) = some b := by
  have e1 : (PySem.W.subIn K (.ref C) (.type "BaseException") == some true) = true := by rw [h1] <;> rfl
  have e2 : ((PySem.W.clsIn K C).isSome && PySem.W.typeIn K (.ref C) == some (.type "type")) = true := by
    have h2' : (PySem.W.clsIn K C).isSome = true := h2
    rw [h2', h3] <;> rfl
  show (if (PySem.W.subIn K (.ref C) (.type "BaseException") == some true) = true then (if ((PySem.W.clsIn K C).isSome && PySem.W.typeIn K (.ref C) == some (.type "type")) = true then PySem.W.subIn K (.ref S) (.ref C) else none) else none) = some b
  rw [if_pos e1, if_pos e2]
  exact h4
theorem refs_own {c : Addr} {r : List Value} (h : PySem.HandSPX.refsVE r = true) : PySem.HandSPX.refsVE (.ref c :: r) = true := h
theorem refs_end : PySem.HandSPX.refsVE [.type "ValueError", .type "Exception", .type "BaseException", .type "object"] = true := by decide +kernel
section
variable {P : Program} {w : World} {K : PySem.W.Frag} {mg : Str → Option Value} {base : Heap} {nm : Nms}
theorem meth_mk {k c n : Nat} {m cx : Str} {F : FM} {C f : Addr} {fd : FuncData} {ps : List Str} (hx : nm.cls c = cx) (g : mg cx = some (.ref C)) (kc : Cls K C) (a : PySem.W.findIn K (.ref C) m = some (some (.ref f))) (i : PySem.W.isFn K (.ref f) = true) (kp : PySem.W.keepIn K (.ref f) = true)
    (hps : ps.length = n) (b : Binds K fd ps []) (o : FnOk P w K mg base (L2.CX P w) k f fd ps (spD nm K mg n F)) (nf : noFld nm m = true) : MethOk P w K mg base nm k c m n F :=
  ⟨C, f, fd, ps, by rw [hx]; exact g, kc, ⟨a, i, kp⟩, hps, b, o, noFld_of nf⟩
theorem make_mk {k c n : Nat} {cx : Str} {F : FM} {C f : Addr} {fd : FuncData} {ps : List Str} (hx : nm.cls c = cx) (g : mg cx = some (.ref C)) (mk : PySem.W.makesIn K C = true) (a : PySem.W.findIn K (.ref C) "__init__" = some (some (.ref f))) (i : PySem.W.isFn K (.ref f) = true) (kp : PySem.W.keepIn K (.ref C) = true)
    (hps : ps.length = n + 1) (b : Binds K fd ps []) (o : FnOk P w K mg base (L2.CX P w) k f fd ps (spD nm K mg (n + 1) F)) : MakeOk P w K mg base nm k c n F :=
  ⟨C, f, fd, ps, by rw [hx]; exact g, ⟨mk, a, i, kp⟩, hps, b, o⟩
theorem def_mk {k n : Nat} {x : Str} {F : FM} {f : Addr} {fd : FuncData} {ps : List Str} (g : mg x = some (.ref f)) (kp : PySem.W.keepIn K (.ref f) = true) (hps : ps.length = n) (b : Binds K fd ps []) (o : FnOk P w K mg base (L2.CX P w) k f fd ps (spD nm K mg n F)) : DefOk P w K mg base nm k x n F :=
  ⟨f, fd, ps, g, kp, hps, b, o⟩
/-- nothing is said of a def whose value is stuck -/
theorem fnok_stuck {k n : Nat} {f : Addr} {fd : FuncData} {ps : List Str} (hps : ps.length = n) : FnOk P w K mg base (L2.CX P w) k f fd ps (spD nm K mg n fun _ _ => .stuck) :=
  ⟨fun vs H Q E h => by obtain ⟨ds, S, μ, r, hl, _⟩ := h; rw [r.length, hl, hps], fun A outer s H args us vs Q E _ _ _ _ h => by obtain ⟨_, _, _, _, _, _, p⟩ := h; exact False.elim p⟩
theorem exc2_mk {k c f1 f2 : Nat} {cx x1 x2 : Str} {C fI : Addr} {fd : FuncData} {ps : List Str} (hx : nm.cls c = cx) (g : mg cx = some (.ref C)) (T : OexC K C) (a : PySem.W.findIn K (.ref C) "__init__" = some (some (.ref fI))) (t : PySem.W.typeIn K (.ref fI) = some (.type "function"))
    (hps : ps.length = 3) (b : Binds K fd ps []) (o : FnOk P w K mg base (L2.CX P w) k fI fd ps (spX2 K (nm.fld f1) (nm.fld f2))) (h1 : nm.fld f1 = x1) (h2 : nm.fld f2 = x2) (n1 : PySem.W.findIn K (.ref C) x1 = some none) (n2 : PySem.W.findIn K (.ref C) x2 = some none) (l1 : f1 < nm.most) (l2 : f2 < nm.most) : Exc2Ok P w K mg base nm k c f1 f2 :=
  ⟨C, fI, fd, ps, by rw [hx]; exact g, T, a, t, hps, b, o, by rw [h1]; exact n1, by rw [h2]; exact n2, l1, l2⟩
theorem xc_mk {c f : Nat} {cx x1 : Str} {C : Addr} (hx : nm.cls c = cx) (g : mg cx = some (.ref C)) (ga : PySem.W.findIn K (.ref C) "__getattribute__" = some (some (.builtin "BaseException.__getattribute__"))) (gg : PySem.W.findIn K (.ref C) "__getattr__" = some none) (eC : PySem.W.subIn K (.ref C) (.type "BaseException") = some true) (h1 : nm.fld f = x1)
    (n1 : PySem.W.findIn K (.ref C) x1 = some none) (hd : PySem.W.hasDictIn K C = true) (l : f < nm.most) : XcOk K mg nm c f :=
  ⟨l, C, by rw [hx]; exact g, ga, gg, eC, by rw [h1]; exact n1, hd⟩
end
end BS
namespace BS
open PySem PySem.Spec PyProof.Rows L2
section
variable {nm : Nms} {X : Cx} {tg : Expr} {e : Expr} {me : EM} {pos : Pos}
def iAll (K : PySem.W.Frag) (tl : TE) : TI := fun σ H R => tl σ H fun x H1 => (∃ y, x = .str y ∧ R (Its y) H1) ∨ (∃ a, x = .ref a ∧ (∃ xs, SqL K H1 a xs) ∧ R (Itl K a) H1) ∨ ∃ a, x = .ref a ∧ (∃ xs, SqT K H1 a xs) ∧ R (Itt K a) H1
theorem pi_all {l : Expr} {tl : TE} (hl : PE X l tl) : PI X tg l (iAll X.K tl) := by
  refine ⟨fun pins s σ H R I h => ?_⟩
  refine thn (hl.run pins s σ H _ I h) fun v s1 ⟨x, H1, I1, r1, q1⟩ => ?_
  rcases q1 with ⟨y, ex, q⟩ | ⟨a, ex, ⟨xs, hq⟩, q⟩ | ⟨a, ex, ⟨xs, hq⟩, q⟩
  · subst ex
    obtain ⟨t, rfl⟩ := r1
    cases ha : y.cps.all (· < 128)
    · exact wpAny_pyIter_wide ha (pi_one (tk := s1.toks) I1 _ (turn_str _ y t "str_iterator" (.inr rfl)) ⟨_, Heap.get?_push_size _ rfl, rfl, rfl⟩ q)
    · exact wpAny_pyIter_ascii ha (pi_one (tk := s1.toks) I1 _ (turn_str _ y t "str_ascii_iterator" (.inl rfl)) ⟨_, Heap.get?_push_size _ rfl, rfl, rfl⟩ q)
  · subst ex
    cases r1
    obtain ⟨its, rv, p, hz⟩ := I1.list hq
    refine wpAny_pyIter_list p.isList ?_
    refine ⟨s1.heap.objs.size, [s1.heap.objs.size], _, _, H1, rfl, I1.kept (t' := s1.toks) fun b o e => Heap.get?_push_of_some _ e, turn_list a _, ⟨_, Heap.get?_push_size _ rfl, rfl, rfl⟩, fun b hb => ?_, q⟩
    have e : b = s1.heap.objs.size := by simpa using hb
    subst e
    exact I1.fpOk (Nat.le_refl _) (I1.hok.fresh (Nat.le_refl _))
  · subst ex
    cases r1
    obtain ⟨its, rv, p, hz⟩ := I1.tuple hq
    refine wpAny_pyIter_tuple (show s1.heap.IsTuple a its.toArray from p) ?_
    refine ⟨s1.heap.objs.size, [s1.heap.objs.size], _, _, H1, rfl, I1.kept (t' := s1.toks) fun b o e => Heap.get?_push_of_some _ e, turn_tuple a _, ⟨_, Heap.get?_push_size _ rfl, rfl, rfl⟩, fun b hb => ?_, q⟩
    have e : b = s1.heap.objs.size := by simpa using hb
    subst e
    exact I1.fpOk (Nat.le_refl _) (I1.hok.fresh (Nat.le_refl _))
theorem signs_get (x : Str) (i : Nat) : (signs x)[i]? = x.cps[i]?.map strAt := by
  simp [signs]
theorem wok_str {x : Str} {w : Wk} {C : Hp → List Addr → Prop} (hd : w.ds = signs x) : WOk nm X (Its x) w C := by
  intro i S μ H s c g
  rw [hd]
  refine ⟨fun d e => ?_, fun h => by simpa [signs, Its] using h⟩
  rw [signs_get] at e
  obtain ⟨k, hk, rfl⟩ := Option.map_eq_some_iff.mp e
  refine ⟨(Array.getElem?_eq_some_iff.mp hk).1, fun y H' q => ?_⟩
  obtain ⟨rfl, k', hk', rfl⟩ := q
  rw [hk] at hk'; cases hk'
  exact ⟨.refl, s, .str _⟩
def wkA (S : Store) (x : D) : R Wk := match x with
  | .str y => .ok ⟨signs y, fun _ => True⟩ S
  | .tup ds => .ok ⟨ds, fun _ => True⟩ S
  | .lst ds => .ok ⟨ds, fun _ => True⟩ S
  | .scr ds => .ok ⟨ds, fun _ => True⟩ S
  | .obj n => match S[n]? with
    | some (.lst ds) => .ok ⟨ds, fun S => S[n]? = some (.lst ds)⟩ S
    | _ => .stuck
  | _ => .stuck
def iAny (m : EM) : IM := fun e S => (m e S).bind fun x S => wkA S x
theorem mi_any (h : ME nm X e me) : MI nm X tg e (iAny me) := by
  refine ⟨fun W tk => (pi_all (h.run W tk)).imp fun σ H R hh => ?_⟩
  obtain ⟨ev, S, μ, E, s, p⟩ := hh
  refine ⟨ev, S, μ, E, s, (Post.bind p).mono fun d S1 μ1 H1 x1 s1 p1 v rv => ?_⟩
  unfold wkA at p1
  split at p1
  · rename_i y
    cases rv
    exact .inl ⟨y, rfl, p1 μ1 H1 .refl s1 (Its y) (fun _ _ => True) (fun _ _ _ _ _ _ => trivial) trivial (wok_str rfl)⟩
  · rename_i ds
    cases rv with | @tup a xs _ t r =>
    exact .inr (.inr ⟨a, rfl, ⟨xs, t.sq⟩, p1 μ1 H1 .refl s1 (Itt X.K a) (fun H μ => TupAt X.K H μ a xs ∧ RVs X.K H μ xs ds) (fun μ H μ' H' x c => ⟨c.1.ext x, RVs.ext x _ c.2⟩) ⟨t, r⟩ (wok_tup (xs := xs) rfl fun S μ H s c g => ⟨xs, c.1.sq, c.2⟩)⟩)
  · rename_i ds
    cases rv with | @lst a xs _ t r =>
    exact .inr (.inl ⟨a, rfl, ⟨xs, .of t.2⟩, p1 μ1 H1 .refl s1 (Itl X.K a) (fun H μ => LstAt H μ a xs ∧ RVs X.K H μ xs ds) (fun μ H μ' H' x c => ⟨c.1.ext x, RVs.ext x _ c.2⟩) ⟨t, r⟩ (wok_list (xs := xs) rfl fun S μ H s c g => ⟨xs, .of c.1.2, c.2⟩)⟩)
  · rename_i ds
    cases rv with | @scr a xs _ t r =>
    exact .inr (.inl ⟨a, rfl, ⟨xs, t.sq⟩, p1 μ1 H1 .refl s1 (Itl X.K a) (fun H μ => ScrAt X.K H μ a xs ∧ RVs X.K H μ xs ds) (fun μ H μ' H' x c => ⟨c.1.ext x, RVs.ext x _ c.2⟩) ⟨t, r⟩ (wok_list (xs := xs) rfl fun S μ H s c g => ⟨xs, c.1.sq, c.2⟩)⟩)
  · rename_i n
    split at p1
    · rename_i ds hds
      cases rv with | @obj a _ en =>
      obtain ⟨xs, e1, r⟩ := s1.ob _ _ _ en hds
      exact .inr (.inl ⟨a, rfl, ⟨xs, .of e1⟩, p1 μ1 H1 .refl s1 (Itl X.K a) (fun H μ => μ[n]? = some a) (fun μ H μ' H' x c => x.at c) en (wok_list (xs := xs) rfl fun S μ H s c g => by
        obtain ⟨xs, e1, r⟩ := s.ob _ _ _ c g
        exact ⟨xs, .of e1, r⟩)⟩)
    · exact False.elim p1
  · exact False.elim p1
end
def txt (v : Value) : Str := match v with
  | .str x _ => x
  | _ => Str.empty
section
variable {prog : Program} {w : World} {A : Around} {E : Value → Shared → Prop} {s : Shared}
theorem two_at {a b : Str} {t u : Tok} {i : Nat} {v : Value} (h : (#[Value.str a t, Value.str b u] : Array Value)[i]? = some v) : ∃ r, v = .str (txt ((#[Value.str a t, Value.str b u] : Array Value).getD i .none)) r := by
  match i, h with
  | 0, h => simp at h; subst h; exact ⟨_, rfl⟩
  | 1, h => simp at h; subst h; exact ⟨_, rfl⟩
  | n + 2, h => simp at h
theorem lt_strR {x y : Str} {t u : Tok} {Q : Value → Shared → Prop} (h : Q (.bool (ltS x y)) s) : wpAny (model prog w) A (richCompare .Lt (.str x t) (.str y u)) Q E s :=
  richCompare_gives (op := .Lt) (typeIs_str s x t) (typeIs_str s y u) F.slot_str_lt F.entry_str_lt (F.args_str_lt_2 _ _) (gives_str_lt x y t u) (fun e => nomatch e) h
theorem gt_strR {x y : Str} {t u : Tok} {Q : Value → Shared → Prop} (h : Q (.bool (ltS y x)) s) : wpAny (model prog w) A (richCompare .Gt (.str x t) (.str y u)) Q E s :=
  richCompare_gives (op := .Gt) (typeIs_str s x t) (typeIs_str s y u) F.slot_str_gt F.entry_str_gt (F.args_str_gt_2 _ _) (gives_str_gt x y t u) (fun e => nomatch e) h
theorem cmp_ltS (a b : Str) (t u : Tok) : CmpOf prog w A .Lt (fun i v => (#[Value.str a t, Value.str b u] : Array Value)[i]? = some v) (fun i j => ltS (txt ((#[Value.str a t, Value.str b u] : Array Value).getD i .none)) (txt ((#[Value.str a t, Value.str b u] : Array Value).getD j .none))) := fun i j vi vj s Q E hi hj h => by
  obtain ⟨t1, e1⟩ := two_at hi
  obtain ⟨t2, e2⟩ := two_at hj
  rw [e1, e2]
  exact lt_strR h
theorem cmp_gtS (a b : Str) (t u : Tok) : CmpOf prog w A .Gt (fun i v => (#[Value.str a t, Value.str b u] : Array Value)[i]? = some v) (fun i j => ltS (txt ((#[Value.str a t, Value.str b u] : Array Value).getD j .none)) (txt ((#[Value.str a t, Value.str b u] : Array Value).getD i .none))) := fun i j vi vj s Q E hi hj h => by
  obtain ⟨t1, e1⟩ := two_at hi
  obtain ⟨t2, e2⟩ := two_at hj
  rw [e1, e2]
  exact gt_strR h
theorem max_two_str {a b : Str} {t u : Tok} {Q : Value → Shared → Prop} (hh : A.handled = none)
    (h : ∀ h' tk, (∀ c o, s.heap.get? c = some o → h'.get? c = some o) → Q (if ltS a b = true then .str b u else .str a t) { s with heap := h', toks := tk }) :
    wpAny (model prog w) A (call (.builtin "max") [.str a t, .str b u]) Q E s := by
  have hT : (s.heap.push { cls := .type "tuple", data := .seq #[.str a t, .str b u] }).IsTuple s.heap.objs.size #[.str a t, .str b u] := ⟨_, Heap.get?_push_size _ rfl, rfl, 0, rfl⟩
  refine call_max_two (wpAny_pyIter_tuple hT ?_)
  have hsz : (s.heap.push { cls := .type "tuple", data := .seq #[.str a t, .str b u] }).objs.size = s.heap.objs.size + 1 := Heap.size_push ..
  refine ⟨_, [_, s.heap.objs.size], [_], _, _, _, _, rfl, Walks.tuple (A := A.in1) hh _ s.heap.objs.size (by rw [hsz]; exact Nat.ne_of_lt (Nat.lt_succ_self _)) #[.str a t, .str b u],
    ⟨⟨_, Heap.get?_push_size _ rfl, rfl, rfl⟩, hT.push _⟩, fun c hc => ?_, by simp, cmp_gtS a b t u, fun v h' tk hP hk => ?_⟩
  · show c < ((s.heap.push _).push _).objs.size
    rw [Heap.size_push, hsz]
    rcases List.mem_cons.mp hc with rfl | hc
    · rw [hsz]; exact Nat.lt_succ_self _
    · rcases List.mem_cons.mp hc with rfl | hc
      · exact Nat.lt_succ_of_lt (Nat.lt_succ_self _)
      · cases hc
  · have hold : ∀ c o, s.heap.get? c = some o → h'.get? c = some o := fun c o e => by
      refine hk c o (fun hm => ?_) (Heap.get?_push_of_some _ (Heap.get?_push_of_some _ e))
      rcases List.mem_cons.mp hm with e1 | hm
      · have := Heap.lt_size e; rw [e1, hsz] at this; exact Nat.lt_irrefl _ (Nat.lt_of_succ_lt this)
      · cases hm
    have := h h' tk hold
    have hv : v = if ltS a b = true then .str b u else .str a t := by
      cases hc : ltS a b <;> simp [argBest, txt, hc] at hP <;> simp [hP]
    rw [hv]; exact this
theorem min_two_str {a b : Str} {t u : Tok} {Q : Value → Shared → Prop} (hh : A.handled = none)
    (h : ∀ h' tk, (∀ c o, s.heap.get? c = some o → h'.get? c = some o) → Q (if ltS b a = true then .str b u else .str a t) { s with heap := h', toks := tk }) :
    wpAny (model prog w) A (call (.builtin "min") [.str a t, .str b u]) Q E s := by
  have hT : (s.heap.push { cls := .type "tuple", data := .seq #[.str a t, .str b u] }).IsTuple s.heap.objs.size #[.str a t, .str b u] := ⟨_, Heap.get?_push_size _ rfl, rfl, 0, rfl⟩
  refine call_min_two (wpAny_pyIter_tuple hT ?_)
  have hsz : (s.heap.push { cls := .type "tuple", data := .seq #[.str a t, .str b u] }).objs.size = s.heap.objs.size + 1 := Heap.size_push ..
  refine ⟨_, [_, s.heap.objs.size], [_], _, _, _, _, rfl, Walks.tuple (A := A.in1) hh _ s.heap.objs.size (by rw [hsz]; exact Nat.ne_of_lt (Nat.lt_succ_self _)) #[.str a t, .str b u],
    ⟨⟨_, Heap.get?_push_size _ rfl, rfl, rfl⟩, hT.push _⟩, fun c hc => ?_, by simp, cmp_ltS a b t u, fun v h' tk hP hk => ?_⟩
  · show c < ((s.heap.push _).push _).objs.size
    rw [Heap.size_push, hsz]
    rcases List.mem_cons.mp hc with rfl | hc
    · rw [hsz]; exact Nat.lt_succ_self _
    · rcases List.mem_cons.mp hc with rfl | hc
      · exact Nat.lt_succ_of_lt (Nat.lt_succ_self _)
      · cases hc
  · have hold : ∀ c o, s.heap.get? c = some o → h'.get? c = some o := fun c o e => by
      refine hk c o (fun hm => ?_) (Heap.get?_push_of_some _ (Heap.get?_push_of_some _ e))
      rcases List.mem_cons.mp hm with e1 | hm
      · have := Heap.lt_size e; rw [e1, hsz] at this; exact Nat.lt_irrefl _ (Nat.lt_of_succ_lt this)
      · cases hm
    have := h h' tk hold
    have hv : v = if ltS b a = true then .str b u else .str a t := by
      cases hc : ltS b a <;> simp [argBest, txt, hc] at hP <;> simp [hP]
    rw [hv]; exact this
end
section
variable {nm : Nms} {X : Cx}
def fnMax2 : FM := fun ds S => match ds with
  | [.int i, .int j] => .ok (.int (if i < j then j else i)) S
  | [.str a, .str b] => .ok (.str (if ltS a b = true then b else a)) S
  | _ => .stuck
def fnMin2 : FM := fun ds S => match ds with
  | [.int i, .int j] => .ok (.int (if j < i then j else i)) S
  | [.str a, .str b] => .ok (.str (if ltS b a = true then b else a)) S
  | _ => .stuck
theorem c_max2 (hc : X.calm = true) : CallD nm X (.builtin "max") fnMax2 := by
  intro pins s σ H xs us Q I r h
  obtain ⟨ds, S, μ, E, rv, sm, p⟩ := h
  unfold fnMax2 at p
  split at p
  · obtain ⟨v, u, rfl, r1, r2⟩ := two_rv rv
    cases r1; cases r2
    exact call_max2 hc pins s σ H _ us Q I r ⟨_, _, rfl, p μ H .refl sm _ (.int _)⟩
  · obtain ⟨v, u, rfl, r1, r2⟩ := two_rv rv
    cases r1; cases r2
    obtain ⟨u, w', rfl, ⟨t, rfl⟩, ⟨t', rfl⟩⟩ := vals2 r
    rename_i a b
    refine max_two_str (I.ok.hd hc) fun h' tk k => ⟨.str (if ltS a b = true then b else a), H, I.kept k, ?_, p μ H .refl sm _ (.str _)⟩
    cases ltS a b
    · exact ⟨_, rfl⟩
    · exact ⟨_, rfl⟩
  · exact False.elim p
theorem c_min2 (hc : X.calm = true) : CallD nm X (.builtin "min") fnMin2 := by
  intro pins s σ H xs us Q I r h
  obtain ⟨ds, S, μ, E, rv, sm, p⟩ := h
  unfold fnMin2 at p
  split at p
  · obtain ⟨v, u, rfl, r1, r2⟩ := two_rv rv
    cases r1; cases r2
    exact call_min2 hc pins s σ H _ us Q I r ⟨_, _, rfl, p μ H .refl sm _ (.int _)⟩
  · obtain ⟨v, u, rfl, r1, r2⟩ := two_rv rv
    cases r1; cases r2
    obtain ⟨u, w', rfl, ⟨t, rfl⟩, ⟨t', rfl⟩⟩ := vals2 r
    rename_i a b
    refine min_two_str (I.ok.hd hc) fun h' tk k => ⟨.str (if ltS b a = true then b else a), H, I.kept k, ?_, p μ H .refl sm _ (.str _)⟩
    cases ltS b a
    · exact ⟨_, rfl⟩
    · exact ⟨_, rfl⟩
  · exact False.elim p
end
end BS
namespace BS
open PySem PySem.Spec PyProof.Rows L2
section
variable {nm : Nms} {X : Cx} {e : Expr} {me : EM} {pos : Pos}
def evalPs : List (EM × EM) → Ev → Store → R (List (D × D))
  | [], _, S => .ok [] S
  | p :: r, e, S => (p.1 e S).bind fun x S => (p.2 e S).bind fun y S => (evalPs r e S).bind fun ps S => .ok ((x, y) :: ps) S
def psNil : List (EM × EM) := []
def psCons (a b : EM) (r : List (EM × EM)) : List (EM × EM) := (a, b) :: r
def RVP (K : PySem.W.Frag) (H : Hp) (μ : List Addr) (vs : List (V × V)) (ds : List (D × D)) : Prop := Paired (fun p q => RV K H μ p.1 q.1 ∧ RV K H μ p.2 q.2) vs ds
structure MPs (nm : Nms) (X : Cx) (pos : Pos) (keys : List (Option Expr)) (values : List Expr) (ms : List (EM × EM)) : Prop where
  run : ∀ W, Takes X W → PPs X pos keys values (ms.map fun p => (rdE nm X W p.1, rdE nm X W p.2))
theorem mps_nil : MPs nm X pos [] [] psNil := ⟨fun W tk => pps_nil⟩
theorem mps_cons {k v : Expr} {ks : List (Option Expr)} {vs : List Expr} {mk mv : EM} {ms : List (EM × EM)} (hk : ME nm X k mk) (hv : ME nm X v mv) (hr : MPs nm X pos ks vs ms) : MPs nm X pos (some k :: ks) (v :: vs) (psCons mk mv ms) :=
  ⟨fun W tk => pps_cons (hk.run W tk) (hv.run W tk) (hr.run W tk)⟩
theorem tPairs_rd {W : WX} : ∀ (ms : List (EM × EM)) (σ : St) (H : Hp) (Q : List (V × V) → Hp → Prop), (∃ e S μ, EvR nm X H μ e σ ∧ Sim nm X.K X.mg μ S H ∧ PostX nm X W μ H σ (evalPs ms e S) fun ps S' μ' H' => ∀ vps, RVP X.K H' μ' vps ps → Q vps H') →
    tPairs (ms.map fun p => (rdE nm X W p.1, rdE nm X W p.2)) σ H Q
  | [], σ, H, Q, ⟨e, S, μ, E, s, p⟩ => p μ H .refl s [] .nil
  | m :: r, σ, H, Q, ⟨e, S, μ, E, s, p⟩ =>
    ⟨e, S, μ, E, s, (Post.bind p).mono fun d S1 μ1 H1 x1 s1 p1 v rv => ⟨e, S1, μ1, E.ext x1, s1, (Post.bind p1).mono fun d2 S2 μ2 H2 x2 s2 p2 u ru =>
      tPairs_rd r σ H2 _ ⟨e, S2, μ2, (E.ext x1).ext x2, s2, (Post.bind p2).mono fun ps S3 μ3 H3 x3 s3 p3 vps rps => p3 μ3 H3 .refl s3 _ (.cons ⟨(rv.ext x2).ext x3, ru.ext x3⟩ rps)⟩⟩⟩
def keysOf : List (D × D) → Option (List (Key × D))
  | [] => some []
  | p :: r => match keyOf p.1, keysOf r with
    | some k, some kvs => some ((k, p.2) :: kvs)
    | _, _ => none
theorem keysOf_rk {K : PySem.W.Frag} {H : Hp} {μ : List Addr} : ∀ {vps : List (V × V)} {ps : List (D × D)} {kvs : List (Key × D)}, RVP K H μ vps ps → keysOf ps = some kvs → ∃ ws : List (Key × V), vps = ws.map (fun kv => (kV kv.1, kv.2)) ∧ RK K H μ ws kvs
  | _, _, _, .nil, h => by cases h; exact ⟨[], rfl, .nil⟩
  | v :: vps, p :: ps, kvs, .cons r t, h => by
    unfold keysOf at h
    split at h
    · rename_i k kvs' hk hks
      cases h
      obtain ⟨ws, e1, r1⟩ := keysOf_rk t hks
      refine ⟨(k, v.2) :: ws, ?_, .cons ⟨rfl, r.2⟩ r1⟩
      rw [List.map_cons, ← e1, ← keyOf_kV r.1 hk]
    · cases h
def mergeD (kvs : List (Key × D)) : List (Key × D) := kvs.foldl (fun acc kv => putD acc kv.1 kv.2) []
theorem merge_rk {K : PySem.W.Frag} {H : Hp} {μ : List Addr} : ∀ {ws : List (Key × V)} {kvs : List (Key × D)} {acc : List (Key × V)} {acd : List (Key × D)}, RK K H μ ws kvs → RK K H μ acc acd → RK K H μ (ws.foldl (fun acc kv => putK acc kv.1 kv.2) acc) (kvs.foldl (fun acc kv => putD acc kv.1 kv.2) acd)
  | _, _, _, _, .nil, h => h
  | p :: ws, q :: kvs, acc, acd, .cons r t, h => by
    rw [List.foldl_cons, List.foldl_cons]
    refine merge_rk t ?_
    rw [← r.1]
    exact put_rk r.2 h
def mDisp (ms : List (EM × EM)) : EM := fun e S => (evalPs ms e (S ++ [.dct []])).bind fun ps S2 => match keysOf ps with
  | some kvs => match S2[S.length]? with
    | some (.dct []) => if kvs.length ≤ 15 then .ok (.obj S.length) (S2.set S.length (.dct (mergeD kvs))) else .stuck
    | _ => .stuck
  | none => .stuck
theorem me_disp {keys : List (Option Expr)} {values : List Expr} {ms : List (EM × EM)} (h : MPs nm X pos keys values ms) (hall : keys.all (·.isSome) = true := by rfl) (hl : keys.length = values.length := by rfl) (h0 : keys ≠ [] := by simp) (h15 : keys.length ≤ 15 := by decide) :
    ME nm X (.Dict keys values pos) (mDisp ms) := by
  refine ⟨fun W tk => (pe_disp (h.run W tk) hall hl h0 h15).imp fun σ H Q hh => ?_⟩
  obtain ⟨e, S, μ, E, s, p⟩ := hh
  intro q nq
  refine tPairs_rd ms σ _ _ ⟨e, S ++ [.dct []], μ ++ [q], E.ext (Ext.made s nq), made_dct s nq, ?_⟩
  refine (Post.ext (Ext.made s nq) (Post.bind p)).mono fun ps S2 μ2 H2 x2 s2 p1 vps rps => ?_
  split at p1
  · rename_i kvs hk
    split at p1
    · rename_i hS
      split at p1
      · rename_i h15
        have eq := x2.at (new_at s)
        obtain ⟨ys, e1, r1⟩ := s2.ob _ _ _ eq hS
        cases r1
        obtain ⟨ws, e2, r2⟩ := keysOf_rk rps hk
        refine ⟨e1, ws, e2, by rw [rk_len r2]; exact h15, ?_⟩
        have x := Ext.wrote (H := H2) (u := .dK (mergeK [] ws)) (List.mem_of_getElem? eq) (NF.of e1)
        exact p1 μ2 _ x (s2.wrote eq ⟨_, upd_same, RK.ext x (merge_rk r2 .nil)⟩) _ (.obj eq)
      · exact False.elim p1
    · exact False.elim p1
  · exact False.elim p1
def fnGet2 : FM := fun ds S => match ds with
  | [x, k, d] => match dctOf S x with
    | some kvs => match keyOf k with
      | some key => .ok ((getK kvs key).getD d) S
      | none => .stuck
    | none => .stuck
  | _ => .stuck
theorem t_get2 {k : Nat} (hr : L2H.RoomH k X.A) : MtD nm X "dict.get" fnGet2 := by
  intro pins s σ H x xs v us Q I rx r h
  obtain ⟨ds, S, μ, E, rv, sm, p⟩ := h
  unfold fnGet2 at p
  split at p
  · rename_i dx dk dd
    split at p
    · rename_i kvs hk
      split at p
      · rename_i key hkey
        obtain ⟨r1, rt⟩ := rvs_cons rv
        obtain ⟨y, z, rfl, r2, r3⟩ := two_rv rt
        obtain ⟨n, a, ys, rfl, rfl, _, _, e1, rk⟩ := dctOf_at sm r1 hk
        have ek := keyOf_kV r2 hkey
        subst ek
        cases rx
        obtain ⟨u, w', rfl, ru, rw'⟩ := vals2 r
        refine d_get2 (by have := hr.un; omega) I (DGet.k e1) ru rw' fun w2 s' I' rl => ⟨_, H, I', rl, ?_⟩
        rcases getK_val key rk with ⟨h1, h2⟩ | ⟨w3, d', h1, h2, h3⟩
        · rw [h1]; rw [h2] at p; exact p μ H .refl sm _ r3
        · rw [h1]; rw [h2] at p; exact p μ H .refl sm _ h3
      · exact False.elim p
    · exact False.elim p
  · exact False.elim p
def truS (S : Store) (d : D) : Option Bool := match d with
  | .non => some false
  | .bl b => some b
  | .int i => some (i != 0)
  | .str z => if z.length ≤ sizeLine then some ((z.length : Int) != 0) else none
  | _ => match seqOf S d with
    | some ds => some (!ds.isEmpty)
    | none => (dctOf S d).map fun kvs => !kvs.isEmpty
theorem emp_rvs {K : PySem.W.Frag} {H : Hp} {μ : List Addr} {xs : List V} {ds : List D} (r : RVs K H μ xs ds) : (!ds.isEmpty) = !xs.isEmpty := by
  cases r <;> rfl
theorem tru_of {S : Store} {μ : List Addr} {H : Hp} {v : V} {d : D} {b : Bool} (s : Sim nm X.K X.mg μ S H) (r : RV X.K H μ v d) (h : truS S d = some b) : TruV X.K v H b := by
  unfold truS at h
  split at h
  · cases h; cases r; exact (rfl : (false : Bool) = false)
  · cases h; cases r; exact (rfl : _ = _)
  · cases h; cases r; exact (rfl : _ = _)
  · split at h
    · cases h; cases r; exact ⟨by assumption, rfl⟩
    · cases h
  · split at h
    · rename_i ds hds
      cases h
      obtain ⟨a, xs, rfl, hs, rr⟩ := seqOf_sq s r hds
      rcases hs with hs | hs
      · exact .inl ⟨xs, hs, emp_rvs rr⟩
      · exact .inr (.inl ⟨xs, hs, emp_rvs rr⟩)
    · obtain ⟨kvs, hk, rfl⟩ := Option.map_eq_some_iff.mp h
      obtain ⟨n, a, ys, rfl, rfl, _, _, e1, rk⟩ := dctOf_at s r hk
      exact .inr (.inr ⟨ys, e1, by cases rk <;> rfl⟩)
def mTru (m : EM) : TM := fun e S => (m e S).bind fun d S => match truS S d with
  | some b => .ok b S
  | none => .stuck
theorem mt_tru {e : Expr} {m : EM} (h : ME nm X e m) (he : ∀ whole, isTrue e X.env whole = (do let v ← whole; standAt e.pos; holding [v] (truthy v)) := by intro _; rfl) : MT nm X e (mTru m) := by
  refine ⟨fun W tk => (pt_truth (h.run W tk) he).imp fun σ H Q hh => ?_⟩
  obtain ⟨e, S, μ, E, s, p⟩ := hh
  refine ⟨e, S, μ, E, s, (Post.bind p).mono fun d S1 μ1 H1 x1 s1 p1 v rv => ?_⟩
  split at p1
  · rename_i b hb
    exact ⟨b, tru_of s1 rv hb, p1 μ1 H1 .refl s1⟩
  · exact False.elim p1
/-- what a table holds: constants -/
def TV (K : PySem.W.Frag) (p : Key × D) (q : Key × Value) : Prop := p.1 = q.1 ∧ ∃ v, RelV v q.2 ∧ ∀ H μ, RV K H μ v p.2
def TC (P : Program) (w : World) (K : PySem.W.Frag) (mg : Str → Option Value) (x : Str) (kvs : List (Key × D)) : Prop :=
  ∃ (a : Addr) (o : Obj) (es : Array DictEntry) (ep : Nat) (vs : List (Key × Value)), mg x = some (.ref a) ∧ K.lookup a = some o ∧ (a == sysModules) = false ∧ o.ExactDict ∧ o.data = .dict es ep ∧ KeysOf (mixKind P w) es ∧ Pairs (mixKind P w) es.toList vs ∧ (vs.map (·.1)).Nodup ∧ Paired (TV K) kvs vs
theorem tv_get {K : PySem.W.Frag} : ∀ {kvs : List (Key × D)} {vs : List (Key × Value)} (k : Key), Paired (TV K) kvs vs → (getK kvs k = none ∧ valueAt vs k = none) ∨ ∃ d v u, getK kvs k = some d ∧ valueAt vs k = some u ∧ RelV v u ∧ ∀ H μ, RV K H μ v d
  | _, _, k, .nil => .inl ⟨rfl, rfl⟩
  | p :: kvs, q :: vs, k, .cons r t => by
    obtain ⟨e, v, r1, r2⟩ := r
    by_cases h : p.1 = k
    · refine .inr ⟨p.2, v, q.2, ?_, ?_, r1, r2⟩
      · simp [getK, h]
      · simp [valueAt, ← e, h]
    · rcases tv_get k t with ⟨h1, h2⟩ | ⟨d, v', u, h1, h2, h3⟩
      · refine .inl ⟨?_, ?_⟩
        · simp only [getK, List.find?_cons, decide_eq_false h] at h1 ⊢; exact h1
        · have h' : ¬ q.1 = k := fun z => h (e.trans z)
          simp only [valueAt, List.find?_cons, decide_eq_false h'] at h2 ⊢; exact h2
      · refine .inr ⟨d, v', u, ?_, ?_, h3⟩
        · simp only [getK, List.find?_cons, decide_eq_false h] at h1 ⊢; exact h1
        · have h' : ¬ q.1 = k := fun z => h (e.trans z)
          simp only [valueAt, List.find?_cons, decide_eq_false h'] at h2 ⊢; exact h2
theorem tab_dict {K : PySem.W.Frag} {a : Addr} {o : Obj} {es : Array DictEntry} {ep : Nat} {vs : List (Key × Value)} {pins : List (Addr × Obj)} {σ : St} {H : Hp} {s : Shared} (I : Inv X pins σ H s) (hk : X.K.lookup a = some o) (h1 : o.ExactDict) (h2 : o.data = .dict es ep) (h3 : KeysOf (mixKind X.prog X.w) es) (h4 : Pairs (mixKind X.prog X.w) es.toList vs) (h5 : (vs.map (·.1)).Nodup) :
    s.heap.DictOf (mixKind X.prog X.w) a vs := ⟨o, es, ep, I.kIn a o hk, h1, h2, h3, h4, h5⟩
def mTabIn (neg : Bool) (kvs : List (Key × D)) (m : EM) : TM := fun e S => (m e S).bind fun d S => match keyOf d with
  | some k => .ok (if neg = true then !(getK kvs k).isSome else (getK kvs k).isSome) S
  | none => .stuck
theorem tabin_core {neg : Bool} {op : CmpOp} (hop : op = if neg = true then .NotIn else .In) {kvs : List (Key × D)} {a : Addr} {o : Obj} {es : Array DictEntry} {ep : Nat} {vs : List (Key × Value)} (hk : X.K.lookup a = some o) (hs : (a == sysModules) = false) (h1 : o.ExactDict) (h2 : o.data = .dict es ep) (h3 : KeysOf (mixKind X.prog X.w) es) (h4 : Pairs (mixKind X.prog X.w) es.toList vs) (h5 : (vs.map (·.1)).Nodup) (tv : Paired (TV X.K) kvs vs) :
    OpR X (compareOp op) (fun x y H Q => y = .ref a ∧ ∃ k, x = kV k ∧ Q (.bl (if neg = true then !(getK kvs k).isSome else (getK kvs k).isSome)) H) := by
  intro pins s σ H x y v u Q I rx ry h
  obtain ⟨rfl, k, rfl, q⟩ := h
  cases ry
  have dd := tab_dict (K := X.K) I hk h1 h2 h3 h4 h5
  have e : (valueAt vs k).isSome = (getK kvs k).isSome := by
    rcases tv_get k tv with ⟨e1, e2⟩ | ⟨d, v', u, e1, e2, _⟩ <;> rw [e1, e2] <;> rfl
  subst hop
  cases neg with
  | true => exact wpAny_notIn_of (kV_is rx) hs dd.mapOf ⟨.bl _, H, I.tok _, rfl, by rw [e]; exact q⟩
  | false => exact wpAny_in_of (kV_is rx) hs dd.mapOf ⟨.bl _, H, I.tok _, rfl, by rw [e]; exact q⟩
theorem tabin_rd {neg : Bool} {kvs : List (Key × D)} {a : Addr} {W : WX} {σ : St} {H : Hp} {Q : Bool → Hp → Prop} (hh : rdT nm X W (mTabIn neg kvs me) σ H Q) :
    tTest (tOp (fun x y H Q => y = .ref a ∧ ∃ k, x = kV k ∧ Q (.bl (if neg = true then !(getK kvs k).isSome else (getK kvs k).isSome)) H) (rdE nm X W me) fun _ H Q => Q (.ref a) H) σ H Q := by
  obtain ⟨e, S, μ, E, s, p⟩ := hh
  refine ⟨e, S, μ, E, s, (Post.bind p).mono fun d S1 μ1 H1 x1 s1 p1 v rv => ?_⟩
  split at p1
  · rename_i k hk
    exact ⟨rfl, k, keyOf_kV rv hk, _, rfl, p1 μ1 H1 .refl s1⟩
  · exact False.elim p1
theorem mt_tabinN {k : Nat} {x : Str} {p : Pos} {kvs : List (Key × D)} (_ : L2H.RoomH k X.A) (h : TC X.prog X.w X.K X.mg x kvs) (hg : GlN X x) (he : ME nm X e me) (hm : behindInMarks .NotIn (.Name x p) = false := by rfl) : MT nm X (.Compare e [.NotIn] [.Name x p] pos) (mTabIn true kvs me) := by
  obtain ⟨a, o, es, ep, vs, h1, h2, h3, h4, h5, h6, h7, h8, h9⟩ := h
  exact ⟨fun W tk => (pt_cmpR (tabin_core (neg := true) rfl h2 h3 h4 h5 h6 h7 h8 h9) (he.run W tk) (pe_glob (v := .ref a) hg.g h1 rfl hg.d) hm).imp fun σ H Q hh => tabin_rd hh⟩
theorem mt_tabin {k : Nat} {x : Str} {p : Pos} {kvs : List (Key × D)} (_ : L2H.RoomH k X.A) (h : TC X.prog X.w X.K X.mg x kvs) (hg : GlN X x) (he : ME nm X e me) (hm : behindInMarks .In (.Name x p) = false := by rfl) : MT nm X (.Compare e [.In] [.Name x p] pos) (mTabIn false kvs me) := by
  obtain ⟨a, o, es, ep, vs, h1, h2, h3, h4, h5, h6, h7, h8, h9⟩ := h
  exact ⟨fun W tk => (pt_cmpR (tabin_core (neg := false) rfl h2 h3 h4 h5 h6 h7 h8 h9) (he.run W tk) (pe_glob (v := .ref a) hg.g h1 rfl hg.d) hm).imp fun σ H Q hh => tabin_rd hh⟩
def mTabGet (kvs : List (Key × D)) (m : EM) : EM := fun e S => (m e S).bind fun d S => match keyOf d with
  | some k => match getK kvs k with
    | some d => .ok d S
    | none => .stuck
  | none => .stuck
theorem me_tabget {k : Nat} {x : Str} {p : Pos} {kvs : List (Key × D)} (hr : L2H.RoomH k X.A) (h : TC X.prog X.w X.K X.mg x kvs) (hg : GlN X x) (he : ME nm X e me) (hs : PlainIx e := by exact fun _ _ => rfl) : ME nm X (.Subscript (.Name x p) e pos) (mTabGet kvs me) := by
  obtain ⟨a, o, es, ep, vs, h1, h2, h3, h4, h5, h6, h7, h8, h9⟩ := h
  refine ⟨fun W tk => ⟨fun pins s σ H Q I hh => ?_⟩⟩
  obtain ⟨ev, S, μ, E, sm, p⟩ := hh
  refine Subscript_ (thn ((pe_glob (v := .ref a) hg.g h1 rfl hg.d).run pins s σ H (fun x H1 => x = .ref a ∧ H1 = H) I ⟨rfl, rfl⟩) fun v s1 ⟨x, H1, I1, r1, q1⟩ => ?_)
  obtain ⟨rfl, rfl⟩ := q1
  cases r1
  refine thn ((he.run W tk).run pins s1 σ H1 (fun y H2 => ∃ key u v, y = kV key ∧ valueAt vs key = some u ∧ RelV v u ∧ Q v H2) I1 ⟨ev, S, μ, E, sm, (Post.bind p).mono fun d S1 μ1 H2 x1 s2 p1 v rv => ?_⟩) fun u s2 ⟨y, H2, I2, r2, q2⟩ => ?_
  · split at p1
    · rename_i key hk
      split at p1
      · rename_i d' hd
        rcases tv_get key h9 with ⟨e1, e2⟩ | ⟨d2, v', u, e1, e2, e3, e4⟩
        · rw [e1] at hd; cases hd
        · rw [e1] at hd; cases hd
          exact ⟨key, u, v', keyOf_kV rv hk, e2, e3, p1 μ1 H2 .refl s2 _ (e4 _ _)⟩
      · exact False.elim p1
    · exact False.elim p1
  · obtain ⟨key, u', v', rfl, e2, e3, q⟩ := q2
    have dd := tab_dict (K := X.K) I2 h2 h4 h5 h6 h7 h8
    exact dict_tail dd.typeIs (hs _ _) (wpAny_getItem_of (kV_is r2) dd.mapOf e2 ⟨v', H2, I2.tok _, e3, q⟩)
def lvOf (S : Store) (d : D) : Option (List D) := match d with
  | .lst ds => some ds
  | .obj n => match S[n]? with
    | some (.lst ds) => some ds
    | _ => none
  | _ => none
theorem lv_at {K : PySem.W.Frag} {mg : Str → Option Value} {H : Hp} {μ : List Addr} {S : Store} {v : V} {d : D} {ds : List D} (s : Sim nm K mg μ S H) (r : RV K H μ v d) (h : lvOf S d = some ds) : ∃ a xs, v = .ref a ∧ H a = some (.lst xs) ∧ RVs K H μ xs ds := by
  unfold lvOf at h
  split at h
  · cases h; cases r with | lst t r => exact ⟨_, _, rfl, t.2, r⟩
  · split at h
    · rename_i hds
      cases h
      cases r with | obj e =>
        obtain ⟨xs, e1, r⟩ := s.ob _ _ _ e hds
        exact ⟨_, xs, rfl, e1, r⟩
    · cases h
  · cases h
def catS (new : Bool) (S : Store) (x y : D) : R D := match lvOf S x with
  | some xs => match lvOf S y with
    | some ys => if xs.length + ys.length ≤ sizeLine then fin new (xs ++ ys) S else .stuck
    | none => .stuck
  | none => .stuck
def mCat (new : Bool) (a b : EM) : EM := fun e S => (a e S).bind fun x S => (b e S).bind fun y S => catS new S x y
theorem me_cat (new : Bool) {a b : Expr} {ma mb : EM} (ha : ME nm X a ma) (hb : ME nm X b mb) : ME nm X (.BinOp a .Add b pos) (mCat new ma mb) := by
  refine ⟨fun W tk => (pe_op op_cat (ha.run W tk) (hb.run W tk)).imp fun σ H Q h => ?_⟩
  obtain ⟨e, S, μ, E, s, p⟩ := h
  refine ⟨e, S, μ, E, s, (Post.bind p).mono fun dx S1 μ1 H1 x1 s1 p1 v rv => ?_⟩
  refine ⟨e, S1, μ1, E.ext x1, s1, (Post.bind p1).mono fun dy S2 μ2 H2 x2 s2 p2 u ru => ?_⟩
  have rv := rv.ext x2
  unfold catS at p2
  split at p2
  · rename_i xs hx
    split at p2
    · rename_i ys hy
      split at p2
      · rename_i hl
        obtain ⟨a, vs, rfl, e1, r1⟩ := lv_at s2 rv hx
        obtain ⟨b, us, rfl, e2, r2⟩ := lv_at s2 ru hy
        exact ⟨a, b, vs, us, rfl, rfl, e1, e2, by rw [r1.length, r2.length]; exact hl, fun p np => fin_post s2 (r1.append r2) np p2⟩
      · exact False.elim p2
    · exact False.elim p2
  · exact False.elim p2
theorem rvs_rep {K : PySem.W.Frag} {H : Hp} {μ : List Addr} {xs : List V} {ds : List D} (r : RVs K H μ xs ds) : ∀ n : Nat, RVs K H μ (List.replicate n xs).flatten (List.replicate n ds).flatten
  | 0 => .nil
  | n + 1 => by
    rw [List.replicate_succ, List.replicate_succ, List.flatten_cons, List.flatten_cons]
    exact r.append (rvs_rep r n)
def repS (new : Bool) (S : Store) (x y : D) : R D := match y with
  | .int k => match lvOf S x with
    | some xs => if -(2 ^ 63) ≤ k ∧ k < 2 ^ 63 ∧ xs.length * k.toNat ≤ sizeLine then fin new (List.replicate k.toNat xs).flatten S else .stuck
    | none => .stuck
  | _ => .stuck
def mRep (new : Bool) (a b : EM) : EM := fun e S => (a e S).bind fun x S => (b e S).bind fun y S => repS new S x y
theorem me_rep (new : Bool) {a b : Expr} {ma mb : EM} (ha : ME nm X a ma) (hb : ME nm X b mb) : ME nm X (.BinOp a .Mult b pos) (mRep new ma mb) := by
  refine ⟨fun W tk => (pe_op op_rep (ha.run W tk) (hb.run W tk)).imp fun σ H Q h => ?_⟩
  obtain ⟨e, S, μ, E, s, p⟩ := h
  refine ⟨e, S, μ, E, s, (Post.bind p).mono fun dx S1 μ1 H1 x1 s1 p1 v rv => ?_⟩
  refine ⟨e, S1, μ1, E.ext x1, s1, (Post.bind p1).mono fun dy S2 μ2 H2 x2 s2 p2 u ru => ?_⟩
  have rv := rv.ext x2
  unfold repS at p2
  split at p2
  · rename_i k
    split at p2
    · rename_i xs hx
      split at p2
      · rename_i hl
        obtain ⟨a, vs, rfl, e1, r1⟩ := lv_at s2 rv hx
        cases ru
        exact ⟨a, k, vs, rfl, rfl, e1, hl.1, hl.2.1, by rw [r1.length]; exact hl.2.2, fun p np => fin_post s2 (rvs_rep r1 _) np p2⟩
      · exact False.elim p2
    · exact False.elim p2
  · exact False.elim p2
/-- a table, from its entries -/
theorem tc_mk {P : Program} {w : World} {K : PySem.W.Frag} {mg : Str → Option Value} {x : Str} {a : Addr} {ep : Nat} {es : Array DictEntry} {L : List (Key × Value × Value)} {kvs : List (Key × D)} (g : mg x = some (.ref a)) (l : K.lookup a = some ⟨.type "dict", none, .dict es ep, #[]⟩)
    (he : es = (L.map fun x => (⟨keyH w x.1, x.2.1, x.2.2⟩ : DictEntry)).toArray) (z : (a == sysModules) = false) (hk : ∀ x ∈ L, keyIs x.1 x.2.1 = true) (nd : (L.map (·.1)).Nodup) (tv : Paired (TV K) kvs (L.map fun x => (x.1, x.2.2))) : TC P w K mg x kvs := by
  subst he
  refine ⟨a, _, _, ep, L.map fun x => (x.1, x.2.2), g, l, z, ⟨rfl, rfl, rfl⟩, rfl, fun e h => ?_, ?_, by rw [List.map_map]; exact nd, tv⟩
  · have h' : e ∈ L.map fun x => (⟨keyH w x.1, x.2.1, x.2.2⟩ : DictEntry) := by simpa using h
    obtain ⟨q, hq, rfl⟩ := List.mem_map.mp h'
    exact ⟨q.1, hk q hq, rfl⟩
  · have : ∀ M : List (Key × Value × Value), (∀ x ∈ M, keyIs x.1 x.2.1 = true) → Pairs (mixKind P w) (M.map fun x => (⟨keyH w x.1, x.2.1, x.2.2⟩ : DictEntry)) (M.map fun x => (x.1, x.2.2)) := by
      intro M
      induction M with
      | nil => intro _; exact .nil
      | cons q M ih => intro hM; exact .cons (hM q (by simp)) rfl (ih fun x hx => hM x (by simp [hx]))
    exact this L hk
theorem tv_int {K : PySem.W.Frag} {k : Key} {i : Int} {t : Tok} : TV K (k, .int i) (k, .int i t) := ⟨rfl, .int i, ⟨t, rfl⟩, fun _ _ => .int i⟩
theorem tv_str {K : PySem.W.Frag} {k : Key} {i : Str} {t : Tok} : TV K (k, .str i) (k, .str i t) := ⟨rfl, .str i, ⟨t, rfl⟩, fun _ _ => .str i⟩
/-- what a written tuple holds: constants -/
def CV (d : D) (q : Value) : Prop := ∃ v, RelV v q ∧ ∀ K H μ, RV K H μ v d
theorem cv_int {i : Int} {t : Tok} : CV (.int i) (.int i t) := ⟨.int i, ⟨t, rfl⟩, fun _ _ _ => .int i⟩
theorem cv_str {i : Str} {t : Tok} : CV (.str i) (.str i t) := ⟨.str i, ⟨t, rfl⟩, fun _ _ _ => .str i⟩
theorem cv_vals : ∀ {ds : List D} {qs : List Value}, Paired CV ds qs → ∃ vs, Vals vs qs ∧ ∀ K H μ, RVs K H μ vs ds
  | _, _, .nil => ⟨[], .nil, fun _ _ _ => .nil⟩
  | _, _, .cons r t => by
    obtain ⟨v, r1, r2⟩ := r
    obtain ⟨vs, h1, h2⟩ := cv_vals t
    exact ⟨v :: vs, .cons r1 h1, fun K H μ => .cons (r2 K H μ) (h2 K H μ)⟩
theorem tv_tup {K : PySem.W.Frag} {k : Key} {a : Addr} {n : Nat} {ds : List D} {qs : List Value} (l : K.lookup a = some ⟨.type "tuple", none, .seq qs.toArray n, #[]⟩) (c : Paired CV ds qs) (h : qs.length ≤ 100 := by simp) : TV K (k, .tup ds) (k, .ref a) := by
  obtain ⟨vs, h1, h2⟩ := cv_vals c
  exact ⟨rfl, .ref a, rfl, fun H μ => .tup (.inr ⟨_, _, n, l, rfl, rfl, by simp; exact Nat.le_trans h (by decide), by simpa using h1⟩) (h2 K H μ)⟩
end
end BS
namespace BS
open PySem PySem.Spec PyProof.Rows L2
def wipeD (l : List (Option D)) : List Nat → List (Option D)
  | [] => l
  | v :: vs => (wipeD l vs).set v none
def Ev.wip (e : Ev) (vs : List Nat) : Ev := ⟨wipeD e.sl vs, []⟩
@[simp] theorem Ev.wip_mk (l : List (Option D)) (vs : List Nat) : Ev.wip ⟨l, []⟩ vs = ⟨wipeD l vs, []⟩ := rfl
@[simp] theorem wipeD_nil (l : List (Option D)) : wipeD l [] = l := rfl
@[simp] theorem wipeD_cons (l : List (Option D)) (v : Nat) (vs : List Nat) : wipeD l (v :: vs) = (wipeD l vs).set v none := rfl
theorem wipeD_len (l : List (Option D)) : ∀ vs, (wipeD l vs).length = l.length
  | [] => rfl
  | v :: vs => by rw [wipeD_cons, List.length_set, wipeD_len l vs]
theorem wipeD_some {l : List (Option D)} {i : Nat} {d : D} : ∀ {vs : List Nat}, (wipeD l vs)[i]? = some (some d) → l[i]? = some (some d) ∧ i ∉ vs
  | [], h => ⟨h, by simp⟩
  | v :: vs, h => by
    rw [wipeD_cons] at h
    by_cases hi : v = i
    · subst hi
      by_cases hv : v < (wipeD l vs).length
      · rw [List.getElem?_set_self hv] at h; cases h
      · rw [List.getElem?_eq_none (by simpa using hv)] at h; cases h
    · rw [List.getElem?_set_ne hi] at h
      obtain ⟨h1, h2⟩ := wipeD_some h
      exact ⟨h1, by simp only [List.mem_cons, not_or]; exact ⟨fun e => hi e.symm, h2⟩⟩
def setAll {α : Type} (l : List (Option α)) : List Nat → List α → List (Option α)
  | i :: is, x :: xs => setAll (l.set i (some x)) is xs
  | _, _ => l
@[simp] theorem setAll_nil {α : Type} (l : List (Option α)) (xs : List α) : setAll l [] xs = l := by cases xs <;> rfl
@[simp] theorem setAll_cons {α : Type} (l : List (Option α)) (i : Nat) (is : List Nat) (x : α) (xs : List α) : setAll l (i :: is) (x :: xs) = setAll (l.set i (some x)) is xs := rfl
theorem wipe_in {σ : St} {i : Nat} : ∀ {vs : List Nat}, i ∈ vs → (wipe σ vs)[i]? = if i < σ.length then some none else none
  | v :: vs, h => by
    unfold wipe
    by_cases hi : v = i
    · subst hi
      rw [List.getElem?_set]
      simp [wipe_length]
    · rw [List.getElem?_set_ne hi]
      have h' : i ∈ vs := by
        rcases List.mem_cons.mp h with z | z
        · exact absurd z.symm hi
        · exact z
      exact wipe_in h'
theorem wipe_ext {σ σ' : St} {vs : List Nat} (hl : σ.length = σ'.length) (h : ∀ i, i ∉ vs → σ[i]? = σ'[i]?) : wipe σ vs = wipe σ' vs := by
  refine List.ext_getElem? fun i => ?_
  by_cases hi : i ∈ vs
  · rw [wipe_in hi, wipe_in hi, hl]
  · rw [wipe_out hi, wipe_out hi, h i hi]
theorem setAll_len {α : Type} : ∀ (is : List Nat) (l : List (Option α)) (xs : List α), (setAll l is xs).length = l.length
  | [], l, xs => by rw [setAll_nil]
  | i :: is, l, [] => rfl
  | i :: is, l, x :: xs => by rw [setAll_cons, setAll_len is, List.length_set]
theorem setAll_out {α : Type} {j : Nat} : ∀ (is : List Nat) (l : List (Option α)) (xs : List α), j ∉ is → (setAll l is xs)[j]? = l[j]?
  | [], l, xs, _ => by rw [setAll_nil]
  | i :: is, l, [], _ => rfl
  | i :: is, l, x :: xs, h => by
    rw [setAll_cons, setAll_out is _ xs (fun z => h (by simp [z])), List.getElem?_set_ne (fun z => h (by simp [z]))]
theorem wipe_setAll {σ : St} {vs is : List Nat} (xs : List V) (hs : ∀ i ∈ is, i ∈ vs) : wipe (setAll (wipe σ vs) is xs) vs = wipe σ vs := by
  refine wipe_ext (by rw [setAll_len, wipe_length]) fun i hi => ?_
  rw [setAll_out is _ xs (fun z => hi (hs i z)), wipe_out hi]
section
variable {nm : Nms} {X : Cx}
theorem evr_wip {X' : Cx} {H : Hp} {μ : List Addr} {e : Ev} {σ : St} (hK : X'.K = X.K) (vs : List Nat) (E : EvR nm X H μ e σ) : EvR nm X' H μ (e.wip vs) (wipe σ vs) := by
  refine ⟨by show (wipeD e.sl vs).length = _; rw [wipeD_len, wipe_length, E.len], fun i d h => ?_, fun p hp => absurd (show p ∈ ([] : List _) from hp) (by simp)⟩
  obtain ⟨h1, h2⟩ := wipeD_some h
  obtain ⟨v, hv, r⟩ := E.at_ i d h1
  exact ⟨v, by rw [wipe_out h2]; exact hv, by rw [hK]; exact r⟩
theorem evr_setAll {H : Hp} {μ : List Addr} : ∀ (is : List Nat) {l : List (Option D)} {σ : St} {xs : List V} {ds : List D}, RVs X.K H μ xs ds → EvR nm X H μ ⟨l, []⟩ σ → EvR nm X H μ ⟨setAll l is ds, []⟩ (setAll σ is xs)
  | [], l, σ, xs, ds, r, E => by rw [setAll_nil, setAll_nil]; exact E
  | i :: is, l, σ, _, _, .nil, E => E
  | i :: is, l, σ, _, _, .cons r t, E => by
    rw [setAll_cons, setAll_cons]
    exact evr_setAll is t (E.set r)
inductive LT where
  | one (i : Nat) | many (is : List Nat)
def LT.ix (t : LT) : List Nat := match t with
  | .one i => [i]
  | .many is => is
@[simp] theorem LT.ix_one (i : Nat) : (LT.one i).ix = [i] := rfl
@[simp] theorem LT.ix_many (is : List Nat) : (LT.many is).ix = is := rfl
def LT.items (t : LT) (d : D) : Option (List D) := match t with
  | .one _ => some [d]
  | .many is => match tupOf d with
    | some ds => if ds.length = is.length then some ds else none
    | none => none
def gNs : List Nat → TGs
  | [] => gNil
  | i :: is => gCons (gName i) (gNs is)
def LT.tg (K : PySem.W.Frag) (t : LT) : TG := match t with
  | .one i => gName i
  | .many is => gTup K is.length (gNs is)
theorem gNs_run {H : Hp} {Q : St → Hp → Prop} : ∀ (is : List Nat) (xs : List V) (σ : St), xs.length = is.length → Q (setAll σ is xs) H → gNs is xs σ H Q
  | [], [], σ, _, h => ⟨rfl, h⟩
  | i :: is, x :: xs, σ, hl, h => ⟨x, xs, rfl, gNs_run is xs _ (by simpa using hl) h⟩
theorem lt_run {t : LT} {d : D} {ds : List D} {x : V} {H : Hp} {μ : List Addr} (h : t.items d = some ds) (r : RV X.K H μ x d) : ∃ xs, RVs X.K H μ xs ds ∧ ∀ σ Q, Q (setAll σ t.ix xs) H → t.tg X.K x σ H Q := by
  cases t with
  | one i => cases h; exact ⟨[x], .cons r .nil, fun σ Q q => q⟩
  | many is =>
    unfold LT.items at h
    dsimp only at h
    split at h
    · rename_i ds' hds
      split at h
      · rename_i hl
        cases h
        obtain ⟨a, xs, rfl, hs, rs⟩ := tupOf_sq r hds
        exact ⟨xs, rs, fun σ Q q => ⟨a, xs, rfl, hs, by rw [rs.length, hl], gNs_run is xs σ (by rw [rs.length, hl]) q⟩⟩
      · cases h
    · cases h
structure MTs (nm : Nms) (X : Cx) (ifs : List Expr) (m : TM) : Prop where
  run : ∀ W, Takes X W → PTs X ifs (rdT nm X W m)
def mYes : TM := fun _ S => .ok true S
theorem mts_nil : MTs nm X [] mYes := ⟨fun W tk => ⟨fun pins s σ H Q I hh => by
  obtain ⟨e, S, μ, E, sm, p⟩ := hh
  exact pts_nil.run pins s σ H Q I (p μ H .refl sm)⟩⟩
theorem mts_one {c : Expr} {m : TM} (h : MT nm X c m) : MTs nm X [c] m := ⟨fun W tk => pts_one (h.run W tk)⟩
def R.nox {α : Type} (r : R α) : R α := match r with
  | .ok a S => .ok a S
  | _ => .stuck
@[simp] theorem R.nox_ok {α : Type} (a : α) (S : Store) : (R.ok a S).nox = .ok a S := rfl
theorem post_nox {α : Type} {K : PySem.W.Frag} {mg : Str → Option Value} {μ : List Addr} {H : Hp} {r : R α} {P : PA α} {E E' : PX} (h : Post nm K mg μ H r.nox P E) : Post nm K mg μ H r P E' := by
  cases r with
  | ok a S => exact h
  | exc c fs S => exact False.elim h
  | stuck => exact h
theorem bind_assoc {α β γ : Type} (r : R α) (f : α → Store → R β) (g : β → Store → R γ) : (r.bind f).bind g = r.bind fun a S => (f a S).bind g := by cases r <;> rfl
open Classical in
noncomputable def lcL (n : Nat) (G : Store → Prop) (t : LT) (e0 : Ev) (tt : TM) (el : EM) : List D → Store → R Unit
  | [], S => if G S then .ok () S else .stuck
  | d :: ds, S => if G S then match t.items d with
    | some xs => ((tt ⟨setAll e0.sl t.ix xs, []⟩ S).nox).bind fun b S2 => if b = true then ((el ⟨setAll e0.sl t.ix xs, []⟩ S2).nox).bind fun y S3 => match S3[n]? with
        | some (.lst acc) => if acc.length < sizeLine then lcL n G t e0 tt el ds (S3.set n (.lst (acc ++ [y]))) else .stuck
        | _ => .stuck
      else lcL n G t e0 tt el ds S2
    | none => .stuck
    else .stuck
noncomputable def mLc (vs : List Nat) (t : LT) (it : IM) (tt : TM) (el : EM) : EM := fun e S => (it e S).bind fun w S1 => (lcL S1.length w.G t (e.wip vs) tt el w.ds (S1 ++ [.lst []])).bind fun _ S2 => .ok (.obj S1.length) S2
/-- the block's context, for the names alone -/
abbrev blk0 (X : Cx) (scope : Scope) : Cx := X.blk X.s_0 X.H_0 scope X.env []
theorem lc_rd {W : WX} {tg iter : Expr} {scope : Scope} {it : IM} {tt : TM} {el : EM} {vs : List Nat} (t : LT) (hsub : ∀ i ∈ t.ix, i ∈ vs) {σ : St} {H : Hp} {Q : VK} (hh : rdE nm X W (mLc vs t it tt el) σ H Q) :
    tLc (fun σ H R => ∃ e S μ, EvR nm X H μ e σ ∧ Sim nm X.K X.mg μ S H ∧ PostX nm X W μ H σ (it e S) fun w S' μ' H' => ∀ J C, Stable C → C H' μ' → WOk nm X J w C → R J H') (t.tg X.K)
      (rdT nm (blk0 X scope) (fun _ _ _ _ => False) tt) (rdE nm (blk0 X scope) (fun _ _ _ _ => False) el) vs σ H Q := by
  obtain ⟨e, S, μ, E, s, p⟩ := hh
  refine ⟨e, S, μ, E, s, (Post.bind p).mono fun w S1 μ1 H1 x1 s1 p1 J C st c0 ok' => ?_⟩
  intro D nD
  refine ⟨fun i m H' => m = w.ds.length - i ∧ i ≤ w.ds.length ∧ ∃ S μ', EvR nm X H' μ' e σ ∧ Sim nm X.K X.mg μ' S H' ∧ C H' μ' ∧ μ'[S1.length]? = some D ∧ PostX nm X W μ' H' σ ((lcL S1.length w.G t (e.wip vs) tt el (w.ds.drop i) S).bind fun _ S2 => .ok (.obj S1.length) S2) (fun d _ μ' H' => ∀ v, RV X.K H' μ' v d → Q v H'),
    ⟨w.ds.length, rfl, Nat.zero_le _, S1 ++ [.lst []], μ1 ++ [D], (E.ext x1).ext (Ext.made s1 nD), s1.made (o := .lst []) nD ⟨[], upd_same, .nil⟩, st _ _ _ _ (Ext.made s1 nD) c0, new_at s1, by rw [List.drop_zero]; exact Post.ext (Ext.made s1 nD) p1⟩, ?_⟩
  rintro i m H' ⟨rfl, hi, S, μ', E', s', c', eD, p'⟩
  by_cases hlt : i < w.ds.length
  · obtain ⟨d, hd⟩ : ∃ d, w.ds[i]? = some d := ⟨_, List.getElem?_eq_getElem hlt⟩
    have hdr : w.ds.drop i = d :: w.ds.drop (i + 1) := by
      rw [List.drop_eq_getElem_cons hlt]
      rw [List.getElem?_eq_getElem hlt] at hd
      cases hd; rfl
    rw [hdr] at p'
    unfold lcL at p'
    split at p'
    · rename_i hG
      obtain ⟨go, yl⟩ := (ok' i S μ' H' s' c' hG).1 d hd
      refine .inr ⟨go, fun H2 => ∃ m', m' < w.ds.length - i ∧ m' = w.ds.length - (i + 1) ∧ i + 1 ≤ w.ds.length ∧ ∃ S μ', EvR nm X H2 μ' e σ ∧ Sim nm X.K X.mg μ' S H2 ∧ C H2 μ' ∧ μ'[S1.length]? = some D ∧ PostX nm X W μ' H2 σ ((lcL S1.length w.G t (e.wip vs) tt el (w.ds.drop (i + 1)) S).bind fun _ S2 => .ok (.obj S1.length) S2) (fun d _ μ' H' => ∀ v, RV X.K H' μ' v d → Q v H'), fun H2 h => h, fun x H2 y => ?_⟩
      obtain ⟨x2, s2, r2⟩ := yl x H2 y
      split at p'
      · rename_i xs hxs
        obtain ⟨ws, rws, run⟩ := lt_run hxs r2
        refine run _ _ ⟨wipe_setAll ws hsub, ⟨setAll (e.wip vs).sl t.ix xs, []⟩, S, μ', ?_, s2, ?_⟩
        · exact evr_setAll (X := X.blk X.s_0 X.H_0 scope X.env []) t.ix rws (evr_wip (X := X) (X' := X.blk X.s_0 X.H_0 scope X.env []) rfl _ (E'.ext x2))
        · rw [bind_assoc] at p'
          refine post_nox ((Post.bind (Post.ext x2 p')).mono fun b S3 μ3 H3 x3 s3 p3 => ?_)
          have E3 := (E'.ext x2).ext x3
          have c3 := st _ _ _ _ (x2.trans x3) c'
          have eD3 := (x2.trans x3).at eD
          cases b with
          | true =>
            rw [if_pos rfl] at p3
            dsimp only
            rw [if_pos rfl]
            refine ⟨⟨setAll (e.wip vs).sl t.ix xs, []⟩, S3, μ3, ?_, s3, ?_⟩
            · exact evr_setAll (X := X.blk X.s_0 X.H_0 scope X.env []) t.ix (RVs.ext x3 _ rws) (evr_wip (X := X) (X' := X.blk X.s_0 X.H_0 scope X.env []) rfl _ E3)
            · rw [bind_assoc] at p3
              refine post_nox ((Post.bind p3).mono fun y S4 μ4 H4 x4 s4 p4 v rv => ?_)
              have eD4 := x4.at eD3
              split at p4
              · rename_i acc hacc
                split at p4
                · rename_i hl
                  obtain ⟨zs, e1, rz⟩ := s4.ob _ _ _ eD4 hacc
                  have x5 := Ext.wrote (H := H4) (u := .lst (zs ++ [v])) (List.mem_of_getElem? eD4) (NF.of e1)
                  exact ⟨zs, e1, by rw [rz.length]; exact hl, w.ds.length - (i + 1), by omega, rfl, hlt, S4.set S1.length (.lst (acc ++ [y])), μ4, (E3.ext x4).ext x5, s4.wrote eD4 ⟨zs ++ [v], upd_same, RVs.ext x5 _ (rz.append (.cons rv .nil))⟩, st _ _ _ _ (x4.trans x5) c3, eD4, Post.ext x5 p4⟩
                · exact False.elim p4
              · exact False.elim p4
          | false =>
            rw [if_neg Bool.false_ne_true] at p3
            dsimp only
            rw [if_neg Bool.false_ne_true]
            exact ⟨w.ds.length - (i + 1), by omega, rfl, hlt, S3, μ3, E3, s3, c3, eD3, p3⟩
      · exact False.elim p'
    · exact False.elim p'
  · have hz : w.ds.drop i = [] := List.drop_eq_nil_of_le (Nat.le_of_not_lt hlt)
    rw [hz] at p'
    unfold lcL at p'
    split at p'
    · rename_i hG
      exact .inl ⟨(ok' i S μ' H' s' c' hG).2 (Nat.le_of_not_lt hlt), p' μ' H' .refl s' _ (.obj eD)⟩
    · exact False.elim p'
theorem tk_blk {s : Shared} {H : Hp} {scope : Scope} {cenv : Env} {fp : List Addr} : Takes (X.blk s H scope cenv fp) (fun _ _ _ _ => False) := fun u s' x => by
  obtain ⟨_, _, _, _, _, _, _, _, _, _, _, _, _, _, _, _, w⟩ := x
  exact w.elim
theorem pts_blk {s : Shared} {H : Hp} {scope : Scope} {cenv : Env} {fp : List Addr} {ifs : List Expr} {tt : TM} (h : MTs nm (X.blk s H scope cenv fp) ifs tt) : PTs (X.blk s H scope cenv fp) ifs (rdT nm (blk0 X scope) (fun _ _ _ _ => False) tt) :=
  ⟨fun pins s1 σ H1 Q I hh => (h.run _ tk_blk).run pins s1 σ H1 Q I (by obtain ⟨e, S, μ, E, sm, p⟩ := hh; exact ⟨e, S, μ, ⟨E.len, E.at_, E.ex⟩, sm, p⟩)⟩
theorem pe_blk {s : Shared} {H : Hp} {scope : Scope} {cenv : Env} {fp : List Addr} {e : Expr} {el : EM} (h : ME nm (X.blk s H scope cenv fp) e el) : PE (X.blk s H scope cenv fp) e (rdE nm (blk0 X scope) (fun _ _ _ _ => False) el) :=
  (h.run _ tk_blk).imp fun σ H1 Q hh => by obtain ⟨e, S, μ, E, sm, p⟩ := hh; exact ⟨e, S, μ, ⟨E.len, E.at_, E.ex⟩, sm, p⟩
theorem me_lc {elt tg iter : Expr} {ifs : List Expr} {scope : Scope} {own : List (Str × Nat)} {pos : Pos} {it : IM} {tt : TM} {el : EM} {vs : List Nat} (t : LT) (hc : X.calm = true) (hN : X.N.Nodup) (hi : MI nm X tg iter it) (ok : BlkOk X.N X.env.scope scope own) (hv : own.map (·.2) = vs) (hsub : ∀ i ∈ t.ix, i ∈ vs)
    (hg : ∀ (s : Shared) (H : Hp) (C : Addr) (cl : List (Str × Addr)) (fp : List Addr), PG (X.blk s H scope (compEnvC scope cl C X.env) fp) tg (t.tg X.K))
    (ht : ∀ (s : Shared) (H : Hp) (C : Addr) (cl : List (Str × Addr)) (fp : List Addr), MTs nm (X.blk s H scope (compEnvC scope cl C X.env) fp) ifs tt)
    (he : ∀ (s : Shared) (H : Hp) (C : Addr) (cl : List (Str × Addr)) (fp : List Addr), ME nm (X.blk s H scope (compEnvC scope cl C X.env) fp) elt el)
    (hs : ∀ x, foldedSetIterable iter X.env x = pure x := by intro _; rfl) : ME nm X (.ListComp elt [⟨tg, iter, ifs, 0⟩] scope pos) (mLc vs t it tt el) := by
  subst hv
  exact ⟨fun W tk => (pe_lc hc hN (hi.run W tk) ok hg (fun s H C cl fp => pts_blk (ht s H C cl fp)) (fun s H C cl fp => pe_blk (he s H C cl fp)) hs).imp fun σ H Q hh => lc_rd (tg := tg) (iter := iter) t hsub hh⟩
/-- name = [..] -/
theorem ms_setLc (i : Nat) {y : Str} {py spos : Pos} {elt tg iter : Expr} {ifs : List Expr} {scope : Scope} {own : List (Str × Nat)} {pos : Pos} {it : IM} {tt : TM} {el : EM} {vs : List Nat} (t : LT) (hc : X.calm = true) (hN : X.N.Nodup) (hy : X.N[i]? = some y) (hyl : X.env.scope.names.lookup y = some .local)
    (hk : X.env.scope.kind = .function) (hl : (py.line == pos.line) = true) (ha : (scope.names.any fun (n, k) => n == y && (k == .local || k == .cell)) = false)
    (hi : MI nm X tg iter it) (ok : BlkOk X.N X.env.scope scope own) (hv : own.map (·.2) = vs) (hsub : ∀ i ∈ t.ix, i ∈ vs)
    (hg : ∀ (s : Shared) (H : Hp) (C : Addr) (cl : List (Str × Addr)) (fp : List Addr), PG (X.blk s H scope (compEnvC scope cl C X.env) fp) tg (t.tg X.K))
    (ht : ∀ (s : Shared) (H : Hp) (C : Addr) (cl : List (Str × Addr)) (fp : List Addr), MTs nm (X.blk s H scope (compEnvC scope cl C X.env) fp) ifs tt)
    (he : ∀ (s : Shared) (H : Hp) (C : Addr) (cl : List (Str × Addr)) (fp : List Addr), ME nm (X.blk s H scope (compEnvC scope cl C X.env) fp) elt el)
    (hs : ∀ x, foldedSetIterable iter X.env x = pure x := by intro _; rfl) : MS nm X (.Assign [.Name y py] (.ListComp elt [⟨tg, iter, ifs, 0⟩] scope pos) spos) (mSet i (mLc vs t it tt el)) := by
  subst hv
  refine ⟨fun W tk => (ps_setLc hc hN hy hyl (sw_true hk hyl hl ha) (hi.run W tk) ok hg (fun s H C cl fp => pts_blk (ht s H C cl fp)) (fun s H C cl fp => pe_blk (he s H C cl fp)) hs).imp fun D σ H h => ?_⟩
  obtain ⟨e, S, μ, E, s, p⟩ := h
  exact lc_rd (tg := tg) (iter := iter) t hsub ⟨e, S, μ, E, s, (PostS.toS E p).mono fun d S' μ' H' x s' q v r => q _ μ' H' .refl s' ((E.ext x).set r)⟩
theorem pg_one {s : Shared} {H : Hp} {scope : Scope} {cenv : Env} {fp : List Addr} {pos : Pos} (i : Nat) {x : Str} (hN : X.N.Nodup) (hi : X.N[i]? = some x) (hl : Loc cenv.scope x) (hf : (scope.names.lookup x == some .cell) = true ∨ cenv.scope.names.lookup x = some .local) :
    PG (X.blk s H scope cenv fp) (.Name x pos) ((LT.one i).tg X.K) := pg_name (X := X.blk s H scope cenv fp) hN hi hl hf
end
end BS
namespace BS
open PySem PySem.Spec PyProof.Rows L2
def kids : Expr → List Expr
  | .Call f as ks _ => f :: as ++ ks.map (·.value)
  | .Attribute o _ _ => [o]
  | .Tuple es _ _ => es
  | .List es _ => es
  | .BinOp a _ b _ => [a, b]
  | .Compare a _ bs _ => a :: bs
  | .BoolOp _ es _ => es
  | .UnaryOp _ a _ => [a]
  | .Subscript a b _ => [a, b]
  | .IfExp c a b _ => [c, a, b]
  | .ListComp elt gs _ _ => elt :: gs.map (·.iter) ++ gs.flatMap (·.ifs)
  | .Dict ks vs _ => ks.filterMap id ++ vs
  | _ => []
def kid (e : Expr) (i : Nat) : Expr := (kids e).getD i e
def skids : Stmt → List Expr
  | .Assign ts e _ => e :: ts
  | .Expr e _ => [e]
  | .Return (some e) _ => [e]
  | .If c _ _ _ => [c]
  | .For _ it _ _ _ => [it]
  | .While c _ _ _ => [c]
  | .AugAssign t _ v _ => [v, t]
  | .Raise (some e) _ _ => [e]
  | _ => []
def skid (s : Stmt) (i : Nat) : Expr := (skids s).getD i (.Constant .none 0 ⟨0, 0, 0, 0⟩)
def hbody : ExceptHandler → List Stmt
  | .ExceptHandler _ _ b _ => b
def subs : Stmt → List Stmt
  | .If _ a b _ => a ++ b
  | .For _ _ b _ _ => b
  | .While _ b _ _ => b
  | .Try b hs o f _ => b ++ hs.flatMap hbody ++ o ++ f
  | _ => []
def stm (l : List Stmt) (i : Nat) : Stmt := l.getD i (.Pass ⟨0, 0, 0, 0⟩)
def lcOf : Expr → Scope
  | .ListComp _ _ s _ => s
  | _ => { kind := .module, names := [], isGenerator := false, isCoroutine := false, more := [] }
end BS
namespace BS
open PySem PySem.Spec PyProof.Rows L2
section
variable {nm : Nms} {X : Cx}
def blsOf : List D → Option (List Bool)
  | [] => some []
  | .bl b :: r => (blsOf r).map (b :: ·)
  | _ :: _ => none
theorem bls_rv {K : PySem.W.Frag} {H : Hp} {μ : List Addr} : ∀ {ds : List D} {xs : List V} {bs : List Bool}, RVs K H μ xs ds → blsOf ds = some bs → xs = bs.map V.bl
  | [], _, _, .nil, h => by cases h; rfl
  | d :: ds, _, bs, .cons r t, h => by
    cases d with
    | bl b =>
      obtain ⟨bs', h', rfl⟩ := Option.map_eq_some_iff.mp h
      cases r
      rw [bls_rv t h']; rfl
    | _ => cases h
def fnAll : FM := fun ds S => match ds with
  | [d] => match lstOf S d with
    | some xs => match blsOf xs with
      | some bs => .ok (.bl (bs.all id)) S
      | none => .stuck
    | none => .stuck
  | _ => .stuck
theorem c_all (hc : X.calm = true) : CallD nm X (.builtin "all") fnAll := by
  intro pins s σ H xs us Q I r h
  obtain ⟨ds, S, μ, E, rv, sm, p⟩ := h
  unfold fnAll at p
  split at p
  · rename_i d
    split at p
    · rename_i xs' hl
      split at p
      · rename_i bs hb
        obtain ⟨v, rfl, r1⟩ := one_rv rv
        obtain ⟨a, ys, rfl, hs, r2⟩ := lstOf_sq sm r1 hl
        exact cr_all hc pins s σ H _ us Q I r ⟨a, bs, rfl, by rw [← bls_rv r2 hb]; exact hs, p μ H .refl sm _ (.bl _)⟩
      · exact False.elim p
    · exact False.elim p
  · exact False.elim p
def fnAny : FM := fun ds S => match ds with
  | [d] => match lstOf S d with
    | some xs => match blsOf xs with
      | some bs => .ok (.bl (bs.any id)) S
      | none => .stuck
    | none => .stuck
  | _ => .stuck
theorem c_any (hc : X.calm = true) : CallD nm X (.builtin "any") fnAny := by
  intro pins s σ H xs us Q I r h
  obtain ⟨ds, S, μ, E, rv, sm, p⟩ := h
  unfold fnAny at p
  split at p
  · rename_i d
    split at p
    · rename_i xs' hl
      split at p
      · rename_i bs hb
        obtain ⟨v, rfl, r1⟩ := one_rv rv
        obtain ⟨a, ys, rfl, hs, r2⟩ := lstOf_sq sm r1 hl
        exact cr_any hc pins s σ H _ us Q I r ⟨a, bs, rfl, by rw [← bls_rv r2 hb]; exact hs, p μ H .refl sm _ (.bl _)⟩
      · exact False.elim p
    · exact False.elim p
  · exact False.elim p
def fSmul : Store → D → D → Option D := fun _ x y => match x, y with
  | .str z, .int n => if z.length ≤ 16 ∧ -(2 ^ 63) ≤ n ∧ n ≤ 1048576 then some (.str (PySem.Txt.mul z n)) else none
  | _, _ => none
theorem o_smul : OpD nm X (binaryOp .Mult) fSmul := by
  intro pins s σ H x y v u Q I rx ry hh
  obtain ⟨S, μ, dx, dy, d, sm, r1, r2, e, q⟩ := hh
  unfold fSmul at e
  split at e
  · split at e
    · rename_i h
      cases e; cases r1; cases r2
      obtain ⟨t, rfl⟩ := rx
      obtain ⟨t', rfl⟩ := ry
      exact PySem.W.KXi.mul rfl h.1 h.2.1 (by have := h.2.2; omega) fun t' k _ _ => ⟨.str _, H, I.tok k, ⟨t', rfl⟩, q _ μ H .refl sm (.str _)⟩
    · cases e
  · cases e
theorem call_isEx : CallR X (.builtin "isinstance") (fun xs H Q => ∃ (a : Addr) (oe : Obj) (D : Addr) (c : V) (cv : Value) (b : Bool), xs = [.ref a, c] ∧ (a, oe) ∈ X.pn ∧ Zc (.ref D) none oe ∧ (∃ vs, oe.data = .fields vs) ∧ ExcC X.K D ∧ (∀ u, RelV c u → u = cv) ∧ PySem.W.kitOne X.K (.ref D) cv = some b ∧ Q (.bl b) H) := by
  intro pins s σ H xs us Q I r h
  obtain ⟨a, oe, D, c, cv, b, rfl, hp, hz, ⟨vs, hv⟩, C, hcv, e, q⟩ := h
  cases r with
  | cons rx rr =>
    cases rr with
    | cons rt rr =>
      cases rr
      cases rx
      have ec := hcv _ rt
      subst ec
      obtain ⟨hget, _⟩ := I.pin (a, oe) (List.mem_append_left _ hp)
      have J : PySem.W.InstAt s.heap a oe D none := by
        obtain ⟨oc, od, oda, osl⟩ := oe
        obtain ⟨h1, h2⟩ := hz
        dsimp only at h1 h2 hv
        subst h1 h2 hv
        exact ⟨hget, rfl, rfl, trivial⟩
      exact PySem.W.kia_one (PySem.W.handS_kitx_exc C.hg C.hk C.hs C.hd C.ha C.hn C.ht C.hm) I.kIn J e (fun z => nomatch z) fun tk => ⟨.bl b, H, I.kept (t' := tk) fun _ _ z => z, rfl, q⟩
/-- what the written part says: class x is (not) above the classes -/
def IsE (K : PySem.W.Frag) (mg : Str → Option Value) (nm : Nms) (x : Str) (yes no : List Nat) : Prop := ∃ C2, mg x = some (.ref C2) ∧ (∀ c ∈ yes, ∀ C, mg (nm.cls c) = some (.ref C) → ExcC K C ∧ PySem.W.kitOne K (.ref C) (.ref C2) = some true) ∧ (∀ c ∈ no, ∀ C, mg (nm.cls c) = some (.ref C) → ExcC K C ∧ PySem.W.kitOne K (.ref C) (.ref C2) = some false)
theorem all_cons {K : PySem.W.Frag} {mg : Str → Option Value} {P : Addr → Prop} {c : Nat} {cs : List Nat} {x : Str} {C : Addr} (hx : nm.cls c = x) (g : mg x = some (.ref C)) (e : P C) (h : ∀ c ∈ cs, ∀ C, mg (nm.cls c) = some (.ref C) → P C) :
    ∀ c' ∈ c :: cs, ∀ C, mg (nm.cls c') = some (.ref C) → P C := by
  intro c' hc C' g'
  rcases List.mem_cons.mp hc with rfl | hc
  · rw [uniq hx g g']; exact e
  · exact h c' hc C' g'
theorem all_nil {mg : Str → Option Value} {P : Addr → Prop} : ∀ c' ∈ ([] : List Nat), ∀ C, mg (nm.cls c') = some (.ref C) → P C := fun _ h => by cases h
theorem kit_self {K : PySem.W.Frag} {S : Addr} : PySem.W.kitOne K (.ref S) (.ref S) = some true := by
  unfold PySem.W.kitOne
  rw [if_pos (by simp)]
theorem kit_of {K : PySem.W.Frag} {S C : Addr} {b : Bool} (hz : (S == C) = false) (h1 : PySem.W.subIn K (.ref C) (.type "BaseException") = some true) (h2 : PySem.W.isClsIn K C = true) (h3 : PySem.W.typeIn K (.ref C) = some (.type "type")) (h4 : PySem.W.subIn K (.ref S) (.ref C) = some b) : PySem.W.kitOne K (.ref S) (.ref C) = some b := by
  have e := exm_of h1 h2 h3 h4
  unfold PySem.W.exmOne at e
  rw [if_pos (by rw [h1]; rfl)] at e
  unfold PySem.W.kitOne
  rw [if_neg (by intro z; have : S = C := by simpa using z
                 rw [this] at hz; simp at hz)]
  exact e
def isX (ex : List (Nat × Nat × List (Nat × D))) (i : Nat) (yes no : List Nat) : Option Bool := match ex with
  | [(j, c, [])] => if j = i then if yes.contains c = true then some true else if no.contains c = true then some false else none else none
  | _ => none
def mIsE (i : Nat) (yes no : List Nat) : EM := fun e S => match isX e.ex i yes no with
  | some b => .ok (.bl b) S
  | none => .stuck
theorem me_ise (i : Nat) {yes no : List Nat} {n x : Str} {p p1 p2 pos : Pos} {is : List Nat} (h : IsE X.K X.mg nm x yes no) (hv : visAll is X.N X.env.scope = true) (hg : GlN X "isinstance") (hm : X.mg "isinstance" = none) (hgx : GlN X x) (hb : bootBuiltins "isinstance" = some (.builtin "isinstance"))
    (hN : X.N[i]? = some n := by rfl) (hi : is.contains i = true := by rfl)
    (he : starEach (.Name n p1 :: [.Name x p2]) X.env = (false, eval (.Name n p1) X.env) :: starEach [.Name x p2] X.env := by rfl) (he2 : starEach (.Name x p2 :: []) X.env = (false, eval (.Name x p2) X.env) :: starEach [] X.env := by rfl)
    (hpl : (backTo pos (starEach [.Name x p2] X.env)).any (·.1) = false := by rfl) :
    ME nm X (.Call (.Name "isinstance" p) [.Name n p1, .Name x p2] [] pos) (mIsE i yes no) := by
  obtain ⟨hvi, hd, hcd⟩ := vis_of hv hi hN
  obtain ⟨C2, g, hy, hno⟩ := h
  refine ⟨fun W tk => (pe_callB call_isEx hg.g hm hb (pa_cons (pe_var hN hvi hd hcd) (pa_cons (pe_glob (v := .ref C2) hgx.g g rfl hgx.d) pa_nil he2) he) hg.n hg.d he hpl).imp fun σ H Q hh => ?_⟩
  obtain ⟨e, S, μ, E, sm, q⟩ := hh
  unfold mIsE at q
  split at q
  · rename_i b hx
    unfold isX at hx
    split at hx
    · rename_i j c hex
      split at hx
      · rename_i hji
        subst hji
        obtain ⟨a, oe, C, dd, g1, g2, g3, g5⟩ := E.ex (j, c, []) (by rw [hex]; exact List.mem_cons_self)
        obtain ⟨k1, k2⟩ := g5
        have hdd : dd = none := by
          cases dd with
          | none => rfl
          | some dx => obtain ⟨_, _, _, _, z⟩ := k2; exact absurd rfl z
        subst hdd
        have fin : ∀ b', ExcC X.K C ∧ PySem.W.kitOne X.K (.ref C) (.ref C2) = some b' → b' = b → tCB (fun xs H Q => ∃ (a : Addr) (oe : Obj) (D : Addr) (c : V) (cv : Value) (b : Bool), xs = [.ref a, c] ∧ (a, oe) ∈ X.pn ∧ Zc (.ref D) none oe ∧ (∃ vs, oe.data = .fields vs) ∧ ExcC X.K D ∧ (∀ u, RelV c u → u = cv) ∧ PySem.W.kitOne X.K (.ref D) cv = some b ∧ Q (.bl b) H) (tCons (tVar j) (tCons (fun _ H Q => Q (.ref C2) H) tNil)) σ H Q := by
          rintro b' ⟨hc, hk⟩ rfl
          exact ⟨_, g1, a, oe, C, .ref C2, .ref C2, b', rfl, g2, g3.1, g3.2, hc, fun u r => r, hk, q μ H .refl sm _ (.bl _)⟩
        split at hx
        · rename_i hc
          cases hx
          exact fin true (hy c (by simpa using hc) C k1) rfl
        · split at hx
          · rename_i hc
            cases hx
            exact fin false (hno c (by simpa using hc) C k1) rfl
          · cases hx
      · cases hx
    · cases hx
  · exact False.elim q
end
end BS
namespace BS
open PySem PySem.Spec PyProof.Rows L2
section
variable {nm : Nms} {X : Cx}
def popS (S : Store) (n : Nat) (k : D) (x : Option D) : R D := match S[n]? with
  | some (.dct kvs) => match keyOf k with
    | some key => match getK kvs key with
      | some d => .ok d (S.set n (.dct (dropD kvs key)))
      | none => match x with
        | some x => .ok x S
        | none => .stuck
    | none => .stuck
  | _ => .stuck
def fnPopD : FM := fun ds S => match ds with
  | [.obj n, k] => popS S n k none
  | [.obj n, k, x] => popS S n k (some x)
  | _ => .stuck
theorem t_popD : MtD nm X "dict.pop" fnPopD := by
  intro pins s σ H x xs v us Q I rx r h
  obtain ⟨ds, S, μ, E, rv, sm, p⟩ := h
  unfold fnPopD at p
  split at p
  · rename_i n dk
    obtain ⟨r1, rt⟩ := rvs_cons rv
    obtain ⟨y, rfl, r2⟩ := one_rv rt
    obtain ⟨u, rfl, ru⟩ := vals1 r
    unfold popS at p
    split at p
    · rename_i kvs hS
      split at p
      · rename_i key hk
        cases r1 with | @obj a _ en =>
        obtain ⟨ys, e1, rk⟩ := sm.ob _ _ _ en hS
        have ek := keyOf_kV r2 hk
        subst ek
        cases rx
        rcases getK_val key rk with ⟨h1, h2⟩ | ⟨w, d, h1, h2, h3⟩
        · rw [h2] at p; exact False.elim p
        · rw [h2] at p
          have x := Ext.wrote (H := H) (u := .dK (dropK ys key)) (List.mem_of_getElem? en) (NF.of e1)
          exact d_pop I e1 ru h1 (.inl rfl) fun w' s3 I3 rw' => ⟨w, _, I3, rw', p μ _ x (sm.wrote en ⟨_, upd_same, RK.ext x (drop_rk rk)⟩) w (h3.ext x)⟩
      · exact False.elim p
    · exact False.elim p
  · rename_i n dk dx
    obtain ⟨r1, rt⟩ := rvs_cons rv
    obtain ⟨y, z, rfl, r2, r4⟩ := two_rv rt
    obtain ⟨u, f, rfl, ru, rf⟩ := vals2 r
    unfold popS at p
    split at p
    · rename_i kvs hS
      split at p
      · rename_i key hk
        cases r1 with | @obj a _ en =>
        obtain ⟨ys, e1, rk⟩ := sm.ob _ _ _ en hS
        have ek := keyOf_kV r2 hk
        subst ek
        cases rx
        rcases getK_val key rk with ⟨h1, h2⟩ | ⟨w, d, h1, h2, h3⟩
        · rw [h2] at p
          exact d_popD I e1 ru h1 fun s4 I4 => ⟨z, H, I4, rf, p μ H .refl sm z r4⟩
        · rw [h2] at p
          have x := Ext.wrote (H := H) (u := .dK (dropK ys key)) (List.mem_of_getElem? en) (NF.of e1)
          exact d_pop I e1 ru h1 (.inr ⟨f, rfl⟩) fun w' s3 I3 rw' => ⟨w, _, I3, rw', p μ _ x (sm.wrote en ⟨_, upd_same, RK.ext x (drop_rk rk)⟩) w (h3.ext x)⟩
      · exact False.elim p
    · exact False.elim p
  · exact False.elim p
def fnDict : FM := fun ds S => match ds with
  | [d] => match dctOf S d with
    | some kvs => .ok (.obj S.length) (S ++ [.dct kvs])
    | none => .stuck
  | _ => .stuck
theorem c_dict : CallD nm X (.type "dict") fnDict := by
  intro pins s σ H xs us Q I r h
  obtain ⟨ds, S, μ, E, rv, sm, p⟩ := h
  unfold fnDict at p
  split at p
  · rename_i d
    split at p
    · rename_i kvs hk
      obtain ⟨v, rfl, r1⟩ := one_rv rv
      obtain ⟨n, a, ys, rfl, rfl, _, _, e1, rk⟩ := dctOf_at sm r1 hk
      rw [Vals.ref1 r]
      exact d_copyOf I (.inl e1) fun q s' nq I' => ⟨.ref q, _, I', rfl, p _ _ (Ext.made sm nq) (sm.made (o := .dct kvs) nq ⟨ys, upd_same, RK.ext (Ext.made sm nq) rk⟩) _ (.obj (new_at sm))⟩
    · exact False.elim p
  · exact False.elim p
end
end BS
namespace BS
open PySem PySem.Spec PyProof.Rows L2
theorem sorted_one {α : Type} {r : α → α → Prop} (anti : ∀ a b, r a b → r b a → a = b) : ∀ {l1 l2 : List α}, l1.Perm l2 → l1.Pairwise r → l2.Pairwise r → l1 = l2
  | [], l2, p, _, _ => (List.nil_perm.mp p).symm
  | a :: l1, [], p, _, _ => absurd p.symm (by simp)
  | a :: l1, b :: l2, p, h1, h2 => by
    have e : a = b := by
      have ha : a ∈ b :: l2 := p.subset (by simp)
      have hb : b ∈ a :: l1 := p.symm.subset (by simp)
      rcases List.mem_cons.mp ha with e | ha
      · exact e
      · rcases List.mem_cons.mp hb with e | hb
        · exact e.symm
        · exact anti a b ((List.pairwise_cons.mp h1).1 b hb) ((List.pairwise_cons.mp h2).1 a ha)
    subst e
    rw [sorted_one anti (List.Perm.cons_inv p) (List.pairwise_cons.mp h1).2 (List.pairwise_cons.mp h2).2]
def sortI (ns : List Int) : List Int := ns.mergeSort (fun a b => decide (a ≤ b))
theorem sortI_perm (ns : List Int) : (sortI ns).Perm ns := List.mergeSort_perm _ _
theorem sortI_sorted (ns : List Int) : (sortI ns).Pairwise (· ≤ ·) := by
  have h := List.pairwise_mergeSort (le := fun a b : Int => decide (a ≤ b)) (fun a b c h1 h2 => by simp at *; omega) (fun a b => by simp; omega) ns
  exact h.imp fun h => by simpa using h
theorem sortI_one {ns ns' : List Int} (p : ns'.Perm ns) (h : ns'.Pairwise (· ≤ ·)) : ns' = sortI ns :=
  sorted_one (fun a b h1 h2 => Int.le_antisymm h1 h2) (p.trans (sortI_perm ns).symm) h (sortI_sorted ns)
def intsOf : List D → Option (List Int)
  | [] => some []
  | .int i :: r => (intsOf r).map (i :: ·)
  | _ :: _ => none
def keysI : List (Key × D) → Option (List Int)
  | [] => some []
  | (.inl i, _) :: r => (keysI r).map (i :: ·)
  | _ :: _ => none
theorem intsOf_rv {K : PySem.W.Frag} {H : Hp} {μ : List Addr} : ∀ {ds : List D} {xs : List V} {ns : List Int}, RVs K H μ xs ds → BS.intsOf ds = some ns → xs = ns.map V.int
  | [], _, _, .nil, h => by cases h; rfl
  | d :: ds, _, ns, .cons r t, h => by
    cases d with
    | int i =>
      obtain ⟨ns', h', rfl⟩ := Option.map_eq_some_iff.mp h
      cases r
      rw [intsOf_rv t h']; rfl
    | _ => cases h
theorem keysI_rk {K : PySem.W.Frag} {H : Hp} {μ : List Addr} : ∀ {kvs : List (Key × D)} {ys : List (Key × V)} {ns : List Int}, RK K H μ ys kvs → keysI kvs = some ns → ys.map (·.1) = ns.map Sum.inl
  | [], _, _, .nil, h => by cases h; rfl
  | (k, d) :: kvs, y :: ys, ns, .cons r t, h => by
    cases k with
    | inl i =>
      obtain ⟨ns', h', rfl⟩ := Option.map_eq_some_iff.mp h
      rw [List.map_cons, List.map_cons, keysI_rk t h', r.1]
    | inr _ => cases h
theorem rvs_intsD {K : PySem.W.Frag} {H : Hp} {μ : List Addr} : ∀ ns : List Int, RVs K H μ (ns.map V.int) (ns.map D.int)
  | [] => .nil
  | n :: ns => .cons (.int n) (rvs_intsD ns)
def leS (a b : Str) : Prop := ltS b a = false
theorem leS_iff {a b : Str} : leS a b ↔ a.cps.toList ≤ b.cps.toList := by
  unfold leS ltS
  rw [decide_eq_false_iff_not]
  exact List.not_lt
theorem leS_trans {a b c : Str} (h1 : leS a b) (h2 : leS b c) : leS a c := leS_iff.mpr (List.le_trans (leS_iff.mp h1) (leS_iff.mp h2))
theorem leS_anti {a b : Str} (h1 : leS a b) (h2 : leS b a) : a = b := by
  have e := List.le_antisymm (leS_iff.mp h1) (leS_iff.mp h2)
  cases a; cases b
  simpa using e
theorem leS_total (a b : Str) : leS a b ∨ leS b a := by
  rcases List.le_total a.cps.toList b.cps.toList with h | h
  · exact .inl (leS_iff.mpr h)
  · exact .inr (leS_iff.mpr h)
theorem rising_pw : ∀ (r : List Str) (p : Str), risingS p r = true → (∀ x ∈ r, leS p x) ∧ r.Pairwise leS
  | [], p, _ => ⟨by simp, .nil⟩
  | x :: r, p, h => by
    unfold risingS at h
    rw [Bool.and_eq_true] at h
    have hx : leS p x := by
      unfold leS ltS
      have := h.1
      rw [ltCps_eq] at this
      simpa using this
    obtain ⟨h1, h2⟩ := rising_pw r x h.2
    exact ⟨fun y hy => by
      rcases List.mem_cons.mp hy with rfl | hy
      · exact hx
      · exact leS_trans hx (h1 y hy), List.pairwise_cons.mpr ⟨h1, h2⟩⟩
theorem sorted_pw {ys : List Str} (h : sortedS ys = true) : ys.Pairwise leS := by
  cases ys with
  | nil => exact .nil
  | cons x r =>
    obtain ⟨h1, h2⟩ := rising_pw r x h
    exact List.pairwise_cons.mpr ⟨h1, h2⟩
def sortT (zs : List Str) : List Str := zs.mergeSort (fun a b => !ltS b a)
theorem sortT_perm (zs : List Str) : (sortT zs).Perm zs := List.mergeSort_perm _ _
theorem sortT_sorted (zs : List Str) : (sortT zs).Pairwise leS := by
  have h := List.pairwise_mergeSort (le := fun a b : Str => !ltS b a) (fun a b c h1 h2 => by
    simp only [Bool.not_eq_true'] at *
    exact leS_trans (a := a) (b := b) (c := c) h1 h2) (fun a b => by
    rcases leS_total a b with h | h
    · simp only [Bool.or_eq_true, Bool.not_eq_true']; exact .inl h
    · simp only [Bool.or_eq_true, Bool.not_eq_true']; exact .inr h) zs
  exact h.imp fun h => by simpa [leS] using h
theorem sortT_one {zs ys : List Str} (p : ys.Perm zs) (h : sortedS ys = true) : ys = sortT zs :=
  sorted_one (fun a b h1 h2 => leS_anti h1 h2) (p.trans (sortT_perm zs).symm) (sorted_pw h) (sortT_sorted zs)
def strsOf : List D → Option (List Str)
  | [] => some []
  | .str i :: r => (strsOf r).map (i :: ·)
  | _ :: _ => none
def keysT : List (Key × D) → Option (List Str)
  | [] => some []
  | (.inr i, _) :: r => (keysT r).map (i :: ·)
  | _ :: _ => none
theorem strsOf_rv {K : PySem.W.Frag} {H : Hp} {μ : List Addr} : ∀ {ds : List D} {xs : List V} {ns : List Str}, RVs K H μ xs ds → BS.strsOf ds = some ns → xs = ns.map V.str
  | [], _, _, .nil, h => by cases h; rfl
  | d :: ds, _, ns, .cons r t, h => by
    cases d with
    | str i =>
      obtain ⟨ns', h', rfl⟩ := Option.map_eq_some_iff.mp h
      cases r
      rw [strsOf_rv t h']; rfl
    | _ => cases h
theorem keysT_rk {K : PySem.W.Frag} {H : Hp} {μ : List Addr} : ∀ {kvs : List (Key × D)} {ys : List (Key × V)} {ns : List Str}, RK K H μ ys kvs → keysT kvs = some ns → ys.map (·.1) = ns.map Sum.inr
  | [], _, _, .nil, h => by cases h; rfl
  | (k, d) :: kvs, y :: ys, ns, .cons r t, h => by
    cases k with
    | inr i =>
      obtain ⟨ns', h', rfl⟩ := Option.map_eq_some_iff.mp h
      rw [List.map_cons, List.map_cons, keysT_rk t h', r.1]
    | inl _ => cases h
theorem rvs_strsD {K : PySem.W.Frag} {H : Hp} {μ : List Addr} : ∀ ns : List Str, RVs K H μ (ns.map V.str) (ns.map D.str)
  | [] => .nil
  | n :: ns => .cons (.str n) (rvs_strsD ns)
def sv (v : Value) : Str := strOf v
def ltSv (v u : Value) : Bool := ltS (sv v) (sv u)
theorem ltS_asym {a b : Str} (h : ltS a b = true) : ltS b a = false := by
  unfold ltS at *
  rw [decide_eq_true_eq] at h
  rw [decide_eq_false_iff_not]
  exact fun g => (List.lt_asymm h) g
theorem swo_str : SrtO.Swo ltSv := ⟨fun x y h => ltS_asym h, fun x y z h1 h2 => leS_trans (a := sv x) (b := sv y) (c := sv z) h1 h2⟩
section
variable {prog : Program} {w : World} {A : Around} {E : Value → Shared → Prop} {s : Shared}
theorem strs_mem {vs : List Value} {zs : List Str} (h : StrsAre vs zs) (v : Value) (m : v ∈ vs) : ∃ x t, v = .str x t := h.all v m
theorem str_cmp {vs : List Value} {ns : List Str} (hI : StrsAre vs ns) : SrtO.Cmp prog w A s oneType' (fun p => p.1 ∈ vs) (SrtO.lt2 ltSv) := by
  intro p q hm hm'
  obtain ⟨a, t, e⟩ := strs_mem hI _ hm
  obtain ⟨b, u, e'⟩ := strs_mem hI _ hm'
  show wpAny (model prog w) A (keyLt' oneType' p.1 q.1) (fun r s' => s' = s ∧ r = ltSv p.1 q.1) (fun _ _ => False) s
  rw [e, e', keyLt'_oneType]
  exact oneLt_str ⟨rfl, rfl⟩
theorem strs_sortable {a : Addr} {vs : List Value} {ns : List Str} (hI : StrsAre vs ns) (h2 : 2 ≤ vs.length) : SrtO.SortableO prog w A s a vs ltSv := by
  intro h' _
  refine ⟨oneType', fun Q E hq => ?_, str_cmp hI⟩
  match vs, hI, h2 with
  | v1 :: v2 :: rest, hI, _ =>
    rw [keyKind_strs hI]
    exact wpAny_pure hq
  | [], _, h => exact absurd h (by decide)
  | [v], _, h => exact absurd h (by simp)
end
theorem strs_outF {vs out : List Value} {ns : List Str} (hI : StrsAre vs ns) (hs : SrtO.Srtd ltSv out) (hb : SrtO.Stb ltSv out vs) : StrsAre out (sortT ns) := by
  have h1 : StrsAre out (out.map strOf) := strsAre_map out fun v m => hI.all v (hb.perm.mem_iff.mp m)
  have h2 : (out.map strOf).Perm ns := by
    have q := hb.perm.map strOf
    rwa [hI.strs] at q
  have h3 : (out.map strOf).Pairwise leS := List.pairwise_map.mpr (hs.imp fun {x y} h => h)
  have h4 : out.map strOf = sortT ns := sorted_one (fun a b => leS_anti) (h2.trans (sortT_perm ns).symm) h3 (sortT_sorted ns)
  rwa [← h4]
section
variable {X : Cx}
/-- sorted(d), texts, any number of them -/
theorem call_sortedDT (hcalm : X.calm = true) : CallR X (.builtin "sorted") (fun xs H Q => ∃ (a : Addr) (kvs : List (Key × V)) (ks : List Str), xs = [.ref a] ∧ Rd H a (.dK kvs) ∧ kvs.map (·.1) = ks.map Sum.inr ∧
    ∀ p, H p = none → Q (.ref p) (upd H p (.lst ((sortT ks).map V.str)))) := by
  intro pins s σ H xs us Q I r q
  obtain ⟨a, kvs, ks, ex, hd, hks, q⟩ := q
  subst ex
  obtain ⟨u, eu, rx⟩ := vals1 r
  subst eu
  cases rx
  obtain ⟨z, lo, vs, rel, dd⟩ := dk_rd I.hok hd
  obtain ⟨ep, hat⟩ := dd.dictAt
  have hkeys : vs.map (·.1) = ks.map Sum.inr := rel.keys.symm.trans hks
  have hl : vs.length = ks.length := by
    have e := congrArg List.length hkeys
    rw [List.length_map, List.length_map] at e
    exact e
  have h16 : vs.length ≤ sizeLine := by rw [← rel.length]; exact z
  refine Calls.call_function_entry PyProof.Rows.kind_sorted PyProof.Rows.plain_sorted PyProof.Rows.entry_sorted (PyProof.Rows.args_sorted1 _) ?_
  unfold Builtin.«sorted»
  refine wpAny_bind (m := checkCount "sorted" 1 1 _) (wpAny_pure ?_)
  refine wpAny_bind (PySem.W.kdu_collect (A := X.A.in1) (PySem.W.kdl_dict (knd := mixKind X.prog X.w) (kvs := vs) (ep := ep) lo) (I.ok.hd hcalm) hat h16 fun h' tk acc hk hacc => ?_)
  have hal : acc.toList.length = ks.length := by rw [Array.length_toList, hacc.1, hl]
  have hS : StrsAre acc.toList ks := L2.strs_at hal fun j v e => by
    obtain ⟨k, x, e1, e2⟩ := hacc.2 j v (by rw [← Array.getElem?_toList]; exact e)
    have e3 : (vs.map (·.1))[j]? = some k := by rw [List.getElem?_map, e1]; all_goals rfl
    rw [hkeys, List.getElem?_map] at e3
    cases e4 : ks[j]? with
    | none => rw [e4] at e3; cases e3
    | some y =>
      rw [e4] at e3
      have e5 : Sum.inr y = k := Option.some.inj e3
      subst e5
      obtain ⟨t, ev⟩ := Value.isStrOf_shape (x := y) (v := v) e2
      exact ⟨y, t, rfl, ev⟩
  have I1 : Inv X pins σ H { s with heap := h', toks := tk } := I.kept hk
  refine wpAny_bind (wpAny_newList ?_ (by rw [hal, ← hl]; exact h16))
  have hoL : (h'.push (seqObj "list" acc.toList.toArray 0)).get? h'.objs.size = some (seqObj "list" acc.toList.toArray 0) := Heap.get?_push_size _ rfl
  show wpAny _ _ _ _ _ { s with heap := h'.push (seqObj "list" acc.toList.toArray 0), toks := tk }
  refine wpAny_bind (wpAny_holding (wpAny_call_entry PyProof.Rows.slot_list_sort ⟨_, hoL, rfl⟩ PyProof.Rows.entry_list_sort ?_ (PyProof.Rows.args_list_sort _)))
  refine SrtO.list_sort_ord swo_str hoL (by rw [hal, ← hl]; exact h16) (fun h2 => strs_sortable hS h2) fun out k1 k2 => ⟨_, rfl, ?_⟩
  have g1 := strs_outF hS k1 k2
  obtain ⟨e', he'⟩ := PyProof.Rows.sortedHeap_at (vs := acc.toList) (out := out.toArray) hoL
  have hlen : ((sortT ks).map V.str).length ≤ sizeLine := by
    rw [List.length_map, (sortT_perm ks).length_eq, ← hl]
    exact h16
  refine wpAny_pure ⟨_, rfl, .ref h'.objs.size, upd H h'.objs.size (.lst ((sortT ks).map V.str)), I1.laid (t' := tk) (fun b u e => ?_) (Nat.le_refl _)
    (show ObjOk X.prog X.w _ _ _ (.lst ((sortT ks).map V.str)) from ⟨hlen, out, e', vals_of_strs g1, he'⟩), rfl, q _ (I1.hok.fresh (Nat.le_refl _))⟩
  have hb : b < h'.objs.size := Heap.lt_size e
  rw [PyProof.Rows.sortedHeap_old (Nat.ne_of_lt hb) (by rw [size_push']; exact Nat.lt_succ_of_lt hb)]
  exact Heap.get?_push_of_some _ e
end
section
variable {nm : Nms} {X : Cx}
def fnSorted (new : Bool) : FM := fun ds S => match ds with
  | [d] => match lstOf S d with
    | some xs => match BS.intsOf xs with
      | some ns => fin new ((sortI ns).map .int) S
      | none => match BS.strsOf xs with
        | some zs => if zs.length < 64 then fin new ((sortT zs).map .str) S else .stuck
        | none => .stuck
    | none => match dctOf S d with
      | some kvs => match keysI kvs with
        | some ns => if ns.length < 64 then fin new ((sortI ns).map .int) S else .stuck
        | none => match keysT kvs with
          | some zs => fin new ((sortT zs).map .str) S
          | none => .stuck
      | none => .stuck
  | _ => .stuck
theorem c_sorted (new : Bool) (hc : X.calm = true) : CallD nm X (.builtin "sorted") (fnSorted new) := by
  intro pins s σ H xs us Q I r h
  obtain ⟨ds, S, μ, E, rv, sm, p⟩ := h
  unfold fnSorted at p
  split at p
  · rename_i d
    obtain ⟨v, rfl, r1⟩ := one_rv rv
    split at p
    · rename_i xs' hl
      split at p
      · rename_i ns hb
        obtain ⟨a, ys, rfl, hs, r2⟩ := lstOf_sq sm r1 hl
        refine cr_sortedI pins s σ H _ us Q I r ⟨a, ns, rfl, by rw [← intsOf_rv r2 hb]; exact hs, fun ns' q hp hs' nq => ?_⟩
        rw [sortI_one hp hs']
        exact fin_post sm (rvs_intsD _) nq p
      · split at p
        · rename_i zs hb
          split at p
          · rename_i h64
            obtain ⟨a, ys, rfl, hs, r2⟩ := lstOf_sq sm r1 hl
            refine cr_sortedS pins s σ H _ us Q I r ⟨a, zs, rfl, by rw [← strsOf_rv r2 hb]; exact hs, h64, fun ns' q hp hs' nq => ?_⟩
            rw [sortT_one hp hs']
            exact fin_post sm (rvs_strsD _) nq p
          · exact False.elim p
        · exact False.elim p
    · split at p
      · rename_i kvs hk
        split at p
        · rename_i ns hb
          split at p
          · rename_i h64
            obtain ⟨n, a, ys, rfl, rfl, _, _, e1, rk⟩ := dctOf_at sm r1 hk
            refine call_sortedDI hc pins s σ H _ us Q I r ⟨a, ys, ns, rfl, .inl e1, keysI_rk rk hb, h64, fun ns' q hp hs' nq => ?_⟩
            rw [sortI_one hp hs']
            exact fin_post sm (rvs_intsD _) nq p
          · exact False.elim p
        · split at p
          · rename_i zs hb
            obtain ⟨n, a, ys, rfl, rfl, _, _, e1, rk⟩ := dctOf_at sm r1 hk
            exact call_sortedDT hc pins s σ H _ us Q I r ⟨a, ys, zs, rfl, .inl e1, keysT_rk rk hb, fun q nq => fin_post sm (rvs_strsD _) nq p⟩
          · exact False.elim p
      · exact False.elim p
  · exact False.elim p
end
end BS
namespace BS
open PySem PySem.Spec PyProof.Rows L2
def sameF (x y : D) : Bool := match x, y with
  | .non, .non => true
  | .bl a, .bl b => a == b
  | .int a, .int b => decide (a = b)
  | .str a, .str b => decide (a = b)
  | _, _ => false
def eqK (ks ls : List (Key × D)) : Bool := decide (ks.length = ls.length) && ks.all fun p => match getK ls p.1 with
  | some d => sameF p.2 d
  | none => false
def fEqD : Store → D → D → Option D := fun S x y => match dctOf S x with
  | some ks => match dctOf S y with
    | some ls => if eqK ks ls = true then some (.bl true) else none
    | none => none
  | none => none
def fNeD : Store → D → D → Option D := fun S x y => match dctOf S x with
  | some ks => match dctOf S y with
    | some ls => if eqK ks ls = true then some (.bl false) else none
    | none => none
  | none => none
section
variable {nm : Nms} {X : Cx}
theorem same_rv {K : PySem.W.Frag} {H : Hp} {μ : List Addr} {v u : V} {x y : D} (rx : RV K H μ v x) (ry : RV K H μ u y) (h : sameF x y = true) : u = v ∧ flatB v = true := by
  unfold sameF at h
  split at h
  · cases rx; cases ry; exact ⟨rfl, rfl⟩
  · cases rx; cases ry; simp at h; subst h; exact ⟨rfl, rfl⟩
  · cases rx; cases ry; simp at h; subst h; exact ⟨rfl, rfl⟩
  · cases rx; cases ry; simp at h; subst h; exact ⟨rfl, rfl⟩
  · cases h
theorem eqK_rk {K : PySem.W.Frag} {H : Hp} {μ : List Addr} {ys zs : List (Key × V)} {ks ls : List (Key × D)} (ry : RK K H μ ys ks) (rz : RK K H μ zs ls) (h : eqK ks ls = true) :
    ys.length = zs.length ∧ ∀ p ∈ ys, valV zs p.1 = some p.2 ∧ flatB p.2 = true := by
  unfold eqK at h
  rw [Bool.and_eq_true, decide_eq_true_eq] at h
  refine ⟨by rw [Paired.length ry, Paired.length rz, h.1], ?_⟩
  have hall := h.2
  clear h
  induction ry with
  | nil => intro p hp; simp at hp
  | @cons p q ys ks r t ih =>
    rw [List.all_cons, Bool.and_eq_true] at hall
    intro p' hp
    rcases List.mem_cons.mp hp with rfl | hp
    · have h1 := hall.1
      split at h1
      · rename_i d hd
        rcases getK_val q.1 rz with ⟨e1, e2⟩ | ⟨v, d', e1, e2, r2⟩
        · rw [e2] at hd; cases hd
        · rw [e2] at hd; cases hd
          obtain ⟨e, f⟩ := same_rv r.2 r2 h1
          subst e
          exact ⟨by rw [r.1]; exact e1, f⟩
      · cases h1
    · exact ih hall.2 p' hp
theorem dct_two {K : PySem.W.Frag} {mg : Str → Option Value} {H : Hp} {μ : List Addr} {S : Store} {v : V} {d : D} {ks : List (Key × D)} (s : Sim nm K mg μ S H) (r : RV K H μ v d) (h : dctOf S d = some ks) : ∃ a ys, v = .ref a ∧ H a = some (.dK ys) ∧ RK K H μ ys ks := by
  unfold dctOf at h
  split at h
  · split at h
    · rename_i hds
      cases h
      cases r with | obj e =>
        obtain ⟨ys, e1, r⟩ := s.ob _ _ _ e hds
        exact ⟨_, ys, rfl, e1, r⟩
    · cases h
  · cases h
theorem o_eqD {k : Nat} (hr : L2H.RoomH k X.A) : OpD nm X (compareOp .Eq) fEqD := by
  intro pins s σ H x y v u Q I rv ru hh
  obtain ⟨S, μ, dx, dy, d, sm, rx, ry, e, q⟩ := hh
  unfold fEqD at e
  split at e
  · rename_i ks hk
    split at e
    · rename_i ls hl
      split at e
      · rename_i c
        cases e
        obtain ⟨a, ys, rfl, h1, r1⟩ := dct_two sm rx hk
        obtain ⟨b, zs, rfl, h2, r2⟩ := dct_two sm ry hl
        obtain ⟨c1, c2⟩ := eqK_rk r1 r2 c
        have := hr.un
        exact op_eq_dictA (by omega) pins s σ H _ _ v u Q I rv ru ⟨a, b, ys, zs, rfl, rfl, h1, h2, c1, c2, q _ μ H .refl sm (.bl _)⟩
      · cases e
    · cases e
  · cases e
theorem o_neD {k : Nat} (hr : L2H.RoomH k X.A) : OpD nm X (compareOp .NotEq) fNeD := by
  intro pins s σ H x y v u Q I rv ru hh
  obtain ⟨S, μ, dx, dy, d, sm, rx, ry, e, q⟩ := hh
  unfold fNeD at e
  split at e
  · rename_i ks hk
    split at e
    · rename_i ls hl
      split at e
      · rename_i c
        cases e
        obtain ⟨a, ys, rfl, h1, r1⟩ := dct_two sm rx hk
        obtain ⟨b, zs, rfl, h2, r2⟩ := dct_two sm ry hl
        obtain ⟨c1, c2⟩ := eqK_rk r1 r2 c
        have := hr.un
        exact op_ne_dictA (by omega) pins s σ H _ _ v u Q I rv ru ⟨a, b, ys, zs, rfl, rfl, h1, h2, c1, c2, q _ μ H .refl sm (.bl _)⟩
      · cases e
    · cases e
  · cases e
/-- x is True -/
def fIsB : Store → D → D → Option D := fun _ x y => match x, y with
  | .bl a, .bl b => some (.bl (decide (a = b)))
  | _, _ => none
def fIsNotB : Store → D → D → Option D := fun _ x y => match x, y with
  | .bl a, .bl b => some (.bl (!decide (a = b)))
  | _, _ => none
theorem o_isB : OpD nm X (compareOp .Is) fIsB := by
  intro pins s σ H x y v u Q I rv ru hh
  obtain ⟨S, μ, dx, dy, d, sm, rx, ry, e, q⟩ := hh
  unfold fIsB at e
  split at e
  · cases rx; cases ry; cases e
    exact op_isBl pins s σ H _ _ v u Q I rv ru ⟨_, _, rfl, rfl, q _ μ H .refl sm (.bl _)⟩
  · cases e
theorem o_isnotB : OpD nm X (compareOp .IsNot) fIsNotB := by
  intro pins s σ H x y v u Q I rv ru hh
  obtain ⟨S, μ, dx, dy, d, sm, rx, ry, e, q⟩ := hh
  unfold fIsNotB at e
  split at e
  · cases rx; cases ry; cases e
    exact op_notBl pins s σ H _ _ v u Q I rv ru ⟨_, _, rfl, rfl, q _ μ H .refl sm (.bl _)⟩
  · cases e
variable {pos : Pos}
def mPar3 (i j l : Nat) (m : AM) : SM := fun e S => (m e S).toS e fun ds S => match ds with
  | [a, b, c] => .nx (((e.set i a).set j b).set l c) S
  | _ => .stuck
theorem ms_par3 (i j l : Nat) {x y z : Str} {a b c : Expr} {ma : AM} {px py pz pt : Pos} {kt k2 pt2} (hc : X.calm = true) (hN : X.N.Nodup) (ha : MA nm X [a, b, c] ma) (hi : X.N[i]? = some x := by rfl) (hj : X.N[j]? = some y := by rfl) (hl : X.N[l]? = some z := by rfl) (hij : i ≠ j := by decide) (hil : i ≠ l := by decide) (hjl : j ≠ l := by decide)
    (hx : X.env.scope.names.lookup x = some .local := by rfl) (hy : X.env.scope.names.lookup y = some .local := by rfl) (hz : X.env.scope.names.lookup z = some .local := by rfl)
    (hw : swappedStores [.Tuple [.Name x px, .Name y py, .Name z pz] kt pt] (.Tuple [a, b, c] k2 pt2) X.env = pure (some [x, y, z]) := by rfl)
    (hs : swapsWithSole [.Tuple [.Name x px, .Name y py, .Name z pz] kt pt] (.Tuple [a, b, c] k2 pt2) pos.line X.env = pure false := by rfl) : MS nm X (.Assign [.Tuple [.Name x px, .Name y py, .Name z pz] kt pt] (.Tuple [a, b, c] k2 pt2) pos) (mPar3 i j l ma) :=
  ⟨fun W tk => (ps_par3 hc hN hi hj hl hij hil hjl hx hy hz (ha.run W tk) hw hs).imp fun D σ H h => by
    obtain ⟨e, S, μ, E, s, p⟩ := h
    refine ⟨e, S, μ, E, s, (PostS.toS E p).mono fun ds S' μ' H' x s' q vs r => ?_⟩
    split at q
    · cases r with | cons r1 r =>
      cases r with | cons r2 r =>
      cases r with | cons r3 r =>
      cases r
      exact ⟨_, _, _, rfl, q _ μ' H' .refl s' ((((E.ext x).set r1).set r2).set r3)⟩
    · exact False.elim q⟩
end
end BS
namespace BS
open PySem PySem.Spec PyProof.Rows L2
theorem ExcAt.extW {nm : Nms} {K : PySem.W.Frag} {mg : Str → Option Value} {H H' : Hp} {μ μ' : List Addr} {c : Nat} {fs : List (Nat × D)} {C : Addr} {d : Option Addr} (x : ExtW μ H μ' H') (h : ExcAt nm K mg H μ c fs C d) : ExcAt nm K mg H' μ' c fs C d := by
  refine ⟨h.1, ?_⟩
  cases d with
  | none => exact h.2
  | some dd =>
    obtain ⟨gs, n, e, r, ne⟩ := h.2
    exact ⟨gs, x.out n (.inl e), x.keep dd _ n e, RF.extW x r, ne⟩
theorem EvR.extW {nm : Nms} {X : Cx} {H H' : Hp} {μ μ' : List Addr} {e : Ev} {σ : St} (x : ExtW μ H μ' H') (h : EvR nm X H μ e σ) : EvR nm X H' μ' e σ :=
  ⟨h.len, fun i d e => let ⟨v, a, b⟩ := h.at_ i d e; ⟨v, a, b.extW x⟩, fun p hp => let ⟨a, oe, C, d, h1, h2, h3, h4⟩ := h.ex p hp; ⟨a, oe, C, d, h1, h2, h3, h4.extW x⟩⟩
/-- the loop over a dict is over: the dict may be written again -/
def RS.unl (n : Nat) (r : RS) : RS := match r with
  | .nx e S => match S[n]? with
    | some (.lck ks) => .nx e (S.set n (.dct ks))
    | _ => .stuck
  | .rt d S => match S[n]? with
    | some (.lck ks) => .rt d (S.set n (.dct ks))
    | _ => .stuck
  | .bk e S => match S[n]? with
    | some (.lck ks) => .bk e (S.set n (.dct ks))
    | _ => .stuck
  | .ct e S => match S[n]? with
    | some (.lck ks) => .ct e (S.set n (.dct ks))
    | _ => .stuck
  | .exc c fs e S => .exc c fs e S
  | .stuck => .stuck
def dkey (k : Key) : D := match k with
  | .inl i => .int i
  | .inr x => .str x
noncomputable def mForK (i : EM) (g : GM) (b : SM) : SM := fun e S => match i e S with
  | .ok (.obj n) _ => match S[n]? with
    | some (.dct kvs) => RS.unl n ((i e (S.set n (.lck kvs))).toS e fun x S1 => match x with
      | .obj m => if m = n then (match S1[n]? with
        | some (.lck ks) => forL (fun _ => True) g b (ks.map fun kv => dkey kv.1) e S1
        | _ => .stuck) else .stuck
      | _ => .stuck)
    | _ => .stuck
  | _ => .stuck
section
variable {nm : Nms} {X : Cx} {tg iter : Expr} {im : EM} {g : GM} {body : List Stmt} {mb : SM} {pos : Pos}
def lkEnds (D : Ends) (a : Addr) (od : Obj) (u : HO) : Ends := ⟨fun σ' H' => H' a = some (.frz od u) ∧ D.nx σ' (upd H' a u), fun v H' => H' a = some (.frz od u) ∧ D.rt v (upd H' a u), fun σ' H' => H' a = some (.frz od u) ∧ D.bk σ' (upd H' a u), fun σ' H' => H' a = some (.frz od u) ∧ D.ct σ' (upd H' a u)⟩
theorem unl_sim {S' : Store} {μ μ' : List Addr} {H H' : Hp} {n : Nat} {a : Addr} {od : Obj} {ys : List (Key × V)} {ks : List (Key × D)} (ea : μ[n]? = some a) (x : Ext μ (upd H a (.frz od (.dK ys))) μ' H') (s : Sim nm X.K X.mg μ' S' H') (h : S'[n]? = some (.lck ks)) :
    H' a = some (.frz od (.dK ys)) ∧ Sim nm X.K X.mg μ' (S'.set n (.dct ks)) (upd H' a (.dK ys)) ∧ ExtW μ' H' μ' (upd H' a (.dK ys)) := by
  have e1 := x.fz a od (.dK ys) upd_same
  have ea' := x.at ea
  have w : ExtW μ' H' μ' (upd H' a (.dK ys)) := ExtW.wrote (List.mem_of_getElem? ea')
  obtain ⟨od', ys', e2, r⟩ := s.ob _ _ _ ea' h
  rw [e1] at e2
  cases e2
  exact ⟨e1, s.wrote ea' ⟨ys, upd_same, RK.extW w r⟩, w⟩
theorem unl_post {W : WX} {D : Ends} {r : RS} {μ : List Addr} {H : Hp} {n : Nat} {a : Addr} {od : Obj} {ys : List (Key × V)} (ea : μ[n]? = some a) (nf : NF H a) (p : PostS nm X W μ H (r.unl n) D) : PostS nm X W μ (upd H a (.frz od (.dK ys))) r (lkEnds D a od (.dK ys)) := by
  have hm := List.mem_of_getElem? ea
  have x0 : Ext μ H μ (upd H a (.frz od (.dK ys))) := Ext.wrote hm nf
  cases r with
  | nx e S =>
    unfold RS.unl at p
    dsimp only at p
    split at p
    · rename_i ks hk
      intro σ' μ' H' x s E
      obtain ⟨h1, h2, w⟩ := unl_sim ea x s hk
      exact ⟨h1, p σ' μ' _ (x.unlock hm nf) h2 (E.extW w)⟩
    · exact False.elim p
  | bk e S =>
    unfold RS.unl at p
    dsimp only at p
    split at p
    · rename_i ks hk
      intro σ' μ' H' x s E
      obtain ⟨h1, h2, w⟩ := unl_sim ea x s hk
      exact ⟨h1, p σ' μ' _ (x.unlock hm nf) h2 (E.extW w)⟩
    · exact False.elim p
  | ct e S =>
    unfold RS.unl at p
    dsimp only at p
    split at p
    · rename_i ks hk
      intro σ' μ' H' x s E
      obtain ⟨h1, h2, w⟩ := unl_sim ea x s hk
      exact ⟨h1, p σ' μ' _ (x.unlock hm nf) h2 (E.extW w)⟩
    · exact False.elim p
  | rt d S =>
    unfold RS.unl at p
    dsimp only at p
    split at p
    · rename_i ks hk
      intro v μ' H' x s rv
      obtain ⟨h1, h2, w⟩ := unl_sim ea x s hk
      exact ⟨h1, p v μ' _ (x.unlock hm nf) h2 (rv.extW w)⟩
    · exact False.elim p
  | exc c fs e S => exact fun σ' μ' H' C d x s E ea => p σ' μ' H' C d (x0.trans x) s E ea
  | stuck => exact p
theorem rk_keys {K : PySem.W.Frag} {H : Hp} {μ : List Addr} : ∀ {ys : List (Key × V)} {ks : List (Key × D)} {i : Nat} {p : Key × V}, RK K H μ ys ks → ys[i]? = some p → ∃ q, ks[i]? = some q ∧ p.1 = q.1
  | _, _, _, _, .nil, h => by simp at h
  | _, _, 0, _, .cons r _, h => by simp at h; subst h; exact ⟨_, rfl, r.1⟩
  | _, _, i + 1, _, .cons _ t, h => by
    obtain ⟨q, h1, h2⟩ := rk_keys (i := i) t (by simpa using h)
    exact ⟨q, by simpa using h1, h2⟩
theorem dkey_rv {K : PySem.W.Frag} {H : Hp} {μ : List Addr} (k : Key) : RV K H μ (kV k) (dkey k) := by
  cases k with
  | inl i => exact .int i
  | inr x => exact .str x
theorem ms_forK (hp : PassesOwn (model X.prog X.w) X.A X.env X.xe) (hc : X.calm = true) (hi : ME nm X iter im) (hg : MG nm X tg g) (ok : GOk g) (hb : MB nm X body mb) (hs : ∀ x, foldedSetIterable iter X.env x = pure x := by intro _; rfl) : MS nm X (.For tg iter body [] pos) (mForK im g mb) := by
  refine ⟨fun W tk => (ps_lock (ps_for hp hc (pi_keys (hi.run W tk)) (hg.run W tk) (hb.run W tk) hs)).imp fun D σ H h => ?_⟩
  obtain ⟨e, S, μ, E, s, p⟩ := h
  unfold mForK at p
  split at p
  · rename_i n S0 hi0
    split at p
    · rename_i kvs hS
      have hn : n < μ.length := by rw [s.len]; exact (List.getElem?_eq_some_iff.mp hS).1
      have ea : μ[n]? = some μ[n] := List.getElem?_eq_getElem hn
      generalize μ[n] = a at ea
      obtain ⟨ys, e1, r⟩ := s.ob _ _ _ ea hS
      have nf : NF H a := NF.of e1
      refine ⟨a, .dK ys, e1, trivial, fun od => ?_⟩
      have x0 : Ext μ H μ (upd H a (.frz od (.dK ys))) := Ext.wrote (List.mem_of_getElem? ea) nf
      have s0 : Sim nm X.K X.mg μ (S.set n (.lck kvs)) (upd H a (.frz od (.dK ys))) := s.wrote ea ⟨od, ys, upd_same, RK.ext x0 r⟩
      have p0 := unl_post (od := od) (ys := ys) ea nf p
      refine ⟨e, S.set n (.lck kvs), μ, E.ext x0, s0, (PostS.toS (E.ext x0) p0).mono fun x S1 μ1 H1 x1 s1 p1 v rv => ?_⟩
      split at p1
      · rename_i m
        split at p1
        · rename_i hmn
          subst hmn
          split at p1
          · rename_i ks hk
            have ea1 := x1.at ea
            cases rv with | obj e' =>
            rw [ea1] at e'
            cases e'
            have f1 := x1.fz a od (.dK ys) upd_same
            obtain ⟨od1, ys1, f2, rk⟩ := s1.ob _ _ _ ea1 hk
            rw [f1] at f2
            cases f2
            refine ⟨a, od, rfl, .inl ⟨ys, f1, ?_⟩⟩
            refine for_tail (w := ⟨ks.map fun kv => dkey kv.1, fun _ => True⟩) (C := fun H _ => H a = some (.frz od (.dK ys))) ((E.ext x0).ext x1) s1 p1 ok (fun μ H μ' H' x h => x.fz _ _ _ h) f1 ?_
            intro i S3 μ3 H3 s3 c3 _
            refine ⟨fun d hd => ⟨⟨c3, ?_⟩, ?_⟩, fun hl => ⟨c3, ?_⟩⟩
            · have := (List.getElem?_eq_some_iff.mp hd).1
              rw [List.length_map] at this
              rw [rk_len rk]; exact this
            · rintro x H' ⟨rfl, k, v, hk1, rfl⟩
              obtain ⟨q, hq, hkq⟩ := rk_keys rk hk1
              have hd' : (ks.map fun kv => dkey kv.1)[i]? = some (dkey q.1) := by rw [List.getElem?_map, hq]; rfl
              have : some d = some (dkey q.1) := hd.symm.trans hd'
              cases this
              refine ⟨.refl, s3, ?_⟩
              rw [← hkq]
              exact dkey_rv k
            · rw [List.length_map] at hl
              rw [rk_len rk]; exact hl
          · exact False.elim p1
        · exact False.elim p1
      · exact False.elim p1
    · exact False.elim p
  · exact False.elim p
end
end BS
namespace BS
open PySem PySem.Spec PyProof.Rows L2
theorem strs_rev {vs : List Value} {ss : List Str} (h : StrsAre vs ss) : StrsAre vs.reverse ss.reverse := by
  have e := strsAre_map vs.reverse fun v m => h.all v (List.mem_reverse.mp m)
  rwa [List.map_reverse, h.strs] at e
theorem strs_outR {vs out : List Value} {ns : List Str} (hI : StrsAre vs ns) (hs : SrtO.Srtd ltSv out) (hb : SrtO.Stb ltSv out vs.reverse) :
    StrsAre (out.toArray.reverse).toList (sortT ns).reverse := by
  have h1 : StrsAre out (out.map strOf) := strsAre_map out fun v m => hI.all v (List.mem_reverse.mp (hb.perm.mem_iff.mp m))
  have h2 : (out.map strOf).Perm ns := by
    have q := (hb.perm.map strOf).trans ((List.reverse_perm vs).map strOf)
    rwa [hI.strs] at q
  have h3 : (out.map strOf).Pairwise leS := List.pairwise_map.mpr (hs.imp fun {x y} h => h)
  have h4 : out.map strOf = sortT ns := sorted_one (fun a b => leS_anti) (h2.trans (sortT_perm ns).symm) h3 (sortT_sorted ns)
  rw [Array.toList_reverse, ← h4]
  exact strs_rev h1
section
variable {X : Cx}
theorem call_sortedDR (hcalm : X.calm = true) : CallRK X (.builtin "sorted") [Str.ofString "reverse"] (fun xs zs H Q => ∃ (a : Addr) (kvs : List (Key × V)) (ks : List Str), xs = [.ref a] ∧ zs = [.bl true] ∧ Rd H a (.dK kvs) ∧ kvs.map (·.1) = ks.map Sum.inr ∧ True ∧
    ∀ p, H p = none → Q (.ref p) (upd H p (.lst ((sortT ks).reverse.map V.str)))) := by
  intro pins s σ H xs zs us ws Q I r rz q
  obtain ⟨a, kvs, ks, ex, rfl, hd, hks, h64, q⟩ := q
  subst ex
  obtain ⟨u, eu, rx⟩ := vals1 r
  subst eu
  cases rx
  obtain ⟨w1, rfl, e1⟩ := vals1 rz
  obtain rfl : w1 = Value.bool true := e1
  obtain ⟨z, lo, vs, rel, dd⟩ := dk_rd I.hok hd
  obtain ⟨ep, hat⟩ := dd.dictAt
  have hkeys : vs.map (·.1) = ks.map Sum.inr := rel.keys.symm.trans hks
  have hl : vs.length = ks.length := by
    have e := congrArg List.length hkeys
    rw [List.length_map, List.length_map] at e
    exact e
  have h16 : vs.length ≤ sizeLine := by rw [← rel.length]; exact z
  show wpAny _ _ (call (.builtin "sorted") [.ref a] [(Str.ofString "reverse", .bool true)]) _ _ _
  refine PyProof.Rows.call_function_entry_kw PyProof.Rows.kind_sorted PyProof.Rows.plain_sorted PyProof.Rows.entry_sorted (PyProof.Rows.args_sorted_rev _ _) ?_
  unfold Builtin.«sorted»
  refine wpAny_bind (m := checkCount "sorted" 1 1 _) (wpAny_pure ?_)
  refine wpAny_bind (PySem.W.kdu_collect (A := X.A.in1) (PySem.W.kdl_dict (knd := mixKind X.prog X.w) (kvs := vs) (ep := ep) lo) (I.ok.hd hcalm) hat h16 fun h' tk acc hk hacc => ?_)
  have hal : acc.toList.length = ks.length := by rw [Array.length_toList, hacc.1, hl]
  have hS : StrsAre acc.toList ks := L2.strs_at hal fun j v e => by
    obtain ⟨k, x, e1, e2⟩ := hacc.2 j v (by rw [← Array.getElem?_toList]; exact e)
    have e3 : (vs.map (·.1))[j]? = some k := by rw [List.getElem?_map, e1]; all_goals rfl
    rw [hkeys, List.getElem?_map] at e3
    cases e4 : ks[j]? with
    | none => rw [e4] at e3; cases e3
    | some y =>
      rw [e4] at e3
      have e5 : Sum.inr y = k := Option.some.inj e3
      subst e5
      obtain ⟨t, ev⟩ := Value.isStrOf_shape (x := y) (v := v) e2
      exact ⟨y, t, rfl, ev⟩
  have I1 : Inv X pins σ H { s with heap := h', toks := tk } := I.kept hk
  refine wpAny_bind (wpAny_newList ?_ (by rw [hal, ← hl]; exact h16))
  have hoL : (h'.push (seqObj "list" acc.toList.toArray 0)).get? h'.objs.size = some (seqObj "list" acc.toList.toArray 0) := Heap.get?_push_size _ rfl
  show wpAny _ _ _ _ _ { s with heap := h'.push (seqObj "list" acc.toList.toArray 0), toks := tk }
  refine wpAny_bind (wpAny_holding (PyProof.Rows.wpAny_call_entry_kw PyProof.Rows.slot_list_sort ⟨_, hoL, rfl⟩ PyProof.Rows.entry_list_sort ?_ (PyProof.Rows.args_list_sort_rev _ _)))
  refine SrtR.list_sort_ordR (b := true) swo_str hoL (by rw [hal, ← hl]; exact h16) (fun h2 => strs_sortable hS h2) fun out k1 k2 => ⟨_, rfl, ?_⟩
  have g1 := strs_outR hS k1 k2
  obtain ⟨e', he'⟩ := PyProof.Rows.sortedHeap_at (vs := acc.toList) (out := out.toArray.reverse) hoL
  have hlen : ((sortT ks).reverse.map V.str).length ≤ sizeLine := by
    rw [List.length_map, List.length_reverse, (sortT_perm ks).length_eq, ← hl]
    exact h16
  refine wpAny_pure ⟨_, rfl, .ref h'.objs.size, upd H h'.objs.size (.lst ((sortT ks).reverse.map V.str)), I1.laid (t' := tk) (fun b u e => ?_) (Nat.le_refl _)
    (show ObjOk X.prog X.w _ _ _ (.lst ((sortT ks).reverse.map V.str)) from ⟨hlen, (out.toArray.reverse).toList, e', vals_of_strs g1, by rw [Array.toArray_toList]; exact he'⟩), rfl, q _ (I1.hok.fresh (Nat.le_refl _))⟩
  have hb : b < h'.objs.size := Heap.lt_size e
  rw [PyProof.Rows.sortedHeap_old (Nat.ne_of_lt hb) (by rw [size_push']; exact Nat.lt_succ_of_lt hb)]
  exact Heap.get?_push_of_some _ e
end
section
variable {nm : Nms} {X : Cx} {e : Expr} {m : EM} {pos p kpos cpos : Pos} {j : Nat}
def fnSortedR (new : Bool) : FM := fun ds S => match ds with
  | [d] => match dctOf S d with
    | some kvs => match keysT kvs with
      | some zs => fin new ((sortT zs).reverse.map .str) S
      | none => .stuck
    | none => .stuck
  | _ => .stuck
theorem me_sortedR (new : Bool) (hc : X.calm = true) (hg : GlN X "sorted") (hm : X.mg "sorted" = none) (hv : bootBuiltins "sorted" = some (.builtin "sorted")) (ha : MA nm X [e] ma)
    (he : backTo pos (starEach [e] X.env) = (false, eval e X.env) :: backTo pos (starEach [] X.env) := by rfl) (hpl : (backTo pos (starEach [e] X.env)).any (·.1) = false := by rfl) :
    ME nm X (.Call (.Name "sorted" p) [e] [⟨some (Str.ofString "reverse"), .Constant (.bool true) j cpos, kpos⟩] pos) (mCall (fnSortedR new) ma) :=
  ⟨fun W tk => (pe_callBK (call_sortedDR hc) hg.g hm hv (ha.run W tk) (pk_cons pe_bl pk_nil) hg.n hg.d he hpl).imp fun σ H Q h => by
    obtain ⟨e, S, μ, E, s, q⟩ := h
    refine ⟨e, S, μ, E, s, (Post.bind q).mono fun ds S1 μ1 H1 x1 s1 p1 vs rvs => ?_⟩
    unfold fnSortedR at p1
    split at p1
    · rename_i d
      obtain ⟨v, rfl, r1⟩ := one_rv rvs
      split at p1
      · rename_i kvs hk
        split at p1
        · rename_i zs hb
          obtain ⟨n, a, ys, rfl, rfl, _, _, e1, rk⟩ := dctOf_at s1 r1 hk
          exact ⟨a, ys, zs, rfl, rfl, .inl e1, keysT_rk rk hb, True.intro, fun q hp => fin_post s1 (rvs_strsD _) hp p1⟩
        · exact False.elim p1
      · exact False.elim p1
    · exact False.elim p1⟩
end
end BS
namespace BSR
open PySem PySem.Spec PyProof.Rows HT L2
section
variable {prog : Program} {w : World} {A : Around} {E : Value → Shared → Prop} {s : Shared}
theorem places_rev (n : Nat) : Builtin.Slice.slicePlaces ((n : Int) - 1) (-1) (-1) = n := by
  unfold Builtin.Slice.slicePlaces
  have h1 : ¬ (-1 : Int) > 0 := by omega
  have e : (- -1 : Int) = 1 := by decide
  simp only [h1, if_false, e, Int.ediv_one]
  split <;> omega
theorem sliceApplied_rev {sl : Addr} {vs : Value} {n : Nat} {Q : Int × Int × Nat → Shared → Prop} (hs : s.heap.IsSliceOf sl .none .none vs) (ps : IsPart vs (some (-1)))
    (h : Q ((n : Int) - 1, -1, n) s) : wpAny (model prog w) A (Builtin.Slice.sliceApplied (.ref sl) (pure (n : Int))) Q E s := by
  obtain ⟨os, hos, hcs, hds⟩ := id hs
  unfold Builtin.Slice.sliceApplied Builtin.Slice.sliceFields
  refine wpAny_bind (wpAny_bind (wpAny_field hos hds (x := .none) rfl (wpAny_bind (wpAny_field hos hds (x := .none) rfl (wpAny_bind (wpAny_field hos hds (x := vs) rfl (wpAny_pure ?_)))))))
  refine wpAny_bind (slicePart_ ps ?_)
  show wpAny _ _ (if ((-1 : Int) == 0) = true then _ else _) _ _ s
  rw [if_neg (by decide)]
  refine wpAny_bind (slicePart_none (wpAny_bind (slicePart_none (wpAny_bind (wpAny_pure ?_)))))
  show wpAny _ _ (match Builtin.Slice.sliceAdjust none none (-1) (n : Int) with | (lo, hi) => pure (lo, (-1 : Int), Builtin.Slice.slicePlaces lo hi (-1))) _ _ s
  have e : Builtin.Slice.sliceAdjust none none (-1) (n : Int) = ((n : Int) - 1, -1) := rfl
  rw [e]
  show wpAny _ _ (pure (((n : Int) - 1), (-1 : Int), Builtin.Slice.slicePlaces ((n : Int) - 1) (-1) (-1))) _ _ s
  rw [places_rev]
  exact wpAny_pure h
theorem fm_congr {α β : Type} {f g : α → Option β} : ∀ {l : List α}, (∀ x ∈ l, f x = g x) → l.filterMap f = l.filterMap g
  | [], _ => rfl
  | x :: l, h => by
    rw [List.filterMap_cons, List.filterMap_cons, h x (by simp), fm_congr fun y hy => h y (by simp [hy])]
theorem pick_rev (xs : Array Value) : ((List.range xs.size).filterMap fun (m : Nat) => xs[(((xs.size : Int) - 1) + (m : Int) * (-1)).toNat]?).toArray = xs.toList.reverse.toArray := by
  have e : ((List.range xs.size).filterMap fun (m : Nat) => xs[(((xs.size : Int) - 1) + (m : Int) * (-1)).toNat]?) = ((List.range xs.size).map fun k => xs.size - 1 - k).filterMap (xs[·]?) := by
    rw [List.filterMap_map]
    apply fm_congr
    intro m hm
    have := List.mem_range.mp hm
    have e2 : (((xs.size : Int) - 1) + (m : Int) * (-1)).toNat = xs.size - 1 - m := by omega
    show xs[_]? = xs[_]?
    rw [e2]
  rw [e, PySem.W.krv_range, List.filterMap_reverse, PySem.W.krv_all]
theorem getItem_tuple_rev {t sl : Addr} {items : Array Value} {vs : Value} {Q : Value → Shared → Prop} (ht : IsTup s.heap t items) (hs : s.heap.IsSliceOf sl .none .none vs) (ps : IsPart vs (some (-1)))
    (h : Q (.ref s.heap.objs.size) { s with heap := s.heap.push { cls := .type "tuple", data := .seq items.toList.reverse.toArray } })
    (hsz : items.size ≤ sizeLine) : wpAny (model prog w) A (getItem (.ref t) (.ref sl)) Q E s := by
  have htake : sizeOk (.seq items.toList.reverse.toArray) := by
    show items.toList.reverse.toArray.size ≤ sizeLine
    rw [List.size_toArray, List.length_reverse, Array.length_toList]
    exact hsz
  obtain ⟨os, hos, hcs, hds⟩ := id hs
  have hTs : s.TypeIs (.ref sl) "slice" := ⟨os, hos, hcs⟩
  unfold getItem
  try with_reducible refine wpAny_holding ?_
  first | refine wpAny_bind (wpAny_pure ?_) | skip
  refine wpAny_bind (wpAny_sequenceKey ht.typeIs (by decide) ?_)
  refine wpAny_bind (wpAny_callSpecial?_slot (name := Str.ofString "__getitem__") ht.typeIs PyProof.Rows.slot_tuple_getitem
    (wpAny_call_entry PyProof.Rows.slot_tuple_getitem ht.typeIs entry_tuple_getitem ?_ (args_tuple_getitem _ _)))
  show wpAny _ _ (Builtin.Tuple.tupleItemsOf (.ref t) >>= _) _ _ s
  refine wpAny_bind (tupleItemsOf_ ht ?_)
  refine wpAny_bind (wpAny_typeOf hTs ?_)
  rw [if_pos (by decide)]
  refine wpAny_bind (sliceApplied_rev hs ps ?_)
  have hno : ¬ ((((items.size : Int) - 1) == 0 && (-1 : Int) == 1 && items.size == items.size) = true) := by
    intro q
    rw [Bool.and_eq_true, Bool.and_eq_true] at q
    exact absurd (eq_of_beq q.1.2) (by decide)
  show wpAny _ _ (if (((items.size : Int) - 1) == 0 && (-1 : Int) == 1 && items.size == items.size) = true then _ else _) _ _ s
  rw [if_neg hno, pick_rev]
  first
    | exact wpAny_bind (m := Builtin.Tuple.tupleExact _) (wpAny_newObj_type (wpAny_pure ⟨_, rfl, wpAny_pure h⟩) htake)
    | exact wpAny_bind (m := Builtin.Tuple.tupleExact _) (wpAny_newObj_type (wpAny_bind (wpAny_pure (wpAny_pure ⟨_, rfl, wpAny_pure h⟩))) htake)
    | exact wpAny_bind (wpAny_bind (m := Builtin.Tuple.tupleExact _) (wpAny_newObj_type (wpAny_pure (wpAny_pure ⟨_, rfl, wpAny_pure h⟩)) htake))
    | exact wpAny_bind (wpAny_bind (m := Builtin.Tuple.tupleExact _) (wpAny_newObj_type (wpAny_pure ⟨_, rfl, wpAny_pure h⟩) htake))
end
section
variable {X : Cx}
/-- x[::-1], a list or a tuple -/
def tRev (K : PySem.W.Frag) (te : TE) : TE := fun σ H Q => te σ H fun x H1 => ∃ a xs, x = .ref a ∧ ((SqL K H1 a xs ∧ ∀ p, H1 p = none → Q (.ref p) (upd H1 p (.lst xs.reverse))) ∨ (SqT K H1 a xs ∧ ∀ p, H1 p = none → Q (.ref p) (upd H1 p (.tup xs.reverse))))
theorem pe_rev {e : Expr} {te : TE} {k : Nat} {p1 p2 p3 pos : Pos} (he : PE X e te) : PE X (.Subscript e (.Slice none none (some (.UnaryOp .USub (.Constant (.int 1) k p1) p2)) p3) pos) (tRev X.K te) := by
  refine ⟨fun pins s σ H Q I h => ?_⟩
  refine Subscript_ (thn (he.run pins s σ H _ I h) fun v s1 ⟨x, H1, I1, r1, q1⟩ => ?_)
  obtain ⟨a, xs, ex, q⟩ := q1
  subst ex
  cases r1
  have hst : PO X (some (.UnaryOp .USub (.Constant (.int 1) k p1) p2)) (tPart (tUn (rU fun i => .int (-i)) (tC (.int 1)))) := po_some (pe_un un_neg pe_int)
  refine wpAny_Slice (thn (po_none.run pins s1 σ H1 (fun o H2 => o = none ∧ H2 = H1) I1 ⟨rfl, rfl⟩) fun vl s2 ⟨l, H2, I2, pl, el, e2⟩ => ?_)
  subst el e2
  refine thn (po_none.run pins s2 σ H2 (fun o H3 => o = none ∧ H3 = H2) I2 ⟨rfl, rfl⟩) fun vu s3 ⟨u, H3, I3, pu, eu, e3⟩ => ?_
  subst eu e3
  refine thn (hst.run pins s3 σ H3 (fun o H4 => o = some (-1) ∧ H4 = H3) I3 ⟨1, rfl, -1, rfl, rfl, rfl⟩) fun vs s4 ⟨o, H4, I4, ps, eo, e4⟩ => ?_
  subst eo e4
  have I5 : Inv X pins σ H4 { s4 with heap := s4.heap.push { cls := .type "slice", data := .fields #[vl, vu, vs] } } := I4.kept (t' := s4.toks) fun b ob q => Heap.get?_push_of_some _ q
  show wpAny (model X.prog X.w) X.A (subscriptTail e (.Slice none none (some (.UnaryOp .USub (.Constant (.int 1) k p1) p2)) p3) (.ref a) (.ref s4.heap.objs.size)) (EP X pins σ Q) X.xe { s4 with heap := s4.heap.push { cls := .type "slice", data := .fields #[vl, vu, vs] } }
  rcases q with ⟨hx, q⟩ | ⟨hx, q⟩
  · obtain ⟨its, r, ht, hz⟩ := I5.list hx
    have hlen := r.length
    refine tail_any (ops := [.ref a, .ref s4.heap.objs.size]) ht.isList.typeIs (PySem.slot_list_getitem.lookup) ?_ (by with_unfolding_all rfl)
    refine wpAny_getItem_list_slice ht.isList (Heap.IsSliceOf.new _ vl vu vs) pl pu ps (by decide) ?_ (by rw [List.size_toArray]; omega)
    rw [PySem.W.krv_pick]
    refine ⟨.ref _, _, I5.laid (t' := s4.toks) (o := .lst xs.reverse) (fun b ob q => Heap.get?_push_of_some _ q) (Nat.le_refl _) ?_, rfl, q _ (I5.hok.fresh (Nat.le_refl _))⟩
    exact ⟨by rw [List.length_reverse]; exact hz, _, 0, r.reverse, Heap.get?_push_size _ rfl⟩
  · obtain ⟨its, r, ht, hz⟩ := I5.tuple hx
    have hlen := r.length
    cases pl
    cases pu
    refine tail_any (ops := [.ref a, .ref s4.heap.objs.size]) ht.typeIs (PyProof.Rows.slot_tuple_getitem.lookup) ?_ (by with_unfolding_all rfl)
    refine getItem_tuple_rev ht (Heap.IsSliceOf.new _ _ _ vs) ps ?_ (by rw [List.size_toArray]; omega)
    refine ⟨.ref _, _, I5.laid (t' := s4.toks) (o := .tup xs.reverse) (fun b ob q => Heap.get?_push_of_some _ q) (Nat.le_refl _) ?_, rfl, q _ (I5.hok.fresh (Nat.le_refl _))⟩
    exact ⟨by rw [List.length_reverse]; exact hz, _, r.reverse, IsTup.new _ _⟩
end
end BSR
namespace BS
open PySem PySem.Spec PyProof.Rows L2
theorem RVs.rev {K : PySem.W.Frag} {H : Hp} {μ : List Addr} : ∀ {xs : List V} {ds : List D}, RVs K H μ xs ds → RVs K H μ xs.reverse ds.reverse
  | _, _, .nil => .nil
  | _, _, .cons r t => by
    rw [List.reverse_cons, List.reverse_cons]
    exact (RVs.rev t).append (.cons r .nil)
section
variable {nm : Nms} {X : Cx} {e : Expr} {me : EM} {pos p1 p2 p3 : Pos} {k : Nat}
def slRev (new : Bool) (S : Store) (x : D) : R D := match x with
  | .tup ds => .ok (.tup ds.reverse) S
  | _ => match lstOf S x with
    | some ds => fin new ds.reverse S
    | none => .stuck
def mRev (new : Bool) (a : EM) : EM := fun e S => (a e S).bind fun x S => slRev new S x
theorem me_rev (new : Bool) (he : ME nm X e me) : ME nm X (.Subscript e (.Slice none none (some (.UnaryOp .USub (.Constant (.int 1) k p1) p2)) p3) pos) (mRev new me) := by
  refine ⟨fun W tk => (BSR.pe_rev (he.run W tk)).imp fun σ H Q h => ?_⟩
  obtain ⟨e, S, μ, E, s, p⟩ := h
  refine ⟨e, S, μ, E, s, (Post.bind p).mono fun d S1 μ1 H1 x1 s1 p1 v rv => ?_⟩
  unfold slRev at p1
  split at p1
  · cases rv with | tup t r =>
    exact ⟨_, _, rfl, .inr ⟨t.sq, fun p np => tup_post s1 (RVs.rev r) np p1⟩⟩
  · split at p1
    · rename_i ds hds
      obtain ⟨a, xs, rfl, hs, r⟩ := lstOf_sq s1 rv hds
      exact ⟨a, xs, rfl, .inl ⟨hs, fun p np => fin_post s1 (RVs.rev r) np p1⟩⟩
    · exact False.elim p1
end
section
variable {nm : Nms} {X : Cx}
def fnGet1 : FM := fun ds S => match ds with
  | [x, k] => match dctOf S x with
    | some kvs => match keyOf k with
      | some key => .ok ((getK kvs key).getD .non) S
      | none => .stuck
    | none => .stuck
  | _ => .stuck
theorem t_get1 {k : Nat} (hr : L2H.RoomH k X.A) : MtD nm X "dict.get" fnGet1 := by
  intro pins s σ H x xs v us Q I rx r h
  obtain ⟨ds, S, μ, E, rv, sm, p⟩ := h
  unfold fnGet1 at p
  split at p
  · rename_i dx dk
    split at p
    · rename_i kvs hk
      split at p
      · rename_i key hkey
        obtain ⟨r1, rt⟩ := rvs_cons rv
        obtain ⟨y, rfl, r2⟩ := one_rv rt
        obtain ⟨n, a, ys, rfl, rfl, _, _, e1, rk⟩ := dctOf_at sm r1 hk
        have ek := keyOf_kV r2 hkey
        subst ek
        cases rx
        obtain ⟨u, rfl, ru⟩ := vals1 r
        refine d_get1 (by have := hr.un; omega) I (DGet.k e1) ru fun w2 s' I' rl => ⟨_, H, I', rl, ?_⟩
        rcases getK_val key rk with ⟨h1, h2⟩ | ⟨w3, d', h1, h2, h3⟩
        · rw [h1]; rw [h2] at p; exact p μ H .refl sm _ .non
        · rw [h1]; rw [h2] at p; exact p μ H .refl sm _ h3
      · exact False.elim p
    · exact False.elim p
  · exact False.elim p
end
end BS
namespace BS
open PySem PySem.Spec PyProof.Rows L2
section
variable {nm : Nms} {X : Cx}
theorem three_rv {K : PySem.W.Frag} {H : Hp} {μ : List Addr} {xs : List V} {d d' d'' : D} (r : RVs K H μ xs [d, d', d'']) : ∃ v w z, xs = [v, w, z] ∧ RV K H μ v d ∧ RV K H μ w d' ∧ RV K H μ z d'' := by
  cases r with | cons r t => obtain ⟨w, z, rfl, r', r''⟩ := two_rv t; exact ⟨_, _, _, rfl, r, r', r''⟩
def fnFind1 : FM := fun ds S => match ds with
  | [.str a, .str b] => .ok (.int (Txt.find a b)) S
  | _ => .stuck
theorem t_find1 : MtD nm X "str.find" fnFind1 := by
  intro pins s σ H x xs v us Q I rx r h
  obtain ⟨ds, S, μ, E, rv, sm, p⟩ := h
  unfold fnFind1 at p
  split at p
  · obtain ⟨w, z, e, r1, r2⟩ := two_rv rv
    cases r1; cases r2; cases e
    exact mt_find pins s σ H _ _ v us Q I rx r ⟨_, _, rfl, rfl, p μ H .refl sm _ (.int _)⟩
  · exact False.elim p
def fnFind2 : FM := fun ds S => match ds with
  | [.str a, .str b, .int i] => .ok (.int (Txt.find3 a b i)) S
  | _ => .stuck
theorem t_find2 : MtD nm X "str.find" fnFind2 := by
  intro pins s σ H x xs v us Q I rx r h
  obtain ⟨ds, S, μ, E, rv, sm, p⟩ := h
  unfold fnFind2 at p
  split at p
  · obtain ⟨w, z, u, e, r1, r2, r3⟩ := three_rv rv
    cases r1; cases r2; cases r3; cases e
    exact mt_find3 pins s σ H _ _ v us Q I rx r ⟨_, _, _, rfl, rfl, p μ H .refl sm _ (.int _)⟩
  · exact False.elim p
def fnStartswith : FM := fun ds S => match ds with
  | [.str a, .str b] => .ok (.bl (Txt.startswith a b)) S
  | _ => .stuck
theorem t_startswith : MtD nm X "str.startswith" fnStartswith := by
  intro pins s σ H x xs v us Q I rx r h
  obtain ⟨ds, S, μ, E, rv, sm, p⟩ := h
  unfold fnStartswith at p
  split at p
  · obtain ⟨w, z, e, r1, r2⟩ := two_rv rv
    cases r1; cases r2; cases e
    exact mt_startswith pins s σ H _ _ v us Q I rx r ⟨_, _, rfl, rfl, p μ H .refl sm _ (.bl _)⟩
  · exact False.elim p
def txtsOf : List D → Option (List Str)
  | [] => some []
  | .str a :: r => (txtsOf r).map (a :: ·)
  | _ :: _ => none
theorem txtsOf_rv {K : PySem.W.Frag} {H : Hp} {μ : List Addr} : ∀ {ds : List D} {xs : List V} {ys : List Str}, RVs K H μ xs ds → txtsOf ds = some ys → xs = ys.map V.str
  | [], _, ys, .nil, h => by cases h; rfl
  | d :: ds, _, ys, .cons r t, h => by
    cases d with
    | str a =>
      obtain ⟨zs, e, rfl⟩ := Option.map_eq_some_iff.mp (show (txtsOf ds).map (a :: ·) = some ys from h)
      cases r
      rw [txtsOf_rv t e]
      rfl
    | _ => cases h
def fnJoin : FM := fun ds S => match ds with
  | [.str a, d] => match seqOf S d with
    | some ds => match txtsOf ds with
      | some ys => if (ys.map (·.length)).sum + ys.length * a.length ≤ 16777216 then .ok (.str (Str.join a ys)) S else .stuck
      | none => .stuck
    | none => .stuck
  | _ => .stuck
theorem t_join : MtD nm X "str.join" fnJoin := by
  intro pins s σ H x xs v us Q I rx r h
  obtain ⟨ds, S, μ, E, rv, sm, p⟩ := h
  unfold fnJoin at p
  split at p
  · obtain ⟨w, z, e, r1, r2⟩ := two_rv rv
    cases r1; cases e
    split at p
    · rename_i ds hds
      obtain ⟨l, zs, rfl, hs, r3⟩ := seqOf_sq sm r2 hds
      split at p
      · rename_i ys hy
        split at p
        · rename_i hz
          rw [txtsOf_rv r3 hy] at hs
          refine mt_join pins s σ H _ _ v us Q I rx r ⟨_, _, ys, rfl, rfl, hs, hz, ?_⟩
          rw [TL.join_eq]
          exact p μ H .refl sm _ (.str _)
        · exact False.elim p
      · exact False.elim p
    · exact False.elim p
  · exact False.elim p
/-- e.replace of two written texts -/
def mRepl (y z : Str) (mo : EM) : EM := fun e S => (mo e S).bind fun d S => match d with
  | .str x => if x.length + (x.length + 1) * z.length ≤ 16777216 then .ok (.str (Txt.replace x y z)) S else .stuck
  | _ => .stuck
/-- a written text, + e.replace of two written texts -/
theorem me_catRepl {o : Expr} {mo : EM} {c y z : Str} {j j1 j2 : Nat} {p0 c0 c1 apos pos p1 : Pos} (ho : ME nm X o mo) (hyz : (y == z) = false := by decide +kernel)
    (hst : starEach [.Constant (.str y) j1 c0, .Constant (.str z) j2 c1] X.env = [(false, eval (.Constant (.str y) j1 c0) X.env), (false, eval (.Constant (.str z) j2 c1) X.env)] := by rfl)
    (hbase : attributeBase o "replace" X.env (eval o X.env) = eval o X.env := by rfl) (hline : (apos.endLine == pos.line) = true := by rfl) :
    ME nm X (.BinOp (.Constant (.str c) j p0) .Add (.Call (.Attribute o "replace" apos) [.Constant (.str y) j1 c0, .Constant (.str z) j2 c1] [] pos) p1) (mBin fAdd (mC (.str c)) (mRepl y z mo)) := by
  refine ⟨fun W tk => ⟨fun pins s σ H Q I h => ?_⟩⟩
  obtain ⟨e, S, μ, E, sm, p⟩ := bin_rd h
  have q := p μ H .refl sm (.str c) (.str c)
  refine wpAny_BinOp (Calls.Constant_str ?_)
  refine thn (CwR.pet_replC (ho.run W tk) hyz hst hbase hline pins { s with toks := s.toks + 1 } σ H (fun y2 H2 => rOpD nm X fAdd (.str c) y2 H2 Q) (by show 1 ≤ s.toks + 1; omega) (I.tok _) ?_) fun u s2 ⟨y2, H2, I2, r2, q2⟩ => o_add pins s2 σ H2 (.str c) y2 _ u Q I2 ⟨_, rfl⟩ r2 q2
  obtain ⟨e2, S2, μ2, E2, sm2, p2⟩ := q
  refine ⟨e2, S2, μ2, E2, sm2, (Post.bind p2).mono fun d S3 μ3 H3 x3 s3 p3 v rv => ?_⟩
  split at p3
  · rename_i x
    split at p3
    · rename_i hz
      cases rv
      exact ⟨x, rfl, hz, p3 μ3 H3 .refl s3 _ (.str _)⟩
    · exact False.elim p3
  · exact False.elim p3
def mFmt (m : EM) : EM := fun e S => (m e S).bind fun d S => match d with
  | .str y => if y.length ≤ sizeLine then .ok (.str y) S else .stuck
  | .int i => if i.natAbs.log2 < 1920 then .ok (.str (Str.ofString (toString i))) S else .stuck
  | _ => .stuck
theorem me_fmt {e : Expr} {m : EM} {pos : Pos} (h : ME nm X e m) : ME nm X (.FormattedValue e (-1) none pos) (mFmt m) := by
  refine ⟨fun W tk => (pe_fmt (h.run W tk)).imp fun σ H Q h => ?_⟩
  obtain ⟨e, S, μ, E, sm, p⟩ := h
  refine ⟨e, S, μ, E, sm, (Post.bind p).mono fun d S3 μ3 H3 x3 s3 p3 v rv => ?_⟩
  split at p3
  · split at p3
    · rename_i hz; cases rv; exact .inl ⟨_, rfl, hz, p3 μ3 H3 .refl s3 _ (.str _)⟩
    · exact False.elim p3
  · split at p3
    · rename_i hz; cases rv; exact .inr ⟨_, rfl, hz, p3 μ3 H3 .refl s3 _ (.str _)⟩
    · exact False.elim p3
  · exact False.elim p3
abbrev JM := Str → Ev → Store → R D
def mjNil : JM := fun acc _ S => .ok (.str acc) S
def mjCons (m : EM) (r : JM) : JM := fun acc e S => (m e S).bind fun d S => match d with
  | .str y => if (acc ++ y).length ≤ sizeLine then r (acc ++ y) e S else .stuck
  | _ => .stuck
structure MJ (nm : Nms) (X : Cx) (es : List Expr) (m : JM) : Prop where
  run : ∀ W, Takes X W → ∃ ts, PJ X es ts ∧ ∀ acc σ H Q, rdE nm X W (m acc) σ H Q → tJs ts acc σ H (fun out H1 => Q (.str out) H1)
theorem mj_nil : MJ nm X [] mjNil := ⟨fun W tk => ⟨[], .nil, fun acc σ H Q h => by
  obtain ⟨e, S, μ, E, sm, p⟩ := h
  exact p μ H .refl sm _ (.str _)⟩⟩
theorem mj_cons {e : Expr} {es : List Expr} {m : EM} {r : JM} (h : ME nm X e m) (hr : MJ nm X es r) : MJ nm X (e :: es) (mjCons m r) := ⟨fun W tk => by
  obtain ⟨ts, h1, h2⟩ := hr.run W tk
  refine ⟨_, .cons (h.run W tk) h1, fun acc σ H Q h => ?_⟩
  obtain ⟨e, S, μ, E, sm, p⟩ := h
  refine ⟨e, S, μ, E, sm, (Post.bind p).mono fun d S3 μ3 H3 x3 s3 p3 v rv => ?_⟩
  split at p3
  · rename_i y
    split at p3
    · rename_i hz
      cases rv
      exact ⟨y, rfl, hz, h2 _ σ H3 Q ⟨e, S3, μ3, E.ext x3, s3, p3⟩⟩
    · exact False.elim p3
  · exact False.elim p3⟩
def mJoined (m : JM) : EM := fun e S => m Str.empty e S
theorem me_joined {v1 v2 : Expr} {rest : List Expr} {m : JM} {pos : Pos} (h : MJ nm X (v1 :: v2 :: rest) m) : ME nm X (.JoinedStr (v1 :: v2 :: rest) pos) (mJoined m) := ⟨fun W tk => by
  obtain ⟨ts, h1, h2⟩ := h.run W tk
  exact (pe_joined h1).imp fun σ H Q h => h2 _ σ H Q h⟩
end
end BS
namespace BS
open PySem PySem.Spec PyProof.Rows L2
structure FnS (P : Program) (w : World) (K : PySem.W.Frag) (mg : Str → Option Value) (base : Heap) (CX : CXT) (k : Nat) (f : Addr) (fd : FuncData) (ps : List Str) (sp : Sp) : Prop where
  len : ∀ vs H Q E, sp vs H Q E → vs.length = ps.length
  run : ∀ (A : Around) (outer : List Env) (s : Shared) (H : Hp) (args : Args) (us : List Value) (vs : List V) (Q : VK) (E : XK), L2H.RoomH k A → Env0 P w K mg base A outer s H → BindsTo s fd args (ps.zip us) → Vals vs us → sp vs H Q E →
    codeAny (model P w) A (.call (.ref f) args) (CR CX outer P w H s Q E) s
def cxS (CX : CXT) (P : Program) (w : World) (K : PySem.W.Frag) (mg : Str → Option Value) (base : Heap) (N : List Str) (qual : Str) (scope : Scope) (f : Addr) (cd : Value) (A : Around) (outer : List Env) (s : Shared) (H : Hp) (E : XK) : Cx :=
  { cxOf CX P w K mg base N qual scope f cd A outer s H E with calm := false }
theorem inv_startS {CX : CXT} {P : Program} {w : World} {K : PySem.W.Frag} {mg : Str → Option Value} {base : Heap} {N ps : List Str} {qual : Str} {scope : Scope} {f : Addr} {cd : Value} {A : Around} {outer : List Env} {s s1 : Shared} {H : Hp} {E : XK} {us : List Value} {vs : List V}
    (S : FnScope N ps scope) (e0 : Env0 P w K mg base A outer s H) (hl : vs.length = ps.length) (r : Vals vs us)
    (x : InCallC s s.heap.objs.size (bindL (envOfC qual scope s.heap.objs.size f cd).kindOf (ps.zip us) fun _ => none) (cellsFrom (s.heap.objs.size + 1) scope.names []) (bindC (envOfC qual scope s.heap.objs.size f cd).kindOf (ps.zip us) fun _ => none) s1) :
    Inv (cxS CX P w K mg base N qual scope f cd A outer s H E) [] (L2.start N vs) H s1 := by
  have hpl : ps.length ≤ N.length := by have := congrArg List.length S.pre; rw [List.length_take] at this; omega
  obtain ⟨h1, tk, rfl, hk⟩ := x.done
  have noA : ∀ b : Addr, b ∉ (cxS CX P w K mg base N qual scope f cd A outer s H E).ex := fun b z => absurd (show b ∈ ([] : List Addr) from z) (by simp)
  refine ⟨⟨e0.mod, S.kind, rfl, rfl, Nat.le_refl _, fun y z c h1 h2 => ?_, fun y hy => ?_, fun y c _ h => ?_, (fun z => Bool.noConfusion (show false = true from z)), Around.frames_deeper e0.frames, .inr ⟨rfl, rfl⟩, fun b z => absurd z (noA b), e0.bs, e0.bsz, fun b _ _ => noA b, fun b z => absurd z (noA b), e0.funs, e0.frf⟩,
    rfl, e0.bare, Un.kept hk, ⟨_, x.toInCall.ns, fun i y v h1 h2 h3 => ?_⟩, fun y c h => ⟨_, x.cell y c h⟩, e0.hok.fresh (Nat.le_refl _), fun y c h => ?_, fun p hp => absurd (show p ∈ ([] : List (Addr × Obj)) from hp) (by simp), e0.hok.kept hk, ?_⟩
  · exact name_of_addr x.apart (PySem.mem_of_lookup h1) (PySem.mem_of_lookup h2)
  · have hy : scope.names.lookup y = some .cell ∨ scope.names.lookup y = some .free := hy
    rcases hy with hy | hy
    · exact cell_has hy
    · exact absurd rfl (S.nofree _ (PySem.mem_of_lookup hy))
  · exact Nat.le_of_lt (x.above y c (PySem.mem_of_lookup h))
  · have hi : i < vs.length := by
      unfold L2.start at h2
      by_cases hi : i < vs.length
      · exact hi
      · rw [List.getElem?_append_right (by simpa using hi)] at h2
        rw [List.getElem?_replicate] at h2
        split at h2 <;> cases h2
    have ha : vs[i]? = some v := by
      unfold L2.start at h2
      rw [List.getElem?_append_left (by simpa using hi), List.getElem?_map] at h2
      cases e : vs[i]? with
      | none => rw [e] at h2; cases h2
      | some a => rw [e] at h2; cases h2; rfl
    obtain ⟨u, hu, rv⟩ := r.get ha
    have hp : ps[i]? = some y := by
      rw [← S.pre, List.getElem?_take_of_lt (by omega)]; exact h1
    have ndP : ps.Nodup := by rw [← S.pre]; exact S.nd.sublist (List.take_sublist _ _)
    refine ⟨u, rv, ?_⟩
    rcases S.par y (List.mem_of_getElem? hp) with k | k
    · exact .inl ⟨k, bindL_get ndP hp hu k⟩
    · obtain ⟨c, e⟩ := cell_has (n := s.heap.objs.size + 1) k
      refine .inr ⟨.inl k, c, e, ?_⟩
      have q := x.cell y c e
      rw [bindC_get ndP hp hu (by show scope.names.lookup y ≠ _; rw [k]; decide)] at q
      exact q
  · exact e0.hok.fresh (Nat.le_of_lt (x.above y c (PySem.mem_of_lookup h)))
  · unfold L2.start
    show _ = N.length
    rw [List.length_append, List.length_map, List.length_replicate]
    omega
theorem fn_ofS {CX : CXT} {P : Program} {w : World} {K : PySem.W.Frag} {mg : Str → Option Value} {base : Heap} {k : Nat} {f : Addr} {name qual : Str} {params : Arguments} {body : List Stmt} {scope : Scope} {dV kV doc pm cdv ct oc : Value} {an od : Option Addr}
    {osl : Array (Option Value)} {N ps : List Str} {sp : Sp} (lk : K.lookup f = some ⟨oc, od, .func (PySem.W.fnOf name qual params body scope dV kV doc pm an cdv ct), osl⟩) (hcd : PySem.W.codeIn K cdv qual = true) (S : FnScope N ps scope)
    (len : ∀ vs H Q E, sp vs H Q E → vs.length = ps.length)
    (hbody : ∀ (A : Around) (outer : List Env) (s : Shared) (H : Hp) (vs : List V) (Q : VK) (E : XK), L2H.RoomH k (A.deeper (envOfC qual scope s.heap.objs.size f cdv)) → sp vs H Q E →
      ∃ t, PSs (cxS CX P w K mg base N qual scope f cdv A outer s H E) body t ∧ t { nx := fun _ H' => Q .non H', rt := Q } (L2.start N vs) H) :
    FnS P w K mg base CX (k + 1) f (PySem.W.fnOf name qual params body scope dV kV doc pm an cdv ct) ps sp := by
  refine ⟨len, fun A outer s H args us vs Q E hr e0 hb r hsp => ?_⟩
  have hl := len _ _ _ _ hsp
  have KX : K.In s.heap := e0.mod.kin.keeps fun b o e => (e0.bs b o e).1
  have lim : s.heap.NoLimit := e0.mod.nolimit.keeps fun b o e => (e0.bs b o e).1
  have hkind : ∀ y ∈ ps.zip us, scope.names.lookup y.1 = some .local ∨ (scope.names.lookup y.1 = some .cell ∧ ((cellsFrom (s.heap.objs.size + 1) scope.names []).lookup y.1).isSome = true) := fun ⟨n, v⟩ hy => by
    rcases S.par n (List.of_mem_zip hy).1 with q | q
    · exact .inl q
    · exact .inr ⟨q, PySem.W.cellsFrom_some _ _ _ (.inl q)⟩
  refine codeAny_call_function hr.depth (KX _ _ lk) rfl S.co S.gen rfl (PySem.W.codeRec_of KX hcd) (hb _ _ _ _ ?_)
  refine wpAny_newFunctionEnv_cells S.kind hkind fun env he s1 x => ?_
  subst he
  refine ⟨lim.keeps x.toInCall.keep, codeAny_func ?_⟩
  obtain ⟨t, ht, hq⟩ := hbody A outer s H vs Q E (hr.deeper _) hsp
  have I : Inv (cxS CX P w K mg base N qual scope f cdv A outer s H E) [] (L2.start N vs) H s1 := inv_startS S e0 hl r x
  refine wpAny_mono (ht.run [] s1 (L2.start N vs) H _ I hq) (fun fl s' hs => ?_) fun e s' hs => hs
  have fin : ∀ {σ' : St} {H' : Hp} {v : V} {u : Value}, Inv (cxS CX P w K mg base N qual scope f cdv A outer s H E) [] σ' H' s' → RelV v u → Q v H' → CE outer P w H s Q u s' :=
    fun {σ' H' v u} J rv q => ⟨v, H', J.os, J.bare, J.base, J.hok, rv, q⟩
  cases fl with
  | ret u =>
    obtain ⟨v, σ', H', J, rv, q⟩ := hs
    exact fin J rv q
  | next =>
    obtain ⟨σ', H', J, q⟩ := hs
    exact fin (v := V.non) (u := Value.none) J rfl q
  | brk =>
    obtain ⟨_, _, _, q⟩ := hs
    exact False.elim q
  | cont =>
    obtain ⟨_, _, _, q⟩ := hs
    exact False.elim q
theorem den_okS {nm : Nms} {P : Program} {w : World} {K : PySem.W.Frag} {mg : Str → Option Value} {base : Heap} {x qual : Str} {st : Stmt} {f : Addr} {fd : FuncData} {N ps : List Str} {k : Nat} {m : SM} (F : Fun K x qual st f fd) (S : FnScope N ps (defScope st))
    (hb : ∀ (cdv : Value) (A : Around) (outer : List Env) (s : Shared) (H : Hp) (E : XK), L2H.RoomH k (A.deeper (envOfC qual (defScope st) s.heap.objs.size f cdv)) → MB nm (cxS (L2.CX P w) P w K mg base N qual (defScope st) f cdv A outer s H E) (defBody st) m) {V : FM} {n : Nat} (hV : den N.length m = V) (hn : ps.length = n) :
    FnS P w K mg base (L2.CX P w) (k + 1) f fd ps (spD nm K mg n V) := by
  subst hV hn
  obtain ⟨oc, od, kV, doc, pm, an, cdv, ct, osl, rfl, lk, hcd⟩ := F.ex
  refine fn_ofS lk hcd S (fun vs H Q E h => ?_) fun A outer s H vs Q E hr h => ?_
  · obtain ⟨ds, S, μ, r, hl, _⟩ := h
    rw [r.length, hl]
  · obtain ⟨ds, S', μ, r, hl, sm, p⟩ := h
    refine ⟨_, (hb cdv A outer s H E hr).run (fun cls d _ H => E cls d H) (takes_of rfl rfl rfl rfl), ⟨ds.map some ++ List.replicate (N.length - ds.length) none, []⟩, S', μ, evr_start r ?_, sm, ?_⟩
    · have := congrArg List.length S.pre
      rw [List.length_take] at this
      omega
    · unfold den at p
      cases hr : m ⟨ds.map some ++ List.replicate (N.length - ds.length) none, []⟩ S' with
      | nx e S2 => rw [hr] at p; exact fun σ' μ' H' x s _ => p μ' H' x s _ .non
      | bk e S2 => rw [hr] at p; exact False.elim p
      | ct e S2 => rw [hr] at p; exact False.elim p
      | rt d S2 => rw [hr] at p; exact fun v μ' H' x s r => p μ' H' x s v r
      | exc c fs e S2 => rw [hr] at p; exact fun σ' μ' H' C d x s _ a => p μ' H' C d x s a
      | stuck => rw [hr] at p; exact False.elim p
section
variable (P : Program) (w : World) (K : PySem.W.Frag) (mg : Str → Option Value) (base : Heap) (nm : Nms)
def MethOkS (k : Nat) (c : Nat) (m : Str) (n : Nat) (F : FM) : Prop :=
  ∃ C f fd ps, mg (nm.cls c) = some (.ref C) ∧ Cls K C ∧ Meth K C m f ∧ ps.length = n ∧ Binds K fd ps [] ∧ FnS P w K mg base (L2.CX P w) k f fd ps (spD nm K mg n F) ∧ ∀ i, i < nm.most → nm.fld i ≠ m
end
section
variable {nm : Nms} {X : Cx} {pins : List (Addr × Obj)} {σ : St} {H : Hp} {s : Shared} {W : WX} {k n : Nat} {x m : Str} {F : FM} {vs : List V} {us : List Value} {ds : List D} {S : Store} {μ : List Addr} {Q : VK} {p apos pos : Pos}
theorem run_spDS {f : Addr} {fd : FuncData} {ps : List Str} (F' : FnS X.prog X.w X.K X.mg X.base (L2.CX X.prog X.w) k f fd ps (spD nm X.K X.mg n F)) (hb : Binds X.K fd ps []) (hr : L2H.RoomH k X.A) (tk : Takes X W) (I : Inv X pins σ H s) (r : Vals vs us) (rv : RVs X.K H μ vs ds) (hl : ds.length = n)
    (sm : Sim nm X.K X.mg μ S H) (q : PostX nm X W μ H σ (F ds S) fun d _ μ' H' => ∀ v, RV X.K H' μ' v d → Q v H') : wpAny (model X.prog X.w) X.A (call (.ref f) us) (EP X pins σ Q) X.xe s := by
  have h : spD nm X.K X.mg n F vs H Q (WE W σ) := ⟨ds, S, μ, rv, hl, sm, q⟩
  have hl : us.length = ps.length := by rw [← r.length]; exact F'.len _ _ _ _ h
  have b := hb s us I.kIn (by rw [List.append_nil]; exact hl)
  rw [List.append_nil] at b
  refine wpAny_call (codeAny_mono (F'.run X.A X.stack s H ⟨us, []⟩ us vs Q (WE W σ) hr I.env0 b r h) fun r s' hq => ?_)
  cases r with
  | error e => exact passAt tk σ pins H s e s' I hq
  | ok fl =>
    cases fl with
    | ret u => exact I.after hq
    | next => exact False.elim hq
    | brk => exact False.elim hq
    | cont => exact False.elim hq
theorem me_methS {c : Nat} {o e : Expr} {es : List Expr} {mo : EM} {ma : AM} {pl : Sem Bool} (h : MethOkS X.prog X.w X.K X.mg X.base nm k c m n F) (hr : L2H.RoomH k X.A) (ho : ME nm X o mo) (ha : MA nm X (e :: es) ma) (hn : (e :: es).length + 1 = n := by rfl)
    (hst : starEach (e :: es) X.env = (false, eval e X.env) :: starEach es X.env := by rfl) (hpl : (backTo pos (starEach es X.env)).any (·.1) = false := by rfl)
    (ht : eval (.Call (.Attribute o m apos) (e :: es) [] pos) X.env = (do
      let ov ← eval o X.env
      standAt apos.atName
      let (f, first) ← holding [ov] (getMethod ov m pl)
      callWith pos f first (backTo pos (starEach (e :: es) X.env)) (backToKw pos (keywordEach [] X.env))) := by rfl) : ME nm X (.Call (.Attribute o m apos) (e :: es) [] pos) (mMeth c F mo ma) := by
  obtain ⟨C, f, fd, ps, g1, g2, g3, g4, g5, g6, g7⟩ := h
  refine ⟨fun W tk => ⟨fun pins s σ H Q I hh => ?_⟩⟩
  obtain ⟨ev, S, μ, E, sm, q⟩ := hh
  refine PySem.W.methodCall_KW (pl := pl) (thn ((ho.run W tk).run pins s σ H (fun x H1 => ∃ S1 μ1 d, EvR nm X H1 μ1 ev σ ∧ Sim nm X.K X.mg μ1 S1 H1 ∧ RV X.K H1 μ1 x d ∧ isIns c S1 d = true ∧ PostX nm X W μ1 H1 σ ((ma ev S1).bind fun ds S => F (d :: ds) S) fun d _ μ' H' => ∀ v, RV X.K H' μ' v d → Q v H') I
    ⟨ev, S, μ, E, sm, (Post.bind q).mono fun d S1 μ1 H1 x1 s1 q1 v rv => ?_⟩) fun u s1 ⟨x, H1, I1, rx, S1, μ1, d, E1, sm1, rd, hi, q1⟩ => ?_) ht
  · split at q1
    · rename_i hi; exact ⟨S1, μ1, d, E.ext x1, s1, rv, hi, q1⟩
    · exact False.elim q1
  · obtain ⟨a, dx, gs, rfl, ea, l⟩ := ins_meth g1 g7 sm1 rd hi
    obtain rfl : u = Value.ref a := rx
    refine getmeth_ok I1 ea g2 g3 l ?_
    refine PySem.W.callWith_K (first := [.ref a]) (h₀ := X.base) I1.ok.mod.kin g3.kp (thn ((ha.run W tk).run pos pins s1 σ H1 (fun vs H2 => ∃ ds S2 μ2, RVs X.K H2 μ2 (.ref a :: vs) (d :: ds) ∧ (d :: ds).length = n ∧ Sim nm X.K X.mg μ2 S2 H2 ∧ PostX nm X W μ2 H2 σ (F (d :: ds) S2) fun d _ μ' H' => ∀ v, RV X.K H' μ' v d → Q v H') I1
      ⟨ev, S1, μ1, E1, sm1, (post_len ha (Post.bind q1)).mono fun ds S2 μ2 H2 x2 s2 q2 vs rvs => ⟨ds, S2, μ2, .cons (rd.ext x2) rvs, by rw [List.length_cons, q2.1, hn], s2, q2.2⟩⟩) fun us s2 ⟨vs, H2, I2, r, ds, S2, μ2, rvs, hl, sm2, q2⟩ => ⟨I2.kIn, ?_⟩) hst hpl
    exact run_spDS (us := .ref a :: us) (vs := .ref a :: vs) g6 g5 hr tk I2 (.cons rfl r) rvs hl sm2 q2
theorem methS_mk {K : PySem.W.Frag} {P : Program} {w : World} {mg : Str → Option Value} {base : Heap} {c : Nat} {C f : Addr} {cx : Str} {fd : FuncData} {ps : List Str} (hx : nm.cls c = cx) (g : mg cx = some (.ref C)) (kc : Cls K C) (a : PySem.W.findIn K (.ref C) m = some (some (.ref f))) (i : PySem.W.isFn K (.ref f) = true) (kp : PySem.W.keepIn K (.ref f) = true)
    (hps : ps.length = n) (b : Binds K fd ps []) (o : FnS P w K mg base (L2.CX P w) k f fd ps (spD nm K mg n F)) (nf : noFld nm m = true) : MethOkS P w K mg base nm k c m n F :=
  ⟨C, f, fd, ps, by rw [hx]; exact g, kc, ⟨a, i, kp⟩, hps, b, o, noFld_of nf⟩
end
/-- what the clauses wish of an exception of the body, one after the other; with a name: slot i is its -/
def wManyN (K : PySem.W.Frag) (Wout : WX) (D : Ends) : List (Value × Option Nat × (Addr → Value → Option Addr → TS)) → WX
  | [] => Wout
  | (c, none, ts) :: r => fun cls d σ H => ∃ b, PySem.W.exmOne K cls c = some b ∧ (b = true → ∀ a, H a = none → ts a cls d D σ H) ∧ (b = false → wManyN K Wout D r cls d σ H)
  | (c, some i, ts) :: r => fun cls d σ H => ∃ b, PySem.W.exmOne K cls c = some b ∧ (b = true → ∀ a, H a = none → ts a cls d { nx := fun σ' H' => D.nx (σ'.set i none) H', rt := D.rt, bk := fun σ' H' => D.bk (σ'.set i none) H', ct := fun σ' H' => D.ct (σ'.set i none) H' } (σ.set i (some (.ref a))) H) ∧
      (b = false → wManyN K Wout D r cls d σ H)
inductive HdsN (X : Cx) : List ExceptHandler → List (Value × Option Nat × (Addr → Value → Option Addr → TS)) → Prop
  | nil : HdsN X [] []
  | plain {x : Str} {c : Value} {ts : Addr → Value → Option Addr → TS} {b₀ : Stmt} {suite : List Stmt} {np pos' : Pos} {hds : List ExceptHandler} {l : List (Value × Option Nat × (Addr → Value → Option Addr → TS))} (hc : Names X x c)
      (hsu : ∀ (a : Addr) (oe : Obj) (cls : Value) (d : Option Addr) (pn : List (Addr × Obj)), Zc cls d oe → (∃ vs, oe.data = .fields vs) → PSs (X.suite a ((a, oe) :: pn)) (b₀ :: suite) (ts a cls d)) (r : HdsN X hds l) :
      HdsN X (.ExceptHandler (some (.Name x np)) none (b₀ :: suite) pos' :: hds) ((c, none, ts) :: l)
  | named {x n : Str} {i : Nat} {c : Value} {ts : Addr → Value → Option Addr → TS} {b₀ : Stmt} {suite : List Stmt} {np pos' : Pos} {hds : List ExceptHandler} {l : List (Value × Option Nat × (Addr → Value → Option Addr → TS))} (hi : X.N[i]? = some n) (hln : X.env.kindOf n = some .local) (hc : Names X x c)
      (hsu : ∀ (a : Addr) (oe : Obj) (cls : Value) (d : Option Addr) (pn : List (Addr × Obj)), Zc cls d oe → (∃ vs, oe.data = .fields vs) → PSs (X.suite a ((a, oe) :: pn)) (b₀ :: suite) (ts a cls d)) (r : HdsN X hds l) :
      HdsN X (.ExceptHandler (some (.Name x np)) (some n) (b₀ :: suite) pos' :: hds) ((c, some i, ts) :: l)
section
variable {X : Cx} {body : List Stmt} {h₀ : ExceptHandler} {hds : List ExceptHandler} {l : List (Value × Option Nat × (Addr → Value → Option Addr → TS))} {pos : Pos} {tb : WX → TS} {Wout : WX}
theorem ps_try_manyN (hs : X.stack = X.env :: X.outer) (hf : X.env.frame = some X.env.locals) (hN : X.N.Nodup) (tk : Takes X Wout)
    (hb : ∀ (W : WX) (pn : List (Addr × Obj)) (xe : Value → Shared → Prop), Takes (X.tr pn xe) W → PassesOwn (model X.prog X.w) X.A X.env xe → PSs (X.tr pn xe) body (tb W))
    (hh : HdsN X (h₀ :: hds) l) : PS X (.Try body (h₀ :: hds) [] [] pos) (fun D σ H => tb (wManyN X.K Wout D l) D σ H) := by
  refine ⟨fun pins s σ H D I h => ?_⟩
  have ok := I.ok
  have hfr : X.A.frames = some (X.env :: X.outer) := by rw [ok.frames, hs]
  refine wpAny_Try_except ?_
  refine wpAny_mono ((hb (wManyN X.K Wout D l) (X.pn ++ pins) (fun e s₁ => wpAny (model X.prog X.w) X.A (noteFrame e X.env) (fun _ s₂ => wpAny (model X.prog X.w) X.A (setFlight e none) (fun _ s₃ =>
    wpAny (model X.prog X.w) X.A (handleBy e X.env (h₀ :: hds)) (SP X pins D) X.xe s₃) X.xe s₂) X.xe s₁) (fun u s' xx => ?_) PassesOwn.looking).run [] s σ H D (I.toTry _) h) (fun f s1 hsp => ?_) (fun e s1 he => he)
  · -- the catch
    obtain ⟨a, B, sI, pins', σ', H', cls, d, rfl, J', nb, up, sky, na, os, ag, w⟩ := xx
    have J : Inv X pins σ' H' sI := J'.ofTry ok
    have sky' : Sky B (X.env :: X.outer) a (Zc cls d) X.env.locals s'.heap := by rw [← hs]; exact sky
    show wpAny (model X.prog X.w) X.A (noteFrame (.ref a) X.env) _ _ _
    refine Sky.land Zc.steady hfr hf sky' fun h3 fl3 up3 => ?_
    have J3 : Inv X pins σ' H' { s' with heap := h3 } := J.landed nb fl3.1 (up.trans up3) os ag
    obtain ⟨oe3, vs3, he3, hz3, hd3⟩ := fl3.there
    have notFr : ∀ {h : Heap} {o : Obj} {vs : Array Value}, h.FunFrames B (X.env :: X.outer) → h.get? a = some o → o.data = .fields vs → a ∉ frs (X.env :: X.outer) := fun {h o vs} ff e dd hm => by
      obtain ⟨_, o', e', hnf⟩ := ff.mem hm
      rw [e] at e'; cases e'
      exact hnf _ dd
    have nfr := notFr fl3.2.2.1 he3 hd3
    have nL : a ≠ X.env.locals := fun z => nfr (List.mem_filterMap.mpr ⟨X.env, List.mem_cons_self, by rw [hf, z]⟩)
    have nF : a ∉ X.fs := fun hm => by
      obtain ⟨e, he, q⟩ := List.mem_filterMap.mp hm
      exact nfr (List.mem_filterMap.mpr ⟨e, List.mem_cons_of_mem _ he, q⟩)
    have S3 := J3.suite he3 hd3 na nL nF
    have go : ∀ {hds' : List ExceptHandler} {l' : List (Value × Option Nat × (Addr → Value → Option Addr → TS))}, HdsN X hds' l' → wManyN X.K Wout D l' cls d σ' H' →
        wpAny (model X.prog X.w) X.A (handleBy (.ref a) X.env hds') (SP X pins D) X.xe { s' with heap := h3 } := by
      intro hds' l' hk
      induction hk with
      | nil =>
        intro w
        refine wpAny_handleBy_nil ?_
        obtain ⟨k1, k2, k3, oe, vs, T, oT, ts', he, hz, hd, h1, hr⟩ := id fl3
        unfold PySem.passOn
        refine wpAny_bind (wpAny_field he hd h1 ?_)
        rw [if_neg (show ¬ ((Value.ref T == Value.none) = true) from by simp)]
        have fin : wpAny (model X.prog X.w) X.A (setFlight (.ref a) X.env.frame) (fun _ s4 => wpAny (model X.prog X.w) X.A (throw (.ref a) : Sem Flow) (SP X pins D) X.xe s4) X.xe { s' with heap := h3 } := by
          rw [hf]
          refine HandSPX.setFlight_upZ fl3 fun h4 hh4 up4 => wpAny_throw (tk _ _ ?_)
          exact ⟨a, B, sI, pins, σ', H', cls, d, rfl, J, nb, (up.trans up3).trans up4, .inr (.inr (by rw [hs]; exact hh4)), na, os, ag, w⟩
        first
          | exact wpAny_bind (wpAny_pure (wpAny_bind fin))
          | exact wpAny_bind fin
      | @plain x c ts b₀ suite np pos' hds2 l2 hc hsu r ih =>
        intro w
        obtain ⟨b, hb1, hyes, hno⟩ := w
        refine wpAny_handleBy_cons (codeAny_handlers_test ?_) (by intro q; cases q)
        have LT : PySem.W.Looks (model X.prog X.w) h3 (typeOf (.ref a)) cls := fun A Q E s k q => wpAny_typeOf_ref (k _ _ he3) (by rw [hz3.1]; exact q)
        have LM := PySem.W.exm_one (M := model X.prog X.w) (J3.kIn) LT hb1
        have test : ∀ {Q : Value → Shared → Prop} {E : Value → Shared → Prop}, Q c { s' with heap := h3 } → wpAny (model X.prog X.w) (X.A.mark (some (.ref a))) (eval (.Name x np) X.env) Q E { s' with heap := h3 } := fun {Q E} q => by
          obtain ⟨hg, hdbg, hm | ⟨hm, hv, hnn⟩⟩ := hc
          · exact ld_glob (X := X.suite a ((a, oe3) :: (X.pn ++ pins))) S3 hg hm q hdbg
          · exact ld_blt (X := X.suite a ((a, oe3) :: (X.pn ++ pins))) S3 hg hm hv q hnn hdbg
        refine test (LM.here ?_)
        cases b with
        | true =>
          refine codeAny_handlers_suite ?_
          refine HandSPX.lands_againZ fl3 fun h4 fl4 up4 => ?_
          have J4 : Inv X pins σ' H' { s' with heap := h4 } := J.landed nb fl4.1 ((up.trans up3).trans up4) os ag
          obtain ⟨oe4, vs4, he4, hz4, hd4⟩ := fl4.there
          have S4 := J4.suite he4 hd4 na nL nF
          refine wpAny_mono ((hsu a oe4 cls d (X.pn ++ pins) hz4 ⟨_, hd4⟩).run [] _ _ H' _ S4 (hyes rfl a na)) (fun f s6 hsp => ?_) (fun _ _ z => False.elim z)
          cases f with
          | next =>
            obtain ⟨σ6, H6, S6, q6⟩ := hsp
            exact ⟨_, _, S6.unsuite ok, q6⟩
          | brk =>
            obtain ⟨σ6, H6, S6, q6⟩ := hsp
            exact ⟨_, _, S6.unsuite ok, q6⟩
          | cont =>
            obtain ⟨σ6, H6, S6, q6⟩ := hsp
            exact ⟨_, _, S6.unsuite ok, q6⟩
          | ret u =>
            obtain ⟨v6, σ6, H6, S6, r6, q6⟩ := hsp
            exact ⟨_, _, _, S6.unsuite ok, r6, q6⟩
        | false =>
          show wpAny _ X.A (handleBy (.ref a) X.env hds2) _ _ _
          exact ih (hno rfl)
      | @named x n i c ts b₀ suite np pos' hds2 l2 hi hln hc hsu r ih =>
        intro w
        obtain ⟨b, hb1, hyes, hno⟩ := w
        have hloc : Loc X.env.scope n := .inl hln
        refine wpAny_handleBy_cons (codeAny_handlers_test ?_) (by intro q; cases q)
        have LT : PySem.W.Looks (model X.prog X.w) h3 (typeOf (.ref a)) cls := fun A Q E s k q => wpAny_typeOf_ref (k _ _ he3) (by rw [hz3.1]; exact q)
        have LM := PySem.W.exm_one (M := model X.prog X.w) (J3.kIn) LT hb1
        have test : ∀ {Q : Value → Shared → Prop} {E : Value → Shared → Prop}, Q c { s' with heap := h3 } → wpAny (model X.prog X.w) (X.A.mark (some (.ref a))) (eval (.Name x np) X.env) Q E { s' with heap := h3 } := fun {Q E} q => by
          obtain ⟨hg, hdbg, hm | ⟨hm, hv, hnn⟩⟩ := hc
          · exact ld_glob (X := X.suite a ((a, oe3) :: (X.pn ++ pins))) S3 hg hm q hdbg
          · exact ld_blt (X := X.suite a ((a, oe3) :: (X.pn ++ pins))) S3 hg hm hv q hnn hdbg
        refine test (LM.here ?_)
        cases b with
        | true =>
          refine codeAny_handlers_suite_as ?_
          refine HandSPX.lands_againZ fl3 fun h4 fl4 up4 => ?_
          have J4 : Inv X pins σ' H' { s' with heap := h4 } := J.landed nb fl4.1 ((up.trans up3).trans up4) os ag
          obtain ⟨oe4, vs4, he4, hz4, hd4⟩ := fl4.there
          have S4 := J4.suite he4 hd4 na nL nF
          refine store_ok (X := X.suite a ((a, oe4) :: (X.pn ++ pins))) (v := .ref a) S4 hN hi hloc rfl (fun s5 S5 => ?_) (.inr hln)
          refine wpAny_mono ((hsu a oe4 cls d (X.pn ++ pins) hz4 ⟨_, hd4⟩).run [] s5 _ H' _ S5 (hyes rfl a na)) (fun f s6 hsp => ?_) (fun _ _ z => False.elim z)
          have end_ : ∀ {σ6 : St} {H6 : Hp} {Q : Shared → Prop}, Inv (X.suite a ((a, oe4) :: (X.pn ++ pins))) [] σ6 H6 s6 → (∀ s7, Inv X pins (σ6.set i none) H6 s7 → Q s7) →
              wpAny (model X.prog X.w) X.A (do bindName X.env n .none; unbindBehindTheSuite X.env n pos') (fun _ s7 => Q s7) X.xe s6 := fun {σ6 H6 Q} S6 hq => gone_ok (S6.unsuite ok) hN hi hln hq
          cases f with
          | next =>
            obtain ⟨σ6, H6, S6, q6⟩ := hsp
            exact end_ S6 fun s7 J7 => ⟨_, _, J7, q6⟩
          | brk =>
            obtain ⟨σ6, H6, S6, q6⟩ := hsp
            exact end_ S6 fun s7 J7 => ⟨_, _, J7, q6⟩
          | cont =>
            obtain ⟨σ6, H6, S6, q6⟩ := hsp
            exact end_ S6 fun s7 J7 => ⟨_, _, J7, q6⟩
          | ret u =>
            obtain ⟨v6, σ6, H6, S6, r6, q6⟩ := hsp
            exact end_ S6 fun s7 J7 => ⟨_, _, _, J7, r6, q6⟩
        | false =>
          show wpAny _ X.A (handleBy (.ref a) X.env hds2) _ _ _
          exact ih (hno rfl)
    exact go hh w
  · cases f with
    | next =>
      obtain ⟨σ', H', J', q⟩ := hsp
      exact wpAny_execs_nil ⟨σ', H', J'.ofTry ok, q⟩
    | brk =>
      obtain ⟨σ', H', J', q⟩ := hsp
      exact ⟨σ', H', J'.ofTry ok, q⟩
    | cont =>
      obtain ⟨σ', H', J', q⟩ := hsp
      exact ⟨σ', H', J'.ofTry ok, q⟩
    | ret u =>
      obtain ⟨v, σ', H', J', r, q⟩ := hsp
      exact ⟨v, σ', H', J'.ofTry ok, r, q⟩
end
def mTry2 (i : Nat) (y1 n1 y2 n2 : List Nat) (b s1 s2 : SM) : SM := fun e S => (b e.clr S).caught (y1 ++ n1) [] fun c fs e S => if y1.contains c = true then (if i < e.sl.length then (s1 (e.exn i c fs) S).gone i else .stuck) else if y2.contains c = true then (s2 e S).nox else if n2.contains c = true then .exc c fs e S else .stuck
section
variable {nm : Nms} {X : Cx} {pos : Pos}
theorem ms_try2 (i : Nat) {x n x2 : Str} {body suite suite2 : List Stmt} {b₀ b₂ : Stmt} {np pos' np2 pos2 : Pos} {mb ms ms2 : SM} {y1 n1 y2 n2 : List Nat} (hs : X.stack = X.env :: X.outer) (hf : X.env.frame = some X.env.locals) (hN : X.N.Nodup) (hg : GlN X x) (hc : Catch X.K X.mg nm x y1 n1) (hg2 : GlN X x2) (hc2 : Catch X.K X.mg nm x2 y2 n2)
    (hb : ∀ (pn : List (Addr × Obj)) (xe : Value → Shared → Prop), PassesOwn (model X.prog X.w) X.A X.env xe → MB nm (X.tr pn xe) body mb)
    (hsu : ∀ (a : Addr) (oe : Obj) (pn : List (Addr × Obj)), MB nm (X.suite a ((a, oe) :: pn)) (b₀ :: suite) ms)
    (hsu2 : ∀ (a : Addr) (oe : Obj) (pn : List (Addr × Obj)), MB nm (X.suite a ((a, oe) :: pn)) (b₂ :: suite2) ms2) (hln : X.env.kindOf n = some .local) (hi : X.N[i]? = some n := by rfl) :
    MS nm X (.Try body [.ExceptHandler (some (.Name x np)) (some n) (b₀ :: suite) pos', .ExceptHandler (some (.Name x2 np2)) none (b₂ :: suite2) pos2] [] [] pos) (mTry2 i y1 n1 y2 n2 mb ms ms2) := by
  obtain ⟨cv, h1, h2, h3⟩ := hc
  obtain ⟨cv2, k1, k2, k3⟩ := hc2
  let ts : Addr → Value → Option Addr → TS := fun a cls d D σ H => ∃ c fs, ∃ e : Ev, ∃ S μ C, cls = .ref C ∧ EvR nm X H μ ⟨e.sl.set i none, []⟩ σ ∧ σ[i]? = some (some (.ref a)) ∧ Sim nm X.K X.mg μ S H ∧ ExcAt nm X.K X.mg H μ c fs C d ∧
    ∀ X', X'.K = X.K → X'.mg = X.mg → PostS nm X' (fun _ _ _ _ => False) μ H (ms (e.exn i c fs) S) D
  have hh0 : HdsN X [.ExceptHandler (some (.Name x np)) (some n) (b₀ :: suite) pos', .ExceptHandler (some (.Name x2 np2)) none (b₂ :: suite2) pos2] [(cv, some i, ts), (cv2, none, fun a _ _ => rdC nm X (fun _ _ _ _ => False) ms2)] := by
    refine .named hi hln ⟨hg.g, hg.d, .inl h1⟩ (fun a oe cls d pn hz hv => ((hsu a oe pn).run _ takes0).imp fun D σ H hh => ?_) (.plain ⟨hg2.g, hg2.d, .inl k1⟩ (fun a oe cls d pn hz hv => ((hsu2 a oe pn).run _ takes0).imp fun D σ H hh => rdC_to X rfl rfl hh) .nil)
    obtain ⟨c, fs, e, S, μ, C, rfl, E, ha, s, ea, p⟩ := hh
    refine ⟨e.exn i c fs, S, μ, ⟨E.len, E.at_, fun q hq => ?_⟩, s, p _ rfl rfl⟩
    rcases List.mem_singleton.mp (show q ∈ [(i, c, fs)] from hq) with rfl
    exact ⟨a, oe, C, d, ha, List.mem_cons_self, ⟨hz, hv⟩, ea⟩
  refine ⟨fun W tk => (ps_try_manyN (tb := fun W => rdC nm X W mb) hs hf hN tk (fun W' pn xe tk' hp => ((hb pn xe hp).run W' tk').imp fun D σ H hh => rdC_to X rfl rfl hh) hh0).imp fun D σ H hh => ?_⟩
  refine try_rd hh (fun c hc fs e S σ' μ' H' C d g s E ea p => ?_) fun c hc => absurd hc (by simp)
  by_cases hy : y1.contains c = true
  · have p : PostS nm X W μ' H' (if y1.contains c = true then (if i < e.clr.sl.length then (ms (e.clr.exn i c fs) S).gone i else .stuck) else if y2.contains c = true then (ms2 e.clr S).nox else if n2.contains c = true then .exc c fs e.clr S else .stuck) D := p
    rw [if_pos hy] at p
    split at p
    · rename_i hl
      have hl2 : i < σ'.length := by rw [← E.len]; exact hl
      refine ⟨true, h2 c (by simpa using hy) C g, fun _ a na => ⟨c, fs, e.clr, S, μ', C, rfl, E.weak i _ rfl, List.getElem?_set_self hl2, s, ea, fun X' hK hm => ?_⟩, fun q => (nomatch q)⟩
      cases hr : ms (e.clr.exn i c fs) S with
      | nx e' S' => rw [hr] at p; exact fun σ2 μ2 H2 x s E => p _ μ2 H2 x (by rw [← hK, ← hm]; exact s) (E.unset i hK.symm)
      | bk e' S' => rw [hr] at p; exact fun σ2 μ2 H2 x s E => p _ μ2 H2 x (by rw [← hK, ← hm]; exact s) (E.unset i hK.symm)
      | ct e' S' => rw [hr] at p; exact fun σ2 μ2 H2 x s E => p _ μ2 H2 x (by rw [← hK, ← hm]; exact s) (E.unset i hK.symm)
      | rt d' S' => rw [hr] at p; exact fun v μ2 H2 x s r => p v μ2 H2 x (by rw [← hK, ← hm]; exact s) (by rw [← hK]; exact r)
      | exc c' fs' e' S' => rw [hr] at p; exact False.elim p
      | stuck => rw [hr] at p; exact False.elim p
    · exact False.elim p
  · have p : PostS nm X W μ' H' (if y1.contains c = true then (if i < e.clr.sl.length then (ms (e.clr.exn i c fs) S).gone i else .stuck) else if y2.contains c = true then (ms2 e.clr S).nox else if n2.contains c = true then .exc c fs e.clr S else .stuck) D := p
    rw [if_neg hy] at p
    have hn1 : c ∈ n1 := by
      rcases List.mem_append.mp hc with z | z
      · exact absurd (by simpa using z) hy
      · exact z
    refine ⟨false, h3 c hn1 C g, fun q => (nomatch q), fun _ => ?_⟩
    split at p
    · rename_i hy2
      exact ⟨true, k2 c (by simpa using hy2) C g, fun _ a na => ⟨e.clr, S, μ', E, s, rfl, PostS.noW p⟩, fun q => (nomatch q)⟩
    · split at p
      · rename_i hn2
        exact ⟨false, k3 c (by simpa using hn2) C g, fun q => (nomatch q), fun _ => p σ' μ' H' C d .refl s E ea⟩
      · exact False.elim p
end
end BS
namespace BS
open PySem PySem.Spec PyProof.Rows L2
section
variable {nm : Nms} {X : Cx} {pos : Pos}
/-- o[i] of an object of the store -/
def fIxA : Store → D → D → Option D := fun S x i => match x with
  | .obj n => match S[n]? with
    | some (.lst ds) => match i with
      | .int k => atI ds k
      | _ => none
    | some (.dct kvs) => match keyOf i with
      | some k => getK kvs k
      | none => none
    | _ => none
  | _ => none
theorem get_A {k : Nat} (hr : L2H.RoomH k X.A) : PGet X (rOpD nm X fIxA) := by
  intro pins s σ H o i ov iv Q I ro ri h
  obtain ⟨S, μ, dx, dy, d, sm, rx, ry, e, q⟩ := h
  have q : ∀ v, RV X.K H μ v d → Q v H := fun v r => q v μ H .refl sm r
  have hun := hr.un
  unfold fIxA at e
  split at e
  · rename_i n
    cases rx with | @obj a _ en =>
    split at e
    · rename_i ds hds
      split at e
      · rename_i i
        cases ry
        obtain ⟨xs, e1, r⟩ := sm.ob _ _ _ en hds
        obtain ⟨w, h1, h2⟩ := atI_rvs r e
        cases ro
        obtain ⟨t, rfl⟩ := ri
        obtain ⟨its, rr, pl, hz⟩ := I.list (.of e1)
        obtain ⟨j, g1, g2, g3, g4, g5⟩ := atI_get h1
        obtain ⟨w', ew, rw'⟩ := rr.get g2
        have hl := rr.length
        have hn := line63
        have fin : EP X pins σ Q w' s := ⟨w, H, I, rw', q _ h2⟩
        by_cases h0 : 0 ≤ i
        · have hj : i.toNat = j := by
            rw [seqIndex_of h0 g5] at g1
            exact Option.some.inj g1
          exact wpAny_getItem_list pl.isList h0 (by omega) (by rw [hj]; simpa using ew) fin
        · have hj : (i + (its.toArray.size : Int)).toNat = j := by
            rw [seqIndex_neg (by omega) g4] at g1
            rw [List.size_toArray, ← hl]
            exact Option.some.inj g1
          exact wpAny_getItem_list_neg pl.isList (by omega) (by rw [List.size_toArray] <;> omega) (by omega) (by rw [hj]; simpa using ew) fin
      · cases e
    · rename_i kvs hds
      split at e
      · rename_i k hk
        have ek := keyOf_kV ry hk
        subst ek
        obtain ⟨ys, e1, r1⟩ := sm.ob _ _ _ en hds
        cases ro
        rcases getK_val _ r1 with ⟨h1, h2⟩ | ⟨w, d', h1, h2, h3⟩
        · rw [h2] at e; cases e
        · rw [h2] at e; cases e
          exact d_getItem (by omega) I (h1 ▸ (.inl ⟨ys, k, .inl e1, rfl, rfl⟩ : DGet H a (kV k) (valV ys k))) ri fun w' s' I' rw' => ⟨w, H, I', rw', q _ h3⟩
      · cases e
    · cases e
  · cases e
def mAugI (f : Store → D → D → Option D) (o i m : EM) : SM := fun e S => (o e S).toS e fun x S => (i e S).toS e fun y S => match fIxA S x y with
  | some z => (m e S).toS e fun u S => (lift2 f S z u).toS e fun v S => match setS S x y v with
    | some S => .nx e S
    | none => .stuck
  | none => .stuck
theorem ms_augI {k : Nat} (hr : L2H.RoomH k X.A) {op : Operator} {f : Store → D → D → Option D} {o i e : Expr} {mo mi me : EM} {tpos : Pos} (hop : OpD nm X (inplaceOp op) f) (ho : ME nm X o mo) (hi : ME nm X i mi) (he : ME nm X e me)
    (ha : ∀ ov iv new, augStore i ov iv new = (do holding [new, ov, iv] (setItem ov iv new); release [new, ov, iv] []; pure .next) := by intros; rfl) : MS nm X (.AugAssign (.Subscript o i tpos) op e pos) (mAugI f mo mi me) :=
  ⟨fun W tk => (ps_augS (tget := rOpD nm X fIxA) (tip := rOpD nm X f) (tset := rSetD nm X) (ho.run W tk) (hi.run W tk) (get_A hr) (he.run W tk) (fun pins s σ H x y v u Q I rx ry q => hop pins s σ H x y v u Q I rx ry q) (set_D hr) ha).imp fun D σ H h => by
    obtain ⟨e, S, μ, E, s, p⟩ := h
    refine ⟨e, S, μ, E, s, (PostS.toS E p).mono fun ox S1 μ1 H1 x1 s1 p1 vo ro => ?_⟩
    refine ⟨e, S1, μ1, E.ext x1, s1, (PostS.toS (E.ext x1) p1).mono fun ix S2 μ2 H2 x2 s2 p2 vi ri => ?_⟩
    split at p2
    · rename_i z hz
      refine ⟨S2, μ2, ox, ix, z, s2, ro.ext x2, ri, hz, fun vz μ3 H3 x3 s3 rz => ?_⟩
      have E3 := ((E.ext x1).ext x2).ext x3
      have p3 : PostS nm X W μ3 H3 ((me e S2).toS e fun u S => (lift2 f S z u).toS e fun v S => match setS S ox ix v with
        | some S => .nx e S
        | none => .stuck) D := PostS.ext x3 p2
      refine ⟨e, S2, μ3, E3, s3, (PostS.toS E3 p3).mono fun u S4 μ4 H4 x4 s4 p4 vu ru => ?_⟩
      unfold lift2 at p4
      split at p4
      · rename_i v hv
        refine ⟨S4, μ4, z, u, v, s4, rz.ext x4, ru, hv, fun w μ5 H5 x5 s5 rw => ?_⟩
        have p5 : PostS nm X W μ5 H5 (match setS S4 ox ix v with
          | some S => .nx e S
          | none => .stuck) D := PostS.ext x5 p4
        split at p5
        · rename_i S6 hS
          exact ⟨S4, μ5, ox, ix, v, S6, s5, (((ro.ext x2).ext x3).ext x4).ext x5, ((ri.ext x3).ext x4).ext x5, rw, hS, fun H6 x6 s6 => p5 σ μ5 H6 x6 s6 (((E3.ext x4).ext x5).ext x6)⟩
        · exact False.elim p5
      · exact False.elim p4
    · exact False.elim p2⟩
def idxI : List Int → Int → Option Nat
  | [], _ => none
  | a :: r, k => if a = k then some 0 else (idxI r k).map (· + 1)
theorem idxI_at : ∀ {ns : List Int} {k : Int} {j : Nat}, idxI ns k = some j → ns[j]? = some k ∧ ∀ m, m < j → ∃ a, ns[m]? = some a ∧ a ≠ k
  | a :: r, k, j, h => by
    unfold idxI at h
    split at h
    · rename_i e; cases h; exact ⟨by rw [e]; rfl, fun m hm => absurd hm (Nat.not_lt_zero _)⟩
    · rename_i e
      obtain ⟨i, hi, rfl⟩ := Option.map_eq_some_iff.mp h
      obtain ⟨h1, h2⟩ := idxI_at hi
      refine ⟨by simpa using h1, fun m hm => ?_⟩
      cases m with
      | zero => exact ⟨a, rfl, e⟩
      | succ m => obtain ⟨b, q1, q2⟩ := h2 m (by omega); exact ⟨b, by simpa using q1, q2⟩
def fnIndex : FM := fun ds S => match ds with
  | [x, .int k] => match lstOf S x with
    | some es => match BS.intsOf es with
      | some ns => match idxI ns k with
        | some j => .ok (.int j) S
        | none => .stuck
      | none => .stuck
    | none => .stuck
  | _ => .stuck
theorem t_index : MtD nm X "list.index" fnIndex := by
  intro pins s σ H x xs v us Q I rx r h
  obtain ⟨ds, S, μ, E, rv, sm, p⟩ := h
  unfold fnIndex at p
  split at p
  · rename_i d k
    obtain ⟨r1, rt⟩ := rvs_cons rv
    obtain ⟨w, rfl, r2⟩ := one_rv rt
    cases r2
    split at p
    · rename_i es hes
      split at p
      · rename_i ns hns
        split at p
        · rename_i j hj
          obtain ⟨a, ys, rfl, hs, rs⟩ := lstOf_sq sm r1 hes
          have e := intsOf_rv rs hns
          subst e
          obtain ⟨h1, h2⟩ := idxI_at hj
          refine mt_index pins s σ H _ _ v us Q I rx r ⟨a, _, _, j, .int k, rfl, rfl, hs, rfl, ?_, by rw [List.getElem?_map, h1]; rfl, by simp [eqV], fun m z' hm hz => ?_, p μ H .refl sm _ (.int _)⟩
          · exact List.all_eq_true.mpr fun y hy => by obtain ⟨n, _, rfl⟩ := List.mem_map.mp hy; rfl
          · obtain ⟨b, q1, q2⟩ := h2 m hm
            rw [List.getElem?_map, q1] at hz
            cases hz
            simp [eqV, q2]
        · exact False.elim p
      · exact False.elim p
    · exact False.elim p
  · exact False.elim p
def maxI : List Int → Int
  | [] => 0
  | [a] => a
  | a :: b :: r => if a < maxI (b :: r) then maxI (b :: r) else a
def minI : List Int → Int
  | [] => 0
  | [a] => a
  | a :: b :: r => if minI (b :: r) < a then minI (b :: r) else a
theorem maxI_ok : ∀ {ns : List Int}, 0 < ns.length → maxI ns ∈ ns ∧ ∀ y ∈ ns, y ≤ maxI ns
  | [a], _ => ⟨by simp [maxI], fun y h => by simp at h; subst h; exact Int.le_refl _⟩
  | a :: b :: r, _ => by
    obtain ⟨h1, h2⟩ := maxI_ok (ns := b :: r) (by simp)
    unfold maxI
    split
    · exact ⟨List.mem_cons_of_mem _ h1, fun y hy => (List.mem_cons.mp hy).elim (fun e => by subst e; omega) (fun hy => h2 y hy)⟩
    · exact ⟨List.mem_cons_self, fun y hy => (List.mem_cons.mp hy).elim (fun e => by subst e; omega) (fun hy => by have := h2 y hy; omega)⟩
theorem minI_ok : ∀ {ns : List Int}, 0 < ns.length → minI ns ∈ ns ∧ ∀ y ∈ ns, minI ns ≤ y
  | [a], _ => ⟨by simp [minI], fun y h => by simp at h; subst h; exact Int.le_refl _⟩
  | a :: b :: r, _ => by
    obtain ⟨h1, h2⟩ := minI_ok (ns := b :: r) (by simp)
    unfold minI
    split
    · exact ⟨List.mem_cons_of_mem _ h1, fun y hy => (List.mem_cons.mp hy).elim (fun e => by subst e; omega) (fun hy => h2 y hy)⟩
    · exact ⟨List.mem_cons_self, fun y hy => (List.mem_cons.mp hy).elim (fun e => by subst e; omega) (fun hy => by have := h2 y hy; omega)⟩
def fnMM (g : List Int → Int) : FM := fun ds S => match ds with
  | [x] => match lstOf S x with
    | some es => match BS.intsOf es with
      | some ns => if 0 < ns.length then .ok (.int (g ns)) S else .stuck
      | none => .stuck
    | none => .stuck
  | _ => .stuck
abbrev fnMax1 : FM := fnMM maxI
abbrev fnMin1 : FM := fnMM minI
theorem c_max1 (hc : X.calm = true) : CallD nm X (.builtin "max") fnMax1 := by
  intro pins s σ H vs us Q I r h
  obtain ⟨ds, S, μ, E, rv, sm, p⟩ := h
  unfold fnMax1 fnMM at p
  split at p
  · rename_i d
    obtain ⟨w, rfl, r1⟩ := one_rv rv
    split at p
    · rename_i es hes
      split at p
      · rename_i ns hns
        split at p
        · rename_i hl
          obtain ⟨a, ys, rfl, hs, rs⟩ := lstOf_sq sm r1 hes
          have e := intsOf_rv rs hns
          subst e
          obtain ⟨h1, h2⟩ := maxI_ok hl
          refine cr_max hc pins s σ H _ us Q I r ⟨a, ns, rfl, hs, hl, fun m hm hy => ?_⟩
          have : m = maxI ns := Int.le_antisymm (h2 m hm) (hy _ h1)
          subst this
          exact p μ H .refl sm _ (.int _)
        · exact False.elim p
      · exact False.elim p
    · exact False.elim p
  · exact False.elim p
theorem c_min1 (hc : X.calm = true) : CallD nm X (.builtin "min") fnMin1 := by
  intro pins s σ H vs us Q I r h
  obtain ⟨ds, S, μ, E, rv, sm, p⟩ := h
  unfold fnMin1 fnMM at p
  split at p
  · rename_i d
    obtain ⟨w, rfl, r1⟩ := one_rv rv
    split at p
    · rename_i es hes
      split at p
      · rename_i ns hns
        split at p
        · rename_i hl
          obtain ⟨a, ys, rfl, hs, rs⟩ := lstOf_sq sm r1 hes
          have e := intsOf_rv rs hns
          subst e
          obtain ⟨h1, h2⟩ := minI_ok hl
          refine cr_min hc pins s σ H _ us Q I r ⟨a, ns, rfl, hs, hl, fun m hm hy => ?_⟩
          have : m = minI ns := Int.le_antisymm (hy _ h1) (h2 m hm)
          subst this
          exact p μ H .refl sm _ (.int _)
        · exact False.elim p
      · exact False.elim p
    · exact False.elim p
  · exact False.elim p
end
end BS
namespace BS
open PySem PySem.Spec PyProof.Rows L2
section
variable {M : Model} {A : Around} {E : Value → Shared → Prop} {s : Shared} {env : Env}
def compPostX (M : Model) (A : Around) (E : Value → Shared → Prop) (use : Option (Value → Sem Unit)) (Q : Value → Shared → Prop) (acc : Value) (C : Addr) (fr : Option Addr) (r : Result) (s' : Shared) : Prop :=
  match r, use with
  | .ok _, none => ∃ m, s'.heap.Ns C m ∧ ∀ h', Heap.SameBut C s'.heap h' → Q acc { s' with heap := h' }
  | .ok _, some u => wpAny M A (u acc) (fun _ s'' => ∃ m, s''.heap.Ns C m ∧ ∀ h', Heap.SameBut C s''.heap h' → Q .none { s'' with heap := h' }) E s'
  | .error x, _ => ∃ m, s'.heap.Ns C m ∧ ∀ h', Heap.SameBut C s'.heap h' → ∀ cenv : Env, cenv.locals = C → cenv.frame = fr → wpAny M A (passOn "comprehension.variables-let-go" x cenv : Sem Value) (fun _ _ => False) E { s' with heap := h' }
theorem compX {e : Expr} {scope : Scope} {pos : Pos} {newAcc first : Sem Value} {g : Comprehension} {gs : List Comprehension} {cl : List (Str × Addr)} {use : Option (Value → Sem Unit)}
    {Q : Value → Shared → Prop}
    (hcl : clausesOf e = g :: gs) (hs : ∀ x, foldedSetIterable g.iter env x = pure x) (hclos : closureFor scope env = pure cl)
    (hkind : scope.kind = .function) (hnames : ∀ x ∈ scope.names, x.2 = .local → scope.names.lookup x.1 = some .local)
    (h : wpAny M A first (fun x s₁ => wpAny M A (pyIter x) (fun it s₂ => wpAny M A newAcc (fun acc s₃ =>
      wpAny M A (newFunctionEnv scope env.globals cl [] env.qual none .none (some env)) (fun cenv s₄ => cenv.frame = env.frame ∧
        codeAny M A (.compStart e 0 it acc { cenv with scope := relabel scope env }) (compPostX M A E use Q acc cenv.locals env.frame) s₄) E s₃) E s₂) E s₁) E s) :
    wpAny M A (comprehension e scope env pos newAcc false first use) Q E s := by
  unfold comprehension
  rw [hclos, hcl]
  refine wpAny_bind (wpAny_mono h (fun x s₁ h₁ => wpAny_bind (wpAny_standAt (wpAny_bind (wpAny_of_eq (hs x) (wpAny_bind (wpAny_holding (wpAny_mono h₁ (fun it s₂ h₂ =>
    wpAny_standIf (wpAny_bind (wpAny_mono h₂ (fun acc s₃ h₃ => wpAny_bind (wpAny_pure (wpAny_bind (wpAny_mono h₃ (fun cenv s₄ h₄ => ?_) fun _ _ h' => h')))) fun _ _ h' => h')))
      fun _ _ h' => h'))))))) fun _ _ h' => h')
  obtain ⟨hfr, h₄⟩ := h₄
  dsimp only
  have hv : ∀ x ∈ (scope.names.filter fun x => (x.2 == .local || x.2 == .cell) && x.1 != (".0" : Str)).reverse, x.2 = .local →
      Env.kindOf { cenv with scope := relabel scope env } x.1 = some .local := fun x hx hl => lookup_relabel_local (hnames x (List.mem_filter.mp (List.mem_reverse.mp hx)).1 hl)
  have hv' : ∀ x ∈ (scope.names.filter fun x => (x.2 == .local || x.2 == .cell) && x.1 != (".0" : Str)).reverse.drop 1 ++ (scope.names.filter fun x => (x.2 == .local || x.2 == .cell) && x.1 != (".0" : Str)).reverse.take 1,
      x.2 = .local → Env.kindOf { cenv with scope := relabel scope env } x.1 = some .local := fun x hx hl => by
    rcases List.mem_append.mp hx with h1 | h1
    · exact hv x (List.mem_of_mem_drop h1) hl
    · exact hv x (List.mem_of_mem_take h1) hl
  refine wpAny_holding (wpAny_bind (wpAny_attempt (wpAny_holding (wpAny_run (codeAny_mono h₄ fun r s' hr => ?_)))))
  cases r with
  | ok f =>
    cases use with
    | none =>
      obtain ⟨m, hn, hr⟩ := hr
      exact wpAny_bind (wpAny_holding (wpAny_comp_letGo (cenv := { cenv with scope := relabel scope env }) hkind _ s' m hv hn fun h' m' _ hs' => wpAny_pure (hr h' hs')))
    | some u =>
      refine wpAny_bind (wpAny_rule (wpAny_bind (wpAny_holding (wpAny_mono hr (fun _ s'' hr' => ?_) fun _ _ h' => h'))))
      obtain ⟨m, hn, hr'⟩ := hr'
      exact wpAny_bind (wpAny_comp_letGo (cenv := { cenv with scope := relabel scope env }) hkind _ s'' m hv' hn fun h' m' _ hs' => wpAny_pure (hr' h' hs'))
  | error x =>
    have hr' : ∃ m, s'.heap.Ns cenv.locals m ∧ ∀ h', Heap.SameBut cenv.locals s'.heap h' → ∀ cenv' : Env, cenv'.locals = cenv.locals → cenv'.frame = env.frame → wpAny M A (passOn "comprehension.variables-let-go" x cenv' : Sem Value) (fun _ _ => False) E { s' with heap := h' } := by cases use <;> exact hr
    obtain ⟨m, hn, hr⟩ := hr'
    exact wpAny_bind (wpAny_holding (wpAny_comp_letGo (cenv := { cenv with scope := relabel scope env }) hkind _ s' m hv hn fun h' m' _ hs' => wpAny_mono (hr h' hs' _ rfl hfr) (fun _ _ f => f.elim) fun _ _ y => y))
theorem noteFrame_same {e : Value} {env env' : Env} (h : env.frame = env'.frame) : noteFrame e env = noteFrame e env' := by
  unfold noteFrame PySem.frameOf
  rw [h]
end
section
open PySem.HandSPX
variable {M : Model} {A : Around} {E : Value → Shared → Prop} {s : Shared} {Z : Obj → Prop} {base : Heap} {env : Env} {outer l : List Env} {L e : Addr}
theorem looks_anyZ {fl : Value} {Q : Unit → Shared → Prop} (hZ : Steady Z) (hfr : A.frames = some (env :: outer)) (hf : env.frame = some L) (hne : (fl == rawInt L) = false)
    (hkb : base.StaysIn s.heap) (hen : base.get? e = none) (hl : s.heap.FunFrames base (env :: outer)) (ht : TracedZ s.heap base e Z fl)
    (hQ : ∀ h', HeldZ base (env :: outer) e Z L h' → s.heap.UpToSlots h' → Q () { s with heap := h' }) : wpAny M A (noteFrame (.ref e) env) Q E s := by
  obtain ⟨oe, vs, T, oT, ts, he, hz, hd, h1, hnT, hTe, hT, hdT, h3⟩ := ht
  unfold noteFrame
  simp only [hf]
  refine wpAny_bind (wpAny_field he hd h1 ?_)
  rw [if_pos (show (Value.ref T != Value.none) = true from by simp)]
  refine wpAny_bind (wpAny_field hT hdT h3 ?_)
  rw [if_neg (show ¬ ((fl == rawInt L) = true) from by rw [hne]; decide)]
  refine wpAny_bind (wpAny_setField hT hdT (Array.getElem?_eq_some_iff.mp h3).1 ?_)
  have other : ∀ b, b ≠ T → (s.heap.update T (Obj.mapFields (·.setIfInBounds 3 Value.none))).get? b = s.heap.get? b := fun b hb => Heap.get?_update_other _ _ (Ne.symm hb)
  have noRecord : ∀ b o, s.heap.get? b = some o → (∀ vs, o.data ≠ .fields vs) → b ≠ T := fun b o hb hnf q => by
    rw [q, hT] at hb; injection hb with hb; subst hb; exact hnf ts hdT
  refine wpAny_entryZ hZ hfr (hl.of_keeps fun b o hb hnf => ⟨o, (other b (noRecord b o hb hnf)).trans hb, rfl⟩) hf ((other e (Ne.symm hTe)).trans he)
    (fun b o hbo => (other b fun q => by rw [q, hnT] at hbo; cases hbo).trans (hkb b o hbo)) hen hd (Array.getElem?_eq_some_iff.mp h1).1 hz fun h' hN => ?_
  obtain ⟨x1, x2, x3, x4⟩ := hN
  exact hQ h' ⟨x1, hen, x2, x3⟩ fun b o hb hnf => x4 b o ((other b (noRecord b o hb hnf)).trans hb) hnf
theorem funFrames_hide {h h' : Heap} {C : Addr} (hC : ∃ o, base.get? C = some o) (hs : Heap.SameBut C h h') : ∀ {l : List Env}, h.FunFrames base l → h'.FunFrames (PySem.W.hideAll base [C]) l
  | [], _ => trivial
  | env :: l, hl => by
    obtain ⟨hk, ⟨L, o, hf, hb, ho, hd⟩, hr⟩ := hl
    have hne : L ≠ C := fun q => by obtain ⟨o', e⟩ := hC; rw [q, e] at hb; cases hb
    refine ⟨hk, ⟨L, o, hf, ?_, (hs.2 L hne).trans ho, hd⟩, funFrames_hide hC hs hr⟩
    cases q : (PySem.W.hideAll base [C]).get? L with
    | none => rfl
    | some o' =>
      have z := PySem.W.of_hideAll _ q
      rw [hb] at z; cases z
theorem hide_none {C x : Addr} (h : base.get? x = none) : (PySem.W.hideAll base [C]).get? x = none := by
  cases q : (PySem.W.hideAll base [C]).get? x with
  | none => rfl
  | some o' =>
    have z := PySem.W.of_hideAll _ q
    rw [h] at z; cases z
theorem heldZ_hide {h h' : Heap} {C : Addr} (hC : ∃ o, base.get? C = some o) (hs : Heap.SameBut C h h') (x : HeldZ base l e Z L h) : HeldZ (PySem.W.hideAll base [C]) l e Z L h' := by
  obtain ⟨f1, f2, f3, oe, vs, T, oT, ts, he, hz, hd, h1, hnT, hTe, hT, hdT, h3⟩ := x
  obtain ⟨o, eC⟩ := hC
  have heC : e ≠ C := fun q => by rw [q, eC] at f2; cases f2
  have hTC : T ≠ C := fun q => by rw [q, eC] at hnT; cases hnT
  refine ⟨fun b ob hb => ?_, hide_none f2, funFrames_hide ⟨o, eC⟩ hs f3, oe, vs, T, oT, ts, (hs.2 e heC).trans he, hz, hd, h1, hide_none hnT, hTe, (hs.2 T hTC).trans hT, hdT, h3⟩
  have hb1 := PySem.W.of_hideAll _ hb
  have hbC : b ≠ C := fun q => by
    rw [q, PySem.W.hideAll_none [C] (by simp)] at hb; cases hb
  exact (hs.2 b hbC).trans (f1 b ob hb1)
end
abbrev _root_.L2.Cx.blkX (X : Cx) (s : Shared) (H : Hp) (scope : Scope) (cenv : Env) (fp : List Addr) (xe : Value → Shared → Prop) : Cx := { X.blk s H scope cenv fp with xe := xe }
/-- the frame is the def's own -/
structure OwnFrame (X : Cx) : Prop where
  stk : X.stack = X.env :: X.outer
  frm : X.env.frame = some X.env.locals
section
variable {X : Cx}
def tLcX (wi : TI) (g : TG) (tt : St → TT) (te : St → TE) (vs : List Nat) : TE := fun σ H Q => tLc wi g (tt σ) (te σ) vs σ H Q
theorem blk_takes {pins : List (Addr × Obj)} {σ : St} {H3 : Hp} {s3 : Shared} {scope : Scope} {ce : Env} {fp : List Addr} {W : WX} {Qf : Value → Shared → Prop} {use : Option (Value → Sem Unit)} {acc : Value} {xe : Value → Shared → Prop}
    (of : OwnFrame X) (tk : Takes X W) (I3 : Inv X pins σ H3 s3) (f3 : ∀ b ∈ fp, FpOk X pins H3 b ∧ b < s3.heap.objs.size) (cL : ce.locals = s3.heap.objs.size) (cF : ce.frame = X.env.frame)
    (hxe : xe = notedBy (model X.prog X.w) X.A ce fun e s' => compPostX (model X.prog X.w) X.A X.xe use Qf acc s3.heap.objs.size X.env.frame (.error e) s') :
    Takes (X.blkX s3 H3 scope ce fp xe) (fun c d _ H => W c d σ H) := by
  rintro u s' ⟨a, B, sI, pins', σ', H', cls, d, rfl, I', nb, up, sky, na, os, ag, w⟩
  subst hxe
  show wpAny _ _ (noteFrame (.ref a) ce) _ _ s'
  rw [noteFrame_same cF]
  have hfr : X.A.frames = some (X.env :: X.outer) := by rw [I3.ok.frames, of.stk]
  have cLn : (X.env.locals : Addr) ≠ s3.heap.objs.size := Nat.ne_of_lt I3.lt
  -- the names of the block
  obtain ⟨m, hn, _⟩ := I'.loc
  have hn : sI.heap.Ns ce.locals m := hn
  rw [cL] at hn
  have hnf : s3.heap.objs.size ∉ frs X.stack := fun hm => by
    rcases List.mem_cons.mp (I3.stkSub _ hm) with z | z
    · exact cLn z.symm
    · exact I3.nofs (Nat.le_refl _) z
  obtain ⟨oC, eC⟩ : ∃ o, sI.heap.get? s3.heap.objs.size = some o := by
    obtain ⟨o, _, _, ho, _⟩ := hn
    exact ⟨o, ho⟩
  have bC : B.get? s3.heap.objs.size = some oC := nb _ _ eC hnf
  have nC : H' s3.heap.objs.size = none := by
    have z : H' ce.locals = none := I'.free
    rw [cL] at z
    exact z
  have I7 : Inv X pins σ H' sI := I3.call' (ch := fp) I'.os I'.base I'.hok I'.bare fun b hb => ⟨(f3 b hb).1.2.2.2.1, (f3 b hb).1.2.1, (f3 b hb).1.2.2.2.2.1, (f3 b hb).1.2.2.2.2.2⟩
  obtain ⟨f0, f1, f2, f4, f5, f6⟩ := I3.fpOk (Nat.le_refl _) nC
  have fin : ∀ h1, HandSPX.HeldZ B X.stack a (Zc cls d) X.env.locals h1 → s'.heap.UpToSlots h1 → compPostX (model X.prog X.w) X.A X.xe use Qf acc s3.heap.objs.size X.env.frame (.error (.ref a)) { s' with heap := h1 } := by
    intro h1 hh up1
    show ∃ m, h1.Ns s3.heap.objs.size m ∧ _
    refine ⟨m, (up.trans up1).ns hn, fun h2 sb cenv hc1 hc2 => ?_⟩
    have hh2 := heldZ_hide ⟨oC, bC⟩ sb hh
    have I8 : Inv X pins σ H' { sI with heap := PySem.W.hideAll sI.heap [s3.heap.objs.size], toks := sI.toks } :=
      I7.turned (t' := sI.toks) (fun b o hb e => PySem.W.hideAll_get _ e (by simpa using hb)) f0 f1 f4 f5 f6
    have nb2 : ∀ b o, (PySem.W.hideAll sI.heap [s3.heap.objs.size]).get? b = some o → b ∉ frs X.stack → (PySem.W.hideAll B [s3.heap.objs.size]).get? b = some o := fun b o e hb => by
      have e1 := PySem.W.of_hideAll _ e
      have hbC : b ≠ s3.heap.objs.size := fun q => by rw [q, PySem.W.hideAll_none [s3.heap.objs.size] (by simp)] at e; cases e
      exact PySem.W.hideAll_get _ (nb b o e1 hb) (by simpa using hbC)
    have up2 : (PySem.W.hideAll sI.heap [s3.heap.objs.size]).UpToSlots h2 := fun b o e hnf' => by
      have e1 := PySem.W.of_hideAll _ e
      have hbC : b ≠ s3.heap.objs.size := fun q => by rw [q, PySem.W.hideAll_none [s3.heap.objs.size] (by simp)] at e; cases e
      obtain ⟨sl, e2⟩ := (up.trans up1) b o e1 hnf'
      exact ⟨sl, (sb.2 b hbC).trans e2⟩
    have fin2 : wpAny (model X.prog X.w) X.A (setFlight (.ref a) cenv.frame) (fun _ s4 => wpAny (model X.prog X.w) X.A (throw (.ref a) : Sem Value) (fun _ _ => False) X.xe s4) X.xe { s' with heap := h2 } := by
      rw [hc2, of.frm]
      refine HandSPX.setFlight_onZ hh2 fun h4 hh4 up4 => wpAny_throw (tk _ _ ?_)
      exact ⟨a, _, _, pins, σ, H', cls, d, rfl, I8, nb2, up2.trans up4, .inr (.inr hh4), na, os, ag, w⟩
    obtain ⟨g1, g2, g3, oe, vs, T, oT, ts, he, hz, hd, h1', hnT, hTe, hT, hdT, h3⟩ := hh2
    unfold PySem.passOn
    refine wpAny_bind (wpAny_field (s := { s' with heap := h2 }) he hd h1' ?_)
    rw [if_neg (show ¬ ((Value.ref T == Value.none) = true) from by simp)]
    first
      | exact wpAny_bind (wpAny_pure (wpAny_bind fin2))
      | exact wpAny_bind fin2
  rw [of.stk] at sky fin
  have sky : Sky B (X.env :: X.outer) a (Zc cls d) s3.heap.objs.size s'.heap := by
    have z : Sky B (X.env :: X.outer) a (Zc cls d) ce.locals s'.heap := sky
    rwa [cL] at z
  rcases sky with ⟨hB, hnone, hl, oe, vs, he, hz, hd, h1⟩ | ⟨k1, k2, k3, k4⟩ | ⟨k1, k2, k3, k4⟩
  · exact HandSPX.look_newZ Zc.steady hfr hl of.frm he hB hnone hd h1 hz fin
  · exact looks_anyZ Zc.steady hfr of.frm (by simp [rawInt]) k1 k2 k3 k4 fin
  · refine looks_anyZ Zc.steady hfr of.frm ?_ k1 k2 k3 k4 fin
    have : s3.heap.objs.size ≠ X.env.locals := Ne.symm cLn
    simp only [rawInt]
    simp
    omega
theorem inv_blkX {pins : List (Addr × Obj)} {σ : St} {H H3 : Hp} {s s3 : Shared} {scope : Scope} {ce : Env} {fp : List Addr} (I : Inv (X.blk s3 H3 scope ce fp) pins σ H s) (xe : Value → Shared → Prop) : Inv (X.blkX s3 H3 scope ce fp xe) pins σ H s :=
  { I with ok := { I.ok with } }
theorem lc_coreX {W : WX} {pins : List (Addr × Obj)} {s : Shared} {σ : St} {H : Hp} {Q : VK} {elt tg iter : Expr} {ifs : List Expr} {scope : Scope} {own : List (Str × Nat)} {pos pos' : Pos} {wi : TI} {g : TG} {tt : TT} {te : TE} {use : Option (Value → Sem Unit)} {Qf : Value → Shared → Prop}
    (of : OwnFrame X) (tk : Takes X W) (hc : X.calm = true) (hN : X.N.Nodup) (I : Inv X pins σ H s) (hi : PI X tg iter wi) (ok : BlkOk X.N X.env.scope scope own)
    (hg : ∀ (s : Shared) (H : Hp) (C : Addr) (cl : List (Str × Addr)) (fp : List Addr) (xe : Value → Shared → Prop), PG (X.blkX s H scope (compEnvC scope cl C X.env) fp xe) tg g)
    (ht : ∀ (s : Shared) (H : Hp) (C : Addr) (cl : List (Str × Addr)) (fp : List Addr) (xe : Value → Shared → Prop), Takes (X.blkX s H scope (compEnvC scope cl C X.env) fp xe) (fun c d _ H => W c d σ H) → PTs (X.blkX s H scope (compEnvC scope cl C X.env) fp xe) ifs tt)
    (he : ∀ (s : Shared) (H : Hp) (C : Addr) (cl : List (Str × Addr)) (fp : List Addr) (xe : Value → Shared → Prop), Takes (X.blkX s H scope (compEnvC scope cl C X.env) fp xe) (fun c d _ H => W c d σ H) → PE (X.blkX s H scope (compEnvC scope cl C X.env) fp xe) elt te) (hs : ∀ x, foldedSetIterable iter X.env x = pure x)
    (h : tLc wi g tt te (own.map (·.2)) σ H Q)
    (hRR : ∀ D C s' m H', Inv X pins σ H' s' → Q (.ref D) H' → s'.heap.Ns C m → FpOk X pins H' C → compPostX (model X.prog X.w) X.A X.xe use Qf (.ref D) C X.env.frame (.ok .next) s') :
    wpAny (model X.prog X.w) X.A (comprehension (.ListComp elt [⟨tg, iter, ifs, 0⟩] scope pos) scope X.env pos' (newList []) false (eval iter X.env) use) Qf X.xe s := by
  have hfree : ∀ y ∈ scope.names, y.2 = .free → ∃ c, X.env.cells.lookup y.1 = some c := fun y hy e => by
    rcases ok.free y hy e with k | k
    · exact I.ok.has _ (.inl k)
    · exact I.ok.has _ (.inr k)
  refine compX (use := use) rfl hs (closure_ok hfree) ok.kind (fun y hy e => by rw [ok.uniq y hy, e])
    (thn (hi.run pins s σ H _ I h) fun xv s1 hx => thn hx fun itv s2 h2 => ?_)
  obtain ⟨it, fp, tn, J, H2, e, I2, T, st2, f2, q⟩ := h2
  subst e
  refine wpAny_newObj_type (newEnv_comp ⟨rfl, ?_⟩) (by show 0 ≤ sizeLine; decide)
  generalize hD : s2.heap.objs.size = D
  have hDn : H2 D = none := I2.hok.fresh (Nat.le_of_eq hD)
  obtain ⟨Wm, ⟨m0, w0⟩, turn⟩ := q D hDn
  -- the new list
  generalize hs3 : ({ s2 with heap := s2.heap.push { cls := .type "list", data := .seq ([] : List Value).toArray } } : Shared) = s3
  have I3 : Inv X pins σ (upd H2 D (.lst [])) s3 := by
    rw [← hs3]
    refine I2.laid (t' := s2.toks) (fun b o e => Heap.get?_push_of_some _ e) (Nat.le_of_eq hD) ⟨Nat.zero_le _, [], 0, .nil, ?_⟩
    rw [← hD]
    exact Heap.get?_push_size _ rfl
  have h3 : s3.heap = s2.heap.push { cls := .type "list", data := .seq ([] : List Value).toArray } := by rw [← hs3]
  have sz : ∀ b ∈ fp, b < s2.heap.objs.size := fun b hb => by
    obtain ⟨o, e, _⟩ := T.obj _ _ st2 b hb
    exact Heap.lt_size e
  have f3 : ∀ b ∈ fp, FpOk X pins (upd H2 D (.lst [])) b ∧ b < s3.heap.objs.size := fun b hb => by
    have hlt := sz b hb
    refine ⟨⟨?_, (f2 b hb).2⟩, by rw [h3, Heap.size_push]; exact Nat.lt_succ_of_lt hlt⟩
    rw [upd_ne (by rw [← hD]; exact Nat.ne_of_lt hlt)]
    exact (f2 b hb).1
  have st3 : tn 0 s3.heap := T.keep _ _ _ st2 fun b _ o e => by rw [h3]; exact Heap.get?_push_of_some _ e
  have I4 := block_start I3 ok hN f3
  have pg := hg s3 (upd H2 D (.lst [])) s3.heap.objs.size (cellsFrom (s3.heap.objs.size + 1) scope.names (cloFrom X.env.cells scope.names [])) fp
  have pt := ht s3 (upd H2 D (.lst [])) s3.heap.objs.size (cellsFrom (s3.heap.objs.size + 1) scope.names (cloFrom X.env.cells scope.names [])) fp
  have pe := he s3 (upd H2 D (.lst [])) s3.heap.objs.size (cellsFrom (s3.heap.objs.size + 1) scope.names (cloFrom X.env.cells scope.names [])) fp
  show codeAny _ _ (.compStart (.ListComp elt [⟨tg, iter, ifs, 0⟩] scope pos) 0 (.ref it) (.ref D) (compEnvC scope (cellsFrom (s3.heap.objs.size + 1) scope.names (cloFrom X.env.cells scope.names [])) s3.heap.objs.size X.env)) (compPostX (model X.prog X.w) X.A X.xe use Qf (.ref D) s3.heap.objs.size X.env.frame) { s3 with heap := pushCells (s3.heap.push { cls := .type "dict", data := .dict #[] }) scope.names }
  have nfp : ∀ b ∈ fp, (upd H2 D (.lst [])) b = none := fun b hb => (f3 b hb).1.1
  have cF : (compEnvC scope (cellsFrom (s3.heap.objs.size + 1) scope.names (cloFrom X.env.cells scope.names [])) s3.heap.objs.size X.env).frame = X.env.frame := rfl
  have cL : (compEnvC scope (cellsFrom (s3.heap.objs.size + 1) scope.names (cloFrom X.env.cells scope.names [])) s3.heap.objs.size X.env).locals = s3.heap.objs.size := rfl
  generalize hce : compEnvC scope (cellsFrom (s3.heap.objs.size + 1) scope.names (cloFrom X.env.cells scope.names [])) s3.heap.objs.size X.env = ce at I4 pg pt pe cF cL ⊢
  generalize hH3 : upd H2 D (.lst []) = H3 at I3 I4 pg pt pe w0 nfp f3
  obtain ⟨xe, hxe⟩ : ∃ xe, xe = notedBy (model X.prog X.w) X.A ce fun e s' => compPostX (model X.prog X.w) X.A X.xe use Qf (.ref D) s3.heap.objs.size X.env.frame (.error e) s' := ⟨_, rfl⟩
  have tkb : Takes (X.blkX s3 H3 scope ce fp xe) (fun c d _ H => W c d σ H) := blk_takes of tk I3 f3 cL cF hxe
  have pg := pg xe
  have pt := pt xe tkb
  have pe := pe xe tkb
  have I4 : Inv (X.blkX s3 H3 scope ce fp xe) [] (wipe σ (own.map (·.2))) H3 { s3 with heap := pushCells (s3.heap.push { cls := .type "dict", data := .dict #[] }) scope.names } := inv_blkX I4 xe
  generalize hs4 : ({ s3 with heap := pushCells (s3.heap.push { cls := .type "dict", data := .dict #[] }) scope.names } : Shared) = s4 at I4 ⊢
  have st4 : tn 0 s4.heap := T.keep _ _ _ st3 fun b _ o e => by rw [← hs4]; exact pushCells_keeps _ _ _ _ (Heap.get?_push_of_some _ e)
  have stat : ∀ {σ' : St} {H' : Hp} {s' : Shared}, Inv (X.blkX s3 H3 scope ce fp xe) [] σ' H' s' → (∀ b ∈ fp, H' b = none) → ∀ b ∈ fp, FpOk (X.blkX s3 H3 scope ce fp xe) [] H' b := fun {σ' H' s'} I' hn b hb =>
    ⟨hn b hb, (I'.ok.exf b hb).1, I'.ok.exfs b hb, .inl hb, fun x c e => (I'.ok.exf b hb).2 x c e, fun p hp => absurd (show p ∈ ([] : List (Addr × Obj)) ++ [] from hp) (by simp)⟩
  have loop : codeAny (model X.prog X.w) X.A (.compLoop (.ListComp elt [⟨tg, iter, ifs, 0⟩] scope pos) 0 (.ref it) (.ref D) ce) (compPostX (model X.prog X.w) X.A X.xe use Qf (.ref D) s3.heap.objs.size X.env.frame) s4 := by
    refine compLoop_any (fun n s' => ∃ i H', Inv (X.blkX s3 H3 scope ce fp xe) [] (wipe σ (own.map (·.2))) H' s' ∧ tn i s'.heap ∧ (∀ b ∈ fp, H' b = none) ∧ Wm i n H') ?_ m0 ⟨0, H3, I4, st4, nfp, w0⟩
    rintro n s5 ⟨i, H5, I5, st5, n5, w5⟩
    rw [← hxe]
    rcases turn i n H5 w5 with ⟨stop, qq⟩ | ⟨go, Nx, hNx, step⟩
    · have td := T.done (X.blkX s3 H3 scope ce fp xe) rfl rfl rfl hc i [] s5 _ H5 (fun _ _ => False) I5 (stat I5 n5) st5 stop
      refine thnF td fun r s6 ⟨hr, I6⟩ => ?_
      subst hr
      have I7 : Inv X pins σ H5 s6 := I3.call' (ch := fp) I6.os I6.base I6.hok I6.bare fun b hb => ⟨(f3 b hb).1.2.2.2.1, (f3 b hb).1.2.1, (f3 b hb).1.2.2.2.2.1, (f3 b hb).1.2.2.2.2.2⟩
      have nC : H5 s3.heap.objs.size = none := by
        have z : H5 ce.locals = none := I6.free
        rw [cL] at z
        exact z
      obtain ⟨m, hn, _⟩ := I6.loc
      have hn : s6.heap.Ns ce.locals m := hn
      rw [cL] at hn
      exact hRR D s3.heap.objs.size s6 m H5 I7 qq hn (I3.fpOk (Nat.le_refl _) nC)
    · have ti := T.item (X.blkX s3 H3 scope ce fp xe) rfl rfl rfl hc i [] s5 _ H5 (fun _ _ => False) I5 (stat I5 n5) st5 go
      refine thnF ti fun r s6 ⟨u, hr, h6⟩ => ?_
      subst hr
      refine thnF h6 fun _ s7 ⟨x, H7, I7, r7, y7, st7, n7⟩ => ?_
      have I7' := I7.pinned (stat I7 n7) (T.obj _ _ st7)
      refine thn (pg.run _ s7 _ H7 x u _ I7' r7 (step x H7 y7)) fun _ s8 ⟨σ8, H8, I8, hw8, q8⟩ => ?_
      refine thn (pt.run _ s8 σ8 H8 _ I8 q8) fun b s9 ⟨H9, I9, q9⟩ => ?_
      have fin : ∀ {s' : Shared} {H' : Hp}, Inv (X.blkX s3 H3 scope ce fp xe) ([] ++ pinsAt fp s7.heap) σ8 H' s' → Nx H' → ∃ m, m < n ∧ ∃ i H', Inv (X.blkX s3 H3 scope ce fp xe) [] (wipe σ (own.map (·.2))) H' s' ∧ tn i s'.heap ∧ (∀ b ∈ fp, H' b = none) ∧ Wm i m H' := fun {s' H'} I' nx => by
        obtain ⟨m', hm, w'⟩ := hNx H' nx
        have pin' : ∀ b ∈ fp, ∀ o, s7.heap.get? b = some o → s'.heap.get? b = some o ∧ H' b = none := fun b hb o e =>
          let z := I'.pin (b, o) (List.mem_append_right _ (List.mem_append_right _ (mem_pinsAt hb e)))
          ⟨z.1, z.2.1⟩
        have hl : (wipe σ (own.map (·.2))).length = σ8.length := by rw [← hw8, wipe_length]
        refine ⟨m', hm, i + 1, H', (I'.unpinned (pins := [])).weak hl (fun j v e => ?_), T.keep _ _ _ st7 fun b hb o e => (pin' b hb o e).1, fun b hb => ?_, w'⟩
        · rw [← hw8] at e
          exact (wipe_some e).1
        · obtain ⟨o, e, _⟩ := T.obj _ _ st7 b hb
          exact (pin' b hb o e).2
      cases b with
      | false =>
        simp only [Bool.false_eq_true, if_false] at q9 ⊢
        exact fin I9 q9
      | true =>
        simp only [if_true] at q9 ⊢
        refine thn (pe.run _ s9 σ8 H9 _ I9 q9) fun z s10 ⟨yv, H10, I10, r10, acc, hD10, hz10, nx⟩ => ?_
        exact app_ok (X := X.blkX s3 H3 scope ce fp xe) I10 hD10 hz10 r10 fun s11 I11 => fin I11 nx
  exact codeAny_compStart_list loop (T.self X.A 0 _ _ _ st4 loop)
theorem pe_lcX {W : WX} {elt tg iter : Expr} {ifs : List Expr} {scope : Scope} {own : List (Str × Nat)} {pos : Pos} {wi : TI} {g : TG} {tt : St → TT} {te : St → TE} (of : OwnFrame X) (tk : Takes X W) (hc : X.calm = true) (hN : X.N.Nodup) (hi : PI X tg iter wi) (ok : BlkOk X.N X.env.scope scope own)
    (hg : ∀ (s : Shared) (H : Hp) (C : Addr) (cl : List (Str × Addr)) (fp : List Addr) (xe : Value → Shared → Prop), PG (X.blkX s H scope (compEnvC scope cl C X.env) fp xe) tg g)
    (ht : ∀ (σ : St) (s : Shared) (H : Hp) (C : Addr) (cl : List (Str × Addr)) (fp : List Addr) (xe : Value → Shared → Prop), Takes (X.blkX s H scope (compEnvC scope cl C X.env) fp xe) (fun c d _ H => W c d σ H) → PTs (X.blkX s H scope (compEnvC scope cl C X.env) fp xe) ifs (tt σ))
    (he : ∀ (σ : St) (s : Shared) (H : Hp) (C : Addr) (cl : List (Str × Addr)) (fp : List Addr) (xe : Value → Shared → Prop), Takes (X.blkX s H scope (compEnvC scope cl C X.env) fp xe) (fun c d _ H => W c d σ H) → PE (X.blkX s H scope (compEnvC scope cl C X.env) fp xe) elt (te σ)) (hs : ∀ x, foldedSetIterable iter X.env x = pure x := by intro _; rfl) :
    PE X (.ListComp elt [⟨tg, iter, ifs, 0⟩] scope pos) (tLcX wi g tt te (own.map (·.2))) := by
  refine ⟨fun pins s σ H Q I h => ?_⟩
  rw [eval_ListComp]
  refine lc_coreX of tk hc hN I hi ok hg (ht σ) (he σ) hs h fun D C s' m H' I' q hn f => ⟨m, hn, fun h'' sb => ?_⟩
  obtain ⟨f0, f1, f2, f3, f4, f5⟩ := f
  exact ⟨.ref D, H', I'.turned (t' := s'.toks) (fun b o hb e => (sb.2 b hb).trans e) f0 f1 f3 f4 f5, rfl, q⟩
theorem ps_setLcX {W : WX} {i : Nat} {y : Str} {py : Pos} {elt tg iter : Expr} {ifs : List Expr} {scope : Scope} {own : List (Str × Nat)} {pos spos : Pos} {wi : TI} {g : TG} {tt : St → TT} {te : St → TE} (of : OwnFrame X) (tk : Takes X W) (hc : X.calm = true) (hN : X.N.Nodup) (hy : X.N[i]? = some y) (hyl : X.env.scope.names.lookup y = some .local)
    (hsw : swapsWith (.ListComp elt [⟨tg, iter, ifs, 0⟩] scope pos) (some (.Name y py)) spos.line X.env = pure true) (hi : PI X tg iter wi) (ok : BlkOk X.N X.env.scope scope own)
    (hg : ∀ (s : Shared) (H : Hp) (C : Addr) (cl : List (Str × Addr)) (fp : List Addr) (xe : Value → Shared → Prop), PG (X.blkX s H scope (compEnvC scope cl C X.env) fp xe) tg g)
    (ht : ∀ (σ : St) (s : Shared) (H : Hp) (C : Addr) (cl : List (Str × Addr)) (fp : List Addr) (xe : Value → Shared → Prop), Takes (X.blkX s H scope (compEnvC scope cl C X.env) fp xe) (fun c d _ H => W c d σ H) → PTs (X.blkX s H scope (compEnvC scope cl C X.env) fp xe) ifs (tt σ))
    (he : ∀ (σ : St) (s : Shared) (H : Hp) (C : Addr) (cl : List (Str × Addr)) (fp : List Addr) (xe : Value → Shared → Prop), Takes (X.blkX s H scope (compEnvC scope cl C X.env) fp xe) (fun c d _ H => W c d σ H) → PE (X.blkX s H scope (compEnvC scope cl C X.env) fp xe) elt (te σ)) (hs : ∀ x, foldedSetIterable iter X.env x = pure x := by intro _; rfl) :
    PS X (.Assign [.Name y py] (.ListComp elt [⟨tg, iter, ifs, 0⟩] scope pos) spos) (tAsg (tLcX wi g tt te (own.map (·.2))) (gName i)) := by
  refine ⟨fun pins s σ H D I h => ?_⟩
  rw [exec_Assign_Name_used _ _ _ _ hsw]
  refine wpAny_bind (wpAny_standAt (wpAny_bind ?_))
  show wpAny _ X.A (do let _ ← comprehension (.ListComp elt [⟨tg, iter, ifs, 0⟩] scope pos) scope X.env (firstIterPos [⟨tg, iter, ifs, 0⟩] pos) (newList []) false (eval iter X.env) (some (assign (.Name y py) X.env))) _ _ s
  have h : tLc wi g (tt σ) (te σ) (own.map (·.2)) σ H (fun x H1 => gName i x σ H1 D.nx) := h
  refine wpAny_bind (thn (lc_coreX (Qf := fun _ s' => SP X pins D .next s') of tk hc hN I hi ok hg (ht σ) (he σ) hs h fun L C s' m H' I' q hn f => ?_) fun _ s' hq => wpAny_pure (wpAny_pure hq))
  show wpAny _ _ (assign (.Name y py) X.env (.ref L)) _ _ _
  refine wpAny_assign_Name (store_ok2 (v := V.ref L) I' hN hy (.inl hyl) rfl (fun s2 I2 ⟨a, sb, ha⟩ => ?_) (.inr hyl))
  obtain ⟨f0, f1, f2, f3, f4, f5⟩ := f
  have haC : C ≠ a := by
    rcases ha with z | z
    · rw [z]; exact f1
    · exact fun e => f4 y a z e.symm
  refine ⟨m, hn.sameBut sb haC, fun h3 sb3 => ?_⟩
  exact ⟨_, H', I2.turned (t' := s2.toks) (fun b o hb e => (sb3.2 b hb).trans e) f0 f1 f3 f4 f5, q⟩
end
open Classical in
noncomputable def lcLX (n : Nat) (G : Store → Prop) (t : LT) (e0 : Ev) (tt : TM) (el : EM) : List D → Store → R Unit
  | [], S => if G S then .ok () S else .stuck
  | d :: ds, S => if G S then match t.items d with
    | some xs => (tt ⟨setAll e0.sl t.ix xs, []⟩ S).bind fun b S2 => if b = true then (el ⟨setAll e0.sl t.ix xs, []⟩ S2).bind fun y S3 => match S3[n]? with
        | some (.lst acc) => if acc.length < sizeLine then lcLX n G t e0 tt el ds (S3.set n (.lst (acc ++ [y]))) else .stuck
        | _ => .stuck
      else lcLX n G t e0 tt el ds S2
    | none => .stuck
    else .stuck
noncomputable def mLcX (vs : List Nat) (t : LT) (it : IM) (tt : TM) (el : EM) : EM := fun e S => (it e S).bind fun w S1 => (lcLX S1.length w.G t (e.wip vs) tt el w.ds (S1 ++ [.lst []])).bind fun _ S2 => .ok (.obj S1.length) S2
section
variable {nm : Nms} {X : Cx}
theorem lc_rdX {W : WX} {tg iter : Expr} {scope : Scope} {it : IM} {tt : TM} {el : EM} {vs : List Nat} (t : LT) (hsub : ∀ i ∈ t.ix, i ∈ vs) {σ : St} {H : Hp} {Q : VK} (hh : rdE nm X W (mLcX vs t it tt el) σ H Q) :
    tLc (fun σ H R => ∃ e S μ, EvR nm X H μ e σ ∧ Sim nm X.K X.mg μ S H ∧ PostX nm X W μ H σ (it e S) fun w S' μ' H' => ∀ J C, Stable C → C H' μ' → WOk nm X J w C → R J H') (t.tg X.K)
      (rdT nm (blk0 X scope) (fun c d _ H => W c d σ H) tt) (rdE nm (blk0 X scope) (fun c d _ H => W c d σ H) el) vs σ H Q := by
  obtain ⟨e, S, μ, E, s, p⟩ := hh
  refine ⟨e, S, μ, E, s, (Post.bind p).mono fun w S1 μ1 H1 x1 s1 p1 J C st c0 ok' => ?_⟩
  intro D nD
  refine ⟨fun i m H' => m = w.ds.length - i ∧ i ≤ w.ds.length ∧ ∃ S μ', EvR nm X H' μ' e σ ∧ Sim nm X.K X.mg μ' S H' ∧ C H' μ' ∧ μ'[S1.length]? = some D ∧ PostX nm X W μ' H' σ ((lcLX S1.length w.G t (e.wip vs) tt el (w.ds.drop i) S).bind fun _ S2 => .ok (.obj S1.length) S2) (fun d _ μ' H' => ∀ v, RV X.K H' μ' v d → Q v H'),
    ⟨w.ds.length, rfl, Nat.zero_le _, S1 ++ [.lst []], μ1 ++ [D], (E.ext x1).ext (Ext.made s1 nD), s1.made (o := .lst []) nD ⟨[], upd_same, .nil⟩, st _ _ _ _ (Ext.made s1 nD) c0, new_at s1, by rw [List.drop_zero]; exact Post.ext (Ext.made s1 nD) p1⟩, ?_⟩
  rintro i m H' ⟨rfl, hi, S, μ', E', s', c', eD, p'⟩
  by_cases hlt : i < w.ds.length
  · obtain ⟨d, hd⟩ : ∃ d, w.ds[i]? = some d := ⟨_, List.getElem?_eq_getElem hlt⟩
    have hdr : w.ds.drop i = d :: w.ds.drop (i + 1) := by
      rw [List.drop_eq_getElem_cons hlt]
      rw [List.getElem?_eq_getElem hlt] at hd
      cases hd; rfl
    rw [hdr] at p'
    unfold lcLX at p'
    split at p'
    · rename_i hG
      obtain ⟨go, yl⟩ := (ok' i S μ' H' s' c' hG).1 d hd
      refine .inr ⟨go, fun H2 => ∃ m', m' < w.ds.length - i ∧ m' = w.ds.length - (i + 1) ∧ i + 1 ≤ w.ds.length ∧ ∃ S μ', EvR nm X H2 μ' e σ ∧ Sim nm X.K X.mg μ' S H2 ∧ C H2 μ' ∧ μ'[S1.length]? = some D ∧ PostX nm X W μ' H2 σ ((lcLX S1.length w.G t (e.wip vs) tt el (w.ds.drop (i + 1)) S).bind fun _ S2 => .ok (.obj S1.length) S2) (fun d _ μ' H' => ∀ v, RV X.K H' μ' v d → Q v H'), fun H2 h => h, fun x H2 y => ?_⟩
      obtain ⟨x2, s2, r2⟩ := yl x H2 y
      split at p'
      · rename_i xs hxs
        obtain ⟨ws, rws, run⟩ := lt_run hxs r2
        refine run _ _ ⟨wipe_setAll ws hsub, ⟨setAll (e.wip vs).sl t.ix xs, []⟩, S, μ', ?_, s2, ?_⟩
        · exact evr_setAll (X := X.blk X.s_0 X.H_0 scope X.env []) t.ix rws (evr_wip (X := X) (X' := X.blk X.s_0 X.H_0 scope X.env []) rfl _ (E'.ext x2))
        · rw [bind_assoc] at p'
          refine (Post.bind (Post.ext x2 p')).mono fun b S3 μ3 H3 x3 s3 p3 => ?_
          have E3 := (E'.ext x2).ext x3
          have c3 := st _ _ _ _ (x2.trans x3) c'
          have eD3 := (x2.trans x3).at eD
          cases b with
          | true =>
            rw [if_pos rfl] at p3
            dsimp only
            rw [if_pos rfl]
            refine ⟨⟨setAll (e.wip vs).sl t.ix xs, []⟩, S3, μ3, ?_, s3, ?_⟩
            · exact evr_setAll (X := X.blk X.s_0 X.H_0 scope X.env []) t.ix (RVs.ext x3 _ rws) (evr_wip (X := X) (X' := X.blk X.s_0 X.H_0 scope X.env []) rfl _ E3)
            · rw [bind_assoc] at p3
              refine (Post.bind p3).mono fun y S4 μ4 H4 x4 s4 p4 v rv => ?_
              have eD4 := x4.at eD3
              split at p4
              · rename_i acc hacc
                split at p4
                · rename_i hl
                  obtain ⟨zs, e1, rz⟩ := s4.ob _ _ _ eD4 hacc
                  have x5 := Ext.wrote (H := H4) (u := .lst (zs ++ [v])) (List.mem_of_getElem? eD4) (NF.of e1)
                  exact ⟨zs, e1, by rw [rz.length]; exact hl, w.ds.length - (i + 1), by omega, rfl, hlt, S4.set S1.length (.lst (acc ++ [y])), μ4, (E3.ext x4).ext x5, s4.wrote eD4 ⟨zs ++ [v], upd_same, RVs.ext x5 _ (rz.append (.cons rv .nil))⟩, st _ _ _ _ (x4.trans x5) c3, eD4, Post.ext x5 p4⟩
                · exact False.elim p4
              · exact False.elim p4
          | false =>
            rw [if_neg Bool.false_ne_true] at p3
            dsimp only
            rw [if_neg Bool.false_ne_true]
            exact ⟨w.ds.length - (i + 1), by omega, rfl, hlt, S3, μ3, E3, s3, c3, eD3, p3⟩
      · exact False.elim p'
    · exact False.elim p'
  · have hz : w.ds.drop i = [] := List.drop_eq_nil_of_le (Nat.le_of_not_lt hlt)
    rw [hz] at p'
    unfold lcLX at p'
    split at p'
    · rename_i hG
      exact .inl ⟨(ok' i S μ' H' s' c' hG).2 (Nat.le_of_not_lt hlt), p' μ' H' .refl s' _ (.obj eD)⟩
    · exact False.elim p'
theorem pts_blkX {W : WX} {σ : St} {s : Shared} {H : Hp} {scope : Scope} {cenv : Env} {fp : List Addr} {xe : Value → Shared → Prop} {ifs : List Expr} {tt : TM} (h : MTs nm (X.blkX s H scope cenv fp xe) ifs tt) (tk : Takes (X.blkX s H scope cenv fp xe) (fun c d _ H => W c d σ H)) : PTs (X.blkX s H scope cenv fp xe) ifs (rdT nm (blk0 X scope) (fun c d _ H => W c d σ H) tt) :=
  ⟨fun pins s1 σ1 H1 Q I hh => (h.run _ tk).run pins s1 σ1 H1 Q I (by obtain ⟨e, S, μ, E, sm, p⟩ := hh; exact ⟨e, S, μ, ⟨E.len, E.at_, E.ex⟩, sm, p⟩)⟩
theorem pe_blkX {W : WX} {σ : St} {s : Shared} {H : Hp} {scope : Scope} {cenv : Env} {fp : List Addr} {xe : Value → Shared → Prop} {e : Expr} {el : EM} (h : ME nm (X.blkX s H scope cenv fp xe) e el) (tk : Takes (X.blkX s H scope cenv fp xe) (fun c d _ H => W c d σ H)) : PE (X.blkX s H scope cenv fp xe) e (rdE nm (blk0 X scope) (fun c d _ H => W c d σ H) el) :=
  (h.run _ tk).imp fun σ1 H1 Q hh => by obtain ⟨e, S, μ, E, sm, p⟩ := hh; exact ⟨e, S, μ, ⟨E.len, E.at_, E.ex⟩, sm, p⟩
theorem me_lcX {elt tg iter : Expr} {ifs : List Expr} {scope : Scope} {own : List (Str × Nat)} {pos : Pos} {it : IM} {tt : TM} {el : EM} {vs : List Nat} (of : OwnFrame X) (t : LT) (hc : X.calm = true) (hN : X.N.Nodup) (hi : MI nm X tg iter it) (ok : BlkOk X.N X.env.scope scope own) (hv : own.map (·.2) = vs) (hsub : ∀ i ∈ t.ix, i ∈ vs)
    (hg : ∀ (s : Shared) (H : Hp) (C : Addr) (cl : List (Str × Addr)) (fp : List Addr) (xe : Value → Shared → Prop), PG (X.blkX s H scope (compEnvC scope cl C X.env) fp xe) tg (t.tg X.K))
    (ht : ∀ (s : Shared) (H : Hp) (C : Addr) (cl : List (Str × Addr)) (fp : List Addr) (xe : Value → Shared → Prop), MTs nm (X.blkX s H scope (compEnvC scope cl C X.env) fp xe) ifs tt)
    (he : ∀ (s : Shared) (H : Hp) (C : Addr) (cl : List (Str × Addr)) (fp : List Addr) (xe : Value → Shared → Prop), ME nm (X.blkX s H scope (compEnvC scope cl C X.env) fp xe) elt el)
    (hs : ∀ x, foldedSetIterable iter X.env x = pure x := by intro _; rfl) : ME nm X (.ListComp elt [⟨tg, iter, ifs, 0⟩] scope pos) (mLcX vs t it tt el) := by
  subst hv
  exact ⟨fun W tk => (pe_lcX of tk hc hN (hi.run W tk) ok hg (fun σ s H C cl fp xe tkb => pts_blkX (σ := σ) (ht s H C cl fp xe) tkb) (fun σ s H C cl fp xe tkb => pe_blkX (σ := σ) (he s H C cl fp xe) tkb) hs).imp fun σ H Q hh => lc_rdX (tg := tg) (iter := iter) t hsub hh⟩
theorem ms_setLcX (of : OwnFrame X) (i : Nat) {y : Str} {py spos : Pos} {elt tg iter : Expr} {ifs : List Expr} {scope : Scope} {own : List (Str × Nat)} {pos : Pos} {it : IM} {tt : TM} {el : EM} {vs : List Nat} (t : LT) (hc : X.calm = true) (hN : X.N.Nodup) (hy : X.N[i]? = some y) (hyl : X.env.scope.names.lookup y = some .local)
    (hk : X.env.scope.kind = .function) (hl : (py.line == pos.line) = true) (ha : (scope.names.any fun (n, k) => n == y && (k == .local || k == .cell)) = false)
    (hi : MI nm X tg iter it) (ok : BlkOk X.N X.env.scope scope own) (hv : own.map (·.2) = vs) (hsub : ∀ i ∈ t.ix, i ∈ vs)
    (hg : ∀ (s : Shared) (H : Hp) (C : Addr) (cl : List (Str × Addr)) (fp : List Addr) (xe : Value → Shared → Prop), PG (X.blkX s H scope (compEnvC scope cl C X.env) fp xe) tg (t.tg X.K))
    (ht : ∀ (s : Shared) (H : Hp) (C : Addr) (cl : List (Str × Addr)) (fp : List Addr) (xe : Value → Shared → Prop), MTs nm (X.blkX s H scope (compEnvC scope cl C X.env) fp xe) ifs tt)
    (he : ∀ (s : Shared) (H : Hp) (C : Addr) (cl : List (Str × Addr)) (fp : List Addr) (xe : Value → Shared → Prop), ME nm (X.blkX s H scope (compEnvC scope cl C X.env) fp xe) elt el)
    (hs : ∀ x, foldedSetIterable iter X.env x = pure x := by intro _; rfl) : MS nm X (.Assign [.Name y py] (.ListComp elt [⟨tg, iter, ifs, 0⟩] scope pos) spos) (mSet i (mLcX vs t it tt el)) := by
  subst hv
  refine ⟨fun W tk => (ps_setLcX of tk hc hN hy hyl (sw_true hk hyl hl ha) (hi.run W tk) ok hg (fun σ s H C cl fp xe tkb => pts_blkX (σ := σ) (ht s H C cl fp xe) tkb) (fun σ s H C cl fp xe tkb => pe_blkX (σ := σ) (he s H C cl fp xe) tkb) hs).imp fun D σ H h => ?_⟩
  obtain ⟨e, S, μ, E, s, p⟩ := h
  exact lc_rdX (tg := tg) (iter := iter) t hsub ⟨e, S, μ, E, s, (PostS.toS E p).mono fun d S' μ' H' x s' q v r => q _ μ' H' .refl s' ((E.ext x).set r)⟩
theorem pg_oneX {s : Shared} {H : Hp} {scope : Scope} {cenv : Env} {fp : List Addr} {xe : Value → Shared → Prop} {pos : Pos} (i : Nat) {x : Str} (hN : X.N.Nodup) (hi : X.N[i]? = some x) (hl : Loc cenv.scope x) (hf : (scope.names.lookup x == some .cell) = true ∨ cenv.scope.names.lookup x = some .local) :
    PG (X.blkX s H scope cenv fp xe) (.Name x pos) ((LT.one i).tg X.K) := pg_name (X := X.blkX s H scope cenv fp xe) hN hi hl hf
end
theorem lcX_of {n : Nat} {G : Store → Prop} {t : LT} {e0 : Ev} {tt : TM} {el : EM} : ∀ {ds : List D} {S S' : Store}, lcL n G t e0 tt el ds S = .ok () S' → lcLX n G t e0 tt el ds S = .ok () S'
  | [], S, S', h => h
  | d :: ds, S, S', h => by
    unfold lcL at h
    unfold lcLX
    split at h
    · rename_i hG
      rw [if_pos hG]
      split at h
      · rename_i xs hx
        try rw [hx]
        try dsimp only
        cases ht : tt ⟨setAll e0.sl t.ix xs, []⟩ S with
        | ok b S2 =>
          rw [ht, R.nox_ok, R.bind_ok] at h
          rw [R.bind_ok]
          cases b with
          | false =>
            rw [if_neg Bool.false_ne_true] at h ⊢
            exact lcX_of h
          | true =>
            rw [if_pos rfl] at h ⊢
            cases hy : el ⟨setAll e0.sl t.ix xs, []⟩ S2 with
            | ok y S3 =>
              rw [hy, R.nox_ok, R.bind_ok] at h
              rw [R.bind_ok]
              split at h
              · rename_i acc hacc
                try rw [hacc]
                try dsimp only
                split at h
                · rename_i hlt
                  rw [if_pos hlt]
                  exact lcX_of h
                · cases h
              · cases h
            | exc c fs S3 => rw [hy] at h; cases h
            | stuck => rw [hy] at h; cases h
        | exc c fs S2 => rw [ht] at h; cases h
        | stuck => rw [ht] at h; cases h
      · cases h
    · cases h
/-- the items of ds are served, the next one raises -/
theorem lcX_exc {n : Nat} {G : Store → Prop} {t : LT} {e0 : Ev} {tt : TM} {el : EM} {c : Nat} {fs : List (Nat × D)} {Se : Store} {d : D} {xs : List D} {r : List D} : ∀ {ds : List D} {S S' : Store}, lcL n G t e0 tt el ds S = .ok () S' → G S' → t.items d = some xs →
    (tt ⟨setAll e0.sl t.ix xs, []⟩ S').bind (fun b S2 => if b = true then (el ⟨setAll e0.sl t.ix xs, []⟩ S2).bind fun _ S3 => .ok () S3 else .ok () S2) = .exc c fs Se → lcLX n G t e0 tt el (ds ++ d :: r) S = .exc c fs Se
  | [], S, S', h, hG, hx, he => by
    unfold lcL at h
    split at h
    · cases h
      rw [List.nil_append]
      unfold lcLX
      rw [if_pos hG, hx]
      dsimp only
      cases ht : tt ⟨setAll e0.sl t.ix xs, []⟩ S with
      | ok b S2 =>
        rw [ht, R.bind_ok] at he
        rw [R.bind_ok]
        cases b with
        | false => rw [if_neg Bool.false_ne_true] at he; cases he
        | true =>
          rw [if_pos rfl] at he ⊢
          cases hy : el ⟨setAll e0.sl t.ix xs, []⟩ S2 with
          | ok y S3 => rw [hy] at he; cases he
          | exc c2 fs2 S3 => rw [hy] at he; exact he
          | stuck => rw [hy] at he; cases he
      | exc c2 fs2 S2 => rw [ht] at he; exact he
      | stuck => rw [ht] at he; cases he
    · cases h
  | d0 :: ds, S, S', h, hG, hx, he => by
    unfold lcL at h
    rw [List.cons_append]
    unfold lcLX
    split at h
    · rename_i hG0
      rw [if_pos hG0]
      split at h
      · rename_i xs0 hx0
        try rw [hx0]
        try dsimp only
        cases ht : tt ⟨setAll e0.sl t.ix xs0, []⟩ S with
        | ok b S2 =>
          rw [ht, R.nox_ok, R.bind_ok] at h
          rw [R.bind_ok]
          cases b with
          | false =>
            rw [if_neg Bool.false_ne_true] at h ⊢
            exact lcX_exc h hG hx he
          | true =>
            rw [if_pos rfl] at h ⊢
            cases hy : el ⟨setAll e0.sl t.ix xs0, []⟩ S2 with
            | ok y S3 =>
              rw [hy, R.nox_ok, R.bind_ok] at h
              rw [R.bind_ok]
              split at h
              · rename_i acc hacc
                try rw [hacc]
                try dsimp only
                split at h
                · rename_i hlt
                  rw [if_pos hlt]
                  exact lcX_exc h hG hx he
                · cases h
              · cases h
            | exc c2 fs2 S3 => rw [hy] at h; cases h
            | stuck => rw [hy] at h; cases h
        | exc c2 fs2 S2 => rw [ht] at h; cases h
        | stuck => rw [ht] at h; cases h
      · cases h
    · cases h
section
variable {nm : Nms} {X : Cx} {pos : Pos}
def gAttr (K : PySem.W.Frag) (ta : TE) (f : Str) : TG := fun v σ H Q => ta σ H fun x H2 => ∃ a C dx fs, x = .ref a ∧ H2 a = some (.ins C dx fs) ∧ Cls K C ∧ NoAttr K C f ∧ fs.length < 1000 ∧ Q σ (upd H2 a (.ins C dx (putF f v fs)))
theorem pg_attr {o : Expr} {f : Str} {ta : TE} (ha : PE X o ta) : PG X (.Attribute o f pos) (gAttr X.K ta f) := by
  refine ⟨fun pins s σ H v u Q I r h => ?_⟩
  rw [assign_Attribute]
  refine wpAny_bind (wpAny_holding (thn (ha.run pins s σ H _ I h) fun ov s2 ⟨x, H2, I2, rx, a, C, dx, fs, ex, ea, c, n, l, q2⟩ => ?_))
  subst ex
  obtain rfl : ov = Value.ref a := rx
  refine wpAny_bind (wpAny_standAt (wpAny_bind (wpAny_holding ?_)))
  exact setattr_ok I2 ea c n l r fun s3 I3 => wpAny_release ⟨σ, _, I3, q2⟩
def gFd (cs : List Nat) (f : Nat) (o : EM) : GM := fun d e S => (o e S).toS e fun x S => match putF_ cs f S x d with
  | some S => .nx e S
  | none => .stuck
theorem mg_fld {cs : List Nat} {f : Nat} {fx : Str} {o : Expr} {mo : EM} (h : FldOk X.K X.mg nm cs f) (ho : ME nm X o mo) (hf : nm.fld f = fx := by decide +kernel) : MG nm X (.Attribute o fx pos) (gFd cs f mo) := by
  subst hf
  exact ⟨fun W tk => (pg_attr (ho.run W tk)).imp fun v σ H Q hh => by
    obtain ⟨d, e, S, μ, r, E, s, p⟩ := hh
    refine ⟨e, S, μ, E, s, (PostS.toS E p).mono fun d2 S2 μ2 H2 x2 s2 q2 v2 r2 => ?_⟩
    split at q2
    · rename_i S3 hp
      obtain ⟨a, C, dx, gs, h1, h2, h3, h4, h5, h6, h7, _⟩ := putF_at h s2 r2 (r.ext x2) hp
      exact ⟨a, C, dx, gs, h1, h2, h3, h4, h5, q2 _ _ _ h6 h7 ((E.ext x2).ext h6)⟩
    · exact False.elim q2⟩
theorem gok_fd {cs : List Nat} {f : Nat} {o : EM} : GOk (gFd cs f o) := fun d e S d' S' => by
  unfold gFd
  cases h1 : o e S with
  | ok x S1 =>
    rw [R.toS_ok]
    split <;> exact ⟨fun h => (nomatch h), fun e' => ⟨fun h => (nomatch h), fun h => (nomatch h)⟩⟩
  | exc c fs S2 => exact ⟨fun h => (nomatch h), fun e' => ⟨fun h => (nomatch h), fun h => (nomatch h)⟩⟩
  | stuck => exact ⟨fun h => (nomatch h), fun e' => ⟨fun h => (nomatch h), fun h => (nomatch h)⟩⟩
end
end BS
namespace BS
open PySem PySem.Spec PyProof.Rows L2
@[simp] theorem mVar_ev (i : Nat) (e : Ev) (S : Store) : mVar i e S = match e.sl[i]? with
  | some (some d) => .ok d S
  | _ => .stuck := rfl
@[simp] theorem mC_ev (d : D) (z0 : Ev) (S : Store) : mC d z0 S = .ok d S := rfl
@[simp] theorem mBin_ev (f : Store → D → D → Option D) (a b : EM) (e : Ev) (S : Store) : mBin f a b e S = (a e S).bind fun x S => (b e S).bind fun y S => lift2 f S x y := rfl
@[simp] theorem mUn_ev (f : Store → D → Option D) (a : EM) (e : Ev) (S : Store) : mUn f a e S = (a e S).bind fun x S => match f S x with
  | some d => .ok d S
  | none => .stuck := rfl
@[simp] theorem mBl_ev (m : EM) (e : Ev) (S : Store) : mBl m e S = (m e S).bind fun d S => match asB d with
  | some b => .ok b S
  | none => .stuck := rfl
@[simp] theorem mChain_ev (f g : Store → D → D → Option D) (a b c : EM) (e : Ev) (S : Store) : mChain f g a b c e S = (a e S).bind fun x S => (b e S).bind fun y S => (lift2 f S x y).bind fun z S => match asB z with
  | some true => (c e S).bind fun w S => lift2 g S y w
  | some false => .ok (.bl false) S
  | none => .stuck := rfl
@[simp] theorem mAnd_ev (a b : TM) (e : Ev) (S : Store) : mAnd a b e S = (a e S).bind fun k S => if k = true then b e S else .ok false S := rfl
@[simp] theorem mOr_ev (a b : TM) (e : Ev) (S : Store) : mOr a b e S = (a e S).bind fun k S => if k = true then .ok true S else b e S := rfl
@[simp] theorem mNot_ev (a : TM) (e : Ev) (S : Store) : mNot a e S = (a e S).bind fun k S => .ok (!k) S := rfl
@[simp] theorem mAndV_ev (a b : EM) (e : Ev) (S : Store) : mAndV a b e S = (a e S).bind fun d S => match asB d with
  | some true => b e S
  | some false => .ok (.bl false) S
  | none => .stuck := rfl
@[simp] theorem mOrV_ev (a b : EM) (e : Ev) (S : Store) : mOrV a b e S = (a e S).bind fun d S => match asB d with
  | some false => b e S
  | some true => .ok (.bl true) S
  | none => .stuck := rfl
@[simp] theorem mNotV_ev (a : EM) (e : Ev) (S : Store) : mNotV a e S = (a e S).bind fun d S => match asB d with
  | some k => .ok (.bl (!k)) S
  | none => .stuck := rfl
@[simp] theorem mIf_ev (c : TM) (a b : EM) (e : Ev) (S : Store) : mIf c a b e S = (c e S).bind fun k S => if k = true then a e S else b e S := rfl
@[simp] theorem mNil_ev (z0 : Ev) (S : Store) : mNil z0 S = .ok [] S := rfl
@[simp] theorem mCons_ev (m : EM) (r : AM) (e : Ev) (S : Store) : mCons m r e S = (m e S).bind fun d S => (r e S).bind fun ds S => .ok (d :: ds) S := rfl
@[simp] theorem mTup_ev (m : AM) (e : Ev) (S : Store) : mTup m e S = (m e S).bind fun ds S => .ok (.tup ds) S := rfl
@[simp] theorem mLst_ev (new : Bool) (m : AM) (e : Ev) (S : Store) : mLst new m e S = (m e S).bind fun ds S => fin new ds S := rfl
@[simp] theorem mDct_ev (z0 : Ev) (S : Store) : mDct z0 S = .ok (.obj S.length) (S ++ [.dct []]) := rfl
@[simp] theorem oNo_ev (z0 : Ev) (S : Store) : oNo z0 S = .ok none S := rfl
@[simp] theorem oAt_ev (m : EM) (e : Ev) (S : Store) : oAt m e S = (m e S).bind fun d S => match d with
  | .int i => .ok (some i) S
  | _ => .stuck := rfl
@[simp] theorem mSl_ev (new : Bool) (a : EM) (lo hi : OM) (e : Ev) (S : Store) : mSl new a lo hi e S = (a e S).bind fun x S => (lo e S).bind fun l S => (hi e S).bind fun h S => slS new S x l h := rfl
@[simp] theorem mCall_ev (F : FM) (as : AM) (e : Ev) (S : Store) : mCall F as e S = (as e S).bind F := rfl
@[simp] theorem mMeth_ev (c : Nat) (F : FM) (o : EM) (as : AM) (e : Ev) (S : Store) : mMeth c F o as e S = (o e S).bind fun x S => if isIns c S x = true then (as e S).bind fun ds S => F (x :: ds) S else .stuck := rfl
@[simp] theorem mNew_ev (c : Nat) (F : FM) (as : AM) (e : Ev) (S : Store) : mNew c F as e S = (as e S).bind fun ds S => (F (.obj S.length :: ds) (S ++ [.ins c []])).bind fun d S' => if isNon d = true then .ok (.obj S.length) S' else .stuck := rfl
@[simp] theorem mSkip_ev (e : Ev) (S : Store) : mSkip e S = .nx e S := rfl
@[simp] theorem mSeq_ev (a b : SM) (e : Ev) (S : Store) : mSeq a b e S = (a e S).seq b := rfl
@[simp] theorem mBrk_ev (e : Ev) (S : Store) : mBrk e S = .bk e S := rfl
@[simp] theorem mCnt_ev (e : Ev) (S : Store) : mCnt e S = .ct e S := rfl
@[simp] theorem mExpr_ev (m : EM) (e : Ev) (S : Store) : mExpr m e S = (m e S).toS e fun _ S => .nx e S := rfl
@[simp] theorem mRet_ev (m : EM) (e : Ev) (S : Store) : mRet m e S = (m e S).toS e fun d S => .rt d S := rfl
@[simp] theorem mRetN_ev (z0 : Ev) (S : Store) : mRetN z0 S = .rt .non S := rfl
@[simp] theorem mIfS_ev (c : TM) (a b : SM) (e : Ev) (S : Store) : mIfS c a b e S = (c e S).toS e fun k S => if k = true then a e S else b e S := rfl
@[simp] theorem gNm_ev (i : Nat) (d : D) (e : Ev) (S : Store) : gNm i d e S = .nx (e.set i d) S := rfl
@[simp] theorem gTp_ev (n : Nat) (g : GsM) (d : D) (e : Ev) (S : Store) : gTp n g d e S = match tupOf d with
  | some ds => if ds.length = n then g ds e S else .stuck
  | none => .stuck := rfl
@[simp] theorem mAsg_ev (m : EM) (g : GM) (e : Ev) (S : Store) : mAsg m g e S = (m e S).toS e fun d S => g d e S := rfl
@[simp] theorem mPar_ev (i j : Nat) (m : AM) (e : Ev) (S : Store) : mPar i j m e S = (m e S).toS e fun ds S => match ds with
  | [a, b] => .nx ((e.set i a).set j b) S
  | _ => .stuck := rfl
@[simp] theorem mSetF_ev (cs : List Nat) (f : Nat) (o m : EM) (e : Ev) (S : Store) : mSetF cs f o m e S = (m e S).toS e fun y S => (o e S).toS e fun x S => match putF_ cs f S x y with
  | some S => .nx e S
  | none => .stuck := rfl
@[simp] theorem iLs_ev (m : EM) (e : Ev) (S : Store) : iLs m e S = (m e S).bind fun x S => wkS S x := rfl
@[simp] theorem iTp_ev (m : EM) (e : Ev) (S : Store) : iTp m e S = (m e S).bind fun x S => match tupOf x with
  | some ds => .ok ⟨ds, fun _ => True⟩ S
  | none => .stuck := rfl
@[simp] theorem iRng_ev (as : AM) (e : Ev) (S : Store) : iRng as e S = (as e S).bind fun ds S => match ds with
  | [.int j] => if rngOk j then .ok ⟨intsFrom 0 j.toNat, fun _ => True⟩ S else .stuck
  | [.int i, .int j] => if rngOk i ∧ rngOk j then .ok ⟨intsFrom i (j - i).toNat, fun _ => True⟩ S else .stuck
  | _ => .stuck := rfl
@[simp] theorem mFor_ev (it : IM) (g : GM) (b : SM) (e : Ev) (S : Store) : mFor it g b e S = (it e S).toS e fun w S => forL w.G g b w.ds e S := rfl
@[simp] theorem gSb_ev (o i : EM) (v : D) (e : Ev) (S : Store) : gSb o i v e S = (o e S).toS e fun x S => (i e S).toS e fun y S => match setS S x y v with
  | some S => .nx e S
  | none => .stuck := rfl
@[simp] theorem mAug_ev (i : Nat) (f : Store → D → D → Option D) (m : EM) (e : Ev) (S : Store) : mAug i f m e S = match e.sl[i]? with
  | some (some x) => (m e S).toS e fun y S => (lift2 f S x y).toS e fun z S => .nx (e.set i z) S
  | _ => .stuck := rfl
@[simp] theorem mAugF_ev (c : Nat) (f : Nat) (g : Store → D → D → Option D) (o m : EM) (e : Ev) (S : Store) : mAugF c f g o m e S = (o e S).toS e fun x S => match getF [c] f S x with
  | some y => (m e S).toS e fun z S => (lift2 g S y z).toS e fun w S => match putF_ [c] f S x w with
    | some S => .nx e S
    | none => .stuck
  | none => .stuck := rfl
@[simp] theorem mDel_ev (o i : EM) (e : Ev) (S : Store) : mDel o i e S = (o e S).toS e fun x S => (i e S).toS e fun y S => match delS S x y with
  | some S => .nx e S
  | none => .stuck := rfl
@[simp] theorem mRaise0_ev (c : Nat) (e : Ev) (S : Store) : mRaise0 c e S = .exc c [] e S := rfl
@[simp] theorem mNever_ev (z0 : Ev) (z1 : Store) : mNever z0 z1 = .stuck := rfl
@[simp] theorem mTry_ev (yes no : List Nat) (b s : SM) (e : Ev) (S : Store) : mTry yes no b s e S = (b e.clr S).caught yes no fun _ _ e S => (s e S).nox := rfl
@[simp] theorem mTryAs_ev (i : Nat) (yes no : List Nat) (b s : SM) (e : Ev) (S : Store) : mTryAs i yes no b s e S = (b e.clr S).caught yes no fun c fs e S => if i < e.sl.length then (s (e.exn i c fs) S).gone i else .stuck := rfl
@[simp] theorem fnInt_ev (ds : List D) (S : Store) : fnInt ds S = match ds with
  | [.int i] => .ok (.int i) S
  | [.bl b] => .ok (.int (if b = true then 1 else 0)) S
  | [.str a] => match PySem.intText? a with
    | some n => if a.length ≤ 640 then .ok (.int n) S else .stuck
    | none => .stuck
  | _ => .stuck := rfl
@[simp] theorem fnLen_ev (ds : List D) (S : Store) : fnLen ds S = match ds with
  | [d] => match lenS S d with
    | some n => .ok (.int n) S
    | none => .stuck
  | _ => .stuck := rfl
@[simp] theorem fnList_ev (new : Bool) (ds : List D) (S : Store) : fnList new ds S = match ds with
  | [d] => match seqOf S d with
    | some ds => fin new ds S
    | none => .stuck
  | _ => .stuck := rfl
@[simp] theorem fnTuple_ev (ds : List D) (S : Store) : fnTuple ds S = match ds with
  | [.tup ds] => .ok (.tup ds) S
  | [d] => match lstOf S d with
    | some ds => .ok (.tup ds) S
    | none => .stuck
  | _ => .stuck := rfl
@[simp] theorem fnAbs_ev (ds : List D) (S : Store) : fnAbs ds S = match ds with
  | [.int i] => .ok (.int (if i < 0 then -i else i)) S
  | _ => .stuck := rfl
@[simp] theorem fnStr_ev (ds : List D) (S : Store) : fnStr ds S = match ds with
  | [.int i] => if i.natAbs.log2 < 1920 then .ok (.str (Str.ofString (toString i))) S else .stuck
  | _ => .stuck := rfl
@[simp] theorem fnOrd_ev (ds : List D) (S : Store) : fnOrd ds S = match ds with
  | [.str z] => if z.length = 1 then .ok (.int (z.cps.getD 0 0 : Nat)) S else .stuck
  | _ => .stuck := rfl
@[simp] theorem mBm_ev (T : Ty) (F : FM) (o : EM) (as : AM) (e : Ev) (S : Store) : mBm T F o as e S = (o e S).bind fun x S => match tyS S x with
  | some t => if isTy t T = true then (as e S).bind fun ds S => F (x :: ds) S else .stuck
  | none => .stuck := rfl
@[simp] theorem fnAppend_ev (ds : List D) (S : Store) : fnAppend ds S = match ds with
  | [.obj n, d] => match S[n]? with
    | some (.lst ds) => if ds.length < sizeLine then .ok .non (S.set n (.lst (ds ++ [d]))) else .stuck
    | _ => .stuck
  | _ => .stuck := rfl
@[simp] theorem fnExtend_ev (ds : List D) (S : Store) : fnExtend ds S = match ds with
  | [.obj n, d] => match S[n]? with
    | some (.lst ds) => match d with
      | .scr _ => .stuck
      | _ => match lstOf S d with
        | some es => if ds.length + es.length ≤ sizeLine then .ok .non (S.set n (.lst (ds ++ es))) else .stuck
        | none => .stuck
    | _ => .stuck
  | _ => .stuck := rfl
@[simp] theorem fnPopL_ev (ds : List D) (S : Store) : fnPopL ds S = match ds with
  | [.obj n, .int i] => match S[n]? with
    | some (.lst ds) => match ixN ds.length i with
      | some k => match ds[k]? with
        | some d => if i < 2 ^ 62 then .ok d (S.set n (.lst (ds.eraseIdx k))) else .stuck
        | none => .stuck
      | none => .stuck
    | _ => .stuck
  | _ => .stuck := rfl
@[simp] theorem mXf_ev (i c f : Nat) (e : Ev) (S : Store) : mXf i c f e S = match getX e.ex i c f with
  | some d => .ok d S
  | none => .stuck := rfl
@[simp] theorem mRaise2_ev (c f1 f2 : Nat) (as : AM) (e : Ev) (S : Store) : mRaise2 c f1 f2 as e S = (as e S).toS e fun ds S => match ds with
  | [x, y] => .exc c [(f2, y), (f1, x)] e S
  | _ => .stuck := rfl
@[simp] theorem iAny_ev (m : EM) (e : Ev) (S : Store) : iAny m e S = (m e S).bind fun x S => wkA S x := rfl
@[simp] theorem fnMax2_ev (ds : List D) (S : Store) : fnMax2 ds S = match ds with
  | [.int i, .int j] => .ok (.int (if i < j then j else i)) S
  | [.str a, .str b] => .ok (.str (if ltS a b = true then b else a)) S
  | _ => .stuck := rfl
@[simp] theorem fnMin2_ev (ds : List D) (S : Store) : fnMin2 ds S = match ds with
  | [.int i, .int j] => .ok (.int (if j < i then j else i)) S
  | [.str a, .str b] => .ok (.str (if ltS b a = true then b else a)) S
  | _ => .stuck := rfl
@[simp] theorem mDisp_ev (ms : List (EM × EM)) (e : Ev) (S : Store) : mDisp ms e S = (evalPs ms e (S ++ [.dct []])).bind fun ps S2 => match keysOf ps with
  | some kvs => match S2[S.length]? with
    | some (.dct []) => if kvs.length ≤ 15 then .ok (.obj S.length) (S2.set S.length (.dct (mergeD kvs))) else .stuck
    | _ => .stuck
  | none => .stuck := rfl
@[simp] theorem fnGet2_ev (ds : List D) (S : Store) : fnGet2 ds S = match ds with
  | [x, k, d] => match dctOf S x with
    | some kvs => match keyOf k with
      | some key => .ok ((getK kvs key).getD d) S
      | none => .stuck
    | none => .stuck
  | _ => .stuck := rfl
@[simp] theorem mTru_ev (m : EM) (e : Ev) (S : Store) : mTru m e S = (m e S).bind fun d S => match truS S d with
  | some b => .ok b S
  | none => .stuck := rfl
@[simp] theorem mTabIn_ev (neg : Bool) (kvs : List (Key × D)) (m : EM) (e : Ev) (S : Store) : mTabIn neg kvs m e S = (m e S).bind fun d S => match keyOf d with
  | some k => .ok (if neg = true then !(getK kvs k).isSome else (getK kvs k).isSome) S
  | none => .stuck := rfl
@[simp] theorem mTabGet_ev (kvs : List (Key × D)) (m : EM) (e : Ev) (S : Store) : mTabGet kvs m e S = (m e S).bind fun d S => match keyOf d with
  | some k => match getK kvs k with
    | some d => .ok d S
    | none => .stuck
  | none => .stuck := rfl
@[simp] theorem mCat_ev (new : Bool) (a b : EM) (e : Ev) (S : Store) : mCat new a b e S = (a e S).bind fun x S => (b e S).bind fun y S => catS new S x y := rfl
@[simp] theorem mRep_ev (new : Bool) (a b : EM) (e : Ev) (S : Store) : mRep new a b e S = (a e S).bind fun x S => (b e S).bind fun y S => repS new S x y := rfl
@[simp] theorem mYes_ev (z0 : Ev) (S : Store) : mYes z0 S = .ok true S := rfl
@[simp] theorem mLc_ev (vs : List Nat) (t : LT) (it : IM) (tt : TM) (el : EM) (e : Ev) (S : Store) : mLc vs t it tt el e S = (it e S).bind fun w S1 => (lcL S1.length w.G t (e.wip vs) tt el w.ds (S1 ++ [.lst []])).bind fun _ S2 => .ok (.obj S1.length) S2 := rfl
@[simp] theorem fnAll_ev (ds : List D) (S : Store) : fnAll ds S = match ds with
  | [d] => match lstOf S d with
    | some xs => match blsOf xs with
      | some bs => .ok (.bl (bs.all id)) S
      | none => .stuck
    | none => .stuck
  | _ => .stuck := rfl
@[simp] theorem fnAny_ev (ds : List D) (S : Store) : fnAny ds S = match ds with
  | [d] => match lstOf S d with
    | some xs => match blsOf xs with
      | some bs => .ok (.bl (bs.any id)) S
      | none => .stuck
    | none => .stuck
  | _ => .stuck := rfl
@[simp] theorem mIsE_ev (i : Nat) (yes no : List Nat) (e : Ev) (S : Store) : mIsE i yes no e S = match isX e.ex i yes no with
  | some b => .ok (.bl b) S
  | none => .stuck := rfl
@[simp] theorem fnPopD_ev (ds : List D) (S : Store) : fnPopD ds S = match ds with
  | [.obj n, k] => popS S n k none
  | [.obj n, k, x] => popS S n k (some x)
  | _ => .stuck := rfl
@[simp] theorem fnDict_ev (ds : List D) (S : Store) : fnDict ds S = match ds with
  | [d] => match dctOf S d with
    | some kvs => .ok (.obj S.length) (S ++ [.dct kvs])
    | none => .stuck
  | _ => .stuck := rfl
@[simp] theorem fnSorted_ev (new : Bool) (ds : List D) (S : Store) : fnSorted new ds S = match ds with
  | [d] => match lstOf S d with
    | some xs => match BS.intsOf xs with
      | some ns => fin new ((sortI ns).map .int) S
      | none => match BS.strsOf xs with
        | some zs => if zs.length < 64 then fin new ((sortT zs).map .str) S else .stuck
        | none => .stuck
    | none => match dctOf S d with
      | some kvs => match keysI kvs with
        | some ns => if ns.length < 64 then fin new ((sortI ns).map .int) S else .stuck
        | none => match keysT kvs with
          | some zs => fin new ((sortT zs).map .str) S
          | none => .stuck
      | none => .stuck
  | _ => .stuck := rfl
@[simp] theorem mPar3_ev (i j l : Nat) (m : AM) (e : Ev) (S : Store) : mPar3 i j l m e S = (m e S).toS e fun ds S => match ds with
  | [a, b, c] => .nx (((e.set i a).set j b).set l c) S
  | _ => .stuck := rfl
@[simp] theorem mForK_ev (i : EM) (g : GM) (b : SM) (e : Ev) (S : Store) : mForK i g b e S = match i e S with
  | .ok (.obj n) _ => match S[n]? with
    | some (.dct kvs) => RS.unl n ((i e (S.set n (.lck kvs))).toS e fun x S1 => match x with
      | .obj m => if m = n then (match S1[n]? with
        | some (.lck ks) => forL (fun _ => True) g b (ks.map fun kv => dkey kv.1) e S1
        | _ => .stuck) else .stuck
      | _ => .stuck)
    | _ => .stuck
  | _ => .stuck := rfl
@[simp] theorem fnSortedR_ev (new : Bool) (ds : List D) (S : Store) : fnSortedR new ds S = match ds with
  | [d] => match dctOf S d with
    | some kvs => match keysT kvs with
      | some zs => fin new ((sortT zs).reverse.map .str) S
      | none => .stuck
    | none => .stuck
  | _ => .stuck := rfl
@[simp] theorem mRev_ev (new : Bool) (a : EM) (e : Ev) (S : Store) : mRev new a e S = (a e S).bind fun x S => slRev new S x := rfl
@[simp] theorem fnGet1_ev (ds : List D) (S : Store) : fnGet1 ds S = match ds with
  | [x, k] => match dctOf S x with
    | some kvs => match keyOf k with
      | some key => .ok ((getK kvs key).getD .non) S
      | none => .stuck
    | none => .stuck
  | _ => .stuck := rfl
@[simp] theorem fnFind1_ev (ds : List D) (S : Store) : fnFind1 ds S = match ds with
  | [.str a, .str b] => .ok (.int (Txt.find a b)) S
  | _ => .stuck := rfl
@[simp] theorem fnFind2_ev (ds : List D) (S : Store) : fnFind2 ds S = match ds with
  | [.str a, .str b, .int i] => .ok (.int (Txt.find3 a b i)) S
  | _ => .stuck := rfl
@[simp] theorem fnStartswith_ev (ds : List D) (S : Store) : fnStartswith ds S = match ds with
  | [.str a, .str b] => .ok (.bl (Txt.startswith a b)) S
  | _ => .stuck := rfl
@[simp] theorem fnJoin_ev (ds : List D) (S : Store) : fnJoin ds S = match ds with
  | [.str a, d] => match seqOf S d with
    | some ds => match txtsOf ds with
      | some ys => if (ys.map (·.length)).sum + ys.length * a.length ≤ 16777216 then .ok (.str (Str.join a ys)) S else .stuck
      | none => .stuck
    | none => .stuck
  | _ => .stuck := rfl
@[simp] theorem mRepl_ev (y z : Str) (mo : EM) (e : Ev) (S : Store) : mRepl y z mo e S = (mo e S).bind fun d S => match d with
  | .str x => if x.length + (x.length + 1) * z.length ≤ 16777216 then .ok (.str (Txt.replace x y z)) S else .stuck
  | _ => .stuck := rfl
@[simp] theorem mFmt_ev (m : EM) (e : Ev) (S : Store) : mFmt m e S = (m e S).bind fun d S => match d with
  | .str y => if y.length ≤ sizeLine then .ok (.str y) S else .stuck
  | .int i => if i.natAbs.log2 < 1920 then .ok (.str (Str.ofString (toString i))) S else .stuck
  | _ => .stuck := rfl
@[simp] theorem mJoined_ev (m : JM) (e : Ev) (S : Store) : mJoined m e S = m Str.empty e S := rfl
@[simp] theorem mTry2_ev (i : Nat) (y1 n1 y2 n2 : List Nat) (b s1 s2 : SM) (e : Ev) (S : Store) : mTry2 i y1 n1 y2 n2 b s1 s2 e S = (b e.clr S).caught (y1 ++ n1) [] fun c fs e S => if y1.contains c = true then (if i < e.sl.length then (s1 (e.exn i c fs) S).gone i else .stuck) else if y2.contains c = true then (s2 e S).nox else if n2.contains c = true then .exc c fs e S else .stuck := rfl
@[simp] theorem mAugI_ev (f : Store → D → D → Option D) (o i m : EM) (e : Ev) (S : Store) : mAugI f o i m e S = (o e S).toS e fun x S => (i e S).toS e fun y S => match fIxA S x y with
  | some z => (m e S).toS e fun u S => (lift2 f S z u).toS e fun v S => match setS S x y v with
    | some S => .nx e S
    | none => .stuck
  | none => .stuck := rfl
@[simp] theorem fnIndex_ev (ds : List D) (S : Store) : fnIndex ds S = match ds with
  | [x, .int k] => match lstOf S x with
    | some es => match BS.intsOf es with
      | some ns => match idxI ns k with
        | some j => .ok (.int j) S
        | none => .stuck
      | none => .stuck
    | none => .stuck
  | _ => .stuck := rfl
@[simp] theorem fnMM_ev (g : List Int → Int) (ds : List D) (S : Store) : fnMM g ds S = match ds with
  | [x] => match lstOf S x with
    | some es => match BS.intsOf es with
      | some ns => if 0 < ns.length then .ok (.int (g ns)) S else .stuck
      | none => .stuck
    | none => .stuck
  | _ => .stuck := rfl
@[simp] theorem mLcX_ev (vs : List Nat) (t : LT) (it : IM) (tt : TM) (el : EM) (e : Ev) (S : Store) : mLcX vs t it tt el e S = (it e S).bind fun w S1 => (lcLX S1.length w.G t (e.wip vs) tt el w.ds (S1 ++ [.lst []])).bind fun _ S2 => .ok (.obj S1.length) S2 := rfl
@[simp] theorem gFd_ev (cs : List Nat) (f : Nat) (o : EM) (d : D) (e : Ev) (S : Store) : gFd cs f o d e S = (o e S).toS e fun x S => match putF_ cs f S x d with
  | some S => .nx e S
  | none => .stuck := rfl
@[simp] theorem mSet_ev (i : Nat) (m : EM) (e : Ev) (S : Store) : mSet i m e S = (m e S).toS e fun d S => .nx (e.set i d) S := rfl
@[simp] theorem mSetI_ev (m o i : EM) (e : Ev) (S : Store) : mSetI m o i e S = (m e S).toS e fun d S => gSb o i d e S := rfl
@[simp] theorem mIx_ev (a b : EM) (e : Ev) (S : Store) : mIx a b e S = (a e S).bind fun x S => (b e S).bind fun y S => lift2 fIx S x y := rfl
@[simp] theorem mFld_ev (cs : List Nat) (f : Nat) (o : EM) (e : Ev) (S : Store) : mFld cs f o e S = mUn (getF cs f) o e S := rfl
@[simp] theorem mIsi_ev (T : Ty) (a : EM) (e : Ev) (S : Store) : mIsi T a e S = mUn (fun S d => (tyS S d).map fun t => .bl (isTy t T)) a e S := rfl
@[simp] theorem den_app (n : Nat) (m : SM) (ds : List D) (S : Store) : den n m ds S = match m ⟨ds.map some ++ List.replicate (n - ds.length) none, []⟩ S with
  | .nx _ S => .ok .non S
  | .rt d S => .ok d S
  | .exc c fs _ S => .exc c fs S
  | _ => .stuck := rfl
@[simp] theorem mjNil_ev (acc : Str) (e : Ev) (S : Store) : mjNil acc e S = .ok (.str acc) S := rfl
@[simp] theorem mjCons_ev (m : EM) (r : JM) (acc : Str) (e : Ev) (S : Store) : mjCons m r acc e S = (m e S).bind fun d S => match d with
  | .str y => if (acc ++ y).length ≤ sizeLine then r (acc ++ y) e S else .stuck
  | _ => .stuck := rfl
end BS
namespace BS
open PySem PySem.Spec PyProof.Rows L2
@[simp] theorem eqS_str (S : Store) (a b : Str) : eqS S (.str a) (.str b) = some (decide (a = b)) := by
  simp [eqS, small, py, pyF, PyData.plain, PyData.depth, PyData.eqv]; by_cases h : a = b <;> simp [h]
@[simp] theorem eqS_int (S : Store) (a b : Int) : eqS S (.int a) (.int b) = some (decide (a = b)) := by
  simp [eqS, small, py, pyF, PyData.plain, PyData.depth, PyData.eqv]; by_cases h : a = b <;> simp [h]
@[simp] theorem eqS_bl (S : Store) (a b : Bool) : eqS S (.bl a) (.bl b) = some (decide (a = b)) := by
  cases a <;> cases b <;> simp [eqS, small, py, pyF, PyData.plain, PyData.depth, PyData.eqv]
@[simp] theorem eqS_non (S : Store) : eqS S .non .non = some true := by
  simp [eqS, small, py, pyF, PyData.plain, PyData.depth, PyData.eqv]
/-- data with no object in it, at most n deep -/
structure Fl (n : Nat) (d : D) : Prop where
  pl : ∀ f, (pyF f d).plain = true
  dp : ∀ f, (pyF f d).depth ≤ n
  eq : ∀ f g, pyF f d = pyF g d
structure FlS (n : Nat) (ds : List D) : Prop where
  pl : ∀ f, PyData.plainAll (pyFs f ds) = true
  dp : ∀ f, PyData.depthAll (pyFs f ds) ≤ n
  eq : ∀ f g, pyFs f ds = pyFs g ds
theorem Fl.non {n : Nat} : Fl n .non := ⟨fun _ => rfl, fun _ => Nat.zero_le _, fun _ _ => rfl⟩
theorem Fl.bl {n : Nat} (b : Bool) : Fl n (.bl b) := ⟨fun _ => rfl, fun _ => by simp [pyF, PyData.depth], fun _ _ => rfl⟩
theorem Fl.int {n : Nat} (b : Int) : Fl n (.int b) := ⟨fun _ => rfl, fun _ => by simp [pyF, PyData.depth], fun _ _ => rfl⟩
theorem Fl.str {n : Nat} (b : Str) : Fl n (.str b) := ⟨fun _ => rfl, fun _ => by simp [pyF, PyData.depth], fun _ _ => rfl⟩
theorem FlS.nil {n : Nat} : FlS n [] := ⟨fun _ => rfl, fun _ => by simp [pyFs, PyData.depthAll], fun _ _ => rfl⟩
theorem FlS.cons {n : Nat} {d : D} {ds : List D} (h : Fl n d) (t : FlS n ds) : FlS n (d :: ds) :=
  ⟨fun f => by simp [pyFs, PyData.plainAll, h.pl f, t.pl f], fun f => by have := h.dp f; have := t.dp f; simp [pyFs, PyData.depthAll]; omega, fun f g => by simp only [pyFs]; rw [h.eq f g, t.eq f g]⟩
theorem Fl.tup {n : Nat} {ds : List D} (h : FlS n ds) : Fl (n + 1) (.tup ds) :=
  ⟨fun f => by simp [pyF, PyData.plain, h.pl f], fun f => by have := h.dp f; simp [pyF, PyData.depth]; omega, fun f g => by simp only [pyF]; rw [h.eq f g]⟩
theorem Fl.lst {n : Nat} {ds : List D} (h : FlS n ds) : Fl (n + 1) (.lst ds) :=
  ⟨fun f => by simp [pyF, PyData.plain, h.pl f], fun f => by have := h.dp f; simp [pyF, PyData.depth]; omega, fun f g => by simp only [pyF]; rw [h.eq f g]⟩
theorem FlS.of {n : Nat} : ∀ {ds : List D}, (∀ d ∈ ds, Fl n d) → FlS n ds
  | [], _ => .nil
  | d :: ds, h => .cons (h d (by simp)) (.of fun x hx => h x (by simp [hx]))
theorem FlS.all {n : Nat} : ∀ {ds : List D}, FlS n ds → ∀ d ∈ ds, Fl n d
  | [], _, _, h => by simp at h
  | d :: ds, t, x, h => by
    have t1 : Fl n d := ⟨fun f => by have := t.pl f; simp [pyFs, PyData.plainAll] at this; exact this.1, fun f => by have := t.dp f; simp [pyFs, PyData.depthAll] at this; omega, fun f g => by have := t.eq f g; simp [pyFs] at this; exact this.1⟩
    have t2 : FlS n ds := ⟨fun f => by have := t.pl f; simp [pyFs, PyData.plainAll] at this; exact this.2, fun f => by have := t.dp f; simp [pyFs, PyData.depthAll] at this; omega, fun f g => by have := t.eq f g; simp [pyFs] at this; exact this.2⟩
    rcases List.mem_cons.mp h with rfl | h
    · exact t1
    · exact t2.all x h
theorem eqS_same {S : Store} {x y : D} (h : py S x = py S y) (p : (py S x).plain = true) (d : (py S x).depth < 100) : eqS S x y = some true := by
  unfold eqS
  rw [← h]
  simp [small, p, d, PySem.SeqAt.eqv_refl_plain]
theorem eqS_refl {n : Nat} (S : Store) {x : D} (h : Fl n x) (hn : n < 100 := by decide) : eqS S x x = some true :=
  eqS_same rfl (h.pl _) (Nat.lt_of_le_of_lt (h.dp _) hn)
/-- two lists of the store with the same items -/
theorem eqS_objs {n : Nat} {S : Store} {i j : Nat} {ds : List D} (hi : S[i]? = some (.lst ds)) (hj : S[j]? = some (.lst ds)) (h : FlS n ds) (hn : n < 99 := by decide) : eqS S (.obj i) (.obj j) = some true := by
  have e : ∀ k, S[k]? = some (.lst ds) → py S (.obj k) = .list (pyFs (pyk 2 S) ds) := fun k hk => by simp [py, pyF, pyk, hk]
  refine eqS_same (by rw [e i hi, e j hj]) ?_ ?_
  · rw [e i hi]; simp [PyData.plain, h.pl]
  · rw [e i hi]; have := h.dp (pyk 2 S); simp [PyData.depth]; omega
theorem eqS_objl {n : Nat} {S : Store} {i : Nat} {ds : List D} (hi : S[i]? = some (.lst ds)) (h : FlS n ds) (hn : n < 99 := by decide) : eqS S (.obj i) (.lst ds) = some true := by
  have e : py S (.obj i) = .list (pyFs (pyk 2 S) ds) := by simp [py, pyF, pyk, hi]
  refine eqS_same ?_ ?_ ?_
  · rw [e]; simp only [py, pyF]; rw [h.eq (pyk 2 S) (pyk 3 S)]
  · rw [e]; simp [PyData.plain, h.pl]
  · rw [e]; have := h.dp (pyk 2 S); simp [PyData.depth]; omega
theorem rng_ok {n : Nat} (h : n ≤ 1000000000) : rngOk (n : Int) := by
  unfold rngOk
  have e : (2 : Int) ^ 62 = 4611686018427387904 := by decide
  rw [e]; omega
theorem iRng1 {as : AM} {e : Ev} {S S' : Store} {j : Int} (h : as e S = .ok [.int j] S') (r : rngOk j) : iRng as e S = .ok ⟨BS.intsFrom 0 j.toNat, fun _ => True⟩ S' := by
  rw [iRng_ev, h]
  exact if_pos r
theorem iRng2 {as : AM} {e : Ev} {S S' : Store} {i j : Int} (h : as e S = .ok [.int i, .int j] S') (r1 : rngOk i) (r : rngOk j) : iRng as e S = .ok ⟨BS.intsFrom i (j - i).toNat, fun _ => True⟩ S' := by
  rw [iRng_ev, h]
  exact if_pos ⟨r1, r⟩
end BS
namespace BS
open PySem PySem.Spec PyProof.Rows L2
@[simp] theorem lift2_ev (f : Store → D → D → Option D) (S : Store) (x y : D) : lift2 f S x y = match f S x y with
  | some d => .ok d S
  | none => .stuck := rfl
@[simp] theorem fI_int (g : Int → Int → Option D) (S : Store) (i j : Int) : fI g S (.int i) (.int j) = g i j := rfl
@[simp] theorem fAdd_int (S : Store) (i j : Int) : fAdd S (.int i) (.int j) = some (.int (i + j)) := rfl
@[simp] theorem fAdd_str (S : Store) (a b : Str) : fAdd S (.str a) (.str b) = if a.length + b.length ≤ sizeLine then some (.str (a ++ b)) else none := rfl
@[simp] theorem fAdd_tup (S : Store) (a b : List D) : fAdd S (.tup a) (.tup b) = if a.length + b.length ≤ sizeLine then some (.tup (a ++ b)) else none := rfl
@[simp] theorem iAdd_int (S : Store) (i j : Int) : iAdd S (.int i) (.int j) = some (.int (i + j)) := rfl
@[simp] theorem iAdd_str (S : Store) (a b : Str) : iAdd S (.str a) (.str b) = if a.length + b.length ≤ sizeLine then some (.str (a ++ b)) else none := rfl
@[simp] theorem fCmp_int (g h) (S : Store) (i j : Int) : fCmp g h S (.int i) (.int j) = some (.bl (g i j)) := rfl
@[simp] theorem fCmp_str (g h) (S : Store) (i j : Str) : fCmp g h S (.str i) (.str j) = some (.bl (h i j)) := rfl
@[simp] theorem fEq_ev (S : Store) (x y : D) : fEq S x y = (eqS S x y).map .bl := rfl
@[simp] theorem fNe_ev (S : Store) (x y : D) : fNe S x y = (eqS S x y).map fun b => .bl (!b) := rfl
@[simp] theorem fIs_ev (S : Store) (x y : D) : fIs S x y = if isNon y = true then some (.bl (isNon x)) else none := rfl
@[simp] theorem fIsNot_ev (S : Store) (x y : D) : fIsNot S x y = if isNon y = true then some (.bl (!isNon x)) else none := rfl
@[simp] theorem fIn_ev (S : Store) (x y : D) : fIn S x y = (inS S x y).map .bl := rfl
@[simp] theorem fNotIn_ev (S : Store) (x y : D) : fNotIn S x y = (inS S x y).map fun b => .bl (!b) := rfl
@[simp] theorem inS_str (S : Store) (a b : Str) : inS S (.str a) (.str b) = some (inStr a b) := rfl
@[simp] theorem fNeg_int (S : Store) (i : Int) : fNeg S (.int i) = some (.int (-i)) := rfl
@[simp] theorem tyS_non (S : Store) : tyS S .non = some .none := rfl
@[simp] theorem tyS_bl (S : Store) (b : Bool) : tyS S (.bl b) = some .bool := rfl
@[simp] theorem tyS_int (S : Store) (b : Int) : tyS S (.int b) = some .int := rfl
@[simp] theorem tyS_str (S : Store) (b : Str) : tyS S (.str b) = some .str := rfl
@[simp] theorem tyS_tup (S : Store) (b : List D) : tyS S (.tup b) = some .tuple := rfl
@[simp] theorem tyS_lst (S : Store) (b : List D) : tyS S (.lst b) = some .list := rfl
@[simp] theorem isTy_none (a : Ty) : isTy a .none = match a with | .none => true | _ => false := rfl
@[simp] theorem isTy_bool (a : Ty) : isTy a .bool = match a with | .bool => true | _ => false := rfl
@[simp] theorem isTy_int (a : Ty) : isTy a .int = match a with | .int => true | .bool => true | _ => false := rfl
@[simp] theorem isTy_str (a : Ty) : isTy a .str = match a with | .str => true | _ => false := rfl
@[simp] theorem isTy_tuple (a : Ty) : isTy a .tuple = match a with | .tuple => true | _ => false := rfl
@[simp] theorem isTy_list (a : Ty) : isTy a .list = match a with | .list => true | _ => false := rfl
@[simp] theorem isTy_dict (a : Ty) : isTy a .dict = match a with | .dict => true | _ => false := rfl
@[simp] theorem lenS_str (S : Store) (z : Str) : lenS S (.str z) = if z.length ≤ sizeLine then some z.length else none := rfl
@[simp] theorem lenS_tup (S : Store) (ds : List D) : lenS S (.tup ds) = some ds.length := rfl
@[simp] theorem lenS_lst (S : Store) (ds : List D) : lenS S (.lst ds) = some ds.length := rfl
@[simp] theorem lenS_scr (S : Store) (ds : List D) : lenS S (.scr ds) = some ds.length := rfl
@[simp] theorem tupOf_tup (ds : List D) : tupOf (.tup ds) = some ds := rfl
@[simp] theorem lstOf_lst (S : Store) (ds : List D) : lstOf S (.lst ds) = some ds := rfl
@[simp] theorem lstOf_scr (S : Store) (ds : List D) : lstOf S (.scr ds) = some ds := rfl
@[simp] theorem seqOf_tup (S : Store) (ds : List D) : seqOf S (.tup ds) = some ds := rfl
@[simp] theorem seqOf_lst (S : Store) (ds : List D) : seqOf S (.lst ds) = some ds := rfl
@[simp] theorem seqOf_scr (S : Store) (ds : List D) : seqOf S (.scr ds) = some ds := rfl
@[simp] theorem fIx_tup (S : Store) (ds : List D) (i : Int) : fIx S (.tup ds) (.int i) = atI ds i := rfl
@[simp] theorem fIx_lst (S : Store) (ds : List D) (i : Int) : fIx S (.lst ds) (.int i) = atI ds i := rfl
@[simp] theorem fIx_scr (S : Store) (ds : List D) (i : Int) : fIx S (.scr ds) (.int i) = atI ds i := rfl
@[simp] theorem keyOf_int (i : Int) : keyOf (.int i) = some (.inl i) := rfl
@[simp] theorem keyOf_str (i : Str) : keyOf (.str i) = some (.inr i) := rfl
@[simp] theorem truS_non (S : Store) : truS S .non = some false := rfl
@[simp] theorem truS_bl (S : Store) (b : Bool) : truS S (.bl b) = some b := rfl
@[simp] theorem truS_int (S : Store) (b : Int) : truS S (.int b) = some (b != 0) := rfl
@[simp] theorem truS_str (S : Store) (z : Str) : truS S (.str z) = if z.length ≤ sizeLine then some ((z.length : Int) != 0) else none := rfl
@[simp] theorem truS_tup (S : Store) (ds : List D) : truS S (.tup ds) = some (!ds.isEmpty) := rfl
@[simp] theorem truS_lst (S : Store) (ds : List D) : truS S (.lst ds) = some (!ds.isEmpty) := rfl
@[simp] theorem wkA_str (S : Store) (y : Str) : wkA S (.str y) = .ok ⟨signs y, fun _ => True⟩ S := rfl
@[simp] theorem wkA_tup (S : Store) (ds : List D) : wkA S (.tup ds) = .ok ⟨ds, fun _ => True⟩ S := rfl
@[simp] theorem wkA_lst (S : Store) (ds : List D) : wkA S (.lst ds) = .ok ⟨ds, fun _ => True⟩ S := rfl
@[simp] theorem wkA_scr (S : Store) (ds : List D) : wkA S (.scr ds) = .ok ⟨ds, fun _ => True⟩ S := rfl
@[simp] theorem slS_str (new : Bool) (S : Store) (z : Str) (lo hi : Option Int) : slS new S (.str z) lo hi = if z.length ≤ sizeLine then .ok (.str (cutS z lo hi)) S else .stuck := rfl
@[simp] theorem slS_lst (new : Bool) (S : Store) (ds : List D) (lo hi : Option Int) : slS new S (.lst ds) lo hi = fin new (cutD ds lo hi) S := rfl
@[simp] theorem LT_items_one (i : Nat) (d : D) : (LT.one i).items d = some [d] := rfl
@[simp] theorem LT_items_many (is : List Nat) (ds : List D) : (LT.many is).items (.tup ds) = if ds.length = is.length then some ds else none := rfl
@[simp] theorem catS_lst (new : Bool) (S : Store) (xs ys : List D) : catS new S (.lst xs) (.lst ys) = if xs.length + ys.length ≤ sizeLine then fin new (xs ++ ys) S else .stuck := rfl
@[simp] theorem blsOf_map (bs : List Bool) : blsOf (bs.map .bl) = some bs := by
  induction bs with
  | nil => rfl
  | cons b r ih => rw [List.map_cons, blsOf, ih]; rfl
@[simp] theorem tyS_obj (S : Store) (n : Nat) : tyS S (.obj n) = match S[n]? with
  | some (.lst _) => some .list
  | some (.dct _) => some .dict
  | _ => none := rfl
@[simp] theorem lstOf_obj (S : Store) (n : Nat) : lstOf S (.obj n) = match S[n]? with
  | some (.lst ds) => some ds
  | _ => none := rfl
@[simp] theorem lvOf_obj (S : Store) (n : Nat) : lvOf S (.obj n) = match S[n]? with
  | some (.lst ds) => some ds
  | _ => none := rfl
@[simp] theorem lvOf_lst (S : Store) (ds : List D) : lvOf S (.lst ds) = some ds := rfl
@[simp] theorem seqOf_obj (S : Store) (n : Nat) : seqOf S (.obj n) = match S[n]? with
  | some (.lst ds) => some ds
  | _ => none := rfl
@[simp] theorem dctOf_obj (S : Store) (n : Nat) : dctOf S (.obj n) = match S[n]? with
  | some (.dct ds) => some ds
  | _ => none := rfl
@[simp] theorem insOf_obj (S : Store) (n : Nat) : insOf S (.obj n) = match S[n]? with
  | some (.ins c fs) => some (c, fs)
  | _ => none := rfl
@[simp] theorem isIns_obj (c : Nat) (S : Store) (n : Nat) : isIns c S (.obj n) = match S[n]? with
  | some (.ins c' fs) => c' == c
  | _ => false := by
  simp only [isIns, insOf_obj]
  cases S[n]? with
  | none => rfl
  | some o => cases o <;> simp
@[simp] theorem getF_obj (cs : List Nat) (f : Nat) (S : Store) (n : Nat) : getF cs f S (.obj n) = match S[n]? with
  | some (.ins c fs) => if cs.contains c = true then getN fs f else none
  | _ => none := by
  simp only [getF, insOf_obj]
  cases S[n]? with
  | none => rfl
  | some o => cases o <;> simp
@[simp] theorem putF_obj (cs : List Nat) (f : Nat) (S : Store) (n : Nat) (y : D) : putF_ cs f S (.obj n) y = match S[n]? with
  | some (.ins c fs) => if cs.contains c = true ∧ fs.length < 1000 then some (S.set n (.ins c (setN f y fs))) else none
  | _ => none := rfl
@[simp] theorem getN_cons {α : Type} (k : Nat) (v : α) (r : List (Nat × α)) (i : Nat) : getN ((k, v) :: r) i = if k = i then some v else getN r i := rfl
@[simp] theorem getN_nil {α : Type} (i : Nat) : getN ([] : List (Nat × α)) i = none := rfl
@[simp] theorem setN_cons {α : Type} (k : Nat) (v : α) (r : List (Nat × α)) (i : Nat) (w : α) : setN i w ((k, v) :: r) = if k = i then (i, w) :: r else (k, v) :: setN i w r := rfl
@[simp] theorem setN_nil {α : Type} (i : Nat) (w : α) : setN i w ([] : List (Nat × α)) = [(i, w)] := rfl
@[simp] theorem setS_obj (S : Store) (n : Nat) (i v : D) : setS S (.obj n) i v = match S[n]? with
    | some (.lst ds) => match i with
      | .int k => (ixN ds.length k).map fun j => S.set n (.lst (ds.set j v))
      | _ => none
    | some (.dct kvs) => match keyOf i with
      | some k => if kvs.length < sizeLine then some (S.set n (.dct (putD kvs k v))) else none
      | none => none
    | _ => none := rfl
@[simp] theorem delS_obj (S : Store) (n : Nat) (i : D) : delS S (.obj n) i = match S[n]? with
    | some (.dct kvs) => match keyOf i with
      | some k => if (getK kvs k).isSome = true then some (S.set n (.dct (dropD kvs k))) else none
      | none => none
    | _ => none := rfl
@[simp] theorem dctR_obj (S : Store) (n : Nat) : dctR S (.obj n) = match S[n]? with
    | some (.dct kvs) => some kvs
    | some (.lck kvs) => some kvs
    | _ => none := rfl
@[simp] theorem fIx_objs (S : Store) (n : Nat) (z : Str) : fIx S (.obj n) (.str z) = match S[n]? with
    | some (.dct kvs) => getK kvs (.inr z)
    | some (.lck kvs) => getK kvs (.inr z)
    | _ => none := by
  simp only [fIx, dctR_obj]
  cases S[n]? with
  | none => rfl
  | some o => cases o <;> simp
@[simp] theorem fIx_obji (S : Store) (n : Nat) (z : Int) : fIx S (.obj n) (.int z) = match S[n]? with
    | some (.lst ds) => atI ds z
    | some (.dct kvs) => getK kvs (.inl z)
    | some (.lck kvs) => getK kvs (.inl z)
    | _ => none := by
  simp only [fIx, seqOf_obj, dctR_obj]
  cases S[n]? with
  | none => rfl
  | some o => cases o <;> rfl
@[simp] theorem lenS_obj (S : Store) (n : Nat) : lenS S (.obj n) = match S[n]? with
    | some (.lst ds) => some ds.length
    | some (.dct kvs) => some kvs.length
    | _ => none := by
  simp only [lenS, seqOf_obj, dctOf_obj]
  cases S[n]? with
  | none => rfl
  | some o => cases o <;> rfl
@[simp] theorem truS_obj (S : Store) (n : Nat) : truS S (.obj n) = match S[n]? with
    | some (.lst ds) => some (!ds.isEmpty)
    | some (.dct kvs) => some (!kvs.isEmpty)
    | _ => none := by
  simp only [truS, seqOf_obj, dctOf_obj]
  cases S[n]? with
  | none => rfl
  | some o => cases o <;> rfl
@[simp] theorem wkA_obj (S : Store) (n : Nat) : wkA S (.obj n) = match S[n]? with
    | some (.lst ds) => .ok ⟨ds, fun S => S[n]? = some (.lst ds)⟩ S
    | _ => .stuck := rfl
@[simp] theorem inS_obj (S : Store) (x : Str) (n : Nat) (kvs : List (Key × D)) (h : S[n]? = some (.dct kvs)) : inS S (.str x) (.obj n) = some (getK kvs (.inr x)).isSome := by
  simp [inS, dctOf, h, keyOf]
@[simp] theorem inS_obji (S : Store) (x : Int) (n : Nat) (kvs : List (Key × D)) (h : S[n]? = some (.dct kvs)) : inS S (.int x) (.obj n) = some (getK kvs (.inl x)).isSome := by
  simp [inS, dctOf, h, keyOf]
theorem ixN_in {n : Nat} {p : Int} (h0 : 0 ≤ p) (h1 : p < n) : ixN n p = some p.toNat := by
  simp [ixN, h0, h1]
@[simp] theorem atI_nat {α : Type} (xs : List α) (p : Nat) : atI xs (p : Int) = xs[p]? := by
  unfold atI
  by_cases h : p < xs.length
  · rw [ixN_in (Int.natCast_nonneg _) (by omega)]; simp
  · have e : xs[p]? = none := List.getElem?_eq_none (by omega)
    rw [e]
    have h1 : ¬ (p : Int) < xs.length := by omega
    have q : ixN xs.length (p : Int) = none := by unfold ixN; rw [if_pos (Int.natCast_nonneg _), if_neg h1]
    rw [q]; rfl
@[simp] theorem atI_zero {α : Type} (xs : List α) : atI xs (0 : Int) = xs[0]? := atI_nat xs 0
@[simp] theorem atI_one {α : Type} (xs : List α) : atI xs (1 : Int) = xs[1]? := atI_nat xs 1
@[simp] theorem atI_2 {α : Type} (xs : List α) : atI xs (2 : Int) = xs[2]? := atI_nat xs 2
@[simp] theorem atI_3 {α : Type} (xs : List α) : atI xs (3 : Int) = xs[3]? := atI_nat xs 3
@[simp] theorem atI_4 {α : Type} (xs : List α) : atI xs (4 : Int) = xs[4]? := atI_nat xs 4
@[simp] theorem atI_5 {α : Type} (xs : List α) : atI xs (5 : Int) = xs[5]? := atI_nat xs 5
@[simp] theorem atI_6 {α : Type} (xs : List α) : atI xs (6 : Int) = xs[6]? := atI_nat xs 6
@[simp] theorem atI_7 {α : Type} (xs : List α) : atI xs (7 : Int) = xs[7]? := atI_nat xs 7
@[simp] theorem atI_8 {α : Type} (xs : List α) : atI xs (8 : Int) = xs[8]? := atI_nat xs 8
@[simp] theorem atI_9 {α : Type} (xs : List α) : atI xs (9 : Int) = xs[9]? := atI_nat xs 9
@[simp] theorem atI_10 {α : Type} (xs : List α) : atI xs (10 : Int) = xs[10]? := atI_nat xs 10
@[simp] theorem atI_11 {α : Type} (xs : List α) : atI xs (11 : Int) = xs[11]? := atI_nat xs 11
@[simp] theorem atI_12 {α : Type} (xs : List α) : atI xs (12 : Int) = xs[12]? := atI_nat xs 12
@[simp] theorem atI_13 {α : Type} (xs : List α) : atI xs (13 : Int) = xs[13]? := atI_nat xs 13
@[simp] theorem atI_14 {α : Type} (xs : List α) : atI xs (14 : Int) = xs[14]? := atI_nat xs 14
@[simp] theorem atI_15 {α : Type} (xs : List α) : atI xs (15 : Int) = xs[15]? := atI_nat xs 15
@[simp] theorem atI_16 {α : Type} (xs : List α) : atI xs (16 : Int) = xs[16]? := atI_nat xs 16
@[simp] theorem atI_17 {α : Type} (xs : List α) : atI xs (17 : Int) = xs[17]? := atI_nat xs 17
@[simp] theorem atI_18 {α : Type} (xs : List α) : atI xs (18 : Int) = xs[18]? := atI_nat xs 18
@[simp] theorem atI_19 {α : Type} (xs : List α) : atI xs (19 : Int) = xs[19]? := atI_nat xs 19
@[simp] theorem atI_20 {α : Type} (xs : List α) : atI xs (20 : Int) = xs[20]? := atI_nat xs 20
theorem atI_in {α : Type} {xs : List α} {p : Int} (h0 : 0 ≤ p) (h1 : p < xs.length) : ∃ x, x ∈ xs ∧ atI xs p = some x := by
  have h3 : p.toNat < xs.length := by omega
  exact ⟨xs[p.toNat], List.getElem_mem h3, by unfold atI; rw [ixN_in h0 h1]; simp [List.getElem?_eq_getElem h3]⟩
theorem sz : (1000000 : Nat) ≤ sizeLine := by decide
theorem szL {n : Nat} (h : n ≤ 1000000) : n ≤ sizeLine := Nat.le_trans h sz
theorem ix_str (S : Store) {z : Str} {p : Int} (hz : z.length ≤ 1000000) (h0 : 0 ≤ p) (h1 : p < z.length) : ∃ c ∈ z.cps.toList, fIx S (.str z) (.int p) = some (.str ⟨#[c]⟩) := by
  obtain ⟨c, m, e⟩ := atI_in (xs := z.cps.toList) h0 (by simpa [Str.length] using h1)
  exact ⟨c, m, by simp [fIx, Nat.le_trans hz sz, e, BS.strAt]⟩
theorem cut_len (z : Str) (lo hi : Option Int) : (cutS z lo hi).length ≤ z.length := by
  simp [cutS, Str.length]; omega
@[simp] theorem one_len (c : Nat) : (⟨#[c]⟩ : Str).length = 1 := rfl
def RS.ends_ (r : RS) (N : Ev → Store → Prop) (T : D → Store → Prop) : Prop := match r with
  | .nx e S => N e S
  | .rt d S => T d S
  | _ => False
def RS.turns_ (r : RS) (I : Ev → Store → Prop) (N : Ev → Store → Prop) (T : D → Store → Prop) : Prop := match r with
  | .nx e S => I e S
  | .ct e S => I e S
  | .bk e S => N e S
  | .rt d S => T d S
  | _ => False
def R.gives_ {α : Type} (r : R α) (T : α → Store → Prop) : Prop := match r with
  | .ok d S => T d S
  | _ => False
/-- structures, so that nobody runs the program to see what is asked -/
structure RS.ends (r : RS) (N : Ev → Store → Prop) (T : D → Store → Prop) : Prop where
  run : r.ends_ N T
structure RS.turns (r : RS) (I : Ev → Store → Prop) (N : Ev → Store → Prop) (T : D → Store → Prop) : Prop where
  run : r.turns_ I N T
structure R.gives {α : Type} (r : R α) (T : α → Store → Prop) : Prop where
  run : r.gives_ T
section
variable {N I : Ev → Store → Prop} {T : D → Store → Prop}
@[simp] theorem ends_nx (e : Ev) (S : Store) : (RS.nx e S).ends N T = N e S := propext ⟨fun h => h.run, fun h => ⟨h⟩⟩
@[simp] theorem ends_rt (e : D) (S : Store) : (RS.rt e S).ends N T = T e S := propext ⟨fun h => h.run, fun h => ⟨h⟩⟩
@[simp] theorem ends_bk (e : Ev) (S : Store) : (RS.bk e S).ends N T = False := propext ⟨fun h => h.run, fun h => ⟨h⟩⟩
@[simp] theorem ends_ct (e : Ev) (S : Store) : (RS.ct e S).ends N T = False := propext ⟨fun h => h.run, fun h => ⟨h⟩⟩
@[simp] theorem ends_exc (c fs) (e : Ev) (S : Store) : (RS.exc c fs e S).ends N T = False := propext ⟨fun h => h.run, fun h => ⟨h⟩⟩
@[simp] theorem ends_stuck : RS.stuck.ends N T = False := propext ⟨fun h => h.run, fun h => ⟨h⟩⟩
@[simp] theorem turns_nx (e : Ev) (S : Store) : (RS.nx e S).turns I N T = I e S := propext ⟨fun h => h.run, fun h => ⟨h⟩⟩
@[simp] theorem turns_ct (e : Ev) (S : Store) : (RS.ct e S).turns I N T = I e S := propext ⟨fun h => h.run, fun h => ⟨h⟩⟩
@[simp] theorem turns_bk (e : Ev) (S : Store) : (RS.bk e S).turns I N T = N e S := propext ⟨fun h => h.run, fun h => ⟨h⟩⟩
@[simp] theorem turns_rt (e : D) (S : Store) : (RS.rt e S).turns I N T = T e S := propext ⟨fun h => h.run, fun h => ⟨h⟩⟩
@[simp] theorem turns_exc (c fs) (e : Ev) (S : Store) : (RS.exc c fs e S).turns I N T = False := propext ⟨fun h => h.run, fun h => ⟨h⟩⟩
@[simp] theorem turns_stuck : RS.stuck.turns I N T = False := propext ⟨fun h => h.run, fun h => ⟨h⟩⟩
@[simp] theorem gives_ok {α : Type} {T : α → Store → Prop} (d : α) (S : Store) : (R.ok d S).gives T = T d S := propext ⟨fun h => h.run, fun h => ⟨h⟩⟩
@[simp] theorem gives_exc {α : Type} {T : α → Store → Prop} (c fs) (S : Store) : (R.exc c fs S : R α).gives T = False := propext ⟨fun h => h.run, fun h => ⟨h⟩⟩
@[simp] theorem gives_stuck {α : Type} {T : α → Store → Prop} : (R.stuck : R α).gives T = False := propext ⟨fun h => h.run, fun h => ⟨h⟩⟩
theorem gives_iff {α : Type} {T : α → Store → Prop} {r : R α} : r.gives T ↔ ∃ d S, r = .ok d S ∧ T d S := by
  cases r with
  | ok a S => exact ⟨fun h => ⟨a, S, rfl, h.run⟩, fun ⟨_, _, e, h⟩ => by cases e; exact ⟨h⟩⟩
  | exc c fs S => exact ⟨fun h => False.elim h.run, fun ⟨_, _, e, _⟩ => nomatch e⟩
  | stuck => exact ⟨fun h => False.elim h.run, fun ⟨_, _, e, _⟩ => nomatch e⟩
theorem gives_bind {α β : Type} {T : β → Store → Prop} {r : R α} {k : α → Store → R β} (h : r.gives fun a S => (k a S).gives T) : (r.bind k).gives T := by
  cases r <;> simp_all
theorem ends_seq {r : RS} {b : SM} (h : r.ends (fun e S => (b e S).ends N T) T) : (r.seq b).ends N T := by
  cases r <;> simp_all
theorem turns_seq {r : RS} {b : SM} {I' : Ev → Store → Prop} (h : r.ends (fun e S => (b e S).turns I' N T) T) : (r.seq b).turns I' N T := by
  cases r <;> simp_all
theorem ends_mono {r : RS} {N' : Ev → Store → Prop} {T' : D → Store → Prop} (h : r.ends N T) (hn : ∀ e S, N e S → N' e S) (ht : ∀ d S, T d S → T' d S) : r.ends N' T' := by
  cases r <;> simp_all
/-- a def's run -/
theorem den_gives {n : Nat} {m : SM} {ds : List D} {S : Store} (h : (m ⟨ds.map some ++ List.replicate (n - ds.length) none, []⟩ S).ends (fun _ S => T .non S) T) : (den n m ds S).gives T := by
  rw [den_app]
  generalize m ⟨ds.map some ++ List.replicate (n - ds.length) none, []⟩ S = r at *
  cases r <;> simp_all
theorem law_of {n : Nat} {m : SM} {ds : List D} (h : (m ⟨ds.map some ++ List.replicate (n - ds.length) none, []⟩ []).ends (fun _ _ => False) (fun d _ => d = .bl true)) : ∃ S, den n m ds [] = .ok (.bl true) S := by
  rw [den_app]
  generalize m ⟨ds.map some ++ List.replicate (n - ds.length) none, []⟩ [] = r at *
  cases r <;> simp_all
end
/-- a loop: I k holds ahead of turn k -/
theorem forL_ends {G : Store → Prop} {g : GM} {b : SM} {N : Ev → Store → Prop} {T : D → Store → Prop} (I : Nat → Ev → Store → Prop) :
    ∀ {ds : List D} {e : Ev} {S : Store}, I 0 e S → (∀ k e S, I k e S → G S) → (∀ k d e S, ds[k]? = some d → I k e S → ((g d e S).seq b).turns (I (k + 1)) N T) → (∀ e S, I ds.length e S → N e S) → (forL G g b ds e S).ends N T
  | [], e, S, h0, hG, hs, hn => by
    unfold forL; rw [if_pos (hG _ _ _ h0), ends_nx]; exact hn _ _ h0
  | d :: ds, e, S, h0, hG, hs, hn => by
    unfold forL; rw [if_pos (hG _ _ _ h0)]
    have h1 := hs 0 d e S rfl h0
    have go : ∀ e S, I 1 e S → (forL G g b ds e S).ends N T := fun e S h =>
      forL_ends (fun k => I (k + 1)) h (fun k e S => hG (k + 1) e S) (fun k d e S hd => hs (k + 1) d e S (by simpa using hd)) hn
    generalize (g d e S).seq b = r at *
    cases r <;> simp_all
theorem ints_at {n k : Nat} {lo : Int} {d : D} (h : (BS.intsFrom lo n)[k]? = some d) : k < n ∧ d = .int (lo + k) := by
  have hk : k < n := by have := (List.getElem?_eq_some_iff.mp h).1; rwa [intsFrom_len] at this
  rw [intsFrom_get n k lo hk] at h
  exact ⟨hk, by cases h; rfl⟩
theorem signs_at {z : Str} {k : Nat} {d : D} (h : (signs z)[k]? = some d) : ∃ c ∈ z.cps.toList, z.cps.toList[k]? = some c ∧ d = .str ⟨#[c]⟩ := by
  unfold signs at h
  rw [List.getElem?_map, Option.map_eq_some_iff] at h
  obtain ⟨c, h, rfl⟩ := h
  exact ⟨c, List.mem_of_getElem? h, h, rfl⟩
/-- a while with a number that falls -/
theorem whileL_ends {c : TM} {b : SM} {N : Ev → Store → Prop} {T : D → Store → Prop} (I : Nat → Ev → Store → Prop)
    (hs : ∀ m e S, I m e S → ∃ k S', c e S = .ok k S' ∧ (k = true → (b e S').turns (fun e S => ∃ m' < m, I m' e S) N T) ∧ (k = false → N e S')) :
    ∀ {n m : Nat} {e : Ev} {S : Store}, I m e S → m < n → (whileL c b n e S).ends N T
  | 0, m, e, S, h, hl => absurd hl (Nat.not_lt_zero _)
  | n + 1, m, e, S, h, hl => by
    obtain ⟨k, S', e1, ht, hf⟩ := hs m e S h
    unfold whileL
    rw [e1, R.toS_ok]
    cases k with
    | false => rw [if_neg (by simp), ends_nx]; exact hf rfl
    | true =>
      have h1 := ht rfl
      rw [if_pos rfl]
      have go : ∀ e S, (∃ m' < m, I m' e S) → (whileL c b n e S).ends N T := fun e S ⟨m', l, h⟩ => whileL_ends I hs h (by omega)
      generalize b e S' = r at *
      cases r with
      | nx e S => rw [turns_nx] at h1; rw [RS.loop_nx]; exact go _ _ h1
      | ct e S => rw [turns_ct] at h1; rw [RS.loop_ct]; exact go _ _ h1
      | bk e S => rw [turns_bk] at h1; rw [RS.loop_bk, ends_nx]; exact h1
      | rt d S => rw [turns_rt] at h1; rw [RS.loop_rt, ends_rt]; exact h1
      | _ => simp at h1
theorem lcL_run {G : Store → Prop} {t : LT} {e0 : Ev} {tt : TM} {el : EM} (A : Store) (p : D → Bool) (f : D → D) :
    ∀ (ds : List D), (∀ acc B, G (A ++ .lst acc :: B)) →
    (∀ d ∈ ds, ∃ xs, t.items d = some xs ∧ ∀ acc B, (∃ B', tt ⟨setAll e0.sl t.ix xs, []⟩ (A ++ .lst acc :: B) = .ok (p d) (A ++ .lst acc :: B')) ∧ (p d = true → ∃ B', el ⟨setAll e0.sl t.ix xs, []⟩ (A ++ .lst acc :: B) = .ok (f d) (A ++ .lst acc :: B'))) →
    ∀ (acc : List D) (B : Store), acc.length + ds.length ≤ sizeLine → ∃ B', lcL A.length G t e0 tt el ds (A ++ .lst acc :: B) = .ok () (A ++ .lst (acc ++ (ds.filter p).map f) :: B')
  | [], hG, _, acc, B, _ => ⟨B, by unfold lcL; rw [if_pos (hG _ _)]; simp⟩
  | d :: ds, hG, h, acc, B, hl => by
    obtain ⟨xs, hx, hd⟩ := h d (by simp)
    have hl' : acc.length + ds.length + 1 ≤ sizeLine := by simpa [Nat.add_assoc] using hl
    obtain ⟨⟨B1, ht⟩, he⟩ := hd acc B
    unfold lcL
    rw [if_pos (hG _ _), hx]
    dsimp only
    rw [ht, R.nox_ok, R.bind_ok]
    cases hp : p d with
    | false =>
      rw [if_neg (by simp)]
      obtain ⟨B', r⟩ := lcL_run A p f ds hG (fun d hd => h d (by simp [hd])) acc B1 (by omega)
      exact ⟨B', by rw [r, List.filter_cons_of_neg (by simp [hp])]⟩
    | true =>
      rw [if_pos rfl]
      obtain ⟨B2, he⟩ := (hd acc B1).2 hp
      rw [he, R.nox_ok, R.bind_ok]
      have g : (A ++ O.lst acc :: B2)[A.length]? = some (.lst acc) := by simp
      rw [g]
      dsimp only
      rw [if_pos (by omega)]
      have s : (A ++ O.lst acc :: B2).set A.length (.lst (acc ++ [f d])) = A ++ .lst (acc ++ [f d]) :: B2 := by simp
      rw [s]
      obtain ⟨B', r⟩ := lcL_run A p f ds hG (fun d hd => h d (by simp [hd])) (acc ++ [f d]) B2 (by simp; omega)
      exact ⟨B', by rw [r, List.filter_cons_of_pos hp, List.map_cons, List.append_assoc]; rfl⟩
theorem lcL_all {G : Store → Prop} {t : LT} {e0 : Ev} {el : EM} (A : Store) (f : D → D) {ds : List D} (hG : ∀ acc B, G (A ++ .lst acc :: B))
    (h : ∀ d ∈ ds, ∃ xs, t.items d = some xs ∧ ∀ acc B, ∃ B', el ⟨setAll e0.sl t.ix xs, []⟩ (A ++ .lst acc :: B) = .ok (f d) (A ++ .lst acc :: B')) (hl : ds.length ≤ sizeLine) :
    ∃ B', lcL A.length G t e0 mYes el ds (A ++ [.lst []]) = .ok () (A ++ .lst (ds.map f) :: B') := by
  obtain ⟨B', r⟩ := lcL_run (G := G) (t := t) (e0 := e0) (tt := mYes) (el := el) A (fun _ => true) f ds hG (fun d hd => by
    obtain ⟨xs, hx, hd⟩ := h d hd
    exact ⟨xs, hx, fun acc B => ⟨⟨B, rfl⟩, fun _ => hd acc B⟩⟩) [] [] (by simpa using hl)
  exact ⟨B', by rw [r, List.filter_eq_self.mpr (fun _ _ => rfl)]; rfl⟩
theorem lcL_pure {G : Store → Prop} {t : LT} {e0 : Ev} {tt : TM} {el : EM} (A : Store) (p : D → Bool) (f : D → D) :
    ∀ (ds : List D), (∀ acc, G (A ++ [.lst acc])) →
    (∀ d ∈ ds, ∃ xs, t.items d = some xs ∧ ∀ acc, tt ⟨setAll e0.sl t.ix xs, []⟩ (A ++ [.lst acc]) = .ok (p d) (A ++ [.lst acc]) ∧ (p d = true → el ⟨setAll e0.sl t.ix xs, []⟩ (A ++ [.lst acc]) = .ok (f d) (A ++ [.lst acc]))) →
    ∀ (acc : List D), acc.length + ds.length ≤ sizeLine → lcL A.length G t e0 tt el ds (A ++ [.lst acc]) = .ok () (A ++ [.lst (acc ++ (ds.filter p).map f)])
  | [], hG, _, acc, _ => by unfold lcL; rw [if_pos (hG _)]; simp
  | d :: ds, hG, h, acc, hl => by
    obtain ⟨xs, hx, hd⟩ := h d (by simp)
    have hl' : acc.length + ds.length + 1 ≤ sizeLine := by simpa [Nat.add_assoc] using hl
    obtain ⟨ht, he⟩ := hd acc
    unfold lcL
    rw [if_pos (hG _), hx]
    dsimp only
    rw [ht, R.nox_ok, R.bind_ok]
    cases hp : p d with
    | false =>
      rw [if_neg (by simp), lcL_pure A p f ds hG (fun d hd => h d (by simp [hd])) acc (by omega), List.filter_cons_of_neg (by simp [hp])]
    | true =>
      rw [if_pos rfl, he hp, R.nox_ok, R.bind_ok]
      have g : (A ++ [O.lst acc])[A.length]? = some (.lst acc) := by simp
      rw [g]
      dsimp only
      rw [if_pos (by omega)]
      have s : (A ++ [O.lst acc]).set A.length (.lst (acc ++ [f d])) = A ++ [.lst (acc ++ [f d])] := by simp
      rw [s, lcL_pure A p f ds hG (fun d hd => h d (by simp [hd])) (acc ++ [f d]) (by simp; omega), List.filter_cons_of_pos hp, List.map_cons, List.append_assoc]
      rfl
/-- [f x for x in xs], f with no effect -/
theorem lcL_map {G : Store → Prop} {i : Nat} {e0 : Ev} {el : EM} (A : Store) (f : D → D) {ds : List D} (hG : ∀ acc, G (A ++ [.lst acc]))
    (h : ∀ d ∈ ds, ∀ acc, el ⟨e0.sl.set i (some d), []⟩ (A ++ [.lst acc]) = .ok (f d) (A ++ [.lst acc])) (hl : ds.length ≤ sizeLine) :
    lcL A.length G (.one i) e0 mYes el ds (A ++ [.lst []]) = .ok () (A ++ [.lst (ds.map f)]) := by
  have r := lcL_pure (G := G) (t := .one i) (e0 := e0) (tt := mYes) (el := el) A (fun _ => true) f ds hG (fun d hd => ⟨[d], rfl, fun acc => ⟨rfl, fun _ => h d hd acc⟩⟩) [] (by simpa using hl)
  rw [List.filter_eq_self.mpr (fun _ _ => rfl)] at r
  exact r
@[simp] theorem blsOf_mapf {α : Type} (f : α → Bool) (r : List α) : blsOf (r.map fun d => .bl (f d)) = some (r.map f) := by
  rw [← blsOf_map]; simp [Function.comp_def]
theorem sl_from {new : Bool} {S : Store} {ds : List D} (p : Nat) (_ : 0 < p) (hl : p ≤ ds.length) : slS new S (.tup ds) (some (p : Int)) none = .ok (.tup (ds.drop p)) S := by
  have e : HT.sIx ds.length 0 (some (p : Int)) = p := by
    have q : ¬ (p : Int) < 0 := by omega
    simp [HT.sIx, q]; omega
  have e2 : HT.sIx ds.length ds.length none = ds.length := rfl
  show BS.R.ok (D.tup (cutD ds _ _)) S = _
  unfold cutD
  rw [e, e2, List.take_of_length_le (by simp)]
theorem sl_to {new : Bool} {S : Store} {ds : List D} (p : Nat) (hl : p < ds.length) : slS new S (.tup ds) none (some (p : Int)) = .ok (.tup (ds.take p)) S := by
  have e : HT.sIx ds.length ds.length (some (p : Int)) = p := by
    have q : ¬ (p : Int) < 0 := by omega
    simp [HT.sIx, q]; omega
  have e2 : HT.sIx ds.length 0 none = 0 := rfl
  show BS.R.ok (D.tup (cutD ds _ _)) S = _
  unfold cutD
  rw [e, e2]; simp
@[simp] theorem sl_2 {new : Bool} {S : Store} (a b : D) (r : List D) : slS new S (.tup (a :: b :: r)) (some 2) none = .ok (.tup r) S := by
  have := sl_from (new := new) (S := S) (ds := a :: b :: r) 2 (by omega) (by simp)
  simpa using this
@[simp] theorem sl_1 {new : Bool} {S : Store} (a : D) (r : List D) : slS new S (.tup (a :: r)) (some 1) none = .ok (.tup r) S := by
  have := sl_from (new := new) (S := S) (ds := a :: r) 1 (by omega) (by simp)
  simpa using this
def Sm : Nat → D → Prop
  | _, .str z => z.length ≤ 1000000
  | 0, .tup ds => ds = []
  | n + 1, .tup ds => ds.length ≤ 1000000 ∧ ∀ d ∈ ds, Sm n d
  | 0, .lst ds => ds = []
  | n + 1, .lst ds => ds.length ≤ 1000000 ∧ ∀ d ∈ ds, Sm n d
  | _, .obj _ => False
  | _, .scr _ => False
  | _, _ => True
@[simp] theorem Sm_str (n : Nat) (z : Str) : Sm n (.str z) = (z.length ≤ 1000000) := by cases n <;> rfl
@[simp] theorem Sm_int (n : Nat) (z : Int) : Sm n (.int z) = True := by cases n <;> rfl
@[simp] theorem Sm_bl (n : Nat) (z : Bool) : Sm n (.bl z) = True := by cases n <;> rfl
@[simp] theorem Sm_non (n : Nat) : Sm n .non = True := by cases n <;> rfl
@[simp] theorem Sm_obj (n k : Nat) : Sm n (.obj k) = False := by cases n <;> rfl
@[simp] theorem Sm_scr (n : Nat) (k : List D) : Sm n (.scr k) = False := by cases n <;> rfl
@[simp] theorem Sm_tup (n : Nat) (ds : List D) : Sm (n + 1) (.tup ds) = (ds.length ≤ 1000000 ∧ ∀ d ∈ ds, Sm n d) := rfl
@[simp] theorem Sm_tup0 (ds : List D) : Sm 0 (.tup ds) = (ds = []) := rfl
@[simp] theorem Sm_lst (n : Nat) (ds : List D) : Sm (n + 1) (.lst ds) = (ds.length ≤ 1000000 ∧ ∀ d ∈ ds, Sm n d) := rfl
@[simp] theorem Sm_lst0 (ds : List D) : Sm 0 (.lst ds) = (ds = []) := rfl
theorem Sm.up : ∀ {n : Nat} {d : D}, Sm n d → Sm (n + 1) d
  | 0, d, h => by
    cases d <;> simp_all
  | n + 1, d, h => by
    cases d with
    | tup ds => exact ⟨h.1, fun x hx => (h.2 x hx).up⟩
    | lst ds => exact ⟨h.1, fun x hx => (h.2 x hx).up⟩
    | _ => simpa using h
theorem Sm.mono {n m : Nat} {d : D} (h : Sm n d) (l : n ≤ m) : Sm m d := by
  induction l with
  | refl => exact h
  | step _ ih => exact ih.up
theorem Sm.fl : ∀ {n : Nat} {d : D}, Sm n d → Fl (n + 1) d
  | n, .non, _ => .non
  | n, .bl b, _ => .bl b
  | n, .int i, _ => .int i
  | n, .str z, _ => .str z
  | 0, .tup ds, h => by simp at h; subst h; exact .tup .nil
  | 0, .lst ds, h => by simp at h; subst h; exact .lst .nil
  | n + 1, .tup ds, h => .tup (.of fun d hd => (h.2 d hd).fl)
  | n + 1, .lst ds, h => .lst (.of fun d hd => (h.2 d hd).fl)
  | n, .obj _, h => by simp at h
  | n, .scr _, h => by simp at h
def eqD (x y : D) : Bool := PyData.eqv (pyF (fun _ => .none) x) (pyF (fun _ => .none) y)
def eqDs (x y : List D) : Bool := PyData.eqvAll (pyFs (fun _ => .none) x) (pyFs (fun _ => .none) y)
theorem eqS_fl {n m : Nat} (S : Store) {x y : D} (hx : Fl n x) (hy : Fl m y) (hn : n < 100 := by decide) : eqS S x y = some (eqD x y) := by
  unfold eqS
  have h1 : (py S x).plain = true := hx.pl (pyk 3 S)
  have h2 := hy.pl (pyk 3 S)
  have h3 : (py S x).depth ≤ n := hx.dp (pyk 3 S)
  rw [if_pos (by simp [small, h1, h2]; omega)]
  unfold eqD
  rw [hx.eq (fun _ => .none) (pyk 3 S), hy.eq (fun _ => .none) (pyk 3 S)]
theorem eqS_sm {n m : Nat} (S : Store) {x y : D} (hx : Sm n x) (hy : Sm m y) (hn : n < 99 := by decide) : eqS S x y = some (eqD x y) := eqS_fl S hx.fl hy.fl (by omega)
theorem inS_fl {n m : Nat} (S : Store) {x : D} {ys : List D} (hx : Fl n x) (hy : FlS m ys) (hn : n < 100 := by decide) : inS S x (.lst ys) = some (ys.any fun z => eqD z x) := by
  have h1 : (py S x).plain = true := hx.pl (pyk 3 S)
  have h2 := hy.pl (pyk 3 S)
  have h3 : (py S x).depth ≤ n := hx.dp (pyk 3 S)
  have e : (pys S ys).any (fun z => PyData.eqv z (py S x)) = ys.any fun z => eqD z x := by
    have ex : py S x = pyF (fun _ => .none) x := hx.eq _ _
    have : ∀ (ys : List D), FlS m ys → (pys S ys).any (fun z => PyData.eqv z (py S x)) = ys.any fun z => eqD z x := by
      intro ys
      induction ys with
      | nil => intro _; rfl
      | cons y r ih =>
        intro hy
        have a := hy.all y (by simp)
        have ey : pyF (pyk 3 S) y = pyF (fun _ => .none) y := a.eq _ _
        have t : FlS m r := .of fun d hd => hy.all d (by simp [hd])
        have := ih t
        simp only [pys] at this ⊢
        simp only [pyFs, List.any_cons, this]
        rw [ey, ex]; rfl
    exact this ys hy
  simp only [inS, dctOf, seqOf, tupOf, lstOf]
  rw [if_pos (by simp [h1, h2]; omega), e]
@[simp] theorem eqD_non : eqD .non .non = true := by simp [eqD, pyF, PyData.eqv]
@[simp] theorem eqD_str (a b : Str) : eqD (.str a) (.str b) = decide (a = b) := by simp [eqD, pyF, PyData.eqv]; by_cases h : a = b <;> simp [h]
@[simp] theorem eqD_int (a b : Int) : eqD (.int a) (.int b) = decide (a = b) := by simp [eqD, pyF, PyData.eqv]; by_cases h : a = b <;> simp [h]
@[simp] theorem eqD_bl (a b : Bool) : eqD (.bl a) (.bl b) = decide (a = b) := by cases a <;> cases b <;> simp [eqD, pyF, PyData.eqv]
@[simp] theorem eqD_tup (a b : List D) : eqD (.tup a) (.tup b) = eqDs a b := by simp [eqD, eqDs, pyF, PyData.eqv]
@[simp] theorem eqD_lst (a b : List D) : eqD (.lst a) (.lst b) = eqDs a b := by simp [eqD, eqDs, pyF, PyData.eqv]
@[simp] theorem eqDs_nil : eqDs [] [] = true := by simp [eqDs, pyFs, PyData.eqvAll]
@[simp] theorem eqDs_cons (a b : D) (r s : List D) : eqDs (a :: r) (b :: s) = (eqD a b && eqDs r s) := by simp [eqDs, eqD, pyFs, PyData.eqvAll]
@[simp] theorem eqDs_nc (b : D) (s : List D) : eqDs [] (b :: s) = false := by simp [eqDs, eqD, pyFs, PyData.eqvAll]
@[simp] theorem eqDs_cn (b : D) (s : List D) : eqDs (b :: s) [] = false := by simp [eqDs, eqD, pyFs, PyData.eqvAll]
@[simp] theorem eqD_non_bl (b : Bool) : eqD .non (.bl b) = false := by simp [eqD, pyF, PyData.eqv]
@[simp] theorem eqD_non_int (b : Int) : eqD .non (.int b) = false := by simp [eqD, pyF, PyData.eqv]
@[simp] theorem eqD_non_str (b : Str) : eqD .non (.str b) = false := by simp [eqD, pyF, PyData.eqv]
@[simp] theorem eqD_non_tup (b : List D) : eqD .non (.tup b) = false := by simp [eqD, pyF, PyData.eqv]
@[simp] theorem eqD_non_lst (b : List D) : eqD .non (.lst b) = false := by simp [eqD, pyF, PyData.eqv]
@[simp] theorem eqD_bl_non (a : Bool) : eqD (.bl a) .non = false := by simp [eqD, pyF, PyData.eqv]
@[simp] theorem eqD_bl_str (a : Bool) (b : Str) : eqD (.bl a) (.str b) = false := by simp [eqD, pyF, PyData.eqv]
@[simp] theorem eqD_bl_tup (a : Bool) (b : List D) : eqD (.bl a) (.tup b) = false := by simp [eqD, pyF, PyData.eqv]
@[simp] theorem eqD_bl_lst (a : Bool) (b : List D) : eqD (.bl a) (.lst b) = false := by simp [eqD, pyF, PyData.eqv]
@[simp] theorem eqD_int_non (a : Int) : eqD (.int a) .non = false := by simp [eqD, pyF, PyData.eqv]
@[simp] theorem eqD_int_str (a : Int) (b : Str) : eqD (.int a) (.str b) = false := by simp [eqD, pyF, PyData.eqv]
@[simp] theorem eqD_int_tup (a : Int) (b : List D) : eqD (.int a) (.tup b) = false := by simp [eqD, pyF, PyData.eqv]
@[simp] theorem eqD_int_lst (a : Int) (b : List D) : eqD (.int a) (.lst b) = false := by simp [eqD, pyF, PyData.eqv]
@[simp] theorem eqD_str_non (a : Str) : eqD (.str a) .non = false := by simp [eqD, pyF, PyData.eqv]
@[simp] theorem eqD_str_bl (a : Str) (b : Bool) : eqD (.str a) (.bl b) = false := by simp [eqD, pyF, PyData.eqv]
@[simp] theorem eqD_str_int (a : Str) (b : Int) : eqD (.str a) (.int b) = false := by simp [eqD, pyF, PyData.eqv]
@[simp] theorem eqD_str_tup (a : Str) (b : List D) : eqD (.str a) (.tup b) = false := by simp [eqD, pyF, PyData.eqv]
@[simp] theorem eqD_str_lst (a : Str) (b : List D) : eqD (.str a) (.lst b) = false := by simp [eqD, pyF, PyData.eqv]
@[simp] theorem eqD_tup_non (a : List D) : eqD (.tup a) .non = false := by simp [eqD, pyF, PyData.eqv]
@[simp] theorem eqD_tup_bl (a : List D) (b : Bool) : eqD (.tup a) (.bl b) = false := by simp [eqD, pyF, PyData.eqv]
@[simp] theorem eqD_tup_int (a : List D) (b : Int) : eqD (.tup a) (.int b) = false := by simp [eqD, pyF, PyData.eqv]
@[simp] theorem eqD_tup_str (a : List D) (b : Str) : eqD (.tup a) (.str b) = false := by simp [eqD, pyF, PyData.eqv]
@[simp] theorem eqD_tup_lst (a : List D) (b : List D) : eqD (.tup a) (.lst b) = false := by simp [eqD, pyF, PyData.eqv]
@[simp] theorem eqD_lst_non (a : List D) : eqD (.lst a) .non = false := by simp [eqD, pyF, PyData.eqv]
@[simp] theorem eqD_lst_bl (a : List D) (b : Bool) : eqD (.lst a) (.bl b) = false := by simp [eqD, pyF, PyData.eqv]
@[simp] theorem eqD_lst_int (a : List D) (b : Int) : eqD (.lst a) (.int b) = false := by simp [eqD, pyF, PyData.eqv]
@[simp] theorem eqD_lst_str (a : List D) (b : Str) : eqD (.lst a) (.str b) = false := by simp [eqD, pyF, PyData.eqv]
@[simp] theorem eqD_lst_tup (a : List D) (b : List D) : eqD (.lst a) (.tup b) = false := by simp [eqD, pyF, PyData.eqv]
theorem eqD_refl {n : Nat} {d : D} (h : Fl n d) : eqD d d = true := SeqAt.eqv_refl_plain _ (h.pl _)
theorem ltS_irrefl (a : Str) : ltS a a = false := by unfold ltS; simp
theorem inStr_one (c : Nat) (x : Str) : inStr ⟨#[c]⟩ x = decide (c ∈ x.cps.toList) := StrLaws.found_one x c
theorem ltS_one (a b : Nat) : ltS ⟨#[a]⟩ ⟨#[b]⟩ = decide (a < b) := by
  unfold ltS; simp [List.cons_lt_cons_iff]
theorem len_cps (z : Str) : z.cps.toList.length = z.length := by simp [Str.length]
theorem cps_app (a b : Str) : (a ++ b).cps.toList = a.cps.toList ++ b.cps.toList := by
  show (Str.append a b).cps.toList = _
  simp [Str.append]
def wordF (L : Str) : Nat → Str → Int → Str
  | 0, z, _ => z
  | n + 1, z, r => wordF L n (z ++ ⟨#[L.cps.toList.getD (r % L.length).toNat 0]⟩) (r / L.length)
theorem wordF_len (L : Str) : ∀ (n : Nat) (z : Str) (r : Int), (wordF L n z r).length = z.length + n
  | 0, z, r => rfl
  | n + 1, z, r => by rw [wordF, wordF_len L n, Str.length_append, one_len]; omega
theorem wordF_in (L : Str) (hL : 0 < L.length) : ∀ (n : Nat) (z : Str) (r : Int), (∀ c ∈ z.cps.toList, c ∈ L.cps.toList) → ∀ c ∈ (wordF L n z r).cps.toList, c ∈ L.cps.toList
  | 0, z, r, h => h
  | n + 1, z, r, h => by
    rw [wordF]
    refine wordF_in L hL n _ _ fun c hc => ?_
    rw [cps_app] at hc
    rcases List.mem_append.mp hc with hc | hc
    · exact h c hc
    · have h2 : 0 ≤ r % (L.length : Int) := Int.emod_nonneg _ (by omega)
      have h3 : r % (L.length : Int) < L.length := Int.emod_lt_of_pos _ (by omega)
      have hl : (r % L.length).toNat < L.cps.toList.length := by rw [len_cps]; omega
      have e : L.cps.toList.getD (r % L.length).toNat 0 = L.cps.toList[(r % L.length).toNat] := by
        rw [List.getD_eq_getElem?_getD, List.getElem?_eq_getElem hl]; rfl
      have hc' : c = L.cps.toList.getD (r % L.length).toNat 0 := by simpa using hc
      rw [hc', e]
      exact List.getElem_mem hl
theorem ix_word (S : Store) {L : Str} (r : Int) (h0 : 0 < L.length) (h1 : L.length ≤ 1000000) : fIx S (.str L) (.int (r % L.length)) = some (.str ⟨#[L.cps.toList.getD (r % L.length).toNat 0]⟩) := by
  have h2 : 0 ≤ r % (L.length : Int) := Int.emod_nonneg _ (by omega)
  have h3 : r % (L.length : Int) < L.length := Int.emod_lt_of_pos _ (by omega)
  have h4 : (r % (L.length : Int)).toNat < L.cps.toList.length := by rw [len_cps]; omega
  have e : atI L.cps.toList (r % (L.length : Int)) = some (L.cps.toList.getD (r % L.length).toNat 0) := by
    unfold atI
    rw [ixN_in h2 (by rw [len_cps]; exact h3)]
    simp [List.getElem?_eq_getElem h4]
  simp [fIx, szL h1, e, BS.strAt]
def LL : Str := "abcdefghijklmnopqrstuvwxyz"
theorem LL_len : LL.length = 26 := by decide +kernel
def inL (c : Nat) : Bool := decide (c ∈ LL.cps.toList)
def isB (d : D) : Bool := match d with
  | .str z => decide (z.length ≤ 8) && z.cps.toList.all inL
  | _ => false
def isK (d : D) : Bool := match d with
  | .str z => isB (.str z) && decide (z ≠ Str.ofString "")
  | _ => false
def prC (c : Nat) : Bool := decide (32 ≤ c ∧ c ≤ 126 ∧ c ≠ 37)
def isPr (d : D) : Bool := match d with
  | .str z => z.cps.toList.all prC
  | _ => false
def isV (d : D) : Bool := match d with
  | .str z => isPr (.str z) && decide ((z.length : Int) ≤ 40)
  | _ => false
def isI (d : D) (lo hi : Int) : Bool := match d with
  | .int i => decide (lo ≤ i) && decide (i ≤ hi)
  | _ => false
theorem isB_str {d : D} (h : isB d = true) : ∃ z, d = .str z ∧ z.length ≤ 8 := by
  cases d <;> simp_all [isB]
theorem isK_str {d : D} (h : isK d = true) : ∃ z, d = .str z ∧ z.length ≤ 8 ∧ z ≠ Str.ofString "" := by
  cases d <;> simp_all [isK, isB]
theorem isV_str {d : D} (h : isV d = true) : ∃ z, d = .str z ∧ z.length ≤ 40 := by
  cases d <;> simp_all [isV]
  omega
theorem isK_isB {d : D} (h : isK d = true) : isB d = true := by
  cases d <;> simp_all [isB, isK]
end BS
namespace BS
open PySem PySem.Spec PyProof.Rows L2
@[simp] theorem pre_at {α : Type} (P l : List α) (k : Nat) : (P ++ l)[P.length + k]? = l[k]? := by
  rw [List.getElem?_append_right (by omega)]; congr 1; omega
@[simp] theorem pre_at0 {α : Type} (P l : List α) : (P ++ l)[P.length]? = l[0]? := pre_at P l 0
@[simp] theorem pre_set {α : Type} (P l : List α) (k : Nat) (x : α) : (P ++ l).set (P.length + k) x = P ++ l.set k x := by
  rw [List.set_append, if_neg (by omega)]; congr 2; omega
@[simp] theorem pre_set0 {α : Type} (P l : List α) (x : α) : (P ++ l).set P.length x = P ++ l.set 0 x := pre_set P l 0 x
theorem gives_eq {α : Type} {r : R α} {x : α} {S : Store} (h : r.gives fun d S' => d = x ∧ S' = S) : r = .ok x S := by
  obtain ⟨d, S', e, rfl, rfl⟩ := gives_iff.mp h
  exact e
/-- a loop that checks each item and leaves the store alone -/
theorem forL_check {g : GM} {b : SM} {N : Ev → Store → Prop} {T : D → Store → Prop} {ds : List D} {e : Ev} {S : Store} (J : Nat → Ev → Prop) (c : Nat → D → Bool) (h0 : J 0 e)
    (hs : ∀ k d e, ds[k]? = some d → J k e → (∀ i d, i < k → ds[i]? = some d → c i d = true) → if c k d = true then ∃ e', (g d e S).seq b = .nx e' S ∧ J (k + 1) e' else (g d e S).seq b = .rt (.bl false) S)
    (hn : ∀ e, J ds.length e → (∀ i d, ds[i]? = some d → c i d = true) → N e S)
    (ht : ∀ i d, ds[i]? = some d → c i d = false → T (.bl false) S) : (forL (fun _ => True) g b ds e S).ends N T := by
  refine forL_ends (fun k e S' => S' = S ∧ J k e ∧ ∀ i d, i < k → ds[i]? = some d → c i d = true) ⟨rfl, h0, fun i d h => absurd h (Nat.not_lt_zero _)⟩ (fun _ _ _ _ => True.intro) ?_ ?_
  · rintro k d e S' hd ⟨rfl, hj, ha⟩
    have := hs k d e hd hj ha
    cases hc : c k d with
    | true =>
      rw [if_pos hc] at this
      obtain ⟨e', q, j'⟩ := this
      rw [q, turns_nx]
      refine ⟨rfl, j', fun i d' hi hd' => ?_⟩
      by_cases hik : i = k
      · subst hik; rw [hd] at hd'; cases hd'; exact hc
      · exact ha i d' (by omega) hd'
    | false =>
      rw [hc, if_neg (by simp)] at this
      rw [this, turns_rt]
      exact ht k d hd hc
  · rintro e S' ⟨rfl, hj, ha⟩
    exact hn e hj fun i d hd => ha i d (List.getElem?_eq_some_iff.mp hd).1 hd
@[simp] theorem eqS_non_bl (S : Store) (b : Bool) : eqS S .non (.bl b) = some false := by rw [eqS_fl (n := 1) (m := 1) S .non (.bl _)]; simp
@[simp] theorem eqS_non_int (S : Store) (b : Int) : eqS S .non (.int b) = some false := by rw [eqS_fl (n := 1) (m := 1) S .non (.int _)]; simp
@[simp] theorem eqS_non_str (S : Store) (b : Str) : eqS S .non (.str b) = some false := by rw [eqS_fl (n := 1) (m := 1) S .non (.str _)]; simp
@[simp] theorem eqS_bl_non (S : Store) (a : Bool) : eqS S (.bl a) .non = some false := by rw [eqS_fl (n := 1) (m := 1) S (.bl _) .non]; simp
@[simp] theorem eqS_bl_str (S : Store) (a : Bool) (b : Str) : eqS S (.bl a) (.str b) = some false := by rw [eqS_fl (n := 1) (m := 1) S (.bl _) (.str _)]; simp
@[simp] theorem eqS_int_non (S : Store) (a : Int) : eqS S (.int a) .non = some false := by rw [eqS_fl (n := 1) (m := 1) S (.int _) .non]; simp
@[simp] theorem eqS_int_str (S : Store) (a : Int) (b : Str) : eqS S (.int a) (.str b) = some false := by rw [eqS_fl (n := 1) (m := 1) S (.int _) (.str _)]; simp
@[simp] theorem eqS_str_non (S : Store) (a : Str) : eqS S (.str a) .non = some false := by rw [eqS_fl (n := 1) (m := 1) S (.str _) .non]; simp
@[simp] theorem eqS_str_bl (S : Store) (a : Str) (b : Bool) : eqS S (.str a) (.bl b) = some false := by rw [eqS_fl (n := 1) (m := 1) S (.str _) (.bl _)]; simp
@[simp] theorem eqS_str_int (S : Store) (a : Str) (b : Int) : eqS S (.str a) (.int b) = some false := by rw [eqS_fl (n := 1) (m := 1) S (.str _) (.int _)]; simp
/-- a list of the store and one that stays as it is -/
theorem eqS_lobj {n : Nat} {S : Store} {i : Nat} {ds : List D} (hi : S[i]? = some (.lst ds)) (h : FlS n ds) (hn : n < 99 := by decide) : eqS S (.lst ds) (.obj i) = some true := by
  have e : py S (.obj i) = .list (pyFs (pyk 2 S) ds) := by simp [py, pyF, pyk, hi]
  refine eqS_same ?_ ?_ ?_
  · rw [e]; simp only [py, pyF]; rw [h.eq (pyk 2 S) (pyk 3 S)]
  · simp only [py, pyF]; simp [PyData.plain, h.pl]
  · simp only [py, pyF]; have := h.dp (pyk 3 S); simp [PyData.depth]; omega
theorem cut_to {ds : List D} {k : Nat} : cutD ds none (some (k : Int)) = ds.take k := by
  unfold cutD HT.sIx
  have : ¬ (k : Int) < 0 := by omega
  simp [this]
@[simp] theorem slS_obj (new : Bool) (S : Store) (n : Nat) (lo hi : Option Int) : slS new S (.obj n) lo hi = match S[n]? with
  | some (.lst ds) => fin new (cutD ds lo hi) S
  | _ => .stuck := by
  simp only [slS, lstOf_obj]
  cases S[n]? with
  | none => rfl
  | some o => cases o <;> rfl
@[simp] theorem catS_lobj (new : Bool) (S : Store) (xs : List D) (n : Nat) : catS new S (.lst xs) (.obj n) = match S[n]? with
  | some (.lst ys) => if xs.length + ys.length ≤ sizeLine then fin new (xs ++ ys) S else .stuck
  | _ => .stuck := by
  simp only [catS, lvOf_lst, lvOf_obj]
  cases S[n]? with
  | none => rfl
  | some o => cases o <;> rfl
@[simp] theorem fIsB_bl (S : Store) (a b : Bool) : fIsB S (.bl a) (.bl b) = some (.bl (decide (a = b))) := rfl
@[simp] theorem fIsNotB_bl (S : Store) (a b : Bool) : fIsNotB S (.bl a) (.bl b) = some (.bl (!decide (a = b))) := rfl
section
variable {α : Type} [DecidableEq α]
def getM (m : List (α × D)) (k : α) : Option D := (m.find? fun p => decide (p.1 = k)).map (·.2)
def putM (m : List (α × D)) (k : α) (v : D) : List (α × D) := if (m.any fun p => decide (p.1 = k)) = true then m.map (fun p => if p.1 = k then (p.1, v) else p) else m ++ [(k, v)]
def dropM (m : List (α × D)) (k : α) : List (α × D) := m.filter fun p => decide (p.1 ≠ k)
theorem getM_nil (k : α) : getM [] k = none := rfl
theorem getM_cons (p : α × D) (m : List (α × D)) (k : α) : getM (p :: m) k = if p.1 = k then some p.2 else getM m k := by
  unfold getM
  by_cases h : p.1 = k <;> simp [h]
theorem getM_app (m l : List (α × D)) (k : α) : getM (m ++ l) k = (getM m k).or (getM l k) := by
  induction m with
  | nil => simp [getM_nil]
  | cons p m ih => rw [List.cons_append, getM_cons, getM_cons, ih]; by_cases h : p.1 = k <;> simp [h]
theorem getM_none {m : List (α × D)} {k : α} : getM m k = none ↔ k ∉ m.map (·.1) := by
  induction m with
  | nil => simp [getM_nil]
  | cons p m ih =>
    rw [getM_cons]
    by_cases h : p.1 = k
    · simp [h]
    · rw [if_neg h, ih, List.map_cons, List.mem_cons]
      exact ⟨fun q z => z.elim (fun z => h z.symm) q, fun q z => q (.inr z)⟩
theorem getM_mem {m : List (α × D)} {k : α} {v : D} (h : getM m k = some v) : (k, v) ∈ m := by
  induction m with
  | nil => simp [getM_nil] at h
  | cons p m ih =>
    rw [getM_cons] at h
    by_cases q : p.1 = k
    · rw [if_pos q] at h; cases h; rw [← q]; simp
    · rw [if_neg q] at h; exact List.mem_cons_of_mem _ (ih h)
theorem mem_getM {m : List (α × D)} (hm : (m.map (·.1)).Nodup) {k : α} {v : D} (h : (k, v) ∈ m) : getM m k = some v := by
  induction m with
  | nil => simp at h
  | cons p m ih =>
    rw [List.map_cons, List.nodup_cons] at hm
    rw [getM_cons]
    rcases List.mem_cons.mp h with rfl | h
    · simp
    · by_cases q : p.1 = k
      · exact absurd (List.mem_map.mpr ⟨_, h, rfl⟩) (by rw [← q]; exact hm.1)
      · rw [if_neg q]; exact ih hm.2 h
theorem getM_some {m : List (α × D)} {k : α} (h : k ∈ m.map (·.1)) : ∃ v, getM m k = some v := by
  cases e : getM m k with
  | some v => exact ⟨v, rfl⟩
  | none => exact absurd h (getM_none.mp e)
theorem any_iff {m : List (α × D)} {k : α} : (m.any fun p => decide (p.1 = k)) = true ↔ k ∈ m.map (·.1) := by
  simp only [List.any_eq_true, decide_eq_true_eq, List.mem_map]
theorem putM_keys (m : List (α × D)) (k : α) (v : D) : (putM m k v).map (·.1) = if k ∈ m.map (·.1) then m.map (·.1) else m.map (·.1) ++ [k] := by
  unfold putM
  by_cases h : k ∈ m.map (·.1)
  · rw [if_pos (any_iff.mpr h), if_pos h, List.map_map]
    apply List.map_congr_left
    intro p _
    simp only [Function.comp]
    split <;> rfl
  · rw [if_neg (fun z => h (any_iff.mp z)), if_neg h, List.map_append]; rfl
theorem putM_nodup {m : List (α × D)} (hm : (m.map (·.1)).Nodup) (k : α) (v : D) : ((putM m k v).map (·.1)).Nodup := by
  rw [putM_keys]
  split
  · exact hm
  · rename_i h
    rw [List.nodup_append]
    refine ⟨hm, by simp, fun a ha b hb => ?_⟩
    rw [List.mem_singleton] at hb
    subst hb
    exact fun z => h (z ▸ ha)
theorem getM_map {m : List (α × D)} {k j : α} {v : D} : getM (m.map fun p => if p.1 = k then (p.1, v) else p) j = if j = k then (getM m j).map (fun _ => v) else getM m j := by
  induction m with
  | nil => simp [getM_nil]
  | cons p m ih =>
    rw [List.map_cons, getM_cons, getM_cons, ih]
    by_cases h1 : p.1 = k
    · by_cases h2 : p.1 = j
      · have : j = k := h2 ▸ h1
        simp [h1, this]
      · have : ¬ j = k := fun z => h2 (h1.trans z.symm)
        rw [if_pos h1]; simp [h2, this]
    · by_cases h2 : p.1 = j
      · have : ¬ j = k := fun z => h1 (h2.trans z)
        simp [h1, h2, this]
      · rw [if_neg h1]; simp [h2]
theorem getM_put (m : List (α × D)) (k : α) (v : D) (j : α) : getM (putM m k v) j = if j = k then some v else getM m j := by
  unfold putM
  by_cases h : k ∈ m.map (·.1)
  · rw [if_pos (any_iff.mpr h), getM_map]
    split
    · rename_i q; subst q
      obtain ⟨w, e⟩ := getM_some h
      rw [e]; rfl
    · rfl
  · rw [if_neg (fun z => h (any_iff.mp z)), getM_app, getM_cons, getM_nil]
    by_cases q : j = k
    · subst q; rw [getM_none.mpr h]; simp
    · have : ¬ k = j := fun z => q z.symm
      simp [q, this]
theorem dropM_keys (m : List (α × D)) (k : α) : (dropM m k).map (·.1) = (m.map (·.1)).filter fun x => decide (x ≠ k) := by
  unfold dropM
  induction m with
  | nil => rfl
  | cons p m ih =>
    rw [List.filter_cons, List.map_cons, List.filter_cons]
    by_cases h : p.1 = k
    · simp only [h]; simpa using ih
    · simp only [ne_eq, h, not_false_eq_true, decide_true, if_true, List.map_cons]; rw [← ih]
theorem dropM_nodup {m : List (α × D)} (hm : (m.map (·.1)).Nodup) (k : α) : ((dropM m k).map (·.1)).Nodup := by
  rw [dropM_keys]; exact hm.filter _
theorem getM_drop (m : List (α × D)) (k j : α) : getM (dropM m k) j = if j = k then none else getM m j := by
  unfold dropM
  induction m with
  | nil => simp [getM_nil]
  | cons p m ih =>
    rw [List.filter_cons, getM_cons]
    by_cases h1 : p.1 = k
    · simp only [h1, ne_eq, not_true, decide_false, Bool.false_eq_true, if_false]
      simp only [ne_eq] at ih
      rw [ih]
      by_cases q : j = k
      · simp [q]
      · have : ¬ k = j := fun z => q z.symm
        simp [q, this]
    · simp only [ne_eq, h1, not_false_eq_true, decide_true, if_true]
      rw [getM_cons]
      simp only [ne_eq] at ih
      rw [ih]
      by_cases q : j = k
      · have : ¬ p.1 = j := fun z => h1 (z.trans q)
        simp [q, h1]
      · simp [q]
theorem putM_mem {m : List (α × D)} {k : α} {v : D} {p : α × D} (h : p ∈ putM m k v) : p = (k, v) ∨ p ∈ m := by
  unfold putM at h
  split at h
  · obtain ⟨q, hq, rfl⟩ := List.mem_map.mp h
    split
    · rename_i e; left; rw [← e]
    · exact .inr hq
  · rcases List.mem_append.mp h with h | h
    · exact .inr h
    · exact .inl (List.mem_singleton.mp h)
theorem putM_len (m : List (α × D)) (k : α) (v : D) : (putM m k v).length ≤ m.length + 1 := by
  unfold putM
  split <;> simp
theorem dropM_len (m : List (α × D)) (k : α) : (dropM m k).length ≤ m.length := List.length_filter_le _ _
theorem dropM_mem {m : List (α × D)} {k : α} {p : α × D} (h : p ∈ dropM m k) : p ∈ m ∧ p.1 ≠ k := by
  have := List.mem_filter.mp h
  exact ⟨this.1, by simpa using this.2⟩
end
/-- a dict with texts as keys, with ints as keys -/
def toS (m : List (Str × D)) : List (Key × D) := m.map fun p => (.inr p.1, p.2)
def toI (m : List (Int × D)) : List (Key × D) := m.map fun p => (.inl p.1, p.2)
@[simp] theorem toS_len (m : List (Str × D)) : (toS m).length = m.length := by simp [toS]
@[simp] theorem toI_len (m : List (Int × D)) : (toI m).length = m.length := by simp [toI]
@[simp] theorem toS_nil : toS [] = [] := rfl
@[simp] theorem toI_nil : toI [] = [] := rfl
@[simp] theorem getK_toS (m : List (Str × D)) (k : Str) : getK (toS m) (.inr k) = getM m k := by
  induction m with
  | nil => rfl
  | cons p m ih =>
    rw [getM_cons]
    unfold getK toS at *
    rw [List.map_cons, List.find?_cons]
    by_cases h : p.1 = k
    · simp [h]
    · have : decide ((Sum.inr p.1 : Key) = Sum.inr k) = false := by simp [h]
      simp only [this]
      rw [if_neg h]; exact ih
@[simp] theorem getK_toI (m : List (Int × D)) (k : Int) : getK (toI m) (.inl k) = getM m k := by
  induction m with
  | nil => rfl
  | cons p m ih =>
    rw [getM_cons]
    unfold getK toI at *
    rw [List.map_cons, List.find?_cons]
    by_cases h : p.1 = k
    · simp [h]
    · have : decide ((Sum.inl p.1 : Key) = Sum.inl k) = false := by simp [h]
      simp only [this]
      rw [if_neg h]; exact ih
@[simp] theorem putD_toS (m : List (Str × D)) (k : Str) (v : D) : putD (toS m) (.inr k) v = toS (putM m k v) := by
  unfold putD putM
  have e : ((toS m).any fun kv => decide (kv.1 = (Sum.inr k : Key))) = m.any fun p => decide (p.1 = k) := by
    unfold toS; rw [List.any_map]; congr 1; funext p; simp
  rw [e]
  split
  · unfold toS
    rw [List.map_map, List.map_map]
    apply List.map_congr_left
    intro p _
    by_cases h : p.1 = k <;> simp [h]
  · simp [toS]
@[simp] theorem putD_toI (m : List (Int × D)) (k : Int) (v : D) : putD (toI m) (.inl k) v = toI (putM m k v) := by
  unfold putD putM
  have e : ((toI m).any fun kv => decide (kv.1 = (Sum.inl k : Key))) = m.any fun p => decide (p.1 = k) := by
    unfold toI; rw [List.any_map]; congr 1; funext p; simp
  rw [e]
  split
  · unfold toI
    rw [List.map_map, List.map_map]
    apply List.map_congr_left
    intro p _
    by_cases h : p.1 = k <;> simp [h]
  · simp [toI]
@[simp] theorem dropD_toS (m : List (Str × D)) (k : Str) : dropD (toS m) (.inr k) = toS (dropM m k) := by
  unfold dropD dropM toS
  rw [List.filter_map]
  congr 1
  apply List.filter_congr
  intro p _
  simp
@[simp] theorem dropD_toI (m : List (Int × D)) (k : Int) : dropD (toI m) (.inl k) = toI (dropM m k) := by
  unfold dropD dropM toI
  rw [List.filter_map]
  congr 1
  apply List.filter_congr
  intro p _
  simp
@[simp] theorem putD_nilS (k : Str) (v : D) : putD [] (.inr k) v = toS (putM [] k v) := putD_toS [] k v
@[simp] theorem putD_nilI (k : Int) (v : D) : putD [] (.inl k) v = toI (putM [] k v) := putD_toI [] k v
theorem keysT_toS (m : List (Str × D)) : keysT (toS m) = some (m.map (·.1)) := by
  induction m with
  | nil => rfl
  | cons p m ih => unfold toS at *; rw [List.map_cons, keysT, ih]; rfl
theorem keysI_toI (m : List (Int × D)) : keysI (toI m) = some (m.map (·.1)) := by
  induction m with
  | nil => rfl
  | cons p m ih => unfold toI at *; rw [List.map_cons, keysI, ih]; rfl
theorem keysI_toS (p : Str × D) (m : List (Str × D)) : keysI (toS (p :: m)) = none := rfl
/-- == of dicts -/
@[simp] theorem fEqD_obj (S : Store) (n m : Nat) : fEqD S (.obj n) (.obj m) = match S[n]? with
  | some (.dct ks) => match S[m]? with
    | some (.dct ls) => if eqK ks ls = true then some (.bl true) else none
    | _ => none
  | _ => none := by
  simp only [fEqD, dctOf_obj]
  cases S[n]? with
  | none => rfl
  | some o => cases o <;> first | rfl | (cases S[m]? with
    | none => rfl
    | some o => cases o <;> rfl)
@[simp] theorem fNeD_obj (S : Store) (n m : Nat) : fNeD S (.obj n) (.obj m) = match S[n]? with
  | some (.dct ks) => match S[m]? with
    | some (.dct ls) => if eqK ks ls = true then some (.bl false) else none
    | _ => none
  | _ => none := by
  simp only [fNeD, dctOf_obj]
  cases S[n]? with
  | none => rfl
  | some o => cases o <;> first | rfl | (cases S[m]? with
    | none => rfl
    | some o => cases o <;> rfl)
def flatD (d : D) : Bool := match d with
  | .non => true
  | .bl _ => true
  | .int _ => true
  | .str _ => true
  | _ => false
theorem sameF_refl {d : D} (h : flatD d = true) : sameF d d = true := by
  cases d <;> simp_all [flatD, sameF]
/-- the same pairs, in any order -/
theorem eqK_toS {m l : List (Str × D)} (hl : m.length = l.length) (h : ∀ p ∈ m, getM l p.1 = some p.2 ∧ flatD p.2 = true) : eqK (toS m) (toS l) = true := by
  unfold eqK
  rw [Bool.and_eq_true]
  refine ⟨by simp [hl], ?_⟩
  rw [List.all_eq_true]
  intro q hq
  obtain ⟨p, hp, rfl⟩ := List.mem_map.mp hq
  obtain ⟨h1, h2⟩ := h p hp
  simp only [getK_toS, h1, sameF_refl h2]
theorem eqK_refl {m : List (Str × D)} (hm : (m.map (·.1)).Nodup) (h : ∀ p ∈ m, flatD p.2 = true) : eqK (toS m) (toS m) = true :=
  eqK_toS rfl fun p hp => ⟨mem_getM hm hp, h p hp⟩
@[simp] theorem slRev_tup (new : Bool) (S : Store) (ds : List D) : slRev new S (.tup ds) = .ok (.tup ds.reverse) S := rfl
@[simp] theorem slRev_lst (new : Bool) (S : Store) (ds : List D) : slRev new S (.lst ds) = fin new ds.reverse S := rfl
theorem slRev_obj {new : Bool} {S : Store} {n : Nat} {ds : List D} (h : S[n]? = some (.lst ds)) : slRev new S (.obj n) = fin new ds.reverse S := by
  unfold slRev
  simp only [lstOf_obj, h]
/-- sorted(d) -/
theorem sorted_toS (new : Bool) (S : Store) (n : Nat) (m : List (Str × D)) (h : S[n]? = some (.dct (toS m))) (hl : m.length ≤ 1000000) : fnSorted new [.obj n] S = fin new ((sortT (m.map (·.1))).map .str) S := by
  rw [fnSorted_ev]
  simp only [lstOf_obj, dctOf_obj, h]
  cases m with
  | nil => simp [keysI, sortI, sortT]
  | cons p m =>
    rw [keysI_toS, keysT_toS]
theorem sorted_toI (new : Bool) (S : Store) (n : Nat) (m : List (Int × D)) (h : S[n]? = some (.dct (toI m))) (hl : m.length < 64) : fnSorted new [.obj n] S = fin new ((sortI (m.map (·.1))).map .int) S := by
  rw [fnSorted_ev]
  simp only [lstOf_obj, dctOf_obj, h, keysI_toI]
  simp only [List.length_map]
  rw [if_pos hl]
theorem sortedR_toS (new : Bool) (S : Store) (n : Nat) (m : List (Str × D)) (h : S[n]? = some (.dct (toS m))) : fnSortedR new [.obj n] S = fin new ((sortT (m.map (·.1))).reverse.map .str) S := by
  simp only [fnSortedR_ev, dctOf, h, keysT_toS]
theorem sortT_mem {zs : List Str} {z : Str} : z ∈ sortT zs ↔ z ∈ zs := (sortT_perm zs).mem_iff
theorem sortT_nodup {zs : List Str} (h : zs.Nodup) : (sortT zs).Nodup := (sortT_perm zs).nodup_iff.mpr h
theorem sortT_len (zs : List Str) : (sortT zs).length = zs.length := (sortT_perm zs).length_eq
theorem ltS_of_le_ne {a b : Str} (h : leS a b) (n : a ≠ b) : ltS a b = true := by
  cases e : ltS a b with
  | true => rfl
  | false => exact absurd (leS_anti h e) n
theorem sortT_lt {zs : List Str} (h : zs.Nodup) : (sortT zs).Pairwise fun a b => ltS a b = true := by
  have a := sortT_sorted zs
  have b := sortT_nodup h
  exact (a.and b).imp fun h => ltS_of_le_ne h.1 h.2
theorem ltS_trans {a b c : Str} (h1 : ltS a b = true) (h2 : ltS b c = true) : ltS a c = true := by
  unfold ltS at *
  simp only [decide_eq_true_eq] at *
  exact List.lt_trans h1 h2
theorem ltS_asymm {a b : Str} (h1 : ltS a b = true) : ltS b a = false := by
  cases e : ltS b a with
  | false => rfl
  | true => have := ltS_trans h1 e; rw [ltS_irrefl] at this; cases this
theorem ltS_emp {b : Str} (h : b ≠ Str.ofString "") : ltS "" b = true := by
  refine ltS_of_le_ne ?_ (fun z => h z.symm)
  unfold leS ltS
  have e : (Str.ofString "").cps.toList = [] := by decide +kernel
  simp [e]
theorem ltS_tri (a b : Str) : ltS a b = true ∨ a = b ∨ ltS b a = true := by
  by_cases h : a = b
  · exact .inr (.inl h)
  · rcases leS_total a b with q | q
    · exact .inl (ltS_of_le_ne q h)
    · exact .inr (.inr (ltS_of_le_ne q fun z => h z.symm))
theorem filter_ge {ks : List Str} (h : ks.Pairwise fun a b => ltS a b = true) {j : Nat} {l : Str} (hj : ks[j]? = some l) : ks.filter (fun z => !ltS z l) = ks.drop j := by
  have hl : j < ks.length := (List.getElem?_eq_some_iff.mp hj).1
  have e1 : ks.drop j = l :: ks.drop (j + 1) := by
    rw [List.drop_eq_getElem_cons hl]
    rw [List.getElem?_eq_getElem hl] at hj
    cases hj; rfl
  have e2 : ks = ks.take j ++ l :: ks.drop (j + 1) := by rw [← e1, List.take_append_drop]
  rw [e1]
  conv => lhs; rw [e2]
  rw [e2] at h
  obtain ⟨_, h2, h3⟩ := List.pairwise_append.mp h
  rw [List.filter_append]
  have a1 : (ks.take j).filter (fun z => !ltS z l) = [] := by
    rw [List.filter_eq_nil_iff]
    intro z hz
    simp [h3 z hz l (by simp)]
  have a2 : (l :: ks.drop (j + 1)).filter (fun z => !ltS z l) = l :: ks.drop (j + 1) := by
    rw [List.filter_eq_self]
    intro z hz
    rcases List.mem_cons.mp hz with rfl | hz
    · simp [ltS_irrefl]
    · simp [ltS_asymm ((List.pairwise_cons.mp h2).1 z hz)]
  rw [a1, a2]; rfl
theorem emp_cps : (Str.ofString "").cps.toList = [] := by decide +kernel
theorem inS_tup {n m : Nat} (S : Store) {x : D} {ys : List D} (hx : Fl n x) (hy : FlS m ys) (hn : n < 100 := by decide) : inS S x (.tup ys) = some (ys.any fun z => eqD z x) := by
  have := inS_fl S hx hy hn
  rw [← this]; rfl
def isPair (d : D) : Bool := match d with
  | .tup [k, v] => isK k && isV v
  | _ => false
def keyD (d : D) : Str := match d with
  | .tup (.str k :: _) => k
  | _ => ""
def adj : List D → Bool
  | x :: y :: r => ltS (keyD x) (keyD y) && adj (y :: r)
  | _ => true
theorem isPair_form {d : D} (h : isPair d = true) : ∃ k v, d = .tup [.str k, .str v] ∧ isK (.str k) = true ∧ isV (.str v) = true := by
  unfold isPair at h
  split at h
  · rename_i k v
    simp only [Bool.and_eq_true] at h
    obtain ⟨z, rfl, _⟩ := isK_str h.1
    obtain ⟨w, rfl, _⟩ := isV_str h.2
    exact ⟨z, w, rfl, h.1, h.2⟩
  · simp at h
theorem adj_iff : ∀ {ds : List D}, adj ds = true ↔ ∀ k x y, ds[k]? = some x → ds[k + 1]? = some y → ltS (keyD x) (keyD y) = true
  | [] => by simp [adj]
  | [x] => by simp [adj]
  | x :: y :: r => by
    unfold adj
    rw [Bool.and_eq_true, adj_iff]
    constructor
    · rintro ⟨h1, h2⟩ k a b ha hb
      cases k with
      | zero => simp at ha hb; subst ha hb; exact h1
      | succ k => exact h2 k a b (by simpa using ha) (by simpa using hb)
    · intro h
      exact ⟨h 0 x y rfl rfl, fun k a b ha hb => h (k + 1) a b (by simpa using ha) (by simpa using hb)⟩
def isPairs (d : D) : Bool := match d with
  | .tup ds => ds.all isPair && adj ds
  | _ => false
/-- below(one, other) -/
def blw (a b : D) : Bool := match a, b with
  | .str a, .str b => ltS a b
  | .str _, .non => true
  | _, _ => false
def isPage (p nx : D) : Bool := match p with
  | .tup ds => isPairs p && decide (ds.length ≤ 50) && (isNon nx || isK nx) && (match ds.getLast? with
    | some x => blw (.str (keyD x)) nx
    | none => true)
  | _ => false
def isAns (d : D) : Bool := match d with
  | .tup (.str k :: r) =>
    if k = "page" then (match r with
      | [p, nx] => isPage p nx
      | _ => false)
    else if k = "value" ∨ k = "other" then (match r with
      | [v] => isV v
      | _ => false)
    else if k = "none" ∨ k = "done" then r.isEmpty
    else false
  | _ => false
theorem forK_run {im : EM} {g : GM} {b : SM} {e : Ev} {S : Store} {n : Nat} {kvs : List (Key × D)} {N : Ev → Store → Prop} {T : D → Store → Prop} (h1 : im e S = .ok (.obj n) S) (h2 : S[n]? = some (.dct kvs)) (h3 : im e (S.set n (.lck kvs)) = .ok (.obj n) (S.set n (.lck kvs)))
    (body : (forL (fun _ => True) g b (kvs.map fun kv => dkey kv.1) e (S.set n (.lck kvs))).ends (fun e S' => ∃ ks, S'[n]? = some (.lck ks) ∧ N e (S'.set n (.dct ks))) (fun d S' => ∃ ks, S'[n]? = some (.lck ks) ∧ T d (S'.set n (.dct ks)))) : (mForK im g b e S).ends N T := by
  have hn := (List.getElem?_eq_some_iff.mp h2).1
  have h4 : (S.set n (.lck kvs))[n]? = some (.lck kvs) := List.getElem?_set_self hn
  unfold mForK
  rw [h1]
  dsimp only
  rw [h2]
  dsimp only
  rw [h3, R.toS_ok]
  dsimp only
  rw [if_pos rfl, h4]
  dsimp only
  generalize forL (fun _ => True) g b (kvs.map fun kv => dkey kv.1) e (S.set n (.lck kvs)) = r at *
  cases r with
  | nx e' S' =>
    rw [ends_nx] at body
    obtain ⟨ks, h5, h6⟩ := body
    unfold RS.unl
    dsimp only
    rw [h5]
    exact (ends_nx ..).mpr h6
  | rt d S' =>
    rw [ends_rt] at body
    obtain ⟨ks, h5, h6⟩ := body
    unfold RS.unl
    dsimp only
    rw [h5]
    exact (ends_rt ..).mpr h6
  | _ => simp at body
theorem toS_keys (m : List (Str × D)) : ((toS m).map fun kv => dkey kv.1) = m.map fun p => .str p.1 := by simp [toS, dkey, Function.comp_def]
theorem toI_keys (m : List (Int × D)) : ((toI m).map fun kv => dkey kv.1) = m.map fun p => .int p.1 := by simp [toI, dkey, Function.comp_def]
@[simp] theorem fIxA_os (S : Store) (n : Nat) (z : Str) : fIxA S (.obj n) (.str z) = match S[n]? with
  | some (.dct kvs) => getK kvs (.inr z)
  | _ => none := by
  cases h : S[n]? with
  | none => simp [fIxA, h]
  | some o => cases o <;> simp [fIxA, h, keyOf]
@[simp] theorem fIxA_oi (S : Store) (n : Nat) (k : Int) : fIxA S (.obj n) (.int k) = match S[n]? with
  | some (.lst ds) => atI ds k
  | some (.dct kvs) => getK kvs (.inl k)
  | _ => none := by
  cases h : S[n]? with
  | none => simp [fIxA, h]
  | some o => cases o <;> simp [fIxA, h, keyOf]
end BS
namespace L_k03
open PySem PySem.Spec PyProof.Rows L2 BS
def topS (i : Nat) : Stmt := PySem.Challenge.pw_boundstone_k03_encode.main.body.getD i (.Pass ⟨0, 0, 0, 0⟩)
def nm : Nms := mkNms ["Net", "History", "Sessions", "Shard", "Epochs", "Holdings", "Server", "Routes", "Directory", "Client", "World", "Disk", "Log", "TableError", "BadText", "BadOperation", "BadLetter", "BadShard", "BadRecord", "BadServer", "DiskError", "DiskCrashed", "BadSchedule"] [] (by decide +kernel)
def c_MOST_DEPTH : D := .int 10
def c_MOST_LENGTH : D := .int 200000
def c_PERCENT : D := .int 37
def c_GREATEST : D := .int 999999999999999999999999999999
theorem bb_bool : bootBuiltins "bool" = some (.type "bool") := by decide +kernel
theorem bb_int : bootBuiltins "int" = some (.type "int") := by decide +kernel
theorem bb_isinstance : bootBuiltins "isinstance" = some (.builtin "isinstance") := by decide +kernel
theorem bb_len : bootBuiltins "len" = some (.builtin "len") := by decide +kernel
theorem bb_max : bootBuiltins "max" = some (.builtin "max") := by decide +kernel
theorem bb_min : bootBuiltins "min" = some (.builtin "min") := by decide +kernel
theorem bb_ord : bootBuiltins "ord" = some (.builtin "ord") := by decide +kernel
theorem bb_str : bootBuiltins "str" = some (.type "str") := by decide +kernel
theorem bb_tuple : bootBuiltins "tuple" = some (.type "tuple") := by decide +kernel
theorem cl_BadText : nm.cls 14 = "BadText" := by decide +kernel
section
variable {P : Program} {w : World} {K : PySem.W.Frag} {mg : Str → Option Value} {base : Heap}
abbrev s_is_printable : Stmt := (topS 8)
theorem sc_is_printable : FnScope ["value", "character"] ["value"] (defScope s_is_printable) := ⟨rfl, rfl, rfl, by decide +kernel, rfl, by decide +kernel, by decide +kernel⟩
theorem va_is_printable : locAll [0, 1] ["value", "character"] (defScope s_is_printable) = true := by decide +kernel
theorem ga_is_printable : glAll ["ord", "PERCENT", "isinstance", "str"] (defScope s_is_printable) = true := by decide +kernel
noncomputable def lb_is_printable_0 : SM :=
  (mIfS (mOr (mBl (mBin fLt (mVar 1) (mC (.str " ")))) (mOr (mBl (mBin fGt (mVar 1) (mC (.str "~")))) (mBl (mBin fEq (mCall fnOrd (mCons (mVar 1) mNil)) (mC c_PERCENT))))) (mRet (mC (.bl false))) mSkip)
noncomputable def m_is_printable : SM :=
  (mSeq (mIfS (mNot (mBl (mIsi .str (mVar 0)))) (mRet (mC (.bl false))) mSkip)
    (mSeq (mFor (iAny (mVar 0)) (gNm 1) lb_is_printable_0)
    (mRet (mC (.bl true)))))
noncomputable def V_is_printable : FM := den 2 m_is_printable
theorem ok_is_printable {f : Addr} {fd : FuncData} (F : Fun K "is_printable" "is_printable" s_is_printable f fd)
    (n_ord : mg "ord" = none)
    (g_PERCENT : GC K mg "PERCENT" c_PERCENT)
    (n_isinstance : mg "isinstance" = none)
    (n_str : mg "str" = none) :
    FnOk P w K mg base (L2.CX P w) 1 f fd ["value"] (spD nm K mg 1 V_is_printable) :=
  den_ok (m := m_is_printable) F sc_is_printable (fun cdv A outer s H E hr => by
  have nd := sc_is_printable.nd
  have hh := L2H.roomH_of hr
  have hl : locAll [0, 1] (cxOf (L2.CX P w) P w K mg base ["value", "character"] "is_printable" (defScope s_is_printable) f cdv A outer s H E).N (cxOf (L2.CX P w) P w K mg base ["value", "character"] "is_printable" (defScope s_is_printable) f cdv A outer s H E).env.scope = true := va_is_printable
  have hv := locVis hl
  have hg : glAll ["ord", "PERCENT", "isinstance", "str"] (cxOf (L2.CX P w) P w K mg base ["value", "character"] "is_printable" (defScope s_is_printable) f cdv A outer s H E).env.scope = true := ga_is_printable
  have hc : (cxOf (L2.CX P w) P w K mg base ["value", "character"] "is_printable" (defScope s_is_printable) f cdv A outer s H E).calm = true := rfl
  have hp : PassesOwn (model P w) (cxOf (L2.CX P w) P w K mg base ["value", "character"] "is_printable" (defScope s_is_printable) f cdv A outer s H E).A (cxOf (L2.CX P w) P w K mg base ["value", "character"] "is_printable" (defScope s_is_printable) f cdv A outer s H E).env (cxOf (L2.CX P w) P w K mg base ["value", "character"] "is_printable" (defScope s_is_printable) f cdv A outer s H E).xe := passes_of rfl
  exact (mb_cons (ms_if (mt_not (mt_val (me_isi .str (me_var 0 hv) (gl_at hg 2) n_isinstance (gl_at hg 3) n_str bb_isinstance bb_str))) (mb_one (ms_ret me_bl)) mb_nil)
    (mb_cons (ms_for hp hc (mi_any (me_var 0 hv)) (mg_name 1 nd hl) (gok_nm 1) (mb_one (ms_if (MW.mt (mw_or (mt_cmp o_lt (me_var 1 hv) me_str (nomark _)) (mw_or (mt_cmp o_gt (me_var 1 hv) me_str (nomark _)) (mw_or1 (mt_cmp (o_eq hh) (me_callB c_ord (gl_at hg 0) n_ord bb_ord (ma_cons (me_var 1 hv) ma_nil)) (me_gc g_PERCENT (gl_at hg 1)) (nomark _)))))) (mb_one (ms_ret me_bl)) mb_nil)))
    (mb_one (ms_ret me_bl))))) rfl rfl
abbrev s_is_integer : Stmt := (topS 9)
theorem sc_is_integer : FnScope ["value", "least", "greatest"] ["value", "least", "greatest"] (defScope s_is_integer) := ⟨rfl, rfl, rfl, by decide +kernel, rfl, by decide +kernel, by decide +kernel⟩
theorem va_is_integer : locAll [0, 1, 2] ["value", "least", "greatest"] (defScope s_is_integer) = true := by decide +kernel
theorem ga_is_integer : glAll ["isinstance", "int", "bool"] (defScope s_is_integer) = true := by decide +kernel
noncomputable def m_is_integer : SM :=
  (mSeq (mIfS (mOr (mNot (mBl (mIsi .int (mVar 0)))) (mBl (mIsi .bool (mVar 0)))) (mRet (mC (.bl false))) mSkip)
    (mRet (mAndV (mBin fLe (mVar 1) (mVar 0)) (mBin fLe (mVar 0) (mVar 2)))))
noncomputable def V_is_integer : FM := den 3 m_is_integer
theorem ok_is_integer {f : Addr} {fd : FuncData} (F : Fun K "is_integer" "is_integer" s_is_integer f fd)
    (n_isinstance : mg "isinstance" = none)
    (n_int : mg "int" = none)
    (n_bool : mg "bool" = none) :
    FnOk P w K mg base (L2.CX P w) 1 f fd ["value", "least", "greatest"] (spD nm K mg 3 V_is_integer) :=
  den_ok (m := m_is_integer) F sc_is_integer (fun cdv A outer s H E hr => by
  have nd := sc_is_integer.nd
  have hh := L2H.roomH_of hr
  have hl : locAll [0, 1, 2] (cxOf (L2.CX P w) P w K mg base ["value", "least", "greatest"] "is_integer" (defScope s_is_integer) f cdv A outer s H E).N (cxOf (L2.CX P w) P w K mg base ["value", "least", "greatest"] "is_integer" (defScope s_is_integer) f cdv A outer s H E).env.scope = true := va_is_integer
  have hv := locVis hl
  have hg : glAll ["isinstance", "int", "bool"] (cxOf (L2.CX P w) P w K mg base ["value", "least", "greatest"] "is_integer" (defScope s_is_integer) f cdv A outer s H E).env.scope = true := ga_is_integer
  have hc : (cxOf (L2.CX P w) P w K mg base ["value", "least", "greatest"] "is_integer" (defScope s_is_integer) f cdv A outer s H E).calm = true := rfl
  have hp : PassesOwn (model P w) (cxOf (L2.CX P w) P w K mg base ["value", "least", "greatest"] "is_integer" (defScope s_is_integer) f cdv A outer s H E).A (cxOf (L2.CX P w) P w K mg base ["value", "least", "greatest"] "is_integer" (defScope s_is_integer) f cdv A outer s H E).env (cxOf (L2.CX P w) P w K mg base ["value", "least", "greatest"] "is_integer" (defScope s_is_integer) f cdv A outer s H E).xe := passes_of rfl
  exact (mb_cons (ms_if (MW.mt (mw_or (mt_not (mt_val (me_isi .int (me_var 0 hv) (gl_at hg 0) n_isinstance (gl_at hg 1) n_int bb_isinstance bb_int))) (mw_or1 (mt_val (me_isi .bool (me_var 0 hv) (gl_at hg 0) n_isinstance (gl_at hg 2) n_bool bb_isinstance bb_bool))))) (mb_one (ms_ret me_bl)) mb_nil)
    (mb_one (ms_ret (me_and (me_cmp o_le (me_var 1 hv) (me_var 0 hv) (nomark _)) (me_one (me_cmp o_le (me_var 0 hv) (me_var 2 hv) (nomark _)))))))) rfl rfl
abbrev s__written : Stmt := (topS 10)
theorem sc__written : FnScope ["value", "depth", "item"] ["value", "depth"] (defScope s__written) := ⟨rfl, rfl, rfl, by decide +kernel, rfl, by decide +kernel, by decide +kernel⟩
abbrev lcx__written_0 : Scope := (lcOf (kid (kid (kid (skid (stm (subs (stm (defBody s__written) 2)) 1) 0) 0) 1) 1))
theorem lcb__written_0 : blkC ["value", "depth", "item"] (defScope s__written) lcx__written_0 [("item", 2)] = true := by decide +kernel
theorem lcv__written_0 : visAll [1, 2] ["value", "depth", "item"] (relS lcx__written_0 (defScope s__written)) = true := by decide +kernel
theorem lcg__written_0 : glAll ["_written"] (relS lcx__written_0 (defScope s__written)) = true := by decide +kernel
theorem lcl__written_0_0 : (relS lcx__written_0 (defScope s__written)).names.lookup ("item" : Str) = some NameKind.local := by decide +kernel
theorem va__written : locAll [0, 1] ["value", "depth", "item"] (defScope s__written) = true := by decide +kernel
theorem ga__written : glAll ["str", "GREATEST", "is_integer", "BadText", "isinstance", "tuple", "MOST_DEPTH", "is_printable"] (defScope s__written) = true := by decide +kernel
noncomputable def m__written (R__written : FM) : SM :=
  (mSeq (mIfS (mBl (mBin fIs (mVar 0) (mC .non))) (mRet (mC (.str "*"))) mSkip)
    (mSeq (mIfS (mBl (mIsi .str (mVar 0))) (mSeq (mIfS (mNot (mBl (mCall V_is_printable (mCons (mVar 0) mNil)))) (mRaise0 14) mSkip)
    (mRet (mBin fAdd (mBin fAdd (mC (.str "'")) (mRepl "'" "''" (mVar 0))) (mC (.str "'"))))) mSkip)
    (mSeq (mIfS (mBl (mIsi .tuple (mVar 0))) (mSeq (mIfS (mBl (mBin fGe (mVar 1) (mC c_MOST_DEPTH))) (mRaise0 14) mSkip)
    (mRet (mBin fAdd (mBin fAdd (mC (.str "(")) (mBm .str fnJoin (mC (.str ",")) (mCons (mLcX [2] (LT.one 2) (iAny (mVar 0)) mYes (mCall R__written (mCons (mVar 2) (mCons (mBin fAdd (mVar 1) (mC (.int 1))) mNil)))) mNil))) (mC (.str ")"))))) mSkip)
    (mSeq (mIfS (mNot (mBl (mCall V_is_integer (mCons (mVar 0) (mCons (mUn fNeg (mC c_GREATEST)) (mCons (mC c_GREATEST) mNil)))))) (mRaise0 14) mSkip)
    (mRet (mCall fnStr (mCons (mVar 0) mNil)))))))
theorem ok__written {kk : Nat} (hk : 1 ≤ kk) {R__written : FM} {f : Addr} {fd : FuncData} (F : Fun K "_written" "_written" s__written f fd)
    (n_str : mg "str" = none)
    (d_is_integer : DefOk P w K mg base nm 1 "is_integer" 3 V_is_integer)
    (g_GREATEST : GC K mg "GREATEST" c_GREATEST)
    (e_BadText : ExcOk K mg "BadText")
    (n_isinstance : mg "isinstance" = none)
    (n_tuple : mg "tuple" = none)
    (d__written : DefOk P w K mg base nm kk "_written" 2 R__written)
    (g_MOST_DEPTH : GC K mg "MOST_DEPTH" c_MOST_DEPTH)
    (d_is_printable : DefOk P w K mg base nm 1 "is_printable" 1 V_is_printable) :
    FnOk P w K mg base (L2.CX P w) (kk + 1) f fd ["value", "depth"] (spD nm K mg 2 (den 3 (m__written R__written))) :=
  den_ok (m := m__written R__written) F sc__written (fun cdv A outer s H E hr => by
  have nd := sc__written.nd
  have hh := L2H.roomH_of hr
  have hl : locAll [0, 1] (cxOf (L2.CX P w) P w K mg base ["value", "depth", "item"] "_written" (defScope s__written) f cdv A outer s H E).N (cxOf (L2.CX P w) P w K mg base ["value", "depth", "item"] "_written" (defScope s__written) f cdv A outer s H E).env.scope = true := va__written
  have hv := locVis hl
  have hg : glAll ["str", "GREATEST", "is_integer", "BadText", "isinstance", "tuple", "MOST_DEPTH", "is_printable"] (cxOf (L2.CX P w) P w K mg base ["value", "depth", "item"] "_written" (defScope s__written) f cdv A outer s H E).env.scope = true := ga__written
  have hc : (cxOf (L2.CX P w) P w K mg base ["value", "depth", "item"] "_written" (defScope s__written) f cdv A outer s H E).calm = true := rfl
  have hp : PassesOwn (model P w) (cxOf (L2.CX P w) P w K mg base ["value", "depth", "item"] "_written" (defScope s__written) f cdv A outer s H E).A (cxOf (L2.CX P w) P w K mg base ["value", "depth", "item"] "_written" (defScope s__written) f cdv A outer s H E).env (cxOf (L2.CX P w) P w K mg base ["value", "depth", "item"] "_written" (defScope s__written) f cdv A outer s H E).xe := passes_of rfl
  exact (mb_cons (ms_if (mt_cmp o_is (me_var 0 hv) me_non (nomark _)) (mb_one (ms_ret me_str)) mb_nil)
    (mb_cons (ms_if (mt_val (me_isi .str (me_var 0 hv) (gl_at hg 4) n_isinstance (gl_at hg 0) n_str bb_isinstance bb_str)) (mb_cons (ms_if (mt_not (mt_val (me_call d_is_printable (hr.mono (by omega)) (gl_at hg 7) (ma_cons (me_var 0 hv) ma_nil)))) (mb_one (ms_raise0 e_BadText hc (gl_at hg 3) cl_BadText)) mb_nil)
    (mb_one (ms_ret (me_bin o_add (me_catRepl (me_var 0 hv)) me_str)))) mb_nil)
    (mb_cons (ms_if (mt_val (me_isi .tuple (me_var 0 hv) (gl_at hg 4) n_isinstance (gl_at hg 5) n_tuple bb_isinstance bb_tuple)) (mb_cons (ms_if (mt_cmp o_ge (me_var 1 hv) (me_gc g_MOST_DEPTH (gl_at hg 6)) (nomark _)) (mb_one (ms_raise0 e_BadText hc (gl_at hg 3) cl_BadText)) mb_nil)
    (mb_one (ms_ret (me_bin o_add (me_bin o_add me_str (me_bm (T := .str) PySem.F.plainAttrs_str PySem.F.slot_str_join PySem.F.type_str_join t_join me_str (ma_cons (me_lcX ⟨rfl, rfl⟩ (LT.one 2) hc nd (mi_any (me_var 0 hv)) (blkOk_by lcb__written_0) rfl (by simp) (fun s1 H1 C cl fp xe => (pg_oneX 2 nd rfl (.inl lcl__written_0_0) (.inr lcl__written_0_0))) (fun s1 H1 C cl fp xe => by
    have hvb : visAll [1, 2] (Cx.blkX (cxOf (L2.CX P w) P w K mg base ["value", "depth", "item"] "_written" (defScope s__written) f cdv A outer s H E) s1 H1 lcx__written_0 (compEnvC lcx__written_0 cl C (cxOf (L2.CX P w) P w K mg base ["value", "depth", "item"] "_written" (defScope s__written) f cdv A outer s H E).env) fp xe).N (Cx.blkX (cxOf (L2.CX P w) P w K mg base ["value", "depth", "item"] "_written" (defScope s__written) f cdv A outer s H E) s1 H1 lcx__written_0 (compEnvC lcx__written_0 cl C (cxOf (L2.CX P w) P w K mg base ["value", "depth", "item"] "_written" (defScope s__written) f cdv A outer s H E).env) fp xe).env.scope = true := lcv__written_0
    have hgb : glAll ["_written"] (Cx.blkX (cxOf (L2.CX P w) P w K mg base ["value", "depth", "item"] "_written" (defScope s__written) f cdv A outer s H E) s1 H1 lcx__written_0 (compEnvC lcx__written_0 cl C (cxOf (L2.CX P w) P w K mg base ["value", "depth", "item"] "_written" (defScope s__written) f cdv A outer s H E).env) fp xe).env.scope = true := lcg__written_0
    exact mts_nil) (fun s1 H1 C cl fp xe => by
    have hvb : visAll [1, 2] (Cx.blkX (cxOf (L2.CX P w) P w K mg base ["value", "depth", "item"] "_written" (defScope s__written) f cdv A outer s H E) s1 H1 lcx__written_0 (compEnvC lcx__written_0 cl C (cxOf (L2.CX P w) P w K mg base ["value", "depth", "item"] "_written" (defScope s__written) f cdv A outer s H E).env) fp xe).N (Cx.blkX (cxOf (L2.CX P w) P w K mg base ["value", "depth", "item"] "_written" (defScope s__written) f cdv A outer s H E) s1 H1 lcx__written_0 (compEnvC lcx__written_0 cl C (cxOf (L2.CX P w) P w K mg base ["value", "depth", "item"] "_written" (defScope s__written) f cdv A outer s H E).env) fp xe).env.scope = true := lcv__written_0
    have hgb : glAll ["_written"] (Cx.blkX (cxOf (L2.CX P w) P w K mg base ["value", "depth", "item"] "_written" (defScope s__written) f cdv A outer s H E) s1 H1 lcx__written_0 (compEnvC lcx__written_0 cl C (cxOf (L2.CX P w) P w K mg base ["value", "depth", "item"] "_written" (defScope s__written) f cdv A outer s H E).env) fp xe).env.scope = true := lcg__written_0
    exact (me_call d__written hr (gl_at hgb 0) (ma_cons (me_var 2 hvb) (ma_cons (me_bin o_add (me_var 1 hvb) me_int) ma_nil))))) ma_nil))) me_str)))) mb_nil)
    (mb_cons (ms_if (mt_not (mt_val (me_call d_is_integer (hr.mono (by omega)) (gl_at hg 2) (ma_cons (me_var 0 hv) (ma_cons (me_neg (me_gc g_GREATEST (gl_at hg 1))) (ma_cons (me_gc g_GREATEST (gl_at hg 1)) ma_nil)))))) (mb_one (ms_raise0 e_BadText hc (gl_at hg 3) cl_BadText)) mb_nil)
    (mb_one (ms_ret (me_callT c_str (gl_at hg 0) n_str bb_str (ma_cons (me_var 0 hv) ma_nil))))))))) rfl rfl
noncomputable def VR__written : Nat → FM
  | 0 => fun _ _ => .stuck
  | j + 1 => den 3 (m__written (VR__written j))
noncomputable def V__written : FM := VR__written 16
abbrev s_encode : Stmt := (topS 11)
theorem sc_encode : FnScope ["value", "text"] ["value"] (defScope s_encode) := ⟨rfl, rfl, rfl, by decide +kernel, rfl, by decide +kernel, by decide +kernel⟩
theorem va_encode : locAll [0, 1] ["value", "text"] (defScope s_encode) = true := by decide +kernel
theorem ga_encode : glAll ["len", "MOST_LENGTH", "BadText", "_written"] (defScope s_encode) = true := by decide +kernel
noncomputable def m_encode : SM :=
  (mSeq (mSet 1 (mCall V__written (mCons (mVar 0) (mCons (mC (.int 0)) mNil))))
    (mSeq (mIfS (mBl (mBin fGt (mCall fnLen (mCons (mVar 1) mNil)) (mC c_MOST_LENGTH))) (mRaise0 14) mSkip)
    (mRet (mVar 1))))
noncomputable def V_encode : FM := den 2 m_encode
theorem ok_encode {f : Addr} {fd : FuncData} (F : Fun K "encode" "encode" s_encode f fd)
    (n_len : mg "len" = none)
    (g_MOST_LENGTH : GC K mg "MOST_LENGTH" c_MOST_LENGTH)
    (e_BadText : ExcOk K mg "BadText")
    (d__written : DefOk P w K mg base nm 17 "_written" 2 V__written) :
    FnOk P w K mg base (L2.CX P w) 18 f fd ["value"] (spD nm K mg 1 V_encode) :=
  den_ok (m := m_encode) F sc_encode (fun cdv A outer s H E hr => by
  have nd := sc_encode.nd
  have hh := L2H.roomH_of hr
  have hl : locAll [0, 1] (cxOf (L2.CX P w) P w K mg base ["value", "text"] "encode" (defScope s_encode) f cdv A outer s H E).N (cxOf (L2.CX P w) P w K mg base ["value", "text"] "encode" (defScope s_encode) f cdv A outer s H E).env.scope = true := va_encode
  have hv := locVis hl
  have hg : glAll ["len", "MOST_LENGTH", "BadText", "_written"] (cxOf (L2.CX P w) P w K mg base ["value", "text"] "encode" (defScope s_encode) f cdv A outer s H E).env.scope = true := ga_encode
  have hc : (cxOf (L2.CX P w) P w K mg base ["value", "text"] "encode" (defScope s_encode) f cdv A outer s H E).calm = true := rfl
  have hp : PassesOwn (model P w) (cxOf (L2.CX P w) P w K mg base ["value", "text"] "encode" (defScope s_encode) f cdv A outer s H E).A (cxOf (L2.CX P w) P w K mg base ["value", "text"] "encode" (defScope s_encode) f cdv A outer s H E).env (cxOf (L2.CX P w) P w K mg base ["value", "text"] "encode" (defScope s_encode) f cdv A outer s H E).xe := passes_of rfl
  exact (mb_cons (ms_set 1 nd hl (me_call d__written (hr.mono (by decide)) (gl_at hg 3) (ma_cons (me_var 0 hv) (ma_cons me_int ma_nil))))
    (mb_cons (ms_if (mt_cmp o_gt (me_callB c_len (gl_at hg 0) n_len bb_len (ma_cons (me_var 1 hv) ma_nil)) (me_gc g_MOST_LENGTH (gl_at hg 1)) (nomark _)) (mb_one (ms_raise0 e_BadText hc (gl_at hg 2) cl_BadText)) mb_nil)
    (mb_one (ms_ret (me_var 1 hv)))))) rfl rfl
abbrev s__law_cell : Stmt := (topS 13)
theorem sc__law_cell : FnScope ["_law_script", "_law_k"] ["_law_script", "_law_k"] (defScope s__law_cell) := ⟨rfl, rfl, rfl, by decide +kernel, rfl, by decide +kernel, by decide +kernel⟩
theorem va__law_cell : locAll [0, 1] ["_law_script", "_law_k"] (defScope s__law_cell) = true := by decide +kernel
theorem ga__law_cell : glAll ["len", "int"] (defScope s__law_cell) = true := by decide +kernel
noncomputable def m__law_cell : SM :=
  (mSeq (mIfS (mBl (mBin fLt (mVar 1) (mCall fnLen (mCons (mVar 0) mNil)))) (mRet (mCall fnInt (mCons (mIx (mVar 0) (mVar 1)) mNil))) mSkip)
    (mRet (mC (.int 0))))
noncomputable def V__law_cell : FM := den 2 m__law_cell
theorem ok__law_cell {f : Addr} {fd : FuncData} (F : Fun K "_law_cell" "_law_cell" s__law_cell f fd)
    (n_len : mg "len" = none)
    (n_int : mg "int" = none) :
    FnOk P w K mg base (L2.CX P w) 1 f fd ["_law_script", "_law_k"] (spD nm K mg 2 V__law_cell) :=
  den_ok (m := m__law_cell) F sc__law_cell (fun cdv A outer s H E hr => by
  have nd := sc__law_cell.nd
  have hh := L2H.roomH_of hr
  have hl : locAll [0, 1] (cxOf (L2.CX P w) P w K mg base ["_law_script", "_law_k"] "_law_cell" (defScope s__law_cell) f cdv A outer s H E).N (cxOf (L2.CX P w) P w K mg base ["_law_script", "_law_k"] "_law_cell" (defScope s__law_cell) f cdv A outer s H E).env.scope = true := va__law_cell
  have hv := locVis hl
  have hg : glAll ["len", "int"] (cxOf (L2.CX P w) P w K mg base ["_law_script", "_law_k"] "_law_cell" (defScope s__law_cell) f cdv A outer s H E).env.scope = true := ga__law_cell
  have hc : (cxOf (L2.CX P w) P w K mg base ["_law_script", "_law_k"] "_law_cell" (defScope s__law_cell) f cdv A outer s H E).calm = true := rfl
  have hp : PassesOwn (model P w) (cxOf (L2.CX P w) P w K mg base ["_law_script", "_law_k"] "_law_cell" (defScope s__law_cell) f cdv A outer s H E).A (cxOf (L2.CX P w) P w K mg base ["_law_script", "_law_k"] "_law_cell" (defScope s__law_cell) f cdv A outer s H E).env (cxOf (L2.CX P w) P w K mg base ["_law_script", "_law_k"] "_law_cell" (defScope s__law_cell) f cdv A outer s H E).xe := passes_of rfl
  exact (mb_cons (ms_if (mt_cmp o_lt (me_var 1 hv) (me_callB c_len (gl_at hg 0) n_len bb_len (ma_cons (me_var 0 hv) ma_nil)) (nomark _)) (mb_one (ms_ret (me_callT c_int (gl_at hg 1) n_int bb_int (ma_cons (me_ix hh (me_var 0 hv) (me_var 1 hv)) ma_nil)))) mb_nil)
    (mb_one (ms_ret me_int)))) rfl rfl
abbrev s__law_rich : Stmt := (topS 14)
theorem sc__law_rich : FnScope ["_law_cell_here", "_law_k", "_law_mixed"] ["_law_cell_here", "_law_k"] (defScope s__law_rich) := ⟨rfl, rfl, rfl, by decide +kernel, rfl, by decide +kernel, by decide +kernel⟩
theorem va__law_rich : locAll [0, 1, 2] ["_law_cell_here", "_law_k", "_law_mixed"] (defScope s__law_rich) = true := by decide +kernel
theorem ga__law_rich : glAll ["int"] (defScope s__law_rich) = true := by decide +kernel
noncomputable def m__law_rich : SM :=
  (mSeq (mIfS (mBl (mBin fGe (mVar 0) (mBin fPow (mC (.int 10)) (mC (.int 18))))) (mRet (mCall fnInt (mCons (mVar 0) mNil))) mSkip)
    (mSeq (mSet 2 (mBin fMod (mCall fnInt (mCons (mBin fAdd (mBin fAdd (mBin fMul (mVar 0) (mC (.int 48271))) (mBin fMul (mVar 1) (mC (.int 69621)))) (mC (.int 11))) mNil)) (mC (.int 2147483647))))
    (mRet (mBin fAdd (mBin fMul (mVar 2) (mC (.int 2147483629))) (mBin fMod (mCall fnInt (mCons (mBin fAdd (mBin fMul (mVar 2) (mC (.int 16807))) (mVar 0)) mNil)) (mC (.int 2147483629)))))))
noncomputable def V__law_rich : FM := den 3 m__law_rich
theorem ok__law_rich {f : Addr} {fd : FuncData} (F : Fun K "_law_rich" "_law_rich" s__law_rich f fd)
    (n_int : mg "int" = none) :
    FnOk P w K mg base (L2.CX P w) 1 f fd ["_law_cell_here", "_law_k"] (spD nm K mg 2 V__law_rich) :=
  den_ok (m := m__law_rich) F sc__law_rich (fun cdv A outer s H E hr => by
  have nd := sc__law_rich.nd
  have hh := L2H.roomH_of hr
  have hl : locAll [0, 1, 2] (cxOf (L2.CX P w) P w K mg base ["_law_cell_here", "_law_k", "_law_mixed"] "_law_rich" (defScope s__law_rich) f cdv A outer s H E).N (cxOf (L2.CX P w) P w K mg base ["_law_cell_here", "_law_k", "_law_mixed"] "_law_rich" (defScope s__law_rich) f cdv A outer s H E).env.scope = true := va__law_rich
  have hv := locVis hl
  have hg : glAll ["int"] (cxOf (L2.CX P w) P w K mg base ["_law_cell_here", "_law_k", "_law_mixed"] "_law_rich" (defScope s__law_rich) f cdv A outer s H E).env.scope = true := ga__law_rich
  have hc : (cxOf (L2.CX P w) P w K mg base ["_law_cell_here", "_law_k", "_law_mixed"] "_law_rich" (defScope s__law_rich) f cdv A outer s H E).calm = true := rfl
  have hp : PassesOwn (model P w) (cxOf (L2.CX P w) P w K mg base ["_law_cell_here", "_law_k", "_law_mixed"] "_law_rich" (defScope s__law_rich) f cdv A outer s H E).A (cxOf (L2.CX P w) P w K mg base ["_law_cell_here", "_law_k", "_law_mixed"] "_law_rich" (defScope s__law_rich) f cdv A outer s H E).env (cxOf (L2.CX P w) P w K mg base ["_law_cell_here", "_law_k", "_law_mixed"] "_law_rich" (defScope s__law_rich) f cdv A outer s H E).xe := passes_of rfl
  exact (mb_cons (ms_if (mt_cmp o_ge (me_var 0 hv) (me_bin o_pow me_int me_int) (nomark _)) (mb_one (ms_ret (me_callT c_int (gl_at hg 0) n_int bb_int (ma_cons (me_var 0 hv) ma_nil)))) mb_nil)
    (mb_cons (ms_set 2 nd hl (me_bin o_mod (me_callT c_int (gl_at hg 0) n_int bb_int (ma_cons (me_bin o_add (me_bin o_add (me_bin o_mul (me_var 0 hv) me_int) (me_bin o_mul (me_var 1 hv) me_int)) me_int) ma_nil)) me_int))
    (mb_one (ms_ret (me_bin o_add (me_bin o_mul (me_var 2 hv) me_int) (me_bin o_mod (me_callT c_int (gl_at hg 0) n_int bb_int (ma_cons (me_bin o_add (me_bin o_mul (me_var 2 hv) me_int) (me_var 0 hv)) ma_nil)) me_int))))))) rfl rfl
abbrev s__law_word : Stmt := (topS 15)
theorem sc__law_word : FnScope ["_law_size", "_law_chars", "_law_seed", "_law_word_here", "_law_rest", "_law_k"] ["_law_size", "_law_chars", "_law_seed"] (defScope s__law_word) := ⟨rfl, rfl, rfl, by decide +kernel, rfl, by decide +kernel, by decide +kernel⟩
theorem va__law_word : locAll [0, 1, 2, 3, 4, 5] ["_law_size", "_law_chars", "_law_seed", "_law_word_here", "_law_rest", "_law_k"] (defScope s__law_word) = true := by decide +kernel
theorem ga__law_word : glAll ["range", "len", "int"] (defScope s__law_word) = true := by decide +kernel
noncomputable def lb__law_word_0 : SM :=
  (mSeq (mSet 3 (mBin fAdd (mVar 3) (mIx (mVar 1) (mBin fMod (mCall fnInt (mCons (mVar 4) mNil)) (mCall fnLen (mCons (mVar 1) mNil))))))
    (mSet 4 (mBin fDiv (mVar 4) (mCall fnLen (mCons (mVar 1) mNil)))))
noncomputable def m__law_word : SM :=
  (mSeq (mSet 3 (mC (.str "")))
    (mSeq (mSet 4 (mCall fnInt (mCons (mVar 2) mNil)))
    (mSeq (mFor (iRng (mCons (mVar 0) mNil)) (gNm 5) lb__law_word_0)
    (mRet (mVar 3)))))
noncomputable def V__law_word : FM := den 6 m__law_word
theorem ok__law_word {f : Addr} {fd : FuncData} (F : Fun K "_law_word" "_law_word" s__law_word f fd)
    (n_range : mg "range" = none)
    (n_len : mg "len" = none)
    (n_int : mg "int" = none) :
    FnOk P w K mg base (L2.CX P w) 1 f fd ["_law_size", "_law_chars", "_law_seed"] (spD nm K mg 3 V__law_word) :=
  den_ok (m := m__law_word) F sc__law_word (fun cdv A outer s H E hr => by
  have nd := sc__law_word.nd
  have hh := L2H.roomH_of hr
  have hl : locAll [0, 1, 2, 3, 4, 5] (cxOf (L2.CX P w) P w K mg base ["_law_size", "_law_chars", "_law_seed", "_law_word_here", "_law_rest", "_law_k"] "_law_word" (defScope s__law_word) f cdv A outer s H E).N (cxOf (L2.CX P w) P w K mg base ["_law_size", "_law_chars", "_law_seed", "_law_word_here", "_law_rest", "_law_k"] "_law_word" (defScope s__law_word) f cdv A outer s H E).env.scope = true := va__law_word
  have hv := locVis hl
  have hg : glAll ["range", "len", "int"] (cxOf (L2.CX P w) P w K mg base ["_law_size", "_law_chars", "_law_seed", "_law_word_here", "_law_rest", "_law_k"] "_law_word" (defScope s__law_word) f cdv A outer s H E).env.scope = true := ga__law_word
  have hc : (cxOf (L2.CX P w) P w K mg base ["_law_size", "_law_chars", "_law_seed", "_law_word_here", "_law_rest", "_law_k"] "_law_word" (defScope s__law_word) f cdv A outer s H E).calm = true := rfl
  have hp : PassesOwn (model P w) (cxOf (L2.CX P w) P w K mg base ["_law_size", "_law_chars", "_law_seed", "_law_word_here", "_law_rest", "_law_k"] "_law_word" (defScope s__law_word) f cdv A outer s H E).A (cxOf (L2.CX P w) P w K mg base ["_law_size", "_law_chars", "_law_seed", "_law_word_here", "_law_rest", "_law_k"] "_law_word" (defScope s__law_word) f cdv A outer s H E).env (cxOf (L2.CX P w) P w K mg base ["_law_size", "_law_chars", "_law_seed", "_law_word_here", "_law_rest", "_law_k"] "_law_word" (defScope s__law_word) f cdv A outer s H E).xe := passes_of rfl
  exact (mb_cons (ms_set 3 nd hl me_str)
    (mb_cons (ms_set 4 nd hl (me_callT c_int (gl_at hg 2) n_int bb_int (ma_cons (me_var 2 hv) ma_nil)))
    (mb_cons (ms_for hp hc (mi_range1 (gl_at hg 0) n_range (ma_cons (me_var 0 hv) ma_nil)) (mg_name 5 nd hl) (gok_nm 5) (mb_cons (ms_set 3 nd hl (me_bin o_add (me_var 3 hv) (me_ix hh (me_var 1 hv) (me_bin o_mod (me_callT c_int (gl_at hg 2) n_int bb_int (ma_cons (me_var 4 hv) ma_nil)) (me_callB c_len (gl_at hg 1) n_len bb_len (ma_cons (me_var 1 hv) ma_nil))))))
    (mb_one (ms_set 4 nd hl (me_bin o_div (me_var 4 hv) (me_callB c_len (gl_at hg 1) n_len bb_len (ma_cons (me_var 1 hv) ma_nil)))))))
    (mb_one (ms_ret (me_var 3 hv))))))) rfl rfl
abbrev s__law_plain : Stmt := (topS 16)
theorem sc__law_plain : FnScope ["_law_rich_here", "_law_depth_here", "_law_choice", "_law_rest", "_law_many", "_law_items", "_law_k"] ["_law_rich_here", "_law_depth_here"] (defScope s__law_plain) := ⟨rfl, rfl, rfl, by decide +kernel, rfl, by decide +kernel, by decide +kernel⟩
theorem va__law_plain : locAll [0, 1, 2, 3, 4, 5, 6] ["_law_rich_here", "_law_depth_here", "_law_choice", "_law_rest", "_law_many", "_law_items", "_law_k"] (defScope s__law_plain) = true := by decide +kernel
theorem ga__law_plain : glAll ["tuple", "range", "_law_plain", "_law_word"] (defScope s__law_plain) = true := by decide +kernel
noncomputable def lb__law_plain_0 (R__law_plain : FM) : SM :=
  (mExpr (mBm .list fnAppend (mVar 5) (mCons (mCall R__law_plain (mCons (mBin fAdd (mBin fDiv (mVar 3) (mC (.int 4))) (mBin fMul (mC (.int 131)) (mVar 6))) (mCons (mBin fSub (mVar 1) (mC (.int 1))) mNil))) mNil)))
noncomputable def m__law_plain (R__law_plain : FM) : SM :=
  (mSeq (mSet 2 (mBin fMod (mVar 0) (mC (.int 7))))
    (mSeq (mSet 3 (mBin fDiv (mVar 0) (mC (.int 7))))
    (mSeq (mIfS (mBl (mBin fEq (mVar 2) (mC (.int 0)))) (mRet (mC .non)) mSkip)
    (mSeq (mIfS (mBl (mBin fEq (mVar 2) (mC (.int 1)))) (mRet (mIx (mLst false (mCons (mC (.int 0)) (mCons (mC (.int 1)) (mCons (mUn fNeg (mC (.int 1))) (mCons (mC (.int 7)) (mCons (mUn fNeg (mC (.int 10))) (mCons (mBin fSub (mBin fPow (mC (.int 10)) (mC (.int 30))) (mC (.int 1))) (mCons (mBin fSub (mC (.int 1)) (mBin fPow (mC (.int 10)) (mC (.int 30)))) (mCons (mBin fSub (mBin fMod (mVar 3) (mC (.int 1000))) (mC (.int 500))) mNil))))))))) (mBin fMod (mBin fDiv (mVar 3) (mC (.int 1000))) (mC (.int 8))))) mSkip)
    (mSeq (mIfS (mOr (mBl (mBin fLt (mVar 2) (mC (.int 4)))) (mBl (mBin fEq (mVar 1) (mC (.int 0))))) (mRet (mCall V__law_word (mCons (mBin fMod (mVar 3) (mC (.int 6))) (mCons (mC (.str "ab'(),* -0~")) (mCons (mBin fDiv (mVar 3) (mC (.int 6))) mNil))))) mSkip)
    (mSeq (mSet 4 (mBin fMod (mVar 3) (mC (.int 4))))
    (mSeq (mSet 5 (mLst true mNil))
    (mSeq (mFor (iRng (mCons (mVar 4) mNil)) (gNm 6) (lb__law_plain_0 R__law_plain))
    (mRet (mCall fnTuple (mCons (mVar 5) mNil)))))))))))
theorem ok__law_plain {kk : Nat} (hk : 1 ≤ kk) {R__law_plain : FM} {f : Addr} {fd : FuncData} (F : Fun K "_law_plain" "_law_plain" s__law_plain f fd)
    (n_tuple : mg "tuple" = none)
    (n_range : mg "range" = none)
    (d__law_plain : DefOk P w K mg base nm kk "_law_plain" 2 R__law_plain)
    (d__law_word : DefOk P w K mg base nm 1 "_law_word" 3 V__law_word) :
    FnOk P w K mg base (L2.CX P w) (kk + 1) f fd ["_law_rich_here", "_law_depth_here"] (spD nm K mg 2 (den 7 (m__law_plain R__law_plain))) :=
  den_ok (m := m__law_plain R__law_plain) F sc__law_plain (fun cdv A outer s H E hr => by
  have nd := sc__law_plain.nd
  have hh := L2H.roomH_of hr
  have hl : locAll [0, 1, 2, 3, 4, 5, 6] (cxOf (L2.CX P w) P w K mg base ["_law_rich_here", "_law_depth_here", "_law_choice", "_law_rest", "_law_many", "_law_items", "_law_k"] "_law_plain" (defScope s__law_plain) f cdv A outer s H E).N (cxOf (L2.CX P w) P w K mg base ["_law_rich_here", "_law_depth_here", "_law_choice", "_law_rest", "_law_many", "_law_items", "_law_k"] "_law_plain" (defScope s__law_plain) f cdv A outer s H E).env.scope = true := va__law_plain
  have hv := locVis hl
  have hg : glAll ["tuple", "range", "_law_plain", "_law_word"] (cxOf (L2.CX P w) P w K mg base ["_law_rich_here", "_law_depth_here", "_law_choice", "_law_rest", "_law_many", "_law_items", "_law_k"] "_law_plain" (defScope s__law_plain) f cdv A outer s H E).env.scope = true := ga__law_plain
  have hc : (cxOf (L2.CX P w) P w K mg base ["_law_rich_here", "_law_depth_here", "_law_choice", "_law_rest", "_law_many", "_law_items", "_law_k"] "_law_plain" (defScope s__law_plain) f cdv A outer s H E).calm = true := rfl
  have hp : PassesOwn (model P w) (cxOf (L2.CX P w) P w K mg base ["_law_rich_here", "_law_depth_here", "_law_choice", "_law_rest", "_law_many", "_law_items", "_law_k"] "_law_plain" (defScope s__law_plain) f cdv A outer s H E).A (cxOf (L2.CX P w) P w K mg base ["_law_rich_here", "_law_depth_here", "_law_choice", "_law_rest", "_law_many", "_law_items", "_law_k"] "_law_plain" (defScope s__law_plain) f cdv A outer s H E).env (cxOf (L2.CX P w) P w K mg base ["_law_rich_here", "_law_depth_here", "_law_choice", "_law_rest", "_law_many", "_law_items", "_law_k"] "_law_plain" (defScope s__law_plain) f cdv A outer s H E).xe := passes_of rfl
  exact (mb_cons (ms_set 2 nd hl (me_bin o_mod (me_var 0 hv) me_int))
    (mb_cons (ms_set 3 nd hl (me_bin o_div (me_var 0 hv) me_int))
    (mb_cons (ms_if (mt_cmp (o_eq hh) (me_var 2 hv) me_int (nomark _)) (mb_one (ms_ret me_non)) mb_nil)
    (mb_cons (ms_if (mt_cmp (o_eq hh) (me_var 2 hv) me_int (nomark _)) (mb_one (ms_ret (me_ix hh (me_lst false (ma_cons me_int (ma_cons me_int (ma_cons (me_neg me_int) (ma_cons me_int (ma_cons (me_neg me_int) (ma_cons (me_bin o_sub (me_bin o_pow me_int me_int) me_int) (ma_cons (me_bin o_sub me_int (me_bin o_pow me_int me_int)) (ma_cons (me_bin o_sub (me_bin o_mod (me_var 3 hv) me_int) me_int) ma_nil))))))))) (me_bin o_mod (me_bin o_div (me_var 3 hv) me_int) me_int)))) mb_nil)
    (mb_cons (ms_if (MW.mt (mw_or (mt_cmp o_lt (me_var 2 hv) me_int (nomark _)) (mw_or1 (mt_cmp (o_eq hh) (me_var 1 hv) me_int (nomark _))))) (mb_one (ms_ret (me_call d__law_word (hr.mono (by omega)) (gl_at hg 3) (ma_cons (me_bin o_mod (me_var 3 hv) me_int) (ma_cons me_str (ma_cons (me_bin o_div (me_var 3 hv) me_int) ma_nil)))))) mb_nil)
    (mb_cons (ms_set 4 nd hl (me_bin o_mod (me_var 3 hv) me_int))
    (mb_cons (ms_set 5 nd hl (me_lst true ma_nil))
    (mb_cons (ms_for hp hc (mi_range1 (gl_at hg 1) n_range (ma_cons (me_var 4 hv) ma_nil)) (mg_name 6 nd hl) (gok_nm 6) (mb_one (ms_expr (me_bm (T := .list) PySem.F.plainAttrs_list PySem.F.slot_list_append PySem.F.type_list_append t_append (me_var 5 hv) (ma_cons (me_call d__law_plain hr (gl_at hg 2) (ma_cons (me_bin o_add (me_bin o_div (me_var 3 hv) me_int) (me_bin o_mul me_int (me_var 6 hv))) (ma_cons (me_bin o_sub (me_var 1 hv) me_int) ma_nil))) ma_nil)))))
    (mb_one (ms_ret (me_callT c_tuple (gl_at hg 0) n_tuple bb_tuple (ma_cons (me_var 5 hv) ma_nil))))))))))))) rfl rfl
noncomputable def VR__law_plain : Nat → FM
  | 0 => fun _ _ => .stuck
  | j + 1 => den 7 (m__law_plain (VR__law_plain j))
noncomputable def V__law_plain : FM := VR__law_plain 16
abbrev s__law_text : Stmt := (topS 17)
theorem sc__law_text : FnScope ["_law_value", "_law_item"] ["_law_value"] (defScope s__law_text) := ⟨rfl, rfl, rfl, by decide +kernel, rfl, by decide +kernel, by decide +kernel⟩
abbrev lcx__law_text_0 : Scope := (lcOf (kid (kid (kid (skid (stm (subs (stm (defBody s__law_text) 2)) 0) 0) 0) 1) 1))
theorem lcb__law_text_0 : blkC ["_law_value", "_law_item"] (defScope s__law_text) lcx__law_text_0 [("_law_item", 1)] = true := by decide +kernel
theorem lcv__law_text_0 : visAll [1] ["_law_value", "_law_item"] (relS lcx__law_text_0 (defScope s__law_text)) = true := by decide +kernel
theorem lcg__law_text_0 : glAll ["_law_text"] (relS lcx__law_text_0 (defScope s__law_text)) = true := by decide +kernel
theorem lcl__law_text_0_0 : (relS lcx__law_text_0 (defScope s__law_text)).names.lookup ("_law_item" : Str) = some NameKind.local := by decide +kernel
theorem va__law_text : locAll [0] ["_law_value", "_law_item"] (defScope s__law_text) = true := by decide +kernel
theorem ga__law_text : glAll ["str", "isinstance", "tuple"] (defScope s__law_text) = true := by decide +kernel
noncomputable def m__law_text (R__law_text : FM) : SM :=
  (mSeq (mIfS (mBl (mBin fIs (mVar 0) (mC .non))) (mRet (mC (.str "*"))) mSkip)
    (mSeq (mIfS (mBl (mIsi .str (mVar 0))) (mRet (mBin fAdd (mBin fAdd (mC (.str "'")) (mRepl "'" "''" (mVar 0))) (mC (.str "'")))) mSkip)
    (mSeq (mIfS (mBl (mIsi .tuple (mVar 0))) (mRet (mBin fAdd (mBin fAdd (mC (.str "(")) (mBm .str fnJoin (mC (.str ",")) (mCons (mLc [1] (LT.one 1) (iAny (mVar 0)) mYes (mCall R__law_text (mCons (mVar 1) mNil))) mNil))) (mC (.str ")")))) mSkip)
    (mRet (mCall fnStr (mCons (mVar 0) mNil))))))
theorem ok__law_text {kk : Nat} (hk : 0 ≤ kk) {R__law_text : FM} {f : Addr} {fd : FuncData} (F : Fun K "_law_text" "_law_text" s__law_text f fd)
    (n_str : mg "str" = none)
    (n_isinstance : mg "isinstance" = none)
    (n_tuple : mg "tuple" = none)
    (d__law_text : DefOk P w K mg base nm kk "_law_text" 1 R__law_text) :
    FnOk P w K mg base (L2.CX P w) (kk + 1) f fd ["_law_value"] (spD nm K mg 1 (den 2 (m__law_text R__law_text))) :=
  den_ok (m := m__law_text R__law_text) F sc__law_text (fun cdv A outer s H E hr => by
  have nd := sc__law_text.nd
  have hh := L2H.roomH_of hr
  have hl : locAll [0] (cxOf (L2.CX P w) P w K mg base ["_law_value", "_law_item"] "_law_text" (defScope s__law_text) f cdv A outer s H E).N (cxOf (L2.CX P w) P w K mg base ["_law_value", "_law_item"] "_law_text" (defScope s__law_text) f cdv A outer s H E).env.scope = true := va__law_text
  have hv := locVis hl
  have hg : glAll ["str", "isinstance", "tuple"] (cxOf (L2.CX P w) P w K mg base ["_law_value", "_law_item"] "_law_text" (defScope s__law_text) f cdv A outer s H E).env.scope = true := ga__law_text
  have hc : (cxOf (L2.CX P w) P w K mg base ["_law_value", "_law_item"] "_law_text" (defScope s__law_text) f cdv A outer s H E).calm = true := rfl
  have hp : PassesOwn (model P w) (cxOf (L2.CX P w) P w K mg base ["_law_value", "_law_item"] "_law_text" (defScope s__law_text) f cdv A outer s H E).A (cxOf (L2.CX P w) P w K mg base ["_law_value", "_law_item"] "_law_text" (defScope s__law_text) f cdv A outer s H E).env (cxOf (L2.CX P w) P w K mg base ["_law_value", "_law_item"] "_law_text" (defScope s__law_text) f cdv A outer s H E).xe := passes_of rfl
  exact (mb_cons (ms_if (mt_cmp o_is (me_var 0 hv) me_non (nomark _)) (mb_one (ms_ret me_str)) mb_nil)
    (mb_cons (ms_if (mt_val (me_isi .str (me_var 0 hv) (gl_at hg 1) n_isinstance (gl_at hg 0) n_str bb_isinstance bb_str)) (mb_one (ms_ret (me_bin o_add (me_catRepl (me_var 0 hv)) me_str))) mb_nil)
    (mb_cons (ms_if (mt_val (me_isi .tuple (me_var 0 hv) (gl_at hg 1) n_isinstance (gl_at hg 2) n_tuple bb_isinstance bb_tuple)) (mb_one (ms_ret (me_bin o_add (me_bin o_add me_str (me_bm (T := .str) PySem.F.plainAttrs_str PySem.F.slot_str_join PySem.F.type_str_join t_join me_str (ma_cons (me_lc (LT.one 1) hc nd (mi_any (me_var 0 hv)) (blkOk_by lcb__law_text_0) rfl (by simp) (fun s1 H1 C cl fp => (pg_one 1 nd rfl (.inl lcl__law_text_0_0) (.inr lcl__law_text_0_0))) (fun s1 H1 C cl fp => by
    have hvb : visAll [1] (Cx.blk (cxOf (L2.CX P w) P w K mg base ["_law_value", "_law_item"] "_law_text" (defScope s__law_text) f cdv A outer s H E) s1 H1 lcx__law_text_0 (compEnvC lcx__law_text_0 cl C (cxOf (L2.CX P w) P w K mg base ["_law_value", "_law_item"] "_law_text" (defScope s__law_text) f cdv A outer s H E).env) fp).N (Cx.blk (cxOf (L2.CX P w) P w K mg base ["_law_value", "_law_item"] "_law_text" (defScope s__law_text) f cdv A outer s H E) s1 H1 lcx__law_text_0 (compEnvC lcx__law_text_0 cl C (cxOf (L2.CX P w) P w K mg base ["_law_value", "_law_item"] "_law_text" (defScope s__law_text) f cdv A outer s H E).env) fp).env.scope = true := lcv__law_text_0
    have hgb : glAll ["_law_text"] (Cx.blk (cxOf (L2.CX P w) P w K mg base ["_law_value", "_law_item"] "_law_text" (defScope s__law_text) f cdv A outer s H E) s1 H1 lcx__law_text_0 (compEnvC lcx__law_text_0 cl C (cxOf (L2.CX P w) P w K mg base ["_law_value", "_law_item"] "_law_text" (defScope s__law_text) f cdv A outer s H E).env) fp).env.scope = true := lcg__law_text_0
    exact mts_nil) (fun s1 H1 C cl fp => by
    have hvb : visAll [1] (Cx.blk (cxOf (L2.CX P w) P w K mg base ["_law_value", "_law_item"] "_law_text" (defScope s__law_text) f cdv A outer s H E) s1 H1 lcx__law_text_0 (compEnvC lcx__law_text_0 cl C (cxOf (L2.CX P w) P w K mg base ["_law_value", "_law_item"] "_law_text" (defScope s__law_text) f cdv A outer s H E).env) fp).N (Cx.blk (cxOf (L2.CX P w) P w K mg base ["_law_value", "_law_item"] "_law_text" (defScope s__law_text) f cdv A outer s H E) s1 H1 lcx__law_text_0 (compEnvC lcx__law_text_0 cl C (cxOf (L2.CX P w) P w K mg base ["_law_value", "_law_item"] "_law_text" (defScope s__law_text) f cdv A outer s H E).env) fp).env.scope = true := lcv__law_text_0
    have hgb : glAll ["_law_text"] (Cx.blk (cxOf (L2.CX P w) P w K mg base ["_law_value", "_law_item"] "_law_text" (defScope s__law_text) f cdv A outer s H E) s1 H1 lcx__law_text_0 (compEnvC lcx__law_text_0 cl C (cxOf (L2.CX P w) P w K mg base ["_law_value", "_law_item"] "_law_text" (defScope s__law_text) f cdv A outer s H E).env) fp).env.scope = true := lcg__law_text_0
    exact (me_call d__law_text hr (gl_at hgb 0) (ma_cons (me_var 1 hvb) ma_nil)))) ma_nil))) me_str))) mb_nil)
    (mb_one (ms_ret (me_callT c_str (gl_at hg 0) n_str bb_str (ma_cons (me_var 0 hv) ma_nil)))))))) rfl rfl
noncomputable def VR__law_text : Nat → FM
  | 0 => fun _ _ => .stuck
  | j + 1 => den 2 (m__law_text (VR__law_text j))
noncomputable def V__law_text : FM := VR__law_text 16
abbrev s__law_depth : Stmt := (topS 18)
theorem sc__law_depth : FnScope ["_law_value", "_law_item"] ["_law_value"] (defScope s__law_depth) := ⟨rfl, rfl, rfl, by decide +kernel, rfl, by decide +kernel, by decide +kernel⟩
abbrev lcx__law_depth_0 : Scope := (lcOf (kid (kid (kid (skid (stm (defBody s__law_depth) 1) 0) 1) 1) 1))
theorem lcb__law_depth_0 : blkC ["_law_value", "_law_item"] (defScope s__law_depth) lcx__law_depth_0 [("_law_item", 1)] = true := by decide +kernel
theorem lcv__law_depth_0 : visAll [1] ["_law_value", "_law_item"] (relS lcx__law_depth_0 (defScope s__law_depth)) = true := by decide +kernel
theorem lcg__law_depth_0 : glAll ["_law_depth"] (relS lcx__law_depth_0 (defScope s__law_depth)) = true := by decide +kernel
theorem lcl__law_depth_0_0 : (relS lcx__law_depth_0 (defScope s__law_depth)).names.lookup ("_law_item" : Str) = some NameKind.local := by decide +kernel
theorem va__law_depth : locAll [0] ["_law_value", "_law_item"] (defScope s__law_depth) = true := by decide +kernel
theorem ga__law_depth : glAll ["max", "isinstance", "tuple"] (defScope s__law_depth) = true := by decide +kernel
noncomputable def m__law_depth (R__law_depth : FM) : SM :=
  (mSeq (mIfS (mNot (mBl (mIsi .tuple (mVar 0)))) (mRet (mC (.int 0))) mSkip)
    (mRet (mBin fAdd (mC (.int 1)) (mCall fnMax1 (mCons (mCat false (mLst false (mCons (mC (.int 0)) mNil)) (mLc [1] (LT.one 1) (iAny (mVar 0)) mYes (mCall R__law_depth (mCons (mVar 1) mNil)))) mNil)))))
theorem ok__law_depth {kk : Nat} (hk : 0 ≤ kk) {R__law_depth : FM} {f : Addr} {fd : FuncData} (F : Fun K "_law_depth" "_law_depth" s__law_depth f fd)
    (d__law_depth : DefOk P w K mg base nm kk "_law_depth" 1 R__law_depth)
    (n_max : mg "max" = none)
    (n_isinstance : mg "isinstance" = none)
    (n_tuple : mg "tuple" = none) :
    FnOk P w K mg base (L2.CX P w) (kk + 1) f fd ["_law_value"] (spD nm K mg 1 (den 2 (m__law_depth R__law_depth))) :=
  den_ok (m := m__law_depth R__law_depth) F sc__law_depth (fun cdv A outer s H E hr => by
  have nd := sc__law_depth.nd
  have hh := L2H.roomH_of hr
  have hl : locAll [0] (cxOf (L2.CX P w) P w K mg base ["_law_value", "_law_item"] "_law_depth" (defScope s__law_depth) f cdv A outer s H E).N (cxOf (L2.CX P w) P w K mg base ["_law_value", "_law_item"] "_law_depth" (defScope s__law_depth) f cdv A outer s H E).env.scope = true := va__law_depth
  have hv := locVis hl
  have hg : glAll ["max", "isinstance", "tuple"] (cxOf (L2.CX P w) P w K mg base ["_law_value", "_law_item"] "_law_depth" (defScope s__law_depth) f cdv A outer s H E).env.scope = true := ga__law_depth
  have hc : (cxOf (L2.CX P w) P w K mg base ["_law_value", "_law_item"] "_law_depth" (defScope s__law_depth) f cdv A outer s H E).calm = true := rfl
  have hp : PassesOwn (model P w) (cxOf (L2.CX P w) P w K mg base ["_law_value", "_law_item"] "_law_depth" (defScope s__law_depth) f cdv A outer s H E).A (cxOf (L2.CX P w) P w K mg base ["_law_value", "_law_item"] "_law_depth" (defScope s__law_depth) f cdv A outer s H E).env (cxOf (L2.CX P w) P w K mg base ["_law_value", "_law_item"] "_law_depth" (defScope s__law_depth) f cdv A outer s H E).xe := passes_of rfl
  exact (mb_cons (ms_if (mt_not (mt_val (me_isi .tuple (me_var 0 hv) (gl_at hg 1) n_isinstance (gl_at hg 2) n_tuple bb_isinstance bb_tuple))) (mb_one (ms_ret me_int)) mb_nil)
    (mb_one (ms_ret (me_bin o_add me_int (me_callB (c_max1 hc) (gl_at hg 0) n_max bb_max (ma_cons (me_cat false (me_lst false (ma_cons me_int ma_nil)) (me_lc (LT.one 1) hc nd (mi_any (me_var 0 hv)) (blkOk_by lcb__law_depth_0) rfl (by simp) (fun s1 H1 C cl fp => (pg_one 1 nd rfl (.inl lcl__law_depth_0_0) (.inr lcl__law_depth_0_0))) (fun s1 H1 C cl fp => by
    have hvb : visAll [1] (Cx.blk (cxOf (L2.CX P w) P w K mg base ["_law_value", "_law_item"] "_law_depth" (defScope s__law_depth) f cdv A outer s H E) s1 H1 lcx__law_depth_0 (compEnvC lcx__law_depth_0 cl C (cxOf (L2.CX P w) P w K mg base ["_law_value", "_law_item"] "_law_depth" (defScope s__law_depth) f cdv A outer s H E).env) fp).N (Cx.blk (cxOf (L2.CX P w) P w K mg base ["_law_value", "_law_item"] "_law_depth" (defScope s__law_depth) f cdv A outer s H E) s1 H1 lcx__law_depth_0 (compEnvC lcx__law_depth_0 cl C (cxOf (L2.CX P w) P w K mg base ["_law_value", "_law_item"] "_law_depth" (defScope s__law_depth) f cdv A outer s H E).env) fp).env.scope = true := lcv__law_depth_0
    have hgb : glAll ["_law_depth"] (Cx.blk (cxOf (L2.CX P w) P w K mg base ["_law_value", "_law_item"] "_law_depth" (defScope s__law_depth) f cdv A outer s H E) s1 H1 lcx__law_depth_0 (compEnvC lcx__law_depth_0 cl C (cxOf (L2.CX P w) P w K mg base ["_law_value", "_law_item"] "_law_depth" (defScope s__law_depth) f cdv A outer s H E).env) fp).env.scope = true := lcg__law_depth_0
    exact mts_nil) (fun s1 H1 C cl fp => by
    have hvb : visAll [1] (Cx.blk (cxOf (L2.CX P w) P w K mg base ["_law_value", "_law_item"] "_law_depth" (defScope s__law_depth) f cdv A outer s H E) s1 H1 lcx__law_depth_0 (compEnvC lcx__law_depth_0 cl C (cxOf (L2.CX P w) P w K mg base ["_law_value", "_law_item"] "_law_depth" (defScope s__law_depth) f cdv A outer s H E).env) fp).N (Cx.blk (cxOf (L2.CX P w) P w K mg base ["_law_value", "_law_item"] "_law_depth" (defScope s__law_depth) f cdv A outer s H E) s1 H1 lcx__law_depth_0 (compEnvC lcx__law_depth_0 cl C (cxOf (L2.CX P w) P w K mg base ["_law_value", "_law_item"] "_law_depth" (defScope s__law_depth) f cdv A outer s H E).env) fp).env.scope = true := lcv__law_depth_0
    have hgb : glAll ["_law_depth"] (Cx.blk (cxOf (L2.CX P w) P w K mg base ["_law_value", "_law_item"] "_law_depth" (defScope s__law_depth) f cdv A outer s H E) s1 H1 lcx__law_depth_0 (compEnvC lcx__law_depth_0 cl C (cxOf (L2.CX P w) P w K mg base ["_law_value", "_law_item"] "_law_depth" (defScope s__law_depth) f cdv A outer s H E).env) fp).env.scope = true := lcg__law_depth_0
    exact (me_call d__law_depth hr (gl_at hgb 0) (ma_cons (me_var 1 hvb) ma_nil))))) ma_nil))))))) rfl rfl
noncomputable def VR__law_depth : Nat → FM
  | 0 => fun _ _ => .stuck
  | j + 1 => den 2 (m__law_depth (VR__law_depth j))
noncomputable def V__law_depth : FM := VR__law_depth 20
abbrev s__law_outcome : Stmt := (topS 19)
theorem sc__law_outcome : FnScope ["_law_value", "e"] ["_law_value"] (defScope s__law_outcome) := ⟨rfl, rfl, rfl, by decide +kernel, rfl, by decide +kernel, by decide +kernel⟩
theorem va__law_outcome : locAll [0, 1] ["_law_value", "e"] (defScope s__law_outcome) = true := by decide +kernel
theorem ga__law_outcome : glAll ["encode", "isinstance", "BadText", "TableError"] (defScope s__law_outcome) = true := by decide +kernel
theorem ln__law_outcome_1 : (defScope s__law_outcome).names.lookup ("e" : Str) = some NameKind.local := by decide +kernel
noncomputable def m__law_outcome : SM :=
  (mTryAs 1 [14] [] (mRet (mCall V_encode (mCons (mVar 0) mNil))) (mRet (mTup (mCons (mC (.str "refused")) (mCons (mIsE 1 [14] []) mNil)))))
noncomputable def V__law_outcome : FM := den 2 m__law_outcome
theorem ok__law_outcome {f : Addr} {fd : FuncData} (F : Fun K "_law_outcome" "_law_outcome" s__law_outcome f fd)
    (d_encode : DefOk P w K mg base nm 18 "encode" 1 V_encode)
    (h_TableError : Catch K mg nm "TableError" [14] [])
    (n_isinstance : mg "isinstance" = none)
    (z_BadText : IsE K mg nm "BadText" [14] []) :
    FnOk P w K mg base (L2.CX P w) 19 f fd ["_law_value"] (spD nm K mg 1 V__law_outcome) :=
  den_ok (m := m__law_outcome) F sc__law_outcome (fun cdv A outer s H E hr => by
  have nd := sc__law_outcome.nd
  have hh := L2H.roomH_of hr
  have hl : locAll [0, 1] (cxOf (L2.CX P w) P w K mg base ["_law_value", "e"] "_law_outcome" (defScope s__law_outcome) f cdv A outer s H E).N (cxOf (L2.CX P w) P w K mg base ["_law_value", "e"] "_law_outcome" (defScope s__law_outcome) f cdv A outer s H E).env.scope = true := va__law_outcome
  have hv := locVis hl
  have hg : glAll ["encode", "isinstance", "BadText", "TableError"] (cxOf (L2.CX P w) P w K mg base ["_law_value", "e"] "_law_outcome" (defScope s__law_outcome) f cdv A outer s H E).env.scope = true := ga__law_outcome
  have hc : (cxOf (L2.CX P w) P w K mg base ["_law_value", "e"] "_law_outcome" (defScope s__law_outcome) f cdv A outer s H E).calm = true := rfl
  have hp : PassesOwn (model P w) (cxOf (L2.CX P w) P w K mg base ["_law_value", "e"] "_law_outcome" (defScope s__law_outcome) f cdv A outer s H E).A (cxOf (L2.CX P w) P w K mg base ["_law_value", "e"] "_law_outcome" (defScope s__law_outcome) f cdv A outer s H E).env (cxOf (L2.CX P w) P w K mg base ["_law_value", "e"] "_law_outcome" (defScope s__law_outcome) f cdv A outer s H E).xe := passes_of rfl
  exact (mb_one (ms_tryAs 1 rfl rfl nd (gl_at hg 3) h_TableError (fun pn xe hp => (mb_one (ms_ret (me_call d_encode (hr.mono (by decide)) (glT (gl_at hg 0)) (ma_cons (me_var 0 hv) ma_nil))))) (fun a oe pn => (mb_one (ms_ret (me_tup (ma_cons me_str (ma_cons (me_ise 1 z_BadText hv (glS (gl_at hg 1)) n_isinstance (glS (gl_at hg 2)) bb_isinstance) ma_nil)))))) (ln__law_outcome_1)))) rfl rfl
abbrev s_law : Stmt := (topS 20)
theorem sc_law : FnScope ["_law_script", "_law_k", "_law_rich_here", "_law_value", "_law_plain_here", "_law_odd", "_law_step", "_law_due"] ["_law_script"] (defScope s_law) := ⟨rfl, rfl, rfl, by decide +kernel, rfl, by decide +kernel, by decide +kernel⟩
theorem va_law : locAll [0, 1, 2, 3, 4, 5, 6, 7] ["_law_script", "_law_k", "_law_rich_here", "_law_value", "_law_plain_here", "_law_odd", "_law_step", "_law_due"] (defScope s_law) = true := by decide +kernel
theorem ga_law : glAll ["len", "min", "max", "range", "_law_outcome", "_law_depth", "_law_text", "_law_plain", "_law_cell", "_law_rich"] (defScope s_law) = true := by decide +kernel
noncomputable def lb_law_0 : SM :=
  (mSet 3 (mTup (mCons (mVar 3) mNil)))
noncomputable def lb_law_1 : SM :=
  (mSeq (mSet 2 (mCall V__law_rich (mCons (mCall V__law_cell (mCons (mVar 0) (mCons (mVar 1) mNil))) (mCons (mVar 1) mNil))))
    (mSeq (mSet 3 (mCall V__law_plain (mCons (mVar 2) (mCons (mC (.int 5)) mNil))))
    (mSeq (mSet 4 (mC (.bl true)))
    (mSeq (mIfS (mBl (mBin fEq (mBin fMod (mBin fDiv (mVar 2) (mC (.int 11))) (mC (.int 5))) (mC (.int 0)))) (mSeq (mSet 5 (mLst false (mCons (mC (.bl true)) (mCons (mC (.bl false)) (mCons (mLst false (mCons (mC (.int 1)) mNil)) (mCons (mBin fPow (mC (.int 10)) (mC (.int 30))) (mCons (mUn fNeg (mBin fPow (mC (.int 10)) (mC (.int 30)))) (mCons (mC (.str "a\nb")) (mCons (mC (.str "\t")) (mCons (mLst false mNil) mNil))))))))))
    (mSeq (mSet 3 (mTup (mCons (mVar 3) (mCons (mIx (mVar 5) (mBin fMod (mBin fDiv (mVar 2) (mC (.int 55))) (mC (.int 8)))) mNil))))
    (mSet 4 (mC (.bl false))))) mSkip)
    (mSeq (mIfS (mBl (mBin fEq (mBin fMod (mBin fDiv (mVar 2) (mC (.int 13))) (mC (.int 3))) (mC (.int 0)))) (mFor (iRng (mCons (mBin fMod (mBin fDiv (mVar 2) (mC (.int 39))) (mC (.int 11))) mNil)) (gNm 6) lb_law_0) mSkip)
    (mSeq (mIfS (mBl (mBin fEq (mBin fMod (mBin fDiv (mVar 2) (mC (.int 17))) (mC (.int 40))) (mC (.int 0)))) (mSet 3 (mTup (mCons (mVar 3) (mCons (mBin fSmul (mC (.str "x")) (mBin fAdd (mC (.int 199990)) (mBin fMod (mBin fDiv (mVar 2) (mC (.int 680))) (mC (.int 20))))) mNil)))) mSkip)
    (mSeq (mIfS (mOr (mNot (mTru (mVar 4))) (mBl (mBin fGt (mCall V__law_depth (mCons (mVar 3) mNil)) (mC (.int 10))))) (mSet 7 (mTup (mCons (mC (.str "refused")) (mCons (mC (.bl true)) mNil)))) (mSeq (mSet 7 (mCall V__law_text (mCons (mVar 3) mNil)))
    (mIfS (mBl (mBin fGt (mCall fnLen (mCons (mVar 7) mNil)) (mC (.int 200000)))) (mSet 7 (mTup (mCons (mC (.str "refused")) (mCons (mC (.bl true)) mNil)))) mSkip)))
    (mIfS (mBl (mBin fNe (mCall V__law_outcome (mCons (mVar 3) mNil)) (mVar 7))) (mRet (mC (.bl false))) mSkip))))))))
noncomputable def m_law : SM :=
  (mSeq (mFor (iRng (mCons (mCall fnMax2 (mCons (mC (.int 1)) (mCons (mCall fnMin2 (mCons (mC (.int 12)) (mCons (mCall fnLen (mCons (mVar 0) mNil)) mNil))) mNil))) mNil)) (gNm 1) lb_law_1)
    (mRet (mC (.bl true))))
noncomputable def V_law : FM := den 8 m_law
theorem ok_law {f : Addr} {fd : FuncData} (F : Fun K "law" "law" s_law f fd)
    (n_range : mg "range" = none)
    (n_len : mg "len" = none)
    (n_min : mg "min" = none)
    (n_max : mg "max" = none)
    (d__law_outcome : DefOk P w K mg base nm 19 "_law_outcome" 1 V__law_outcome)
    (d__law_depth : DefOk P w K mg base nm 20 "_law_depth" 1 V__law_depth)
    (d__law_text : DefOk P w K mg base nm 16 "_law_text" 1 V__law_text)
    (d__law_plain : DefOk P w K mg base nm 17 "_law_plain" 2 V__law_plain)
    (d__law_rich : DefOk P w K mg base nm 1 "_law_rich" 2 V__law_rich)
    (d__law_cell : DefOk P w K mg base nm 1 "_law_cell" 2 V__law_cell) :
    FnOk P w K mg base (L2.CX P w) 21 f fd ["_law_script"] (spD nm K mg 1 V_law) :=
  den_ok (m := m_law) F sc_law (fun cdv A outer s H E hr => by
  have nd := sc_law.nd
  have hh := L2H.roomH_of hr
  have hl : locAll [0, 1, 2, 3, 4, 5, 6, 7] (cxOf (L2.CX P w) P w K mg base ["_law_script", "_law_k", "_law_rich_here", "_law_value", "_law_plain_here", "_law_odd", "_law_step", "_law_due"] "law" (defScope s_law) f cdv A outer s H E).N (cxOf (L2.CX P w) P w K mg base ["_law_script", "_law_k", "_law_rich_here", "_law_value", "_law_plain_here", "_law_odd", "_law_step", "_law_due"] "law" (defScope s_law) f cdv A outer s H E).env.scope = true := va_law
  have hv := locVis hl
  have hg : glAll ["len", "min", "max", "range", "_law_outcome", "_law_depth", "_law_text", "_law_plain", "_law_cell", "_law_rich"] (cxOf (L2.CX P w) P w K mg base ["_law_script", "_law_k", "_law_rich_here", "_law_value", "_law_plain_here", "_law_odd", "_law_step", "_law_due"] "law" (defScope s_law) f cdv A outer s H E).env.scope = true := ga_law
  have hc : (cxOf (L2.CX P w) P w K mg base ["_law_script", "_law_k", "_law_rich_here", "_law_value", "_law_plain_here", "_law_odd", "_law_step", "_law_due"] "law" (defScope s_law) f cdv A outer s H E).calm = true := rfl
  have hp : PassesOwn (model P w) (cxOf (L2.CX P w) P w K mg base ["_law_script", "_law_k", "_law_rich_here", "_law_value", "_law_plain_here", "_law_odd", "_law_step", "_law_due"] "law" (defScope s_law) f cdv A outer s H E).A (cxOf (L2.CX P w) P w K mg base ["_law_script", "_law_k", "_law_rich_here", "_law_value", "_law_plain_here", "_law_odd", "_law_step", "_law_due"] "law" (defScope s_law) f cdv A outer s H E).env (cxOf (L2.CX P w) P w K mg base ["_law_script", "_law_k", "_law_rich_here", "_law_value", "_law_plain_here", "_law_odd", "_law_step", "_law_due"] "law" (defScope s_law) f cdv A outer s H E).xe := passes_of rfl
  exact (mb_cons (ms_for hp hc (mi_range1 (gl_at hg 3) n_range (ma_cons (me_callB (c_max2 hc) (gl_at hg 2) n_max bb_max (ma_cons me_int (ma_cons (me_callB (c_min2 hc) (gl_at hg 1) n_min bb_min (ma_cons me_int (ma_cons (me_callB c_len (gl_at hg 0) n_len bb_len (ma_cons (me_var 0 hv) ma_nil)) ma_nil))) ma_nil))) ma_nil)) (mg_name 1 nd hl) (gok_nm 1) (mb_cons (ms_set 2 nd hl (me_call d__law_rich (hr.mono (by decide)) (gl_at hg 9) (ma_cons (me_call d__law_cell (hr.mono (by decide)) (gl_at hg 8) (ma_cons (me_var 0 hv) (ma_cons (me_var 1 hv) ma_nil))) (ma_cons (me_var 1 hv) ma_nil))))
    (mb_cons (ms_set 3 nd hl (me_call d__law_plain (hr.mono (by decide)) (gl_at hg 7) (ma_cons (me_var 2 hv) (ma_cons me_int ma_nil))))
    (mb_cons (ms_set 4 nd hl me_bl)
    (mb_cons (ms_if (mt_cmp (o_eq hh) (me_bin o_mod (me_bin o_div (me_var 2 hv) me_int) me_int) me_int (nomark _)) (mb_cons (ms_set 5 nd hl (me_lst false (ma_cons me_bl (ma_cons me_bl (ma_cons (me_lst false (ma_cons me_int ma_nil)) (ma_cons (me_bin o_pow me_int me_int) (ma_cons (me_neg (me_bin o_pow me_int me_int)) (ma_cons me_str (ma_cons me_str (ma_cons (me_lst false ma_nil) ma_nil))))))))))
    (mb_cons (ms_set 3 nd hl (me_tup (ma_cons (me_var 3 hv) (ma_cons (me_ix hh (me_var 5 hv) (me_bin o_mod (me_bin o_div (me_var 2 hv) me_int) me_int)) ma_nil))))
    (mb_one (ms_set 4 nd hl me_bl)))) mb_nil)
    (mb_cons (ms_if (mt_cmp (o_eq hh) (me_bin o_mod (me_bin o_div (me_var 2 hv) me_int) me_int) me_int (nomark _)) (mb_one (ms_for hp hc (mi_range1 (gl_at hg 3) n_range (ma_cons (me_bin o_mod (me_bin o_div (me_var 2 hv) me_int) me_int) ma_nil)) (mg_name 6 nd hl) (gok_nm 6) (mb_one (ms_set 3 nd hl (me_tup (ma_cons (me_var 3 hv) ma_nil)))))) mb_nil)
    (mb_cons (ms_if (mt_cmp (o_eq hh) (me_bin o_mod (me_bin o_div (me_var 2 hv) me_int) me_int) me_int (nomark _)) (mb_one (ms_set 3 nd hl (me_tup (ma_cons (me_var 3 hv) (ma_cons (me_bin o_smul me_str (me_bin o_add me_int (me_bin o_mod (me_bin o_div (me_var 2 hv) me_int) me_int))) ma_nil))))) mb_nil)
    (mb_cons (ms_if (MW.mt (mw_or (mt_not (mt_tru (me_var 4 hv))) (mw_or1 (mt_cmp o_gt (me_call d__law_depth (hr.mono (by decide)) (gl_at hg 5) (ma_cons (me_var 3 hv) ma_nil)) me_int (nomark _))))) (mb_one (ms_set 7 nd hl (me_tup (ma_cons me_str (ma_cons me_bl ma_nil))))) (mb_cons (ms_set 7 nd hl (me_call d__law_text (hr.mono (by decide)) (gl_at hg 6) (ma_cons (me_var 3 hv) ma_nil)))
    (mb_one (ms_if (mt_cmp o_gt (me_callB c_len (gl_at hg 0) n_len bb_len (ma_cons (me_var 7 hv) ma_nil)) me_int (nomark _)) (mb_one (ms_set 7 nd hl (me_tup (ma_cons me_str (ma_cons me_bl ma_nil))))) mb_nil))))
    (mb_one (ms_if (mt_cmp (o_ne hh) (me_call d__law_outcome (hr.mono (by decide)) (gl_at hg 4) (ma_cons (me_var 3 hv) ma_nil)) (me_var 7 hv) (nomark _)) (mb_one (ms_ret me_bl)) mb_nil))))))))))
    (mb_one (ms_ret me_bl)))) rfl rfl
end
end L_k03
namespace L_k03
open PySem PySem.Spec PyProof.Rows L2 BS
theorem prin_scan (S : Store) (x : Option D) : ∀ (cs : List Nat) (y : Option D), ∃ y', forL (fun _ => True) (gNm 1) lb_is_printable_0 (cs.map BS.strAt) ⟨[x, y], []⟩ S = if cs.all prC = true then .nx ⟨[x, y'], []⟩ S else .rt (.bl false) S
  | [], y => ⟨y, by rw [List.map_nil, forL_nil]; rfl⟩
  | c :: cs, y => by
    obtain ⟨y', e⟩ := prin_scan S x cs (some (BS.strAt c))
    refine ⟨y', ?_⟩
    have h1 : ltS ⟨#[c]⟩ " " = decide (c < 32) := ltS_one c 32
    have h2 : ltS "~" ⟨#[c]⟩ = decide (126 < c) := ltS_one 126 c
    have step : (gNm 1 (BS.strAt c) ⟨[x, y], []⟩ S).seq lb_is_printable_0 = if prC c = true then .nx ⟨[x, some (BS.strAt c)], []⟩ S else .rt (.bl false) S := by
      by_cases a1 : c < 32
      · have p : prC c = false := by simp [prC]; omega
        simp [lb_is_printable_0, BS.strAt, h1, a1, p]
      · by_cases a2 : 126 < c
        · have p : prC c = false := by simp [prC]; omega
          simp [lb_is_printable_0, BS.strAt, h1, a1, h2, a2, p]
        · by_cases a3 : c = 37
          · have p : prC c = false := by simp [prC]; omega
            subst a3
            simp [lb_is_printable_0, BS.strAt, h1, a1, h2, a2, p, c_PERCENT]
          · have p : prC c = true := by simp [prC]; omega
            have a4 : ¬ (c : Int) = 37 := by omega
            simp [lb_is_printable_0, BS.strAt, h1, a1, h2, a2, p, c_PERCENT, a4]
    rw [List.map_cons, forL_cons, step]
    cases h : prC c with
    | true => rw [if_pos rfl, RS.loop_nx, e]; simp [h]
    | false => rw [if_neg (by simp), RS.loop_rt]; simp [h]
theorem prin_eq {n : Nat} {d : D} (h : Sm n d) (S : Store) : V_is_printable [d] S = .ok (.bl (isPr d)) S := by
  cases d with
  | str z =>
    obtain ⟨y', e⟩ := prin_scan S (some (.str z)) z.cps.toList none
    cases ha : z.cps.toList.all prC <;> rw [ha] at e <;>
    simp (config := { implicitDefEqProofs := false }) [V_is_printable, m_is_printable, BS.signs, e, isPr, ha]
  | obj k => simp at h
  | scr k => simp at h
  | _ => simp (config := { implicitDefEqProofs := false }) [V_is_printable, m_is_printable, isPr]
theorem int_eq {n : Nat} {d : D} (h : Sm n d) (lo hi : Int) (S : Store) : V_is_integer [d, .int lo, .int hi] S = .ok (.bl (isI d lo hi)) S := by
  cases d with
  | int i => cases q : decide (lo ≤ i) <;> simp (config := { implicitDefEqProofs := false }) [V_is_integer, m_is_integer, isI, q]
  | obj k => simp at h
  | scr k => simp at h
  | _ => simp (config := { implicitDefEqProofs := false }) [V_is_integer, m_is_integer, isI]
abbrev chs (z : Str) : List Nat := z.cps.toList
def ofL (l : List Nat) : Str := ⟨l.toArray⟩
theorem chs_ofL (l : List Nat) : chs (ofL l) = l := rfl
theorem ofL_chs (z : Str) : ofL (chs z) = z := TL.mk_tl z
theorem ofL_len (l : List Nat) : (ofL l).length = l.length := by unfold ofL Str.length; simp
theorem chs_len (z : Str) : (chs z).length = z.length := len_cps z
theorem ofL_app (a b : List Nat) : ofL a ++ ofL b = ofL (a ++ b) := TL.ext_tl (by rw [TL.tl_append]; rfl)
theorem ofL_inj {a b : List Nat} (h : ofL a = ofL b) : a = b := congrArg chs h
theorem szL' {n : Nat} (h : n ≤ 16777216) : n ≤ sizeLine := h
theorem chs_inj {a b : Str} (h : chs a = chs b) : a = b := TL.ext_tl h
theorem chs_app (a b : Str) : chs (a ++ b) = chs a ++ chs b := cps_app a b
theorem lit1 (s : String) (c : Nat) (h : s.toList.map Char.toNat = [c]) : Str.ofString s = ofL [c] := TL.ext_tl (by rw [TL.tl_ofString, h]; rfl)
theorem litL (s : String) (l : List Nat) (h : s.toList.map Char.toNat = l) : Str.ofString s = ofL l := TL.ext_tl (by rw [TL.tl_ofString, h]; rfl)
theorem cut_nn (z : Str) (p q : Nat) : cutS z (some (p : Int)) (some (q : Int)) = ofL (((chs z).drop p).take (q - p)) := by
  unfold cutS
  rw [HT.sIx_nat, HT.sIx_nat]
  apply congrArg ofL
  have hn := chs_len z
  by_cases hp : p ≤ z.length
  · rw [Nat.min_eq_left hp]
    by_cases hq : q ≤ z.length
    · rw [Nat.min_eq_left hq]
    · have hd : ((chs z).drop p).length = z.length - p := by rw [List.length_drop, hn]
      rw [Nat.min_eq_right (by omega), List.take_of_length_le (by rw [hd]; exact Nat.le_refl _), List.take_of_length_le (by rw [hd]; omega)]
  · rw [Nat.min_eq_right (Nat.le_of_not_le hp), List.drop_eq_nil_of_le (by omega : (chs z).length ≤ p), List.drop_eq_nil_of_le (by omega : (chs z).length ≤ z.length)]
    simp
theorem cut_one (z : Str) (p : Nat) : cutS z (some (p : Int)) (some ((p : Int) + 1)) = ofL (((chs z).drop p).take 1) := by
  have := cut_nn z p (p + 1)
  rw [show p + 1 - p = 1 by omega] at this
  exact this
theorem cut_one' (z : Str) (p : Nat) : cutS z (some ((p : Int) + 1)) (some ((p : Int) + 2)) = ofL (((chs z).drop (p + 1)).take 1) := by
  have := cut_nn z (p + 1) (p + 2)
  rw [show p + 2 - (p + 1) = 1 by omega] at this
  exact this
/-- a sign at a place is told by the cut of one -/
theorem ofL_eq_iff (a b : List Nat) : ofL a = ofL b ↔ a = b := ⟨ofL_inj, fun h => by rw [h]⟩
theorem take1_eq (l : List Nat) (c : Nat) : l.take 1 = [c] ↔ l.head? = some c := by
  cases l with
  | nil => simp
  | cons a r => simp
theorem range'_split' {lo n a : Nat} {pre post : List Nat} (h : List.range' lo n = pre ++ a :: post) : lo ≤ a ∧ ∀ k, lo ≤ k → k < a → k ∈ pre := by
  have hL : n = pre.length + (post.length + 1) := by
    have := congrArg List.length h
    simpa using this
  have hlen : lo + pre.length = a := by
    have h1 : (List.range' lo n)[pre.length]? = some a := by rw [h]; simp
    rw [List.getElem?_range' (by omega)] at h1
    simpa using h1
  refine ⟨by omega, fun k h1 hk => ?_⟩
  have h2 : (List.range' lo n)[k - lo]? = pre[k - lo]? := by rw [h, List.getElem?_append_left (by omega)]
  rw [List.getElem?_range' (by omega)] at h2
  have h3 : pre[k - lo]? = some k := by rw [← h2]; simp; omega
  exact List.mem_of_getElem? h3
theorem find_nat (z : Str) (c p : Nat) (hp : p ≤ z.length) : (Txt.find3 z (ofL [c]) (p : Int) = -1 ∧ c ∉ (chs z).drop p) ∨ ∃ a r, (chs z).drop p = a ++ c :: r ∧ c ∉ a ∧ Txt.find3 z (ofL [c]) (p : Int) = ((p + a.length : Nat) : Int) := by
  have hf : PySem.fromIndex z.length (p : Int) = p := by unfold PySem.fromIndex; rw [if_neg (by omega)]; omega
  have hn := chs_len z
  unfold Txt.find3
  rw [hf, StrLaws.occ_eq]
  rcases StrLaws.occ_first z (ofL [c]) z.length 1 (Nat.le_refl _) (List.range' p (z.length + 1 - p)) p (fun i hi => by simp [List.mem_range'] at hi; omega) with ⟨h0, hno⟩ | ⟨pre, a, post, e, h0, ha, hno⟩
  · refine .inl ⟨by rw [h0], fun hm => ?_⟩
    obtain ⟨j, hj⟩ := List.getElem?_of_mem hm
    rw [List.getElem?_drop] at hj
    have hlt : p + j < z.length := by
      have := (List.getElem?_eq_some_iff.mp hj).1
      omega
    exact hno (p + j) (by simp [List.mem_range']; omega) ((StrLaws.subAt_one z c (p + j)).mpr hj)
  · obtain ⟨h1, h2⟩ := range'_split' e
    have hat : (chs z)[a]? = some c := (StrLaws.subAt_one z c a).mp ha
    have hlt : a < (chs z).length := (List.getElem?_eq_some_iff.mp hat).1
    refine .inr ⟨((chs z).drop p).take (a - p), (chs z).drop (a + 1), ?_, ?_, ?_⟩
    · have e1 : ((chs z).drop p).drop (a - p) = c :: (chs z).drop (a + 1) := by
        rw [List.drop_drop, show p + (a - p) = a by omega, List.drop_eq_getElem_cons hlt]
        rw [List.getElem?_eq_getElem hlt] at hat
        rw [Option.some.inj hat]
      rw [← e1, List.take_append_drop]
    · intro hm
      obtain ⟨j, hj⟩ := List.getElem?_of_mem hm
      have hja : j < a - p := by
        have := (List.getElem?_eq_some_iff.mp hj).1
        rw [List.length_take] at this
        omega
      rw [List.getElem?_take_of_lt hja, List.getElem?_drop] at hj
      exact hno (p + j) (h2 _ (by omega) (by omega)) ((StrLaws.subAt_one z c (p + j)).mpr hj)
    · generalize (forIn (List.range' p (z.length + 1 - p)) ((#[] : Array Nat), p) (StrLaws.occBody z (ofL [c]) z.length 1)).run.fst = arr at h0
      have h3 : arr.toList[0]? = some a := by simpa using h0
      have e2 : p + (((chs z).drop p).take (a - p)).length = a := by rw [List.length_take, List.length_drop]; omega
      rw [e2]
      cases hL : arr.toList with
      | nil => rw [hL] at h3; cases h3
      | cons b t => rw [hL] at h3; simp at h3; rw [h3]
def txI (i : Int) : List Nat := chs (Str.ofString (toString i))
theorem txI_nat (n : Nat) : txI (n : Int) = TL.numL n := TL.tl_num n
theorem txI_neg (n : Nat) (h : 0 < n) : txI (-(n : Int)) = 45 :: TL.numL n := by
  obtain ⟨m, rfl⟩ : ∃ m, n = m + 1 := ⟨n - 1, by omega⟩
  unfold txI
  rw [show chs (Str.ofString (toString (-((m + 1 : Nat) : Int)))) = TL.tl (Str.ofString (toString (-((m + 1 : Nat) : Int)))) from rfl, TL.tl_ofString]
  rw [show (toString (-((m + 1 : Nat) : Int))) = "-" ++ Nat.repr (m + 1) from rfl, String.toList_append, List.map_append]
  show [45] ++ (Nat.repr (m + 1)).toList.map Char.toNat = 45 :: (Nat.toDigits 10 (m + 1)).map Char.toNat
  rw [Nat.toList_repr]
  rfl
def tx : Nat → D → List Nat
  | _, .non => [42]
  | _, .int i => txI i
  | _, .str z => 39 :: (StrLaws.dbl 39 (chs z) ++ [39])
  | n + 1, .tup ds => 40 :: (TL.joinL [44] (ds.map (tx n)) ++ [41])
  | _, _ => []
def Pv : Nat → D → Prop
  | _, .non => True
  | _, .int i => i.natAbs < 10 ^ 30
  | _, .str z => ∀ c ∈ chs z, prC c = true
  | n + 1, .tup ds => ∀ d ∈ ds, Pv n d
  | _, _ => False
@[simp] theorem tx_non (n : Nat) : tx n .non = [42] := by cases n <;> rfl
@[simp] theorem tx_int (n : Nat) (i : Int) : tx n (.int i) = txI i := by cases n <;> rfl
@[simp] theorem tx_str (n : Nat) (z : Str) : tx n (.str z) = 39 :: (StrLaws.dbl 39 (chs z) ++ [39]) := by cases n <;> rfl
@[simp] theorem tx_tup (n : Nat) (ds : List D) : tx (n + 1) (.tup ds) = 40 :: (TL.joinL [44] (ds.map (tx n)) ++ [41]) := rfl
@[simp] theorem Pv_non (n : Nat) : Pv n .non = True := by cases n <;> rfl
@[simp] theorem Pv_int (n : Nat) (i : Int) : Pv n (.int i) = (i.natAbs < 10 ^ 30) := by cases n <;> rfl
@[simp] theorem Pv_str (n : Nat) (z : Str) : Pv n (.str z) = (∀ c ∈ chs z, prC c = true) := by cases n <;> rfl
@[simp] theorem Pv_tup (n : Nat) (ds : List D) : Pv (n + 1) (.tup ds) = (∀ d ∈ ds, Pv n d) := rfl
theorem Pv_cases {n : Nat} {d : D} (h : Pv n d) : d = .non ∨ (∃ i : Int, d = .int i ∧ i.natAbs < 10 ^ 30) ∨ (∃ z, d = .str z ∧ ∀ c ∈ chs z, prC c = true) ∨ ∃ m ds, n = m + 1 ∧ d = .tup ds ∧ ∀ x ∈ ds, Pv m x := by
  cases d with
  | non => exact .inl rfl
  | int i => exact .inr (.inl ⟨i, rfl, by simpa using h⟩)
  | str z => exact .inr (.inr (.inl ⟨z, rfl, by simpa using h⟩))
  | tup ds =>
    cases n with
    | zero => exact absurd h (by simp [Pv])
    | succ m => exact .inr (.inr (.inr ⟨m, ds, rfl, rfl, by simpa using h⟩))
  | _ => cases n <;> exact absurd h (by simp [Pv])
theorem Pv_mono : ∀ {n m : Nat} {d : D}, Pv n d → n ≤ m → Pv m d
  | n, m, d, h, hl => by
    rcases Pv_cases h with rfl | ⟨i, rfl, hi⟩ | ⟨z, rfl, hz⟩ | ⟨k, ds, rfl, rfl, hd⟩
    · simp
    · rw [Pv_int]; exact hi
    · rw [Pv_str]; exact hz
    · obtain ⟨j, rfl⟩ : ∃ j, m = j + 1 := ⟨m - 1, by omega⟩
      rw [Pv_tup]
      exact fun x hx => Pv_mono (hd x hx) (by omega)
theorem tx_mono : ∀ {n m : Nat} {d : D}, Pv n d → n ≤ m → tx m d = tx n d
  | n, m, d, h, hl => by
    rcases Pv_cases h with rfl | ⟨i, rfl, hi⟩ | ⟨z, rfl, hz⟩ | ⟨k, ds, rfl, rfl, hd⟩
    · simp
    · simp
    · simp
    · obtain ⟨j, rfl⟩ : ∃ j, m = j + 1 := ⟨m - 1, by omega⟩
      have e : ds.map (tx j) = ds.map (tx k) := List.map_congr_left fun x hx => tx_mono (hd x hx) (by omega)
      rw [tx_tup, tx_tup, e]
def isDg (c : Nat) : Bool := decide (48 ≤ c ∧ c ≤ 57)
def rsL : List Nat → Option (List Nat × List Nat)
  | [] => none
  | [c] => if c = 39 then some ([], []) else none
  | c :: d :: r => if c = 39 then (if d = 39 then (rsL r).map fun p => (39 :: p.1, p.2) else some ([], d :: r)) else (rsL (d :: r)).map fun p => (c :: p.1, p.2)
def rdD (neg : Bool) (M1 ds : List Nat) : Option (D × List Nat) :=
  if ds.length = 0 ∨ 30 < ds.length then none
  else if ds.head? = some 48 ∧ (1 < ds.length ∨ neg = true) then none
  else some (.int (if neg = true then -((NumText.digitsVal ds : Nat) : Int) else (NumText.digitsVal ds : Nat)), M1.drop ds.length)
def rdI (M : List Nat) : Option (D × List Nat) :=
  if M.head? = some 45 then rdD true M.tail ((M.tail.take 31).takeWhile isDg) else rdD false M ((M.take 31).takeWhile isDg)
theorem rdD_some {neg : Bool} {M1 ds : List Nat} {d : D} {r : List Nat} (h : rdD neg M1 ds = some (d, r)) : ds.length ≠ 0 ∧ ds.length ≤ 30 ∧ ¬ (ds.head? = some 48 ∧ (1 < ds.length ∨ neg = true)) ∧ d = .int (if neg = true then -((NumText.digitsVal ds : Nat) : Int) else (NumText.digitsVal ds : Nat)) ∧ r = M1.drop ds.length := by
  unfold rdD at h
  by_cases h1 : ds.length = 0 ∨ 30 < ds.length
  · rw [if_pos h1] at h; cases h
  · rw [if_neg h1] at h
    by_cases h2 : ds.head? = some 48 ∧ (1 < ds.length ∨ neg = true)
    · rw [if_pos h2] at h; cases h
    · rw [if_neg h2] at h
      have e := Option.some.inj h
      exact ⟨by omega, by omega, h2, (congrArg Prod.fst e).symm, (congrArg Prod.snd e).symm⟩
theorem rev_ind {P : List Nat → Prop} (h0 : P []) (h1 : ∀ l c, P l → P (l ++ [c])) : ∀ (n : Nat) (l : List Nat), l.length = n → P l
  | 0, l, h => by rw [List.eq_nil_of_length_eq_zero h]; exact h0
  | n + 1, l, h => by
    rcases List.eq_nil_or_concat l with rfl | ⟨L, b, rfl⟩
    · exact h0
    · rw [List.concat_eq_append] at h ⊢
      exact h1 L b (rev_ind h0 h1 n L (by simpa using h))
def rdT (f : List Nat → Option (D × List Nat)) : Nat → List Nat → Option (List D × List Nat)
  | 0, _ => none
  | m + 1, M => (f M).bind fun p => if p.2.head? = some 41 then some ([p.1], p.2.tail) else if p.2.head? = some 44 then (rdT f m p.2.tail).map fun q => (p.1 :: q.1, q.2) else none
def rdH (t : List Nat → Option (D × List Nat)) (M : List Nat) : Option (D × List Nat) :=
  if M.head? = some 42 then some (.non, M.tail) else if M.head? = some 39 then (rsL M.tail).map fun p => (.str (ofL p.1), p.2)
  else if M.head? = some 40 then t M.tail else rdI M
def rd : Nat → List Nat → Option (D × List Nat)
  | 0, M => rdH (fun _ => none) M
  | n + 1, M => rdH (fun r => if r.head? = some 41 then some (.tup [], r.tail) else (rdT (rd n) (r.length + 1) r).map fun p => (.tup p.1, p.2)) M
theorem rsL_sound : ∀ {M : List Nat} {z r : List Nat}, rsL M = some (z, r) → M = StrLaws.dbl 39 z ++ 39 :: r ∧ r.head? ≠ some 39
  | [], z, r, h => by simp [rsL] at h
  | [c], z, r, h => by
    unfold rsL at h
    split at h
    · rename_i e; cases h; subst e; exact ⟨rfl, by simp⟩
    · cases h
  | c :: d :: M, z, r, h => by
    unfold rsL at h
    split at h
    · rename_i e; subst e
      split at h
      · rename_i e; subst e
        obtain ⟨p, hp, e⟩ := Option.map_eq_some_iff.mp h
        cases e
        obtain ⟨h1, h2⟩ := rsL_sound (z := p.1) (r := p.2) hp
        exact ⟨by rw [h1]; simp [StrLaws.dbl], h2⟩
      · rename_i hn; cases h
        exact ⟨rfl, by simpa using hn⟩
    · rename_i hn
      obtain ⟨p, hp, e⟩ := Option.map_eq_some_iff.mp h
      cases e
      obtain ⟨h1, h2⟩ := rsL_sound (z := p.1) (r := p.2) hp
      exact ⟨by rw [h1]; simp [StrLaws.dbl, hn], h2⟩
theorem rsL_full : ∀ {z r : List Nat}, r.head? ≠ some 39 → rsL (StrLaws.dbl 39 z ++ 39 :: r) = some (z, r)
  | [], [], h => rfl
  | [], d :: r, h => by
    have hd : d ≠ 39 := by simpa using h
    show rsL (39 :: d :: r) = _
    unfold rsL
    rw [if_pos rfl, if_neg hd]
  | c :: z, r, h => by
    have ih := rsL_full (z := z) h
    by_cases e : c = 39
    · subst e
      have e1 : StrLaws.dbl 39 (39 :: z) ++ 39 :: r = 39 :: 39 :: (StrLaws.dbl 39 z ++ 39 :: r) := by simp [StrLaws.dbl]
      rw [e1]
      unfold rsL
      rw [if_pos rfl, if_pos rfl, ih]
      rfl
    · have e1 : StrLaws.dbl 39 (c :: z) ++ 39 :: r = c :: (StrLaws.dbl 39 z ++ 39 :: r) := by simp [StrLaws.dbl, e]
      rw [e1]
      cases hM : StrLaws.dbl 39 z ++ 39 :: r with
      | nil => simp at hM
      | cons d q =>
        rw [hM] at ih
        unfold rsL
        rw [if_neg e, ih]
        rfl
theorem isDg_iff (c : Nat) : isDg c = true ↔ 48 ≤ c ∧ c ≤ 57 := by simp [isDg]
/-- digits without a zero in front are the number's own -/
theorem numL_head {n : Nat} (h : 0 < n) : ∃ c l, TL.numL n = c :: l ∧ c ≠ 48 := by
  induction n using Nat.strongRecOn with
  | _ n ih =>
    by_cases hn : n < 10
    · exact ⟨48 + n, [], TL.numL_lt hn, by omega⟩
    · obtain ⟨c, l, e, hc⟩ := ih (n / 10) (by omega) (by omega)
      exact ⟨c, l ++ [48 + n % 10], by rw [TL.numL_step (by omega), e]; rfl, hc⟩
theorem numL_of : ∀ {ds : List Nat}, (∀ c ∈ ds, isDg c = true) → ds ≠ [] → (ds.head? = some 48 → ds.length = 1) → TL.numL (NumText.digitsVal ds) = ds := by
  intro ds
  refine rev_ind (P := fun ds => (∀ c ∈ ds, isDg c = true) → ds ≠ [] → (ds.head? = some 48 → ds.length = 1) → TL.numL (NumText.digitsVal ds) = ds) ?_ (fun l c ih => ?_) _ ds rfl
  · intro _ h; exact absurd rfl h
  · intro hd hne hh
    have hc := (isDg_iff c).mp (hd c (by simp))
    have ev : NumText.digitsVal (l ++ [c]) = NumText.digitsVal l * 10 + (c - 48) := by
      unfold NumText.digitsVal
      rw [List.foldl_append]
      rfl
    by_cases hl : l = []
    · subst hl
      rw [ev]
      show TL.numL (0 * 10 + (c - 48)) = [c]
      rw [TL.numL_lt (by omega)]
      congr 1; omega
    · have h48 : l.head? ≠ some 48 := fun e => by
        have := hh (by rw [List.head?_append, e]; rfl)
        rw [List.length_append] at this
        exact hl (List.eq_nil_of_length_eq_zero (by simpa using this))
      have e1 := ih (fun x hx => hd x (List.mem_append_left _ hx)) hl (fun e => absurd e h48)
      have hpos : 0 < NumText.digitsVal l := by
        rcases Nat.eq_zero_or_pos (NumText.digitsVal l) with h0 | h0
        · rw [h0, TL.numL_lt (by omega)] at e1
          exact absurd (by rw [← e1]; rfl) h48
        · exact h0
      rw [ev, TL.numL_step (by omega), show (NumText.digitsVal l * 10 + (c - 48)) / 10 = NumText.digitsVal l by omega, show (NumText.digitsVal l * 10 + (c - 48)) % 10 = c - 48 by omega, e1]
      congr 2; omega
theorem digitsVal_lt : ∀ {ds : List Nat}, (∀ c ∈ ds, isDg c = true) → NumText.digitsVal ds < 10 ^ ds.length := by
  intro ds
  refine rev_ind (P := fun ds => (∀ c ∈ ds, isDg c = true) → NumText.digitsVal ds < 10 ^ ds.length) ?_ (fun l c ih => ?_) _ ds rfl
  · intro _; decide
  · intro hd
    have hc := (isDg_iff c).mp (hd c (by simp))
    have h1 := ih fun x hx => hd x (List.mem_append_left _ hx)
    have ev : NumText.digitsVal (l ++ [c]) = NumText.digitsVal l * 10 + (c - 48) := by
      unfold NumText.digitsVal
      rw [List.foldl_append]
      rfl
    rw [ev, List.length_append, List.length_singleton, Nat.pow_succ]
    omega
theorem takeWhile_all' {l : List Nat} : ∀ c ∈ l.takeWhile isDg, isDg c = true := fun c hc => by
  induction l with
  | nil => simp at hc
  | cons a r ih =>
    rw [List.takeWhile_cons] at hc
    split at hc
    · rcases List.mem_cons.mp hc with rfl | h
      · assumption
      · exact ih h
    · simp at hc
theorem take_tw (l : List Nat) (k : Nat) : l = (l.take k).takeWhile isDg ++ l.drop ((l.take k).takeWhile isDg).length := by
  have h : (l.take k).takeWhile isDg <+: l := (List.takeWhile_prefix _).trans (List.take_prefix _ _)
  generalize (l.take k).takeWhile isDg = w at *
  obtain ⟨t, e⟩ := h
  subst e
  rw [List.drop_left]
theorem rdI_sound {M : List Nat} {d : D} {r : List Nat} (h : rdI M = some (d, r)) : ∃ i : Int, d = .int i ∧ i.natAbs < 10 ^ 30 ∧ M = txI i ++ r := by
  unfold rdI at h
  by_cases hn : M.head? = some 45
  · rw [if_pos hn] at h
    obtain ⟨M1, rfl⟩ : ∃ M1, M = 45 :: M1 := by
      cases M with
      | nil => simp at hn
      | cons a r => exact ⟨r, by simp at hn; rw [hn]⟩
    rw [List.tail_cons] at h
    obtain ⟨h1, h2, h3, rfl, rfl⟩ := rdD_some h
    have ha := takeWhile_all' (l := M1.take 31)
    have hs := take_tw M1 31
    generalize (M1.take 31).takeWhile isDg = ds at *
    have hne : ds ≠ [] := fun e => by subst e; simp at h1
    have h48 : ds.head? ≠ some 48 := fun e => h3 ⟨e, .inr rfl⟩
    have hv := numL_of ha hne (fun e => absurd e h48)
    have hlt := digitsVal_lt ha
    have hpos : 0 < NumText.digitsVal ds := by
      rcases Nat.eq_zero_or_pos (NumText.digitsVal ds) with h0 | h0
      · rw [h0, TL.numL_lt (by omega)] at hv
        exact absurd (by rw [← hv]; rfl) h48
      · exact h0
    have hp : 10 ^ ds.length ≤ 10 ^ 30 := Nat.pow_le_pow_right (by decide) (by omega)
    refine ⟨_, rfl, by rw [if_pos rfl]; omega, ?_⟩
    rw [if_pos rfl, txI_neg _ hpos, hv, List.cons_append, ← hs]
  · rw [if_neg hn] at h
    obtain ⟨h1, h2, h3, rfl, rfl⟩ := rdD_some h
    have ha := takeWhile_all' (l := M.take 31)
    have hs := take_tw M 31
    generalize (M.take 31).takeWhile isDg = ds at *
    have hne : ds ≠ [] := fun e => by subst e; simp at h1
    have hv := numL_of ha hne (fun e => by
      have : ¬ 1 < ds.length := fun w => h3 ⟨e, .inl w⟩
      omega)
    have hlt := digitsVal_lt ha
    have hp : 10 ^ ds.length ≤ 10 ^ 30 := Nat.pow_le_pow_right (by decide) (by omega)
    refine ⟨_, rfl, by rw [if_neg (by simp)]; omega, ?_⟩
    rw [if_neg (by simp), txI_nat, hv, ← hs]
/-- what may stand behind a value -/
def fol (r : List Nat) : Prop := ∀ c, r.head? = some c → c = 44 ∨ c = 41
theorem fol_nil : fol [] := fun c h => by simp at h
theorem fol_44 (r : List Nat) : fol (44 :: r) := fun c h => .inl (by simpa using h.symm)
theorem fol_41 (r : List Nat) : fol (41 :: r) := fun c h => .inr (by simpa using h.symm)
theorem tw_app {ds r : List Nat} (h : ∀ c ∈ ds, isDg c = true) (hl : ds.length ≤ 30) (hr : fol r) : ((ds ++ r).take 31).takeWhile isDg = ds := by
  rw [List.take_append, List.take_of_length_le (by omega), List.takeWhile_append_of_pos h]
  have : (r.take (31 - ds.length)).takeWhile isDg = [] := by
    obtain ⟨k, hk⟩ : ∃ k, 31 - ds.length = k + 1 := ⟨30 - ds.length, by omega⟩
    rw [hk]
    cases r with
    | nil => rfl
    | cons c r =>
      have hc := hr c rfl
      have : isDg c = false := by rcases hc with rfl | rfl <;> decide
      rw [List.take_succ_cons, List.takeWhile_cons_of_neg (by rw [this]; simp)]
  rw [this, List.append_nil]
theorem numL_dg (n : Nat) : ∀ c ∈ TL.numL n, isDg c = true := fun c hc => (isDg_iff c).mpr (TL.numL_digits n c hc)
theorem rdI_full {i : Int} (hi : i.natAbs < 10 ^ 30) {r : List Nat} (hr : fol r) : rdI (txI i ++ r) = some (.int i, r) := by
  by_cases h0 : 0 ≤ i
  · obtain ⟨n, rfl⟩ := Int.eq_ofNat_of_zero_le h0
    have hn : n < 10 ^ 30 := by simpa using hi
    have hl := TL.numL_len (by decide : 0 < 30) hn
    have hd := numL_dg n
    have hne := TL.numL_ne n
    have hv := TL.numL_val n
    have h48 : (TL.numL n).head? = some 48 → (TL.numL n).length = 1 := fun e => by
      rcases Nat.eq_zero_or_pos n with rfl | h
      · rw [TL.numL_lt (by omega)]; rfl
      · obtain ⟨c, l, e1, hc⟩ := numL_head h
        rw [e1] at e; exact absurd (by simpa using e) hc
    rw [txI_nat]
    generalize TL.numL n = ds at *
    have hh : (ds ++ r).head? ≠ some 45 := fun e => by
      cases ds with
      | nil => exact hne rfl
      | cons c l =>
        have := (isDg_iff c).mp (hd c (List.mem_cons_self ..))
        simp at e; omega
    unfold rdI rdD
    simp only [hh, Bool.false_eq_true, if_false, tw_app hd hl hr, List.drop_left, hv, or_false]
    have h1 : ¬ (ds.length = 0 ∨ 30 < ds.length) := by
      have : ds.length ≠ 0 := fun e => hne (List.eq_nil_of_length_eq_zero e)
      omega
    have h2 : ¬ (ds.head? = some 48 ∧ 1 < ds.length) := fun ⟨a, b⟩ => by have := h48 a; omega
    rw [if_neg h1, if_neg h2]
  · obtain ⟨n, rfl⟩ : ∃ n : Nat, i = -(n : Int) := ⟨i.natAbs, by omega⟩
    have hn : n < 10 ^ 30 := by simpa using hi
    have hp : 0 < n := by omega
    have hl := TL.numL_len (by decide : 0 < 30) hn
    have hd := numL_dg n
    have hne := TL.numL_ne n
    have hv := TL.numL_val n
    have h48 : (TL.numL n).head? ≠ some 48 := fun e => by
      obtain ⟨c, l, e1, hc⟩ := numL_head hp
      rw [e1] at e; exact absurd (by simpa using e) hc
    rw [txI_neg n hp]
    generalize TL.numL n = ds at *
    unfold rdI rdD
    simp only [List.cons_append, List.head?_cons, if_true, List.tail_cons, tw_app hd hl hr, List.drop_left, hv, or_true, and_true]
    have h1 : ¬ (ds.length = 0 ∨ 30 < ds.length) := by
      have : ds.length ≠ 0 := fun e => hne (List.eq_nil_of_length_eq_zero e)
      omega
    rw [if_neg h1, if_neg h48]
theorem txI_head (i : Int) : ∃ c l, txI i = c :: l ∧ c ≠ 42 ∧ c ≠ 39 ∧ c ≠ 40 ∧ c ≠ 41 := by
  by_cases h0 : 0 ≤ i
  · obtain ⟨n, rfl⟩ := Int.eq_ofNat_of_zero_le h0
    rw [txI_nat]
    cases e : TL.numL n with
    | nil => exact absurd e (TL.numL_ne n)
    | cons c l =>
      have := TL.numL_digits n c (by rw [e]; exact List.mem_cons_self ..)
      exact ⟨c, l, rfl, by omega, by omega, by omega, by omega⟩
  · obtain ⟨n, rfl⟩ : ∃ n : Nat, i = -(n : Int) := ⟨i.natAbs, by omega⟩
    exact ⟨45, _, txI_neg n (by omega), by decide, by decide, by decide, by decide⟩
theorem tx_head {n : Nat} {d : D} (h : Pv n d) : ∃ c l, tx n d = c :: l ∧ c ≠ 41 := by
  rcases Pv_cases h with rfl | ⟨i, rfl, hi⟩ | ⟨z, rfl, hz⟩ | ⟨k, ds, rfl, rfl, hd⟩
  · exact ⟨42, [], by simp, by decide⟩
  · obtain ⟨c, l, e, _, _, _, h4⟩ := txI_head i
    exact ⟨c, l, by simpa using e, h4⟩
  · exact ⟨39, _, by rw [tx_str], by decide⟩
  · exact ⟨40, _, by rw [tx_tup], by decide⟩
theorem joinL_cons (p : List Nat) (ps : List (List Nat)) : TL.joinL [44] (p :: ps) = p ++ (if ps = [] then [] else 44 :: TL.joinL [44] ps) := by
  cases ps with
  | nil => simp [TL.joinL]
  | cons q r => rfl
theorem rdT_sound {f : List Nat → Option (D × List Nat)} {Q : D → Prop} {g : D → List Nat} {C : List Nat → Prop} (hC : ∀ a b, C (a ++ b) → C b) (hC1 : ∀ a b, C (a :: b) → C b) (hf : ∀ M d r, C M → f M = some (d, r) → Q d ∧ M = g d ++ r) :
    ∀ {m : Nat} {M r : List Nat} {ds : List D}, C M → rdT f m M = some (ds, r) → ds ≠ [] ∧ (∀ d ∈ ds, Q d) ∧ M = TL.joinL [44] (ds.map g) ++ 41 :: r
  | 0, M, r, ds, _, h => by simp [rdT] at h
  | m + 1, M, r, ds, c, h => by
    unfold rdT at h
    obtain ⟨⟨d, r1⟩, h1, h2⟩ := Option.bind_eq_some_iff.mp h
    obtain ⟨q1, e1⟩ := hf M d r1 c h1
    simp only at h2
    split at h2
    · rename_i hh
      cases h2
      obtain ⟨r2, rfl⟩ : ∃ r2, r1 = 41 :: r2 := by
        cases r1 with
        | nil => simp at hh
        | cons a r => exact ⟨r, by simp at hh; rw [hh]⟩
      exact ⟨by simp, by simpa using q1, by rw [e1]; simp [TL.joinL]⟩
    · split at h2
      · rename_i hh
        obtain ⟨⟨ds', r'⟩, h3, e3⟩ := Option.map_eq_some_iff.mp h2
        cases e3
        obtain ⟨r2, rfl⟩ : ∃ r2, r1 = 44 :: r2 := by
          cases r1 with
          | nil => simp at hh
          | cons a r => exact ⟨r, by simp at hh; rw [hh]⟩
        have c2 : C r2 := hC1 _ _ (hC (g d) _ (e1 ▸ c))
        obtain ⟨n1, n2, n3⟩ := rdT_sound hC hC1 hf (m := m) c2 h3
        refine ⟨by simp, fun x hx => ?_, ?_⟩
        · rcases List.mem_cons.mp hx with rfl | hx
          · exact q1
          · exact n2 x hx
        · have n3' : r2 = TL.joinL [44] (ds'.map g) ++ 41 :: r' := n3
          rw [e1, n3', List.map_cons, joinL_cons, if_neg (fun e => n1 (List.map_eq_nil_iff.mp e))]
          simp
      · cases h2
theorem rdT_full {f : List Nat → Option (D × List Nat)} {g : D → List Nat} : ∀ {m : Nat} {ds : List D} {r : List Nat}, ds ≠ [] → (∀ d ∈ ds, ∀ r, fol r → f (g d ++ r) = some (d, r)) → ds.length ≤ m → rdT f m (TL.joinL [44] (ds.map g) ++ 41 :: r) = some (ds, r)
  | 0, d :: ds, r, _, _, h => by simp at h
  | _, [], r, h, _, _ => absurd rfl h
  | m + 1, [d], r, _, hf, _ => by
    unfold rdT
    rw [show TL.joinL [44] ([d].map g) = g d from rfl, hf d (by simp) _ (fol_41 r)]
    simp
  | m + 1, d :: d' :: ds, r, _, hf, hl => by
    have ih := rdT_full (m := m) (ds := d' :: ds) (r := r) (by simp) (fun x hx => hf x (List.mem_cons_of_mem _ hx)) (by simp at hl ⊢; omega)
    unfold rdT
    rw [List.map_cons, joinL_cons, if_neg (by simp), List.append_assoc, List.cons_append, hf d (by simp) _ (fol_44 _)]
    rw [List.map_cons] at ih
    simp [ih]
def Prn (M : List Nat) : Prop := ∀ c ∈ M, prC c = true
theorem Prn.app {a b : List Nat} (h : Prn (a ++ b)) : Prn b := fun c hc => h c (List.mem_append_right _ hc)
theorem Prn.tl {a : Nat} {b : List Nat} (h : Prn (a :: b)) : Prn b := fun c hc => h c (List.mem_cons_of_mem _ hc)
theorem dbl_mem (c x : Nat) (l : List Nat) : x ∈ StrLaws.dbl c l ↔ x ∈ l := by
  induction l with
  | nil => simp [StrLaws.dbl]
  | cons a r ih => unfold StrLaws.dbl; split <;> simp [ih]
theorem rdH_sound {n : Nat} {t : List Nat → Option (D × List Nat)} (ht : ∀ r d q, Prn r → t r = some (d, q) → Pv n d ∧ 40 :: r = tx n d ++ q) {M : List Nat} {d : D} {q : List Nat} (hM : Prn M) (h : rdH t M = some (d, q)) : Pv n d ∧ M = tx n d ++ q := by
  have dec : ∀ c, M.head? = some c → M = c :: M.tail := fun c hc => by
    cases M with
    | nil => simp at hc
    | cons a r => simp at hc; rw [hc]; rfl
  unfold rdH at h
  split at h
  · rename_i hh; cases h; exact ⟨by simp, by simpa using dec _ hh⟩
  · split at h
    · rename_i hh
      obtain ⟨⟨z, r⟩, h1, e⟩ := Option.map_eq_some_iff.mp h
      cases e
      obtain ⟨h2, _⟩ := rsL_sound h1
      have e2 := dec _ hh
      rw [h2] at e2
      refine ⟨?_, ?_⟩
      · rw [Pv_str, chs_ofL]
        intro c hc
        refine hM c ?_
        rw [e2]
        exact List.mem_cons_of_mem _ (List.mem_append_left _ ((dbl_mem 39 c z).mpr hc))
      · rw [tx_str, chs_ofL]
        simpa using e2
    · split at h
      · rename_i hh
        have e2 := dec _ hh
        rw [e2] at hM
        obtain ⟨h1, h2⟩ := ht _ _ _ hM.tl h
        exact ⟨h1, by rw [← h2]; exact e2⟩
      · obtain ⟨i, rfl, h1, h2⟩ := rdI_sound h
        exact ⟨by rw [Pv_int]; exact h1, by rw [tx_int]; exact h2⟩
theorem rd_sound : ∀ {n : Nat} {M : List Nat} {d : D} {q : List Nat}, Prn M → rd n M = some (d, q) → Pv n d ∧ M = tx n d ++ q
  | 0, M, d, q, hM, h => rdH_sound (fun _ _ _ _ e => by simp at e) hM h
  | n + 1, M, d, q, hM, h => rdH_sound (fun r d q hr e => by
      split at e
      · rename_i hh; cases e
        refine ⟨by simp, ?_⟩
        cases r with
        | nil => simp at hh
        | cons a r => simp at hh; subst hh; simp [TL.joinL]
      · obtain ⟨⟨ds, r'⟩, h1, e2⟩ := Option.map_eq_some_iff.mp e
        cases e2
        obtain ⟨_, h3, h4⟩ := rdT_sound (Q := Pv n) (g := tx n) (C := Prn) (fun a b => Prn.app) (fun a b => Prn.tl) (fun M d r c => rd_sound c) hr h1
        exact ⟨h3, by rw [h4, tx_tup]; simp⟩) hM h
theorem tx_len_pos {n : Nat} {d : D} (h : Pv n d) : 0 < (tx n d).length := by
  obtain ⟨c, l, e, _⟩ := tx_head h
  rw [e]; simp
theorem joinL_len {g : D → List Nat} : ∀ {ds : List D}, (∀ d ∈ ds, 0 < (g d).length) → ds.length ≤ (TL.joinL [44] (ds.map g)).length
  | [], _ => Nat.le_refl _
  | [d], h => h d (by simp)
  | d :: d' :: ds, h => by
    have ih := joinL_len (ds := d' :: ds) fun x hx => h x (List.mem_cons_of_mem _ hx)
    have h1 := h d (by simp)
    rw [List.map_cons, joinL_cons, if_neg (by simp), List.length_append, List.length_cons]
    simp only [List.length_cons] at ih ⊢
    omega
theorem rd_full : ∀ {n : Nat} {d : D} {r : List Nat}, Pv n d → fol r → rd n (tx n d ++ r) = some (d, r) := by
  have base : ∀ (n : Nat) (t : List Nat → Option (D × List Nat)) (d : D) (r : List Nat), Pv n d → fol r → (∀ ds, d = .tup ds → t ((tx n d).tail ++ r) = some (d, r)) → rdH t (tx n d ++ r) = some (d, r) := by
    intro n t d r h hr ht
    rcases Pv_cases h with rfl | ⟨i, rfl, hi⟩ | ⟨z, rfl, hz⟩ | ⟨k, ds, rfl, rfl, hd⟩
    · simp [rdH]
    · obtain ⟨c, l, e, h1, h2, h3, h4⟩ := txI_head i
      have := rdI_full hi hr
      rw [tx_int]
      unfold rdH
      rw [e] at this ⊢
      simp only [List.cons_append, List.head?_cons, Option.some.injEq, h1, h2, h3, if_false] at this ⊢
      exact this
    · have hh : r.head? ≠ some 39 := fun e => by rcases hr _ e with h | h <;> cases h
      have := rsL_full (z := chs z) hh
      rw [tx_str]
      unfold rdH
      simp [this, ofL_chs]
    · have h1 := ht ds rfl
      rw [tx_tup] at h1 ⊢
      unfold rdH
      simpa using h1
  intro n
  induction n with
  | zero =>
    intro d r h hr
    exact base 0 _ d r h hr fun ds e => by subst e; exact absurd h (by simp [Pv])
  | succ n ih =>
    intro d r h hr
    refine base (n + 1) _ d r h hr fun ds e => ?_
    subst e
    rw [Pv_tup] at h
    rw [tx_tup, List.tail_cons]
    cases ds with
    | nil => simp [TL.joinL]
    | cons d ds =>
      have hh : ((TL.joinL [44] ((d :: ds).map (tx n)) ++ [41]) ++ r).head? ≠ some 41 := by
        obtain ⟨c, l, e, hc⟩ := tx_head (h d (by simp))
        rw [List.map_cons, joinL_cons, e]
        simpa using hc
      rw [if_neg hh]
      have hl := joinL_len (ds := d :: ds) (g := tx n) fun x hx => tx_len_pos (h x hx)
      have := rdT_full (f := rd n) (g := tx n) (m := ((TL.joinL [44] ((d :: ds).map (tx n)) ++ [41]) ++ r).length + 1) (ds := d :: ds) (r := r) (by simp) (fun x hx r hr => ih (h x hx) hr) (by simp only [List.length_append]; omega)
      rw [show (TL.joinL [44] ((d :: ds).map (tx n)) ++ [41]) ++ r = TL.joinL [44] ((d :: ds).map (tx n)) ++ 41 :: r by simp] at this ⊢
      rw [this]
      rfl
/-- the value of a text -/
def dec (M : List Nat) : Option D := match rd 10 M with
  | some (d, []) => some d
  | _ => none
theorem dec_iff {M : List Nat} (hM : Prn M) (d : D) : dec M = some d ↔ Pv 10 d ∧ M = tx 10 d := by
  unfold dec
  constructor
  · intro h
    split at h
    · rename_i d' e; cases h
      obtain ⟨h1, h2⟩ := rd_sound hM e
      exact ⟨h1, by simpa using h2⟩
    · cases h
  · rintro ⟨h1, rfl⟩
    have := rd_full h1 fol_nil
    rw [List.append_nil] at this
    rw [this]
theorem lq : Str.ofString "'" = ofL [39] := lit1 "'" 39 rfl
theorem lqq : Str.ofString "''" = ofL [39, 39] := litL "''" [39, 39] rfl
theorem lstar : Str.ofString "*" = ofL [42] := lit1 "*" 42 rfl
theorem lopen : Str.ofString "(" = ofL [40] := lit1 "(" 40 rfl
theorem lclose : Str.ofString ")" = ofL [41] := lit1 ")" 41 rfl
theorem lcomma : Str.ofString "," = ofL [44] := lit1 "," 44 rfl
theorem dbl_len (c : Nat) (l : List Nat) : l.length ≤ (StrLaws.dbl c l).length ∧ (StrLaws.dbl c l).length ≤ 2 * l.length := by
  induction l with
  | nil => exact ⟨Nat.le_refl _, Nat.le_refl _⟩
  | cons a r ih => unfold StrLaws.dbl; split <;> simp only [List.length_cons] <;> omega
theorem repl_q (z : Str) : Txt.replace z (ofL [39]) (ofL [39, 39]) = ofL (StrLaws.dbl 39 (chs z)) := replace_dbl z _ _ 39 rfl rfl
theorem log2_small {n : Nat} (h : n < 10 ^ 30) : n.log2 < 1920 := by
  rcases Nat.eq_zero_or_pos n with rfl | hp
  · decide
  · exact (Nat.log2_lt (by omega)).mpr (Nat.lt_trans h (by decide))
theorem joinL_sum : ∀ (ps : List (List Nat)), ps ≠ [] → (TL.joinL [44] ps).length + 1 = (ps.map (·.length)).sum + ps.length
  | [], h => absurd rfl h
  | [p], _ => by simp [TL.joinL]
  | p :: q :: r, _ => by
    have ih := joinL_sum (q :: r) (by simp)
    rw [joinL_cons, if_neg (by simp), List.length_append, List.length_cons]
    simp only [List.map_cons, List.sum_cons, List.length_cons] at ih ⊢
    omega
theorem joinL_ge {ps : List (List Nat)} {p : List Nat} (h : p ∈ ps) : p.length ≤ (TL.joinL [44] ps).length := by
  have hs := joinL_sum ps (List.ne_nil_of_mem h)
  have : p.length + (ps.length - 1) ≤ (ps.map (·.length)).sum + ps.length - 1 := by
    have h1 : p.length ≤ (ps.map (·.length)).sum := by
      clear hs
      induction ps with
      | nil => simp at h
      | cons a r ih =>
        rcases List.mem_cons.mp h with rfl | h
        · simp
        · have := ih h; simp only [List.map_cons, List.sum_cons]; omega
    have : 0 < ps.length := List.length_pos_of_mem h
    omega
  have : 0 < ps.length := List.length_pos_of_mem h
  omega
theorem prin_str (z : Str) (S : Store) (h : ∀ c ∈ chs z, prC c = true) : V_is_printable [.str z] S = .ok (.bl true) S := by
  obtain ⟨y', e⟩ := prin_scan S (some (.str z)) z.cps.toList none
  rw [List.all_eq_true.mpr h] at e
  simp (config := { implicitDefEqProofs := false }) [V_is_printable, m_is_printable, BS.signs, e]
theorem prin_not (z : Str) (S : Store) (h : ¬ ∀ c ∈ chs z, prC c = true) : V_is_printable [.str z] S = .ok (.bl false) S := by
  obtain ⟨y', e⟩ := prin_scan S (some (.str z)) z.cps.toList none
  have h1 : z.cps.toList.all prC = false := by
    cases q : z.cps.toList.all prC
    · rfl
    · exact absurd (List.all_eq_true.mp q) h
  rw [h1] at e
  simp (config := { implicitDefEqProofs := false }) [V_is_printable, m_is_printable, BS.signs, e]
theorem strs_back (ys : List Str) : txtsOf (ys.map D.str) = some ys := by
  induction ys with
  | nil => rfl
  | cons a r ih => show (txtsOf (r.map D.str)).map _ = _; rw [ih]; rfl
theorem join_ofL (ps : List (List Nat)) : Str.join (ofL [44]) (ps.map ofL) = ofL (TL.joinL [44] ps) := by
  refine TL.ext_tl ?_
  rw [TL.tl_join]
  have : (ps.map ofL).map TL.tl = ps := by rw [List.map_map]; simp [Function.comp_def, TL.tl, ofL]
  rw [this]
  rfl
theorem len_ofL2 (a b : List Nat) : (ofL a ++ ofL b).length = a.length + b.length := by rw [ofL_app, ofL_len, List.length_append]
theorem wr_str (R : FM) (z : Str) (k : Nat) (S : Store) (h : ∀ c ∈ chs z, prC c = true) (hl : z.length ≤ 1000000) : den 3 (m__written R) [.str z, .int k] S = .ok (.str (ofL (39 :: (StrLaws.dbl 39 (chs z) ++ [39])))) S := by
  have hp := prin_str z S h
  have hr := repl_q z
  have hd := dbl_len 39 (chs z)
  rw [chs_len] at hd
  have e2 : (ofL [39, 39]).length = 2 := rfl
  have e1 : (ofL [39]).length = 1 := rfl
  have c1 : z.length + (z.length + 1) * 2 ≤ 16777216 := by omega
  have l0 : (ofL (StrLaws.dbl 39 (chs z))).length ≤ 2 * z.length := by rw [ofL_len]; exact hd.2
  have l1 : 1 + (ofL (StrLaws.dbl 39 (chs z))).length ≤ sizeLine := szL' (by omega)
  have l2 : (ofL [39] ++ ofL (StrLaws.dbl 39 (chs z))).length + 1 ≤ sizeLine := szL' (by rw [len_ofL2]; simp only [List.length_singleton]; omega)
  have fin : ofL [39] ++ ofL (StrLaws.dbl 39 (chs z)) ++ ofL [39] = ofL (39 :: (StrLaws.dbl 39 (chs z) ++ [39])) := by rw [ofL_app, ofL_app]; rfl
  simp (config := { implicitDefEqProofs := false }) [m__written, hp, lq, lqq, hr, e1, e2, c1, l1, l2, fin]
theorem wr_int (R : FM) (i : Int) (k : Nat) (S : Store) (h : i.natAbs < 10 ^ 30) : den 3 (m__written R) [.int i, .int k] S = .ok (.str (ofL (txI i))) S := by
  have h1 := int_eq (n := 0) (d := .int i) (by simp) (-(10 ^ 30 - 1)) (10 ^ 30 - 1) S
  have hi : isI (.int i) (-(10 ^ 30 - 1)) (10 ^ 30 - 1) = true := by
    have : i.natAbs < 1000000000000000000000000000000 := h
    simp only [isI, decide_eq_true_eq, Bool.and_eq_true]
    omega
  rw [hi] at h1
  simp (config := { implicitDefEqProofs := false }) at h1
  have h2 := log2_small h
  have h3 : Str.ofString i.repr = ofL (txI i) := (ofL_chs (Str.ofString (toString i))).symm
  simp (config := { implicitDefEqProofs := false }) [m__written, c_GREATEST, h1, h2, h3]
theorem wr_non (R : FM) (k : Nat) (S : Store) : den 3 (m__written R) [.non, .int k] S = .ok (.str (ofL [42])) S := by
  simp (config := { implicitDefEqProofs := false }) [m__written, lstar]
theorem wr_ok : ∀ (j : Nat) {n k : Nat} {d : D}, Pv n d → n < j → k + n ≤ 10 → (tx n d).length ≤ 1000000 → ∀ S, ∃ T, VR__written j [d, .int k] S = .ok (.str (ofL (tx n d))) (S ++ T)
  | 0, n, k, d, _, h, _, _, S => absurd h (Nat.not_lt_zero _)
  | j + 1, n, k, d, hp, hj, hk, hl, S => by
    show ∃ T, den 3 (m__written (VR__written j)) [d, .int k] S = _
    rcases Pv_cases hp with rfl | ⟨i, rfl, hi⟩ | ⟨z, rfl, hz⟩ | ⟨m, ds, rfl, rfl, hd⟩
    · exact ⟨[], by rw [wr_non, List.append_nil, tx_non]⟩
    · exact ⟨[], by rw [wr_int _ _ _ _ hi, List.append_nil, tx_int]⟩
    · rw [tx_str] at hl ⊢
      have hd := dbl_len 39 (chs z)
      rw [chs_len] at hd
      exact ⟨[], by rw [wr_str _ _ _ _ hz (by simp only [List.length_cons, List.length_append] at hl; omega), List.append_nil]⟩
    · rw [tx_tup] at hl ⊢
      simp only [List.length_cons, List.length_append, List.length_nil] at hl
      have hdl : ds.length ≤ (TL.joinL [44] (ds.map (tx m))).length := joinL_len fun x hx => tx_len_pos (hd x hx)
      obtain ⟨B, lc⟩ := lcL_all (G := fun _ => True) (t := .one 2) (e0 := ⟨[some (.tup ds), some (.int k), none], []⟩) (el := mCall (VR__written j) (mCons (mVar 2) (mCons (mBin fAdd (mVar 1) (mC (.int 1))) mNil))) S (fun d => .str (ofL (tx m d))) (ds := ds) (fun _ _ => True.intro) (fun d hx => ⟨[d], rfl, fun acc B => by
        obtain ⟨T, e⟩ := wr_ok j (k := k + 1) (hd d hx) (by omega) (by omega) (by have := joinL_ge (List.mem_map_of_mem (f := tx m) hx); omega) (S ++ .lst acc :: B)
        refine ⟨B ++ T, ?_⟩
        rw [show ((k + 1 : Nat) : Int) = (k : Int) + 1 by omega] at e
        simp (config := { implicitDefEqProofs := false }) [e, LT.ix, setAll]⟩) (szL (by omega))
      have hs : ((ds.map fun d => ofL (tx m d)).map (·.length)).sum + (ds.map fun d => ofL (tx m d)).length * (ofL [44]).length ≤ 16777216 := by
        rw [List.map_map]
        have e1 : ((fun x : Str => x.length) ∘ fun d => ofL (tx m d)) = (fun l : List Nat => l.length) ∘ tx m := by funext d; simp [ofL_len]
        have e3 : (ofL [44]).length = 1 := rfl
        rw [e1, e3, List.length_map, Nat.mul_one, ← List.map_map]
        cases ds with
        | nil => simp
        | cons d ds =>
          have := joinL_sum ((d :: ds).map (tx m)) (by simp)
          rw [List.length_map] at this
          omega
      have hb : txtsOf (ds.map fun d => D.str (ofL (tx m d))) = some (ds.map fun d => ofL (tx m d)) := by
        have := strs_back (ds.map fun d => ofL (tx m d))
        rw [List.map_map] at this
        exact this
      have hj2 : Str.join (ofL [44]) (ds.map fun d => ofL (tx m d)) = ofL (TL.joinL [44] (ds.map (tx m))) := by
        have := join_ofL (ds.map (tx m))
        rw [List.map_map] at this
        exact this
      have hk1 : ¬ (10 : Int) ≤ k := by omega
      have e1 : (ofL [40]).length = 1 := rfl
      have e4 : (ofL [41]).length = 1 := rfl
      generalize TL.joinL [44] (ds.map (tx m)) = J at *
      have l1 : 1 + (ofL J).length ≤ sizeLine := szL' (by rw [ofL_len]; omega)
      have l2 : (ofL [40] ++ ofL J).length + 1 ≤ sizeLine := szL' (by rw [len_ofL2]; simp only [List.length_singleton]; omega)
      have fin : ofL [40] ++ ofL J ++ ofL [41] = ofL (40 :: (J ++ [41])) := by rw [ofL_app, ofL_app]; rfl
      generalize (ds.map fun d => ofL (tx m d)) = ys at *
      generalize (ds.map fun d => D.str (ofL (tx m d))) = zs at *
      refine ⟨.lst zs :: B, ?_⟩
      simp (config := { implicitDefEqProofs := false }) [m__written, lopen, lclose, lcomma, hk1, c_MOST_DEPTH, mLc, mLcX, Ev.wip, lc, lcX_of lc, hb, hs, hj2, e1, e4, l1, l2, fin]
theorem enc_ok {n : Nat} {d : D} (h : Pv n d) (hn : n ≤ 10) (hl : (tx n d).length ≤ 200000) (S : Store) : ∃ T, V_encode [d] S = .ok (.str (ofL (tx n d))) (S ++ T) := by
  obtain ⟨T, e⟩ := wr_ok 16 (k := 0) h (by omega) (by omega) (by omega) S
  have e' : V__written [d, .int 0] S = .ok (.str (ofL (tx n d))) (S ++ T) := e
  have l1 : (ofL (tx n d)).length ≤ sizeLine := szL' (by rw [ofL_len]; omega)
  have l2 : ¬ (200000 : Int) < ((ofL (tx n d)).length : Int) := by rw [ofL_len]; omega
  generalize ofL (tx n d) = t at *
  exact ⟨T, by simp (config := { implicitDefEqProofs := false }) [V_encode, m_encode, e', l1, l2, c_MOST_LENGTH]⟩
inductive Bad : Nat → D → Prop where
  | bl (k : Nat) (b : Bool) : Bad k (.bl b)
  | lst (k : Nat) (ds : List D) : Bad k (.lst ds)
  | int (k : Nat) (i : Int) (h : ¬ i.natAbs < 10 ^ 30) : Bad k (.int i)
  | str (k : Nat) (z : Str) (h : ¬ ∀ c ∈ chs z, prC c = true) : Bad k (.str z)
  | deep (k : Nat) (ds : List D) (h : 10 ≤ k) : Bad k (.tup ds)
  | part (k : Nat) (pre : List D) (d : D) (r : List D) (hk : k < 10) (hp : ∀ x ∈ pre, Pv (9 - k) x ∧ (tx (9 - k) x).length ≤ 1000000) (hl : pre.length ≤ 1000000) (h : Bad (k + 1) d) : Bad k (.tup (pre ++ d :: r))
theorem wr_bad : ∀ (j k : Nat) {d : D}, Bad k d → 11 ≤ j + k → k ≤ 10 → ∀ S, ∃ T, VR__written j [d, .int k] S = .exc 14 [] (S ++ T)
  | 0, k, d, _, h, hk, S => absurd h (by omega)
  | j + 1, k, d, hb, hj, hk, S => by
    show ∃ T, den 3 (m__written (VR__written j)) [d, .int k] S = _
    cases hb with
    | bl k b => exact ⟨[], by simp (config := { implicitDefEqProofs := false }) [m__written, V_is_integer, m_is_integer, c_GREATEST]⟩
    | lst k ds => exact ⟨[], by simp (config := { implicitDefEqProofs := false }) [m__written, V_is_integer, m_is_integer, c_GREATEST]⟩
    | int k i h =>
      have h1 := int_eq (n := 0) (d := .int i) (by simp) (-(10 ^ 30 - 1)) (10 ^ 30 - 1) S
      have hi : isI (.int i) (-(10 ^ 30 - 1)) (10 ^ 30 - 1) = false := by
        have h : ¬ i.natAbs < 1000000000000000000000000000000 := h
        have : ¬ (-(10 ^ 30 - 1) ≤ i ∧ i ≤ 10 ^ 30 - 1) := by omega
        simpa [isI] using this
      rw [hi] at h1
      simp (config := { implicitDefEqProofs := false }) at h1
      exact ⟨[], by simp (config := { implicitDefEqProofs := false }) [m__written, c_GREATEST, h1]⟩
    | str k z h =>
      have hp := prin_not z S h
      exact ⟨[], by simp (config := { implicitDefEqProofs := false }) [m__written, hp]⟩
    | deep k ds h =>
      have hk1 : (10 : Int) ≤ k := by omega
      exact ⟨[], by simp (config := { implicitDefEqProofs := false }) [m__written, hk1, c_MOST_DEPTH]⟩
    | part k pre d r hk hp hl h =>
      obtain ⟨B, lc⟩ := lcL_all (G := fun _ => True) (t := .one 2) (e0 := ⟨[some (.tup (pre ++ d :: r)), some (.int k), none], []⟩) (el := mCall (VR__written j) (mCons (mVar 2) (mCons (mBin fAdd (mVar 1) (mC (.int 1))) mNil))) S (fun d => .str (ofL (tx (9 - k) d))) (ds := pre) (fun _ _ => True.intro) (fun d hx => ⟨[d], rfl, fun acc B => by
        obtain ⟨T, e⟩ := wr_ok j (k := k + 1) (hp d hx).1 (by omega) (by omega) (hp d hx).2 (S ++ .lst acc :: B)
        refine ⟨B ++ T, ?_⟩
        rw [show ((k + 1 : Nat) : Int) = (k : Int) + 1 by omega] at e
        simp (config := { implicitDefEqProofs := false }) [e, LT.ix, setAll]⟩) (szL (by omega))
      obtain ⟨T, e⟩ := wr_bad j (k + 1) h (by omega) (by omega) (S ++ .lst (pre.map fun d => .str (ofL (tx (9 - k) d))) :: B)
      rw [show ((k + 1 : Nat) : Int) = (k : Int) + 1 by omega] at e
      have lx := lcX_exc (r := r) (c := 14) (fs := []) (Se := S ++ .lst (pre.map fun d => .str (ofL (tx (9 - k) d))) :: (B ++ T)) lc True.intro (d := d) (xs := [d]) rfl (by
        generalize (pre.map fun d => D.str (ofL (tx (9 - k) d))) = ws at *
        generalize pre ++ d :: r = ds at *
        simp (config := { implicitDefEqProofs := false }) [mYes, LT.ix, setAll, e])
      have hk1 : ¬ (10 : Int) ≤ k := by omega
      generalize (pre.map fun d => D.str (ofL (tx (9 - k) d))) = ws at *
      generalize pre ++ d :: r = ds at *
      exact ⟨.lst ws :: (B ++ T), by simp (config := { implicitDefEqProofs := false }) [m__written, hk1, c_MOST_DEPTH, lopen, lclose, lcomma, mLcX, Ev.wip, lx]⟩
theorem enc_bad {d : D} (h : Bad 0 d) (S : Store) : ∃ T, V_encode [d] S = .exc 14 [] (S ++ T) := by
  obtain ⟨T, e⟩ := wr_bad 16 0 h (by omega) (by omega) S
  have e' : V__written [d, .int 0] S = .exc 14 [] (S ++ T) := e
  exact ⟨T, by simp (config := { implicitDefEqProofs := false }) [V_encode, m_encode, e']⟩
theorem enc_long {n : Nat} {d : D} (h : Pv n d) (hn : n ≤ 10) (hl : (tx n d).length ≤ 1000000) (h2 : 200000 < (tx n d).length) (S : Store) : ∃ T, V_encode [d] S = .exc 14 [] (S ++ T) := by
  obtain ⟨T, e⟩ := wr_ok 16 (k := 0) h (by omega) (by omega) hl S
  have e' : V__written [d, .int 0] S = .ok (.str (ofL (tx n d))) (S ++ T) := e
  have l1 : (ofL (tx n d)).length ≤ sizeLine := szL' (by rw [ofL_len]; omega)
  have l2 : (200000 : Int) < ((ofL (tx n d)).length : Int) := by rw [ofL_len]; omega
  generalize ofL (tx n d) = t at *
  exact ⟨T, by simp (config := { implicitDefEqProofs := false }) [V_encode, m_encode, e', l1, l2, c_MOST_LENGTH]⟩
def GB (L : Nat) (d : D) : Prop := ∀ k, k ≤ 10 → (Pv (10 - k) d ∧ (tx (10 - k) d).length ≤ L) ∨ Bad k d
def AB (d : D) : Prop := ∀ k, k ≤ 10 → Bad k d
theorem GB.mono {L M : Nat} {d : D} (h : GB L d) (hl : L ≤ M) : GB M d := fun k hk => (h k hk).imp (fun x => ⟨x.1, by omega⟩) id
theorem AB.gb {L : Nat} {d : D} (h : AB d) : GB L d := fun k hk => .inr (h k hk)
/-- the first item without a text, or all have one -/
theorem first_bad {L k : Nat} (hL : L ≤ 1000000) (hk : k < 10) : ∀ (ds : List D), (∀ d ∈ ds, GB L d) → (∀ d ∈ ds, Pv (9 - k) d ∧ (tx (9 - k) d).length ≤ L) ∨ ∃ pre d r, ds = pre ++ d :: r ∧ (∀ x ∈ pre, Pv (9 - k) x ∧ (tx (9 - k) x).length ≤ 1000000) ∧ Bad (k + 1) d
  | [], _ => .inl (by simp)
  | d :: ds, h => by
    rcases h d (by simp) (k + 1) (by omega) with hg | hb
    · rw [show 10 - (k + 1) = 9 - k by omega] at hg
      rcases first_bad hL hk ds (fun x hx => h x (by simp [hx])) with h1 | ⟨pre, d', r, rfl, h2, h3⟩
      · refine .inl fun x hx => ?_
        rcases List.mem_cons.mp hx with rfl | hx
        · exact hg
        · exact h1 x hx
      · refine .inr ⟨d :: pre, d', r, rfl, fun x hx => ?_, h3⟩
        rcases List.mem_cons.mp hx with rfl | hx
        · exact ⟨hg.1, by omega⟩
        · exact h2 x hx
    · exact .inr ⟨[], d, ds, rfl, by simp, hb⟩
theorem GB.tup {L M : Nat} {ds : List D} (hL : L ≤ 1000000) (hd : ds.length ≤ 1000000) (h : ∀ d ∈ ds, GB L d) (hM : ∀ n, (∀ d ∈ ds, Pv n d ∧ (tx n d).length ≤ L) → (tx (n + 1) (.tup ds)).length ≤ M) : GB M (.tup ds) := by
  intro k hk
  by_cases h10 : k = 10
  · exact .inr (.deep k ds (by omega))
  · rcases first_bad (k := k) hL (by omega) ds h with h1 | ⟨pre, d, r, rfl, h2, h3⟩
    · left
      have := hM (9 - k) h1
      rw [show 10 - k = (9 - k) + 1 by omega]
      exact ⟨fun d hd => (h1 d hd).1, this⟩
    · exact .inr (.part k pre d r (by omega) h2 (by simp at hd; omega) h3)
theorem AB.tup {L : Nat} {pre : List D} {d : D} {r : List D} (hL : L ≤ 1000000) (hd : pre.length ≤ 1000000) (h : ∀ d ∈ pre, GB L d) (hb : AB d) : AB (.tup (pre ++ d :: r)) := by
  intro k hk
  by_cases h10 : k = 10
  · exact .deep k _ (by omega)
  · rcases first_bad (k := k) hL (by omega) pre h with h1 | ⟨pre', d', r', rfl, h2, h3⟩
    · exact .part k pre d r (by omega) (fun x hx => ⟨(h1 x hx).1, by have := (h1 x hx).2; omega⟩) hd (hb (k + 1) (by omega))
    · rw [List.append_assoc, List.cons_append]
      exact .part k pre' d' _ (by omega) h2 (by simp at hd; omega) h3
theorem GB.of_pv : ∀ {n : Nat} {d : D} {L : Nat}, Pv n d → (tx n d).length ≤ L → L ≤ 1000000 → GB L d := by
  intro n
  induction n with
  | zero =>
    intro d L h hl hL k hk
    left
    refine ⟨Pv_mono h (by omega), by rw [tx_mono h (by omega)]; exact hl⟩
  | succ n ih =>
    intro d L h hl hL
    rcases Pv_cases h with rfl | ⟨i, rfl, hi⟩ | ⟨z, rfl, hz⟩ | ⟨m, ds, e, rfl, hd⟩
    · intro k hk; left; exact ⟨by simp, by rw [tx_non] at hl ⊢; exact hl⟩
    · intro k hk; left; exact ⟨by simpa using hi, by rw [tx_int] at hl ⊢; exact hl⟩
    · intro k hk; left; exact ⟨by simpa using hz, by rw [tx_str] at hl ⊢; exact hl⟩
    · cases e
      have hl' := hl
      rw [tx_tup] at hl'
      simp only [List.length_cons, List.length_append, List.length_nil] at hl'
      have hdl : ds.length ≤ (TL.joinL [44] (ds.map (tx n))).length := joinL_len fun x hx => tx_len_pos (hd x hx)
      refine GB.tup hL (by omega) (fun x hx => ih (hd x hx) (by have := joinL_ge (List.mem_map_of_mem (f := tx n) hx); omega) hL) fun q hq => ?_
      have e1 : tx (q + 1) (.tup ds) = tx (n + 1) (.tup ds) := by
        have h2 : Pv (q + 1) (.tup ds) := fun d hd => (hq d hd).1
        rcases Nat.le_total q n with hqn | hqn
        · exact (tx_mono h2 (by omega)).symm
        · exact tx_mono h (by omega)
      rw [e1]
      exact hl
end L_k03
namespace L_k03
open PySem PySem.Spec PyProof.Rows L2 BS
def rich (c k : Int) : Int := if 1000000000000000000 ≤ c then c else (c * 48271 + k * 69621 + 11) % 2147483647 * 2147483629 + ((c * 48271 + k * 69621 + 11) % 2147483647 * 16807 + c) % 2147483629
theorem rich_eq (c k : Int) (S : Store) : V__law_rich [.int c, .int k] S = .ok (.int (rich c k)) S := by
  have h1 : -18446744073709551616 < (c * 48271 + k * 69621 + 11) % 2147483647 := by omega
  have h2 : (c * 48271 + k * 69621 + 11) % 2147483647 < 18446744073709551616 := by omega
  by_cases q : (1000000000000000000 : Int) ≤ c <;>
  simp [V__law_rich, m__law_rich, rich, h1, h2, q]
def cell (ns : List Int) (k : Nat) : Int := ns.getD k 0
theorem cell_eq (ns : List Int) (k : Nat) (S : Store) : V__law_cell [.scr (ns.map .int), .int k] S = .ok (.int (cell ns k)) S := by
  by_cases h : k < ns.length
  · have h1 : (k : Int) < ns.length := by omega
    simp [V__law_cell, m__law_cell, h, h1, cell, List.getElem?_eq_getElem h]
  · have h1 : ¬ (k : Int) < ns.length := by omega
    simp [V__law_cell, m__law_cell, h, h1, cell, List.getElem?_eq_none (Nat.le_of_not_lt h)]
theorem word_loop (S : Store) (L : Str) (h0 : 0 < L.length) (h1 : L.length ≤ 1000) (n? sd : Option D) : ∀ (n : Nat) (lo : Int) (z : Str) (r : Int) (x5 : Option D), z.length + n ≤ 1000 → ∃ (r' : Int) (x' : Option D),
    forL (fun _ => True) (gNm 5) lb__law_word_0 (BS.intsFrom lo n) ⟨[n?, some (.str L), sd, some (.str z), some (.int r), x5], []⟩ S = .nx ⟨[n?, some (.str L), sd, some (.str (wordF L n z r)), some (.int r'), x'], []⟩ S
  | 0, lo, z, r, x5, hz => ⟨r, x5, by rw [BS.intsFrom, forL_nil]; rfl⟩
  | n + 1, lo, z, r, x5, hz => by
    have hc := ix_word S r h0 (by omega : L.length ≤ 1000000)
    have hl1 : z.length + 1 ≤ sizeLine := szL (by omega)
    have hl2 : L.length ≤ sizeLine := szL (by omega)
    have hp : (0 : Int) < L.length := by omega
    have hb : (L.length : Int) < 1073741824 := by omega
    have step : (gNm 5 (.int lo) ⟨[n?, some (.str L), sd, some (.str z), some (.int r), x5], []⟩ S).seq lb__law_word_0 = .nx ⟨[n?, some (.str L), sd, some (.str (z ++ ⟨#[L.cps.toList.getD (r % L.length).toNat 0]⟩)), some (.int (r / L.length)), some (.int lo)], []⟩ S := by
      generalize L.cps.toList.getD (r % L.length).toNat 0 = c at *
      simp [lb__law_word_0, hc, hl1, hl2, h0, hp, hb]
    have e : (z ++ (⟨#[L.cps.toList.getD (r % L.length).toNat 0]⟩ : Str)).length = z.length + 1 := by rw [Str.length_append]; rfl
    obtain ⟨r', x', q⟩ := word_loop S L h0 h1 n? sd n (lo + 1) (z ++ ⟨#[L.cps.toList.getD (r % L.length).toNat 0]⟩) (r / L.length) (some (.int lo)) (by omega)
    refine ⟨r', x', ?_⟩
    rw [BS.intsFrom, forL_cons, step, RS.loop_nx]
    exact q
theorem word_eq (S : Store) (L : Str) (h0 : 0 < L.length) (h1 : L.length ≤ 1000) (n : Int) (hn : 0 ≤ n) (hn2 : n ≤ 100) (sd : Int) : V__law_word [.int n, .str L, .int sd] S = .ok (.str (wordF L n.toNat "" sd)) S := by
  obtain ⟨r', x', q⟩ := word_loop S L h0 h1 (some (.int n)) (some (.int sd)) n.toNat 0 "" sd none (by show 0 + n.toNat ≤ 1000; omega)
  have hr : rngOk n := by unfold rngOk; constructor <;> omega
  generalize wordF L n.toNat "" sd = z at *
  have it := iRng1 (as := mCons (mVar 0) mNil) (e := ⟨[some (.int n), some (.str L), some (.int sd), some (.str ""), some (.int sd), none], []⟩) (S := S) (S' := S) (j := n) (by simp) hr
  have b : m__law_word ⟨[some (.int n), some (.str L), some (.int sd), none, none, none], []⟩ S = .rt (.str z) S := by
    unfold m__law_word
    simp (config := { implicitDefEqProofs := false }) only [mSeq_ev, mSet_ev, mC_ev, mCall_ev, mCons_ev, mNil_ev, mVar_ev, R.bind_ok, R.toS_ok, Ev.set_sl, List.set_cons_zero, List.set_cons_succ, RS.seq_nx, fnInt_ev, mFor_ev, it, q, mRet_ev, List.getElem?_cons_succ, List.getElem?_cons_zero]
  have e1 : (List.map some [D.int n, .str L, .int sd] ++ List.replicate (6 - [D.int n, .str L, .int sd].length) none) = [some (.int n), some (.str L), some (.int sd), none, none, none] := rfl
  rw [V__law_word, den_app, e1, b]
theorem wordF_len0 (L : Str) (n : Nat) (r : Int) : (wordF L n "" r).length = n := by rw [wordF_len]; show 0 + n = n; omega
theorem LL_in (n : Nat) (r : Int) : (wordF LL n "" r).cps.toList.all inL = true := by
  rw [List.all_eq_true]
  intro c hc
  exact decide_eq_true (wordF_in LL (by rw [LL_len]; decide) n "" r (by intro c h; rw [emp_cps] at h; exact absurd h (by simp)) c hc)
theorem LL_isB (n : Nat) (r : Int) (h : n ≤ 8) : isB (.str (wordF LL n "" r)) = true := by
  show (decide (_) && _) = true
  rw [LL_in, wordF_len0]; simp [h]
theorem LL_isK (n : Nat) (r : Int) (h : n ≤ 8) (h0 : 1 ≤ n) : isK (.str (wordF LL n "" r)) = true := by
  unfold isK
  have ne : wordF LL n "" r ≠ Str.ofString "" := fun z => by
    have := wordF_len0 LL n r
    rw [z] at this
    have e : (Str.ofString "").length = 0 := rfl
    omega
  simp [LL_isB n r h, ne]
theorem at_mod {α : Type} (xs : List α) (r : Int) (n : Int) (hn : (xs.length : Int) = n) (h0 : 0 < n) : ∃ x ∈ xs, atI xs (r % n) = some x :=
  atI_in (Int.emod_nonneg _ (by omega)) (by rw [hn]; exact Int.emod_lt_of_pos _ h0)
theorem itM (M : Int) (h1 : 1 ≤ M) (h2 : M ≤ 1000) (ns : List Int) (e : Ev) (he : e.sl[0]? = some (some (.scr (ns.map .int)))) (S : Store) : ∃ n : Nat, (n : Int) ≤ M ∧ iRng (mCons (mCall fnMax2 (mCons (mC (.int 1)) (mCons (mCall fnMin2 (mCons (mC (.int M)) (mCons (mCall fnLen (mCons (mVar 0) mNil)) mNil))) mNil))) mNil) e S = .ok ⟨BS.intsFrom 0 n, fun _ => True⟩ S := by
  obtain ⟨n, hN, h20⟩ : ∃ n : Nat, (if (1 : Int) < (if (ns.length : Int) < M then (ns.length : Int) else M) then (if (ns.length : Int) < M then (ns.length : Int) else M) else 1) = n ∧ (n : Int) ≤ M := by
    by_cases h1 : (ns.length : Int) < M
    · rw [if_pos h1]
      by_cases h2 : (1 : Int) < ns.length
      · exact ⟨ns.length, if_pos h2, by omega⟩
      · exact ⟨1, if_neg h2, by omega⟩
    · rw [if_neg h1]
      by_cases h2 : (1 : Int) < M
      · exact ⟨M.toNat, by rw [if_pos h2]; omega, by omega⟩
      · exact ⟨1, if_neg h2, by omega⟩
  refine ⟨n, h20, ?_⟩
  have it := iRng1 (as := mCons (mCall fnMax2 (mCons (mC (.int 1)) (mCons (mCall fnMin2 (mCons (mC (.int M)) (mCons (mCall fnLen (mCons (mVar 0) mNil)) mNil))) mNil))) mNil) (e := e) (S := S) (S' := S) (j := n) (by
    simp (config := { implicitDefEqProofs := false }) [he, hN]) (rng_ok (by omega))
  rw [Int.toNat_natCast] at it
  exact it
theorem fold_flat : ∀ (l : List (Array Nat)) (acc : Array Nat), (l.foldl (· ++ ·) acc).toList = acc.toList ++ (l.map (·.toList)).flatten
  | [], acc => by simp
  | a :: l, acc => by rw [List.foldl_cons, fold_flat l]; simp
theorem mul_chs (z : Str) (k : Int) : (∀ c ∈ chs (Txt.mul z k), c ∈ chs z) ∧ (chs (Txt.mul z k)).length ≤ k.toNat * (chs z).length := by
  unfold Txt.mul
  by_cases h1 : k < 1
  · rw [if_pos h1]; exact ⟨fun c hc => absurd (show c ∈ ([] : List Nat) from hc) (by simp), Nat.zero_le _⟩
  · rw [if_neg h1]
    by_cases h2 : (k == 1 || z.length == 0) = true
    · rw [if_pos h2]
      refine ⟨fun c hc => hc, ?_⟩
      have : 1 ≤ k.toNat := by omega
      calc (chs z).length = 1 * (chs z).length := by omega
        _ ≤ _ := Nat.mul_le_mul_right _ this
    · rw [if_neg h2]
      have e : chs ⟨(List.replicate k.toNat z.cps).foldl (· ++ ·) #[]⟩ = (List.replicate k.toNat (chs z)).flatten := by
        show ((List.replicate k.toNat z.cps).foldl (· ++ ·) #[]).toList = _
        rw [fold_flat]
        simp
      rw [e]
      refine ⟨fun c hc => ?_, by simp⟩
      obtain ⟨l, hl, hc⟩ := List.mem_flatten.mp hc
      rw [List.eq_of_mem_replicate hl] at hc
      exact hc
theorem mul_prn {z : Str} (h : (chs z).all prC = true) (k : Int) : ∀ c ∈ chs (Txt.mul z k), prC c = true := fun c hc => List.all_eq_true.mp h c ((mul_chs z k).1 c hc)
theorem lt_str (R : FM) (z : Str) (S : Store) (hl : z.length ≤ 1000000) : den 2 (m__law_text R) [.str z] S = .ok (.str (ofL (39 :: (StrLaws.dbl 39 (chs z) ++ [39])))) S := by
  have hr := repl_q z
  have hd := dbl_len 39 (chs z)
  rw [chs_len] at hd
  have e2 : (ofL [39, 39]).length = 2 := rfl
  have e1 : (ofL [39]).length = 1 := rfl
  have c1 : z.length + (z.length + 1) * 2 ≤ 16777216 := by omega
  have l0 : (ofL (StrLaws.dbl 39 (chs z))).length ≤ 2 * z.length := by rw [ofL_len]; exact hd.2
  have l1 : 1 + (ofL (StrLaws.dbl 39 (chs z))).length ≤ sizeLine := szL' (by omega)
  have l2 : (ofL [39] ++ ofL (StrLaws.dbl 39 (chs z))).length + 1 ≤ sizeLine := szL' (by rw [len_ofL2]; simp only [List.length_singleton]; omega)
  have fin : ofL [39] ++ ofL (StrLaws.dbl 39 (chs z)) ++ ofL [39] = ofL (39 :: (StrLaws.dbl 39 (chs z) ++ [39])) := by rw [ofL_app, ofL_app]; rfl
  simp (config := { implicitDefEqProofs := false }) [m__law_text, lq, lqq, hr, e1, e2, c1, l1, l2, fin]
theorem lt_int (R : FM) (i : Int) (S : Store) (h : i.natAbs < 10 ^ 30) : den 2 (m__law_text R) [.int i] S = .ok (.str (ofL (txI i))) S := by
  have h2 := log2_small h
  have h3 : Str.ofString i.repr = ofL (txI i) := (ofL_chs (Str.ofString (toString i))).symm
  simp (config := { implicitDefEqProofs := false }) [m__law_text, h2, h3]
theorem lt_non (R : FM) (S : Store) : den 2 (m__law_text R) [.non] S = .ok (.str (ofL [42])) S := by
  simp (config := { implicitDefEqProofs := false }) [m__law_text, lstar]
theorem lt_ok : ∀ (j : Nat) {n : Nat} {d : D}, Pv n d → n < j → (tx n d).length ≤ 1000000 → ∀ S, ∃ T, VR__law_text j [d] S = .ok (.str (ofL (tx n d))) (S ++ T)
  | 0, n, d, _, h, _, S => absurd h (Nat.not_lt_zero _)
  | j + 1, n, d, hp, hj, hl, S => by
    show ∃ T, den 2 (m__law_text (VR__law_text j)) [d] S = _
    rcases Pv_cases hp with rfl | ⟨i, rfl, hi⟩ | ⟨z, rfl, hz⟩ | ⟨m, ds, rfl, rfl, hd⟩
    · exact ⟨[], by rw [lt_non, List.append_nil, tx_non]⟩
    · exact ⟨[], by rw [lt_int _ _ _ hi, List.append_nil, tx_int]⟩
    · rw [tx_str] at hl ⊢
      have hd := dbl_len 39 (chs z)
      rw [chs_len] at hd
      exact ⟨[], by rw [lt_str _ _ _ (by simp only [List.length_cons, List.length_append] at hl; omega), List.append_nil]⟩
    · rw [tx_tup] at hl ⊢
      simp only [List.length_cons, List.length_append, List.length_nil] at hl
      have hdl : ds.length ≤ (TL.joinL [44] (ds.map (tx m))).length := joinL_len fun x hx => tx_len_pos (hd x hx)
      obtain ⟨B, lc⟩ := lcL_all (G := fun _ => True) (t := .one 1) (e0 := ⟨[some (.tup ds), none], []⟩) (el := mCall (VR__law_text j) (mCons (mVar 1) mNil)) S (fun d => .str (ofL (tx m d))) (ds := ds) (fun _ _ => True.intro) (fun d hx => ⟨[d], rfl, fun acc B => by
        obtain ⟨T, e⟩ := lt_ok j (hd d hx) (by omega) (by have := joinL_ge (List.mem_map_of_mem (f := tx m) hx); omega) (S ++ .lst acc :: B)
        refine ⟨B ++ T, ?_⟩
        simp (config := { implicitDefEqProofs := false }) [e, LT.ix, setAll]⟩) (szL (by omega))
      have hs : ((ds.map fun d => ofL (tx m d)).map (·.length)).sum + (ds.map fun d => ofL (tx m d)).length * (ofL [44]).length ≤ 16777216 := by
        rw [List.map_map]
        have e1 : ((fun x : Str => x.length) ∘ fun d => ofL (tx m d)) = (fun l : List Nat => l.length) ∘ tx m := by funext d; simp [ofL_len]
        have e3 : (ofL [44]).length = 1 := rfl
        rw [e1, e3, List.length_map, Nat.mul_one, ← List.map_map]
        cases ds with
        | nil => simp
        | cons d ds =>
          have := joinL_sum ((d :: ds).map (tx m)) (by simp)
          rw [List.length_map] at this
          omega
      have hb : txtsOf (ds.map fun d => D.str (ofL (tx m d))) = some (ds.map fun d => ofL (tx m d)) := by
        have := strs_back (ds.map fun d => ofL (tx m d))
        rw [List.map_map] at this
        exact this
      have hj2 : Str.join (ofL [44]) (ds.map fun d => ofL (tx m d)) = ofL (TL.joinL [44] (ds.map (tx m))) := by
        have := join_ofL (ds.map (tx m))
        rw [List.map_map] at this
        exact this
      have e1 : (ofL [40]).length = 1 := rfl
      have e4 : (ofL [41]).length = 1 := rfl
      generalize TL.joinL [44] (ds.map (tx m)) = J at *
      have l1 : 1 + (ofL J).length ≤ sizeLine := szL' (by rw [ofL_len]; omega)
      have l2 : (ofL [40] ++ ofL J).length + 1 ≤ sizeLine := szL' (by rw [len_ofL2]; simp only [List.length_singleton]; omega)
      have fin : ofL [40] ++ ofL J ++ ofL [41] = ofL (40 :: (J ++ [41])) := by rw [ofL_app, ofL_app]; rfl
      generalize (ds.map fun d => ofL (tx m d)) = ys at *
      generalize (ds.map fun d => D.str (ofL (tx m d))) = zs at *
      refine ⟨.lst zs :: B, ?_⟩
      simp (config := { implicitDefEqProofs := false }) [m__law_text, lopen, lclose, lcomma, mLc, Ev.wip, lc, hb, hs, hj2, e1, e4, l1, l2, fin]
theorem ltext_ok {d : D} (h : Pv 10 d) (hl : (tx 10 d).length ≤ 1000000) (S : Store) : ∃ T, V__law_text [d] S = .ok (.str (ofL (tx 10 d))) (S ++ T) := lt_ok 16 h (by omega) hl S
def Bd : Nat → Nat
  | 0 => 40
  | n + 1 => 3 * Bd n + 10
theorem Bd_ge (n : Nat) : 40 ≤ Bd n := by
  cases n with
  | zero => exact Nat.le_refl _
  | succ n => have := Bd_ge n; unfold Bd; omega
theorem txI_len {i : Int} (h : i.natAbs < 10 ^ 30) : (txI i).length ≤ 31 := by
  by_cases h0 : 0 ≤ i
  · obtain ⟨n, rfl⟩ := Int.eq_ofNat_of_zero_le h0
    have := TL.numL_len (k := 30) (by decide) (by simpa using h : n < 10 ^ 30)
    rw [txI_nat]; omega
  · obtain ⟨n, rfl⟩ : ∃ n : Nat, i = -(n : Int) := ⟨i.natAbs, by omega⟩
    have := TL.numL_len (k := 30) (by decide) (by simpa using h : n < 10 ^ 30)
    rw [txI_neg n (by omega), List.length_cons]; omega
theorem sum_le_mul (b : Nat) : ∀ (l : List Nat), (∀ x ∈ l, x ≤ b) → l.sum ≤ l.length * b
  | [], _ => by simp
  | a :: r, h => by
    have h1 := h a (by simp)
    have h2 := sum_le_mul b r fun x hx => h x (by simp [hx])
    rw [List.sum_cons, List.length_cons, Nat.add_mul]; omega
theorem tup_len {n : Nat} {ds : List D} {b : Nat} (h : ∀ d ∈ ds, (tx n d).length ≤ b) (hl : ds.length ≤ 3) (hb : 40 ≤ b) : (tx (n + 1) (.tup ds)).length ≤ 3 * b + 10 := by
  rw [tx_tup, List.length_cons, List.length_append, List.length_singleton]
  cases ds with
  | nil => simp [TL.joinL]
  | cons d r =>
    have h1 := joinL_sum ((d :: r).map (tx n)) (by simp)
    have h2 := sum_le_mul b (((d :: r).map (tx n)).map (·.length)) (by
      intro x hx
      rw [List.map_map] at hx
      obtain ⟨y, hy, rfl⟩ := List.mem_map.mp hx
      exact h y hy)
    rw [List.length_map, List.length_map] at h2
    rw [List.length_map] at h1
    have h3 : (d :: r).length * b ≤ 3 * b := Nat.mul_le_mul_right _ hl
    omega
theorem plain_loop (R : FM) (n : Nat) (hR : ∀ q S, ∃ d T, R [.int q, .int n] S = .ok d (S ++ T) ∧ Pv n d ∧ (tx n d).length ≤ Bd n) (x0 x2 x4 : Option D) (rest : Int) (S : Store) :
    ∀ (m : Nat) (lo : Int) (acc : List D) (T : Store) (x6 : Option D), acc.length + m ≤ 1000 → ∃ ds T' x6', forL (fun _ => True) (gNm 6) (lb__law_plain_0 R) (BS.intsFrom lo m) ⟨[x0, some (.int ((n : Int) + 1)), x2, some (.int rest), x4, some (.obj S.length), x6], []⟩ (S ++ .lst acc :: T) = .nx ⟨[x0, some (.int ((n : Int) + 1)), x2, some (.int rest), x4, some (.obj S.length), x6'], []⟩ (S ++ .lst (acc ++ ds) :: T') ∧ ds.length = m ∧ ∀ d ∈ ds, Pv n d ∧ (tx n d).length ≤ Bd n
  | 0, lo, acc, T, x6, _ => ⟨[], T, x6, by rw [BS.intsFrom, forL_nil]; simp, rfl, by simp⟩
  | m + 1, lo, acc, T, x6, ha => by
    obtain ⟨d, T1, e, h1, h2⟩ := hR (rest / 4 + 131 * lo) (S ++ .lst acc :: T)
    obtain ⟨ds, T2, x6', e2, h3, h4⟩ := plain_loop R n hR x0 x2 x4 rest S m (lo + 1) (acc ++ [d]) (T ++ T1) (some (.int lo)) (by rw [List.length_append, List.length_singleton]; omega)
    refine ⟨d :: ds, T2, x6', ?_, by rw [List.length_cons, h3], fun x hx => ?_⟩
    · have hal : acc.length < sizeLine := Nat.lt_of_lt_of_le (by omega : acc.length < 16777216) (szL' (Nat.le_refl _))
      have step : (gNm 6 (.int lo) ⟨[x0, some (.int ((n : Int) + 1)), x2, some (.int rest), x4, some (.obj S.length), x6], []⟩ (S ++ .lst acc :: T)).seq (lb__law_plain_0 R) = .nx ⟨[x0, some (.int ((n : Int) + 1)), x2, some (.int rest), x4, some (.obj S.length), some (.int lo)], []⟩ (S ++ .lst (acc ++ [d]) :: (T ++ T1)) := by
        simp (config := { implicitDefEqProofs := false }) [lb__law_plain_0, e, hal]
      rw [BS.intsFrom, forL_cons, step, RS.loop_nx, e2]
      simp
    · rcases List.mem_cons.mp hx with rfl | hx
      · exact ⟨h1, h2⟩
      · exact h4 x hx
theorem plain_int (rest : Int) : ∃ i : Int, i.natAbs < 10 ^ 30 ∧ ∀ S : Store, fIx S (.lst [.int 0, .int 1, .int (-1), .int 7, .int (-10), .int 999999999999999999999999999999, .int (-999999999999999999999999999999), .int (rest % 1000 - 500)]) (.int (rest / 1000 % 8)) = some (.int i) := by
  obtain ⟨x, hx, e⟩ := at_mod [D.int 0, .int 1, .int (-1), .int 7, .int (-10), .int 999999999999999999999999999999, .int (-999999999999999999999999999999), .int (rest % 1000 - 500)] (rest / 1000) 8 rfl (by decide)
  have : ∃ i : Int, x = .int i ∧ i.natAbs < 10 ^ 30 := by
    simp only [List.mem_cons, List.not_mem_nil, or_false] at hx
    rcases hx with rfl | rfl | rfl | rfl | rfl | rfl | rfl | rfl
    all_goals refine ⟨_, rfl, ?_⟩
    all_goals first | decide | omega
  obtain ⟨i, rfl, hi⟩ := this
  exact ⟨i, hi, fun S => e⟩
def LP : Str := "ab'(),* -0~"
theorem LP_len : LP.length = 11 := by decide +kernel
theorem LP_prn : (chs LP).all prC = true := by decide +kernel
theorem LP_lit : Str.ofString "ab'(),* -0~" = LP := rfl
theorem LP_word (n : Nat) (r : Int) : ∀ c ∈ chs (wordF LP n "" r), prC c = true := fun c hc =>
  List.all_eq_true.mp LP_prn c (wordF_in LP (by rw [LP_len]; decide) n "" r (by intro c h; rw [emp_cps] at h; exact absurd h (by simp)) c hc)
theorem word_len (n : Nat) (r : Int) (h : n ≤ 5) (m : Nat) : (tx m (.str (wordF LP n "" r))).length ≤ 40 := by
  have h1 := dbl_len 39 (chs (wordF LP n "" r))
  rw [chs_len, wordF_len0] at h1
  rw [tx_str, List.length_cons, List.length_append, List.length_singleton]
  omega
theorem plain_ok : ∀ (j n : Nat) (r : Int), n < j → ∀ S, ∃ d T, VR__law_plain j [.int r, .int n] S = .ok d (S ++ T) ∧ Pv n d ∧ (tx n d).length ≤ Bd n
  | 0, n, r, h, S => absurd h (Nat.not_lt_zero _)
  | j + 1, n, r, h, S => by
    have hB := Bd_ge n
    show ∃ d T, den 7 (m__law_plain (VR__law_plain j)) [.int r, .int n] S = _ ∧ _
    by_cases h0 : r % 7 = 0
    · exact ⟨.non, [], by simp (config := { implicitDefEqProofs := false }) [m__law_plain, h0], by simp, by rw [tx_non]; simp; omega⟩
    by_cases h1 : r % 7 = 1
    · obtain ⟨i, hi, e⟩ := plain_int (r / 7)
      refine ⟨.int i, [], ?_, by rw [Pv_int]; exact hi, by rw [tx_int]; have := txI_len hi; omega⟩
      have e' := e S
      simp (config := { implicitDefEqProofs := false }) at e'
      simp (config := { implicitDefEqProofs := false }) [m__law_plain, h1, e']
    have hw := word_eq S LP (by rw [LP_len]; decide) (by rw [LP_len]; decide) (r / 7 % 6) (by omega) (by omega) (r / 7 / 6)
    have aL := LP_lit
    have hwd : ∃ d T, BS.R.ok (D.str (wordF LP (r / 7 % 6).toNat "" (r / 7 / 6))) S = .ok d (S ++ T) ∧ Pv n d ∧ (tx n d).length ≤ Bd n := ⟨_, [], by rw [List.append_nil], by rw [Pv_str]; exact LP_word _ _, Nat.le_trans (word_len _ _ (by omega) n) hB⟩
    generalize hword : wordF LP (r / 7 % 6).toNat "" (r / 7 / 6) = wd at *
    by_cases h2 : r % 7 < 4
    · have e : den 7 (m__law_plain (VR__law_plain j)) [.int r, .int n] S = .ok (.str wd) S := by simp (config := { implicitDefEqProofs := false }) [m__law_plain, h0, h1, h2, aL, hw]
      rw [e]; exact hwd
    cases n with
    | zero =>
      have e : den 7 (m__law_plain (VR__law_plain j)) [.int r, .int ((0 : Nat) : Int)] S = .ok (.str wd) S := by simp (config := { implicitDefEqProofs := false }) [m__law_plain, h0, h1, h2, aL, hw]
      rw [e]; exact hwd
    | succ n =>
      obtain ⟨ds, T, x6, e, hl, hds⟩ := plain_loop (VR__law_plain j) n (fun q S => plain_ok j n q (by omega) S) (some (.int r)) (some (.int (r % 7))) (some (.int (r / 7 % 4))) (r / 7) S (r / 7 % 4).toNat 0 [] [] none (by simp; omega)
      have hr : rngOk (r / 7 % 4) := by unfold rngOk; constructor <;> omega
      have hn1 : ¬ (n : Int) + 1 = 0 := by omega
      rw [List.nil_append] at e
      refine ⟨.tup ds, .lst ds :: T, ?_, by rw [Pv_tup]; exact fun d hd => (hds d hd).1, tup_len (fun d hd => (hds d hd).2) (by omega) (Bd_ge n)⟩
      simp (config := { implicitDefEqProofs := false }) [m__law_plain, h0, h1, h2, hn1, hr, e]
def dpI : Nat → D → Int
  | n + 1, .tup ds => 1 + maxI (0 :: ds.map (dpI n))
  | _, _ => 0
@[simp] theorem dpI_tup (n : Nat) (ds : List D) : dpI (n + 1) (.tup ds) = 1 + maxI (0 :: ds.map (dpI n)) := rfl
@[simp] theorem dpI_non (n : Nat) : dpI n .non = 0 := by cases n <;> rfl
@[simp] theorem dpI_int (n : Nat) (i : Int) : dpI n (.int i) = 0 := by cases n <;> rfl
@[simp] theorem dpI_str (n : Nat) (z : Str) : dpI n (.str z) = 0 := by cases n <;> rfl
theorem dp_iff : ∀ (n : Nat) {d : D}, Pv n d → ∀ m : Nat, dpI n d ≤ m ↔ Pv m d := by
  intro n
  induction n with
  | zero =>
    intro d h m
    have : dpI 0 d = 0 := by cases d <;> rfl
    rw [this]
    exact ⟨fun _ => Pv_mono h (Nat.zero_le m), fun _ => by omega⟩
  | succ n ih =>
    intro d h m
    rcases Pv_cases h with rfl | ⟨i, rfl, hi⟩ | ⟨z, rfl, hz⟩ | ⟨q, ds, e, rfl, hd⟩
    · simp
    · simpa using hi
    · simpa using hz
    · cases e
      obtain ⟨m1, m2⟩ := maxI_ok (ns := 0 :: ds.map (dpI n)) (by simp)
      have p0 := m2 0 (by simp)
      rw [dpI_tup]
      cases m with
      | zero => exact ⟨fun h => by omega, fun h => absurd h (by simp [Pv])⟩
      | succ m =>
        rw [Pv_tup]
        constructor
        · intro hm d hx
          refine (ih (hd d hx) m).mp ?_
          have := m2 (dpI n d) (List.mem_cons_of_mem _ (List.mem_map_of_mem hx))
          omega
        · intro hm
          have : maxI (0 :: ds.map (dpI n)) ≤ m := by
            rcases List.mem_cons.mp m1 with e | e
            · rw [e]; omega
            · obtain ⟨d, hx, e⟩ := List.mem_map.mp e
              rw [← e]
              exact (ih (hd d hx) m).mpr (hm d hx)
          omega
theorem intsOf_map (ls : List Int) : BS.intsOf (ls.map D.int) = some ls := by
  induction ls with
  | nil => rfl
  | cons a r ih => rw [List.map_cons]; show (BS.intsOf (r.map D.int)).map (a :: ·) = _; rw [ih]; rfl
theorem ldep_ok : ∀ (j : Nat) {n : Nat} {d : D}, Pv n d → n < j → (tx n d).length ≤ 1000000 → ∀ S, ∃ T, VR__law_depth j [d] S = .ok (.int (dpI n d)) (S ++ T)
  | 0, n, d, _, h, _, S => absurd h (Nat.not_lt_zero _)
  | j + 1, n, d, hp, hj, hl, S => by
    show ∃ T, den 2 (m__law_depth (VR__law_depth j)) [d] S = _
    rcases Pv_cases hp with rfl | ⟨i, rfl, hi⟩ | ⟨z, rfl, hz⟩ | ⟨m, ds, rfl, rfl, hd⟩
    · exact ⟨[], by simp (config := { implicitDefEqProofs := false }) [m__law_depth]⟩
    · exact ⟨[], by simp (config := { implicitDefEqProofs := false }) [m__law_depth]⟩
    · exact ⟨[], by simp (config := { implicitDefEqProofs := false }) [m__law_depth]⟩
    · rw [tx_tup] at hl
      simp only [List.length_cons, List.length_append, List.length_nil] at hl
      have hdl : ds.length ≤ (TL.joinL [44] (ds.map (tx m))).length := joinL_len fun x hx => tx_len_pos (hd x hx)
      obtain ⟨B, lc⟩ := lcL_all (G := fun _ => True) (t := .one 1) (e0 := ⟨[some (.tup ds), none], []⟩) (el := mCall (VR__law_depth j) (mCons (mVar 1) mNil)) S (fun d => .int (dpI m d)) (ds := ds) (fun _ _ => True.intro) (fun d hx => ⟨[d], rfl, fun acc B => by
        obtain ⟨T, e⟩ := ldep_ok j (hd d hx) (by omega) (by have := joinL_ge (List.mem_map_of_mem (f := tx m) hx); omega) (S ++ .lst acc :: B)
        refine ⟨B ++ T, ?_⟩
        simp (config := { implicitDefEqProofs := false }) [e, LT.ix, setAll]⟩) (szL (by omega))
      have io := intsOf_map (0 :: ds.map (dpI m))
      rw [List.map_cons, List.map_map] at io
      have l1 : 1 + (ds.map fun d => D.int (dpI m d)).length ≤ sizeLine := szL (by rw [List.length_map]; omega)
      change BS.intsOf (D.int 0 :: ds.map fun d => D.int (dpI m d)) = _ at io
      rw [dpI_tup]
      have lp : 0 < (0 :: ds.map (dpI m)).length := by simp
      rw [show (List.map (dpI m) ds) = ds.map (dpI m) from rfl] at io
      refine ⟨.lst (ds.map fun d => .int (dpI m d)) :: B, ?_⟩
      generalize (ds.map fun d => D.int (dpI m d)) = zs at *
      have io' : BS.intsOf (D.int 0 :: zs) = some (0 :: ds.map (dpI m)) := io
      clear io
      generalize (0 :: ds.map (dpI m)) = qs at *
      simp (config := { implicitDefEqProofs := false }) [m__law_depth, mLc, Ev.wip, lc, l1, io', lp]
abbrev refu : D := .tup [.str "refused", .bl true]
theorem out_ok {d v : D} {S S' : Store} (h : V_encode [d] S = .ok v S') : V__law_outcome [d] S = .ok v S' := by simp (config := { implicitDefEqProofs := false }) [V__law_outcome, m__law_outcome, h]
theorem out_bad {d : D} {S S' : Store} (h : V_encode [d] S = .exc 14 [] S') : V__law_outcome [d] S = .ok refu S' := by simp (config := { implicitDefEqProofs := false }) [V__law_outcome, m__law_outcome, h, isX, Ev.exn]
def Ok3 (L n : Nat) (v : D) (p : Bool) : Prop := (p = true ∧ Pv n v ∧ (tx n v).length ≤ L) ∨ (p = false ∧ AB v)
theorem Ok3.wrap {L n : Nat} {v : D} {p : Bool} (h : Ok3 L n v p) : Ok3 (L + 2) (n + 1) (.tup [v]) p := by
  rcases h with ⟨h1, h2, h3⟩ | ⟨h1, h2⟩
  · refine .inl ⟨h1, by simpa using h2, ?_⟩
    rw [tx_tup]; simp [TL.joinL]; omega
  · exact .inr ⟨h1, AB.tup (L := 0) (pre := []) (r := []) (by decide) (by simp) (by simp) h2⟩
theorem Ok3.pair {L n M : Nat} {v w : D} {p : Bool} (h : Ok3 L n v p) (hw : Pv n w) (hl : (tx n w).length ≤ M) : Ok3 (L + M + 3) (n + 1) (.tup [v, w]) p := by
  rcases h with ⟨h1, h2, h3⟩ | ⟨h1, h2⟩
  · refine .inl ⟨h1, ?_, ?_⟩
    · rw [Pv_tup]; intro d hd
      rcases List.mem_cons.mp hd with rfl | hd
      · exact h2
      · rw [List.mem_singleton.mp hd]; exact hw
    · have := joinL_sum ([v, w].map (tx n)) (by simp)
      simp only [List.map_cons, List.map_nil, List.sum_cons, List.sum_nil, List.length_cons, List.length_nil] at this
      rw [tx_tup, List.length_cons, List.length_append, List.length_singleton]
      simp only [List.map_cons, List.map_nil]
      omega
  · exact .inr ⟨h1, AB.tup (L := 0) (pre := []) (r := [w]) (by decide) (by simp) (by simp) h2⟩
theorem Ok3.le {L M n m : Nat} {v : D} {p : Bool} (h : Ok3 L n v p) (hl : L ≤ M) (hn : n ≤ m) : Ok3 M m v p := by
  rcases h with ⟨h1, h2, h3⟩ | ⟨h1, h2⟩
  · exact .inl ⟨h1, Pv_mono h2 hn, by rw [tx_mono h2 hn]; omega⟩
  · exact .inr ⟨h1, h2⟩
theorem odd_ok (r : Int) : ∃ d, AB d ∧ atI [D.bl true, .bl false, .lst [.int 1], .int (10 ^ 30), .int (-10 ^ 30), .str "a\nb", .str "\t", .lst []] (r % 8) = some d := by
  have : r % 8 = 0 ∨ r % 8 = 1 ∨ r % 8 = 2 ∨ r % 8 = 3 ∨ r % 8 = 4 ∨ r % 8 = 5 ∨ r % 8 = 6 ∨ r % 8 = 7 := by omega
  rcases this with h | h | h | h | h | h | h | h <;> rw [h]
  · exact ⟨_, fun k _ => .bl k _, rfl⟩
  · exact ⟨_, fun k _ => .bl k _, rfl⟩
  · exact ⟨_, fun k _ => .lst k _, rfl⟩
  · exact ⟨_, fun k _ => .int k _ (by decide), rfl⟩
  · exact ⟨_, fun k _ => .int k _ (by decide), rfl⟩
  · exact ⟨_, fun k _ => .str k _ (by decide +kernel), rfl⟩
  · exact ⟨_, fun k _ => .str k _ (by decide +kernel), rfl⟩
  · exact ⟨_, fun k _ => .lst k _, rfl⟩
theorem wrap_ok (x0 x1 x2 x4 x5 x7 : Option D) (p : Bool) (S : Store) : ∀ (m : Nat) (lo : Int) (d : D) (n L : Nat) (x6 : Option D), Ok3 L n d p → ∃ d' x6', forL (fun _ => True) (gNm 6) lb_law_0 (BS.intsFrom lo m) ⟨[x0, x1, x2, some d, x4, x5, x6, x7], []⟩ S = .nx ⟨[x0, x1, x2, some d', x4, x5, x6', x7], []⟩ S ∧ Ok3 (L + 2 * m) (n + m) d' p
  | 0, lo, d, n, L, x6, h => ⟨d, x6, by rw [BS.intsFrom, forL_nil], h⟩
  | m + 1, lo, d, n, L, x6, h => by
    have step : (gNm 6 (.int lo) ⟨[x0, x1, x2, some d, x4, x5, x6, x7], []⟩ S).seq lb_law_0 = .nx ⟨[x0, x1, x2, some (.tup [d]), x4, x5, some (.int lo), x7], []⟩ S := by
      simp (config := { implicitDefEqProofs := false }) [lb_law_0]
    obtain ⟨d', x6', e, h1⟩ := wrap_ok x0 x1 x2 x4 x5 x7 p S m (lo + 1) (.tup [d]) (n + 1) (L + 2) (some (.int lo)) h.wrap
    exact ⟨d', x6', by rw [BS.intsFrom, forL_cons, step, RS.loop_nx, e], h1.le (by omega) (by omega)⟩
end L_k03
namespace L_k03
open PySem PySem.Spec PyProof.Rows L2 BS
noncomputable def s_due : SM := (mIfS (mOr (mNot (mTru (mVar 4))) (mBl (mBin fGt (mCall V__law_depth (mCons (mVar 3) mNil)) (mC (.int 10))))) (mSet 7 (mTup (mCons (mC (.str "refused")) (mCons (mC (.bl true)) mNil)))) (mSeq (mSet 7 (mCall V__law_text (mCons (mVar 3) mNil)))
    (mIfS (mBl (mBin fGt (mCall fnLen (mCons (mVar 7) mNil)) (mC (.int 200000)))) (mSet 7 (mTup (mCons (mC (.str "refused")) (mCons (mC (.bl true)) mNil)))) mSkip)))
noncomputable def s_cmp : SM := (mIfS (mBl (mBin fNe (mCall V__law_outcome (mCons (mVar 3) mNil)) (mVar 7))) (mRet (mC (.bl false))) mSkip)
theorem refu_fl : Fl 2 refu := .tup (.cons (.str _) (.cons (.bl _) .nil))
theorem cmp_ok {v due : D} {S S' : Store} {x0 x1 x2 x4 x5 x6 : Option D} {n : Nat} (h : V__law_outcome [v] S = .ok due S') (hf : Fl n due) (hn : n < 100) : s_cmp ⟨[x0, x1, x2, some v, x4, x5, x6, some due], []⟩ S = .nx ⟨[x0, x1, x2, some v, x4, x5, x6, some due], []⟩ S' := by
  have e := eqS_refl S' hf hn
  simp (config := { implicitDefEqProofs := false }) [s_cmp, h, e]
theorem due_ok {v : D} {p : Bool} {L n : Nat} (h : Ok3 L n v p) (hn : n ≤ 17) (hL : L ≤ 900000) (x0 x1 x2 x5 x6 x7 : Option D) (S : Store) :
    ∃ due S', (mSeq s_due s_cmp) ⟨[x0, x1, x2, some v, some (.bl p), x5, x6, x7], []⟩ S = .nx ⟨[x0, x1, x2, some v, some (.bl p), x5, x6, some due], []⟩ S' := by
  rcases h with ⟨rfl, hp, hl⟩ | ⟨rfl, hb⟩
  · obtain ⟨T1, e1⟩ := ldep_ok 20 hp (by omega) (by omega) S
    have e1' : V__law_depth [v] S = .ok (.int (dpI n v)) (S ++ T1) := e1
    by_cases hd : 10 < dpI n v
    · have hb : Bad 0 v := by
        rcases GB.of_pv hp (Nat.le_refl _) (by omega) 0 (by omega) with ⟨h1, _⟩ | h1
        · have := (dp_iff n hp 10).mpr h1
          omega
        · exact h1
      obtain ⟨T2, e2⟩ := enc_bad hb (S ++ T1)
      have s1 : s_due ⟨[x0, x1, x2, some v, some (.bl true), x5, x6, x7], []⟩ S = .nx ⟨[x0, x1, x2, some v, some (.bl true), x5, x6, some refu], []⟩ (S ++ T1) := by
        generalize dpI n v = dd at *
        simp (config := { implicitDefEqProofs := false }) [s_due, e1', hd]
      rw [mSeq_ev, s1, RS.seq_nx]
      exact ⟨refu, _, cmp_ok (out_bad e2) refu_fl (by decide)⟩
    · have h10 : Pv 10 v := (dp_iff n hp 10).mp (by omega)
      have hl10 : (tx 10 v).length ≤ 900000 := by
        rcases Nat.le_total n 10 with q | q
        · rw [tx_mono hp q]; omega
        · rw [← tx_mono h10 q]; omega
      obtain ⟨T2, e2⟩ := ltext_ok h10 (by omega) (S ++ T1)
      by_cases hlen : 200000 < (tx 10 v).length
      · obtain ⟨T3, e3⟩ := enc_long h10 (by omega) (by omega) hlen (S ++ T1 ++ T2)
        have s1 : s_due ⟨[x0, x1, x2, some v, some (.bl true), x5, x6, x7], []⟩ S = .nx ⟨[x0, x1, x2, some v, some (.bl true), x5, x6, some refu], []⟩ (S ++ T1 ++ T2) := by
          have l1 : (ofL (tx 10 v)).length ≤ sizeLine := szL' (by rw [ofL_len]; omega)
          have l2 : (200000 : Int) < ((ofL (tx 10 v)).length : Int) := by rw [ofL_len]; omega
          generalize ofL (tx 10 v) = t at *
          generalize dpI n v = dd at *
          generalize S ++ T1 ++ T2 = S2 at *
          generalize S ++ T1 = S1 at *
          simp (config := { implicitDefEqProofs := false }) [s_due, e1', hd, e2, l1, l2]
        rw [mSeq_ev, s1, RS.seq_nx]
        exact ⟨refu, _, cmp_ok (out_bad e3) refu_fl (by decide)⟩
      · obtain ⟨T3, e3⟩ := enc_ok h10 (by omega) (by omega) (S ++ T1 ++ T2)
        have s1 : s_due ⟨[x0, x1, x2, some v, some (.bl true), x5, x6, x7], []⟩ S = .nx ⟨[x0, x1, x2, some v, some (.bl true), x5, x6, some (.str (ofL (tx 10 v)))], []⟩ (S ++ T1 ++ T2) := by
          have l1 : (ofL (tx 10 v)).length ≤ sizeLine := szL' (by rw [ofL_len]; omega)
          have l2 : ¬ (200000 : Int) < ((ofL (tx 10 v)).length : Int) := by rw [ofL_len]; omega
          generalize ofL (tx 10 v) = t at *
          generalize dpI n v = dd at *
          generalize S ++ T1 ++ T2 = S2 at *
          generalize S ++ T1 = S1 at *
          simp (config := { implicitDefEqProofs := false }) [s_due, e1', hd, e2, l1, l2]
        rw [mSeq_ev, s1, RS.seq_nx]
        exact ⟨_, _, cmp_ok (n := 1) (out_ok e3) (Fl.str _) (by decide)⟩
  · obtain ⟨T2, e2⟩ := enc_bad (hb 0 (by omega)) S
    have s1 : s_due ⟨[x0, x1, x2, some v, some (.bl false), x5, x6, x7], []⟩ S = .nx ⟨[x0, x1, x2, some v, some (.bl false), x5, x6, some refu], []⟩ S := by
      simp (config := { implicitDefEqProofs := false }) [s_due]
    rw [mSeq_ev, s1, RS.seq_nx]
    exact ⟨refu, _, cmp_ok (out_bad e2) refu_fl (by decide)⟩
theorem turn (ns : List Int) (k : Nat) (hk : k ≤ 1000) (x1 x2 x3 x4 x5 x6 x7 : Option D) (S : Store) : ∃ x1' x2' x3' x4' x5' x6' x7' S',
    (gNm 1 (.int k) ⟨[some (.scr (ns.map .int)), x1, x2, x3, x4, x5, x6, x7], []⟩ S).seq lb_law_1 = .nx ⟨[some (.scr (ns.map .int)), x1', x2', x3', x4', x5', x6', x7'], []⟩ S' := by
  have c := fun S => cell_eq ns k S
  have r := fun S => rich_eq (cell ns k) k S
  generalize D.scr (ns.map .int) = x0 at *
  generalize cell ns k = cc at *
  generalize rich cc k = rr at *
  obtain ⟨d, T1, e1, h1, h2⟩ := plain_ok 16 5 rr (by omega) S
  have e1' : V__law_plain [.int rr, .int 5] S = .ok d (S ++ T1) := e1
  have hb : Bd 5 = 10930 := rfl
  rw [hb] at h2
  generalize S ++ T1 = S1 at *
  have t0 : gNm 1 (.int k) ⟨[some x0, x1, x2, x3, x4, x5, x6, x7], []⟩ S = .nx ⟨[some x0, some (.int k), x2, x3, x4, x5, x6, x7], []⟩ S := by simp (config := { implicitDefEqProofs := false })
  have t1 : mSet 2 (mCall V__law_rich (mCons (mCall V__law_cell (mCons (mVar 0) (mCons (mVar 1) mNil))) (mCons (mVar 1) mNil))) ⟨[some x0, some (.int k), x2, x3, x4, x5, x6, x7], []⟩ S = .nx ⟨[some x0, some (.int k), some (.int rr), x3, x4, x5, x6, x7], []⟩ S := by simp (config := { implicitDefEqProofs := false }) [c, r]
  have t2 : mSet 3 (mCall V__law_plain (mCons (mVar 2) (mCons (mC (.int 5)) mNil))) ⟨[some x0, some (.int k), some (.int rr), x3, x4, x5, x6, x7], []⟩ S = .nx ⟨[some x0, some (.int k), some (.int rr), some d, x4, x5, x6, x7], []⟩ S1 := by simp (config := { implicitDefEqProofs := false }) [e1']
  have t3 : mSet 4 (mC (.bl true)) ⟨[some x0, some (.int k), some (.int rr), some d, x4, x5, x6, x7], []⟩ S1 = .nx ⟨[some x0, some (.int k), some (.int rr), some d, some (.bl true), x5, x6, x7], []⟩ S1 := by simp (config := { implicitDefEqProofs := false })
  obtain ⟨v1, p, y5, t4, o1⟩ : ∃ v1 p y5, mIfS (mBl (mBin fEq (mBin fMod (mBin fDiv (mVar 2) (mC (.int 11))) (mC (.int 5))) (mC (.int 0)))) (mSeq (mSet 5 (mLst false (mCons (mC (.bl true)) (mCons (mC (.bl false)) (mCons (mLst false (mCons (mC (.int 1)) mNil)) (mCons (mBin fPow (mC (.int 10)) (mC (.int 30))) (mCons (mUn fNeg (mBin fPow (mC (.int 10)) (mC (.int 30)))) (mCons (mC (.str "a\nb")) (mCons (mC (.str "\t")) (mCons (mLst false mNil) mNil))))))))))
    (mSeq (mSet 3 (mTup (mCons (mVar 3) (mCons (mIx (mVar 5) (mBin fMod (mBin fDiv (mVar 2) (mC (.int 55))) (mC (.int 8)))) mNil))))
    (mSet 4 (mC (.bl false))))) mSkip ⟨[some x0, some (.int k), some (.int rr), some d, some (.bl true), x5, x6, x7], []⟩ S1 = .nx ⟨[some x0, some (.int k), some (.int rr), some v1, some (.bl p), y5, x6, x7], []⟩ S1 ∧ Ok3 10930 5 v1 p := by
    by_cases q : rr / 11 % 5 = 0
    · obtain ⟨o, ho, eo⟩ := odd_ok (rr / 55)
      refine ⟨.tup [d, o], false, some (.lst [D.bl true, .bl false, .lst [.int 1], .int (10 ^ 30), .int (-10 ^ 30), .str "a\nb", .str "\t", .lst []]), ?_, .inr ⟨rfl, AB.tup (L := 10930) (pre := [d]) (r := []) (by decide) (by simp) (by
        intro x hx
        rw [List.mem_singleton.mp hx]
        exact GB.of_pv h1 h2 (by decide)) ho⟩⟩
      simp (config := { implicitDefEqProofs := false }) at eo
      simp (config := { implicitDefEqProofs := false }) [q, eo]
    · exact ⟨d, true, x5, by simp (config := { implicitDefEqProofs := false }) [q], .inl ⟨rfl, h1, h2⟩⟩
  obtain ⟨v2, y6, t5, o2⟩ : ∃ v2 y6, mIfS (mBl (mBin fEq (mBin fMod (mBin fDiv (mVar 2) (mC (.int 13))) (mC (.int 3))) (mC (.int 0)))) (mFor (iRng (mCons (mBin fMod (mBin fDiv (mVar 2) (mC (.int 39))) (mC (.int 11))) mNil)) (gNm 6) lb_law_0) mSkip ⟨[some x0, some (.int k), some (.int rr), some v1, some (.bl p), y5, x6, x7], []⟩ S1 = .nx ⟨[some x0, some (.int k), some (.int rr), some v2, some (.bl p), y5, y6, x7], []⟩ S1 ∧ Ok3 10960 15 v2 p := by
    by_cases q : rr / 13 % 3 = 0
    · obtain ⟨d', x6', e, h3⟩ := wrap_ok (some x0) (some (.int k)) (some (.int rr)) (some (.bl p)) y5 x7 p S1 (rr / 39 % 11).toNat 0 v1 5 10930 x6 o1
      have hr : rngOk (rr / 39 % 11) := by unfold rngOk; constructor <;> omega
      exact ⟨d', x6', by simp (config := { implicitDefEqProofs := false }) [q, hr, e], h3.le (by omega) (by omega)⟩
    · exact ⟨v1, x6, by simp (config := { implicitDefEqProofs := false }) [q], o1.le (by omega) (by omega)⟩
  obtain ⟨v3, t6, o3⟩ : ∃ v3, mIfS (mBl (mBin fEq (mBin fMod (mBin fDiv (mVar 2) (mC (.int 17))) (mC (.int 40))) (mC (.int 0)))) (mSet 3 (mTup (mCons (mVar 3) (mCons (mBin fSmul (mC (.str "x")) (mBin fAdd (mC (.int 199990)) (mBin fMod (mBin fDiv (mVar 2) (mC (.int 680))) (mC (.int 20))))) mNil)))) mSkip ⟨[some x0, some (.int k), some (.int rr), some v2, some (.bl p), y5, y6, x7], []⟩ S1 = .nx ⟨[some x0, some (.int k), some (.int rr), some v3, some (.bl p), y5, y6, x7], []⟩ S1 ∧ Ok3 900000 17 v3 p := by
    by_cases q : rr / 17 % 40 = 0
    · have hz : (Str.ofString "x").length ≤ 16 := by decide
      have m1 : -(2 ^ 63) ≤ 199990 + rr / 680 % 20 := by omega
      have m2 : 199990 + rr / 680 % 20 ≤ 1048576 := by omega
      have mp := mul_prn (z := Str.ofString "x") (by decide +kernel) (199990 + rr / 680 % 20)
      have ml := (mul_chs (Str.ofString "x") (199990 + rr / 680 % 20)).2
      rw [show (chs (Str.ofString "x")).length = 1 from rfl] at ml
      have dl := (dbl_len 39 (chs (Txt.mul (Str.ofString "x") (199990 + rr / 680 % 20)))).2
      refine ⟨.tup [v2, .str (Txt.mul (Str.ofString "x") (199990 + rr / 680 % 20))], ?_, (o2.pair (M := 400100) (by rw [Pv_str]; exact mp) (by
        rw [tx_str, List.length_cons, List.length_append, List.length_singleton]
        omega)).le (by omega) (by omega)⟩
      have fs : fSmul S1 (.str (Str.ofString "x")) (.int (199990 + rr / 680 % 20)) = some (.str (Txt.mul (Str.ofString "x") (199990 + rr / 680 % 20))) := if_pos ⟨hz, m1, m2⟩
      generalize Txt.mul (Str.ofString "x") (199990 + rr / 680 % 20) = zz at *
      simp (config := { implicitDefEqProofs := false }) [q, fs]
    · exact ⟨v2, by simp (config := { implicitDefEqProofs := false }) [q], o2.le (by omega) (by omega)⟩
  obtain ⟨due, S2, t7⟩ := due_ok o3 (by omega) (by omega) (some x0) (some (.int k)) (some (.int rr)) y5 y6 x7 S1
  refine ⟨some (.int k), some (.int rr), some v3, some (.bl p), y5, y6, some due, S2, ?_⟩
  rw [t0, RS.seq_nx]
  unfold lb_law_1
  rw [mSeq_ev, t1, RS.seq_nx, mSeq_ev, t2, RS.seq_nx, mSeq_ev, t3, RS.seq_nx, mSeq_ev, t4, RS.seq_nx, mSeq_ev, t5, RS.seq_nx, mSeq_ev, t6, RS.seq_nx]
  exact t7
theorem law_true : ∀ ns : List Int, ns.length ≤ 63 → ∃ S, V_law [.scr (ns.map .int)] [] = .ok (.bl true) S := by
  intro ns hn
  refine law_of ?_
  show (m_law ⟨[some (.scr (ns.map .int)), none, none, none, none, none, none, none], []⟩ []).ends _ _
  obtain ⟨n, hn2, it⟩ := itM 12 (by decide) (by decide) ns ⟨[some (.scr (ns.map .int)), none, none, none, none, none, none, none], []⟩ rfl []
  unfold m_law
  rw [mSeq_ev, mFor_ev, it, R.toS_ok]
  refine ends_seq (forL_ends (fun k e S' => ∃ x1 x2 x3 x4 x5 x6 x7, e = ⟨[some (.scr (ns.map .int)), x1, x2, x3, x4, x5, x6, x7], []⟩) ⟨none, none, none, none, none, none, none, rfl⟩ (fun _ _ _ _ => True.intro) ?_ ?_)
  · rintro k d e S' hd ⟨x1, x2, x3, x4, x5, x6, x7, rfl⟩
    obtain ⟨hk, rfl⟩ := ints_at hd
    rw [Int.zero_add]
    obtain ⟨y1, y2, y3, y4, y5, y6, y7, S2, e⟩ := turn ns k (by omega) x1 x2 x3 x4 x5 x6 x7 S'
    rw [e, turns_nx]
    exact ⟨_, _, _, _, _, _, _, rfl⟩
  · rintro e S' ⟨x1, x2, x3, x4, x5, x6, x7, rfl⟩
    simp (config := { implicitDefEqProofs := false })
end L_k03
namespace L_k03
open PySem PySem.Spec PyProof.Rows L2 BS
theorem all_mk {P : Program} {w : World} {K : PySem.W.Frag} {h : Heap} {mg : Str → Option Value} {fa : Addr} (hF : ∀ ns : List Int, ns.length ≤ 63 → ∃ S, V_law [.scr (ns.map .int)] [] = .ok (.bl true) S) (X : K.In h) (G : h.Ns mainGlobals mg) (hfa : mg "law" = some (.ref fa))
    {C_TableError : Addr}
    {C_BadText : Addr}
    {tk_PERCENT : Tok}
    {tk_GREATEST : Tok}
    {tk_MOST_DEPTH : Tok}
    {tk_MOST_LENGTH : Tok}
    {f_is_printable : Addr} {od_is_printable an_is_printable : Option Addr} {sl_is_printable : Array (Option Value)} {oc_is_printable kV_is_printable dc_is_printable pm_is_printable cd_is_printable ct_is_printable : Value}
    {f_is_integer : Addr} {od_is_integer an_is_integer : Option Addr} {sl_is_integer : Array (Option Value)} {oc_is_integer kV_is_integer dc_is_integer pm_is_integer cd_is_integer ct_is_integer : Value}
    {f__written : Addr} {od__written an__written : Option Addr} {sl__written : Array (Option Value)} {oc__written kV__written dc__written pm__written cd__written ct__written : Value}
    {f_encode : Addr} {od_encode an_encode : Option Addr} {sl_encode : Array (Option Value)} {oc_encode kV_encode dc_encode pm_encode cd_encode ct_encode : Value}
    {f__law_cell : Addr} {od__law_cell an__law_cell : Option Addr} {sl__law_cell : Array (Option Value)} {oc__law_cell kV__law_cell dc__law_cell pm__law_cell cd__law_cell ct__law_cell : Value}
    {f__law_rich : Addr} {od__law_rich an__law_rich : Option Addr} {sl__law_rich : Array (Option Value)} {oc__law_rich kV__law_rich dc__law_rich pm__law_rich cd__law_rich ct__law_rich : Value}
    {f__law_word : Addr} {od__law_word an__law_word : Option Addr} {sl__law_word : Array (Option Value)} {oc__law_word kV__law_word dc__law_word pm__law_word cd__law_word ct__law_word : Value}
    {f__law_plain : Addr} {od__law_plain an__law_plain : Option Addr} {sl__law_plain : Array (Option Value)} {oc__law_plain kV__law_plain dc__law_plain pm__law_plain cd__law_plain ct__law_plain : Value}
    {f__law_text : Addr} {od__law_text an__law_text : Option Addr} {sl__law_text : Array (Option Value)} {oc__law_text kV__law_text dc__law_text pm__law_text cd__law_text ct__law_text : Value}
    {f__law_depth : Addr} {od__law_depth an__law_depth : Option Addr} {sl__law_depth : Array (Option Value)} {oc__law_depth kV__law_depth dc__law_depth pm__law_depth cd__law_depth ct__law_depth : Value}
    {f__law_outcome : Addr} {od__law_outcome an__law_outcome : Option Addr} {sl__law_outcome : Array (Option Value)} {oc__law_outcome kV__law_outcome dc__law_outcome pm__law_outcome cd__law_outcome ct__law_outcome : Value}
    {f_law : Addr} {od_law an_law : Option Addr} {sl_law : Array (Option Value)} {oc_law kV_law dc_law pm_law cd_law ct_law : Value}
    (aC_TableError : PySem.W.nsIn K mainGlobals "TableError" = some (some (.ref C_TableError)))
    (aC_BadText : PySem.W.nsIn K mainGlobals "BadText" = some (some (.ref C_BadText)))
    (kc_TableError : PySem.W.keepIn K (.ref C_TableError) = true)
    (eC_TableError : PySem.W.subIn K (.ref C_TableError) (.type "BaseException") = some true)
    (tC_TableError : PySem.W.typeIn K (.ref C_TableError) = some (.type "type"))
    (kc_BadText : PySem.W.keepIn K (.ref C_BadText) = true)
    (eC_BadText : PySem.W.subIn K (.ref C_BadText) (.type "BaseException") = some true)
    (tC_BadText : PySem.W.typeIn K (.ref C_BadText) = some (.type "type"))
    (xI_BadText : PySem.W.excIn K C_BadText [.type "ValueError", .type "Exception", .type "BaseException", .type "object"] "ValueError.__new__" = true)
    (ga_BadText : PySem.W.findIn K (.ref C_BadText) "__getattribute__" = some (some (.builtin "BaseException.__getattribute__")))
    (gg_BadText : PySem.W.findIn K (.ref C_BadText) "__getattr__" = some none)
    (hd_BadText : PySem.W.hasDictIn K C_BadText = true)
    (ka_BadText : PySem.W.findIn K (.ref C_BadText) "__class__" = some (some (.builtin "object.__class__")))
    (km_BadText : PySem.W.mroIn K C_BadText (.type "object") = some true)
    (kn_all : PySem.W.specialIn K (.builtin "object.__class__") "__get__" = some (some (.builtin "getset_descriptor.__get__")))
    (kt_all : PySem.W.takesIn K (.builtin "object.__class__") = some true)
    (iC_TableError : PySem.W.isClsIn K C_TableError = true)
    (sC_BadText_TableError : PySem.W.subIn K (.ref C_BadText) (.ref C_TableError) = some true)
    (z_ord : PySem.W.nsIn K mainGlobals "ord" = some none)
    (gc_PERCENT : PySem.W.nsIn K mainGlobals "PERCENT" = some (some (.int 37 tk_PERCENT)))
    (z_isinstance : PySem.W.nsIn K mainGlobals "isinstance" = some none)
    (z_str : PySem.W.nsIn K mainGlobals "str" = some none)
    (z_int : PySem.W.nsIn K mainGlobals "int" = some none)
    (z_bool : PySem.W.nsIn K mainGlobals "bool" = some none)
    (gc_GREATEST : PySem.W.nsIn K mainGlobals "GREATEST" = some (some (.int 999999999999999999999999999999 tk_GREATEST)))
    (z_tuple : PySem.W.nsIn K mainGlobals "tuple" = some none)
    (gc_MOST_DEPTH : PySem.W.nsIn K mainGlobals "MOST_DEPTH" = some (some (.int 10 tk_MOST_DEPTH)))
    (z_len : PySem.W.nsIn K mainGlobals "len" = some none)
    (gc_MOST_LENGTH : PySem.W.nsIn K mainGlobals "MOST_LENGTH" = some (some (.int 200000 tk_MOST_LENGTH)))
    (z_range : PySem.W.nsIn K mainGlobals "range" = some none)
    (z_max : PySem.W.nsIn K mainGlobals "max" = some none)
    (z_min : PySem.W.nsIn K mainGlobals "min" = some none)
    (a_is_printable : PySem.W.nsIn K mainGlobals "is_printable" = some (some (.ref f_is_printable)))
    (l_is_printable : K.lookup f_is_printable = some ⟨oc_is_printable, od_is_printable, .func (PySem.W.fnOf "is_printable" "is_printable" (defArgs s_is_printable) (defBody s_is_printable) (defScope s_is_printable) .none kV_is_printable dc_is_printable pm_is_printable an_is_printable cd_is_printable ct_is_printable), sl_is_printable⟩)
    (c_is_printable : PySem.W.codeIn K cd_is_printable "is_printable" = true)
    (k_is_printable : PySem.W.keepIn K (.ref f_is_printable) = true)
    (a_is_integer : PySem.W.nsIn K mainGlobals "is_integer" = some (some (.ref f_is_integer)))
    (l_is_integer : K.lookup f_is_integer = some ⟨oc_is_integer, od_is_integer, .func (PySem.W.fnOf "is_integer" "is_integer" (defArgs s_is_integer) (defBody s_is_integer) (defScope s_is_integer) .none kV_is_integer dc_is_integer pm_is_integer an_is_integer cd_is_integer ct_is_integer), sl_is_integer⟩)
    (c_is_integer : PySem.W.codeIn K cd_is_integer "is_integer" = true)
    (k_is_integer : PySem.W.keepIn K (.ref f_is_integer) = true)
    (a__written : PySem.W.nsIn K mainGlobals "_written" = some (some (.ref f__written)))
    (l__written : K.lookup f__written = some ⟨oc__written, od__written, .func (PySem.W.fnOf "_written" "_written" (defArgs s__written) (defBody s__written) (defScope s__written) .none kV__written dc__written pm__written an__written cd__written ct__written), sl__written⟩)
    (c__written : PySem.W.codeIn K cd__written "_written" = true)
    (k__written : PySem.W.keepIn K (.ref f__written) = true)
    (a_encode : PySem.W.nsIn K mainGlobals "encode" = some (some (.ref f_encode)))
    (l_encode : K.lookup f_encode = some ⟨oc_encode, od_encode, .func (PySem.W.fnOf "encode" "encode" (defArgs s_encode) (defBody s_encode) (defScope s_encode) .none kV_encode dc_encode pm_encode an_encode cd_encode ct_encode), sl_encode⟩)
    (c_encode : PySem.W.codeIn K cd_encode "encode" = true)
    (k_encode : PySem.W.keepIn K (.ref f_encode) = true)
    (a__law_cell : PySem.W.nsIn K mainGlobals "_law_cell" = some (some (.ref f__law_cell)))
    (l__law_cell : K.lookup f__law_cell = some ⟨oc__law_cell, od__law_cell, .func (PySem.W.fnOf "_law_cell" "_law_cell" (defArgs s__law_cell) (defBody s__law_cell) (defScope s__law_cell) .none kV__law_cell dc__law_cell pm__law_cell an__law_cell cd__law_cell ct__law_cell), sl__law_cell⟩)
    (c__law_cell : PySem.W.codeIn K cd__law_cell "_law_cell" = true)
    (k__law_cell : PySem.W.keepIn K (.ref f__law_cell) = true)
    (a__law_rich : PySem.W.nsIn K mainGlobals "_law_rich" = some (some (.ref f__law_rich)))
    (l__law_rich : K.lookup f__law_rich = some ⟨oc__law_rich, od__law_rich, .func (PySem.W.fnOf "_law_rich" "_law_rich" (defArgs s__law_rich) (defBody s__law_rich) (defScope s__law_rich) .none kV__law_rich dc__law_rich pm__law_rich an__law_rich cd__law_rich ct__law_rich), sl__law_rich⟩)
    (c__law_rich : PySem.W.codeIn K cd__law_rich "_law_rich" = true)
    (k__law_rich : PySem.W.keepIn K (.ref f__law_rich) = true)
    (a__law_word : PySem.W.nsIn K mainGlobals "_law_word" = some (some (.ref f__law_word)))
    (l__law_word : K.lookup f__law_word = some ⟨oc__law_word, od__law_word, .func (PySem.W.fnOf "_law_word" "_law_word" (defArgs s__law_word) (defBody s__law_word) (defScope s__law_word) .none kV__law_word dc__law_word pm__law_word an__law_word cd__law_word ct__law_word), sl__law_word⟩)
    (c__law_word : PySem.W.codeIn K cd__law_word "_law_word" = true)
    (k__law_word : PySem.W.keepIn K (.ref f__law_word) = true)
    (a__law_plain : PySem.W.nsIn K mainGlobals "_law_plain" = some (some (.ref f__law_plain)))
    (l__law_plain : K.lookup f__law_plain = some ⟨oc__law_plain, od__law_plain, .func (PySem.W.fnOf "_law_plain" "_law_plain" (defArgs s__law_plain) (defBody s__law_plain) (defScope s__law_plain) .none kV__law_plain dc__law_plain pm__law_plain an__law_plain cd__law_plain ct__law_plain), sl__law_plain⟩)
    (c__law_plain : PySem.W.codeIn K cd__law_plain "_law_plain" = true)
    (k__law_plain : PySem.W.keepIn K (.ref f__law_plain) = true)
    (a__law_text : PySem.W.nsIn K mainGlobals "_law_text" = some (some (.ref f__law_text)))
    (l__law_text : K.lookup f__law_text = some ⟨oc__law_text, od__law_text, .func (PySem.W.fnOf "_law_text" "_law_text" (defArgs s__law_text) (defBody s__law_text) (defScope s__law_text) .none kV__law_text dc__law_text pm__law_text an__law_text cd__law_text ct__law_text), sl__law_text⟩)
    (c__law_text : PySem.W.codeIn K cd__law_text "_law_text" = true)
    (k__law_text : PySem.W.keepIn K (.ref f__law_text) = true)
    (a__law_depth : PySem.W.nsIn K mainGlobals "_law_depth" = some (some (.ref f__law_depth)))
    (l__law_depth : K.lookup f__law_depth = some ⟨oc__law_depth, od__law_depth, .func (PySem.W.fnOf "_law_depth" "_law_depth" (defArgs s__law_depth) (defBody s__law_depth) (defScope s__law_depth) .none kV__law_depth dc__law_depth pm__law_depth an__law_depth cd__law_depth ct__law_depth), sl__law_depth⟩)
    (c__law_depth : PySem.W.codeIn K cd__law_depth "_law_depth" = true)
    (k__law_depth : PySem.W.keepIn K (.ref f__law_depth) = true)
    (a__law_outcome : PySem.W.nsIn K mainGlobals "_law_outcome" = some (some (.ref f__law_outcome)))
    (l__law_outcome : K.lookup f__law_outcome = some ⟨oc__law_outcome, od__law_outcome, .func (PySem.W.fnOf "_law_outcome" "_law_outcome" (defArgs s__law_outcome) (defBody s__law_outcome) (defScope s__law_outcome) .none kV__law_outcome dc__law_outcome pm__law_outcome an__law_outcome cd__law_outcome ct__law_outcome), sl__law_outcome⟩)
    (c__law_outcome : PySem.W.codeIn K cd__law_outcome "_law_outcome" = true)
    (k__law_outcome : PySem.W.keepIn K (.ref f__law_outcome) = true)
    (a_law : PySem.W.nsIn K mainGlobals "law" = some (some (.ref f_law)))
    (l_law : K.lookup f_law = some ⟨oc_law, od_law, .func (PySem.W.fnOf "law" "law" (defArgs s_law) (defBody s_law) (defScope s_law) .none kV_law dc_law pm_law an_law cd_law ct_law), sl_law⟩)
    (c_law : PySem.W.codeIn K cd_law "law" = true)
    (k_law : PySem.W.keepIn K (.ref f_law) = true)
    : ∃ fd : FuncData, (∀ (s : Shared) (u : Value), BindsTo s fd ⟨[u], []⟩ [("_law_script", u)]) ∧ ∀ base : Heap, K.In base → base.Ns mainGlobals mg → FnOk P w K mg base (L2.CX P w) 21 fa fd ["_law_script"] (spLaw K) := by
  have e := hfa.symm.trans (PySem.W.mg_of X G a_law)
  cases e
  refine ⟨PySem.W.fnOf "law" "law" (defArgs s_law) (defBody s_law) (defScope s_law) .none kV_law dc_law pm_law an_law cd_law ct_law, fun s u => .of_eq rfl, fun base _ _ => ?_⟩
  have gC_TableError : mg "TableError" = some (.ref C_TableError) := PySem.W.mg_of X G aC_TableError
  have gC_BadText : mg "BadText" = some (.ref C_BadText) := PySem.W.mg_of X G aC_BadText
  have F_is_printable := fun_mk (st := s_is_printable) l_is_printable c_is_printable k_is_printable
  have b_is_printable := F_is_printable.binds (ps := ["value"]) fun _ _ _ _ _ _ us hl => match us, hl with | [_], _ => rfl
  have F_is_integer := fun_mk (st := s_is_integer) l_is_integer c_is_integer k_is_integer
  have b_is_integer := F_is_integer.binds (ps := ["value", "least", "greatest"]) fun _ _ _ _ _ _ us hl => match us, hl with | [_, _, _], _ => rfl
  have F__written := fun_mk (st := s__written) l__written c__written k__written
  have b__written := F__written.binds (ps := ["value", "depth"]) fun _ _ _ _ _ _ us hl => match us, hl with | [_, _], _ => rfl
  have F_encode := fun_mk (st := s_encode) l_encode c_encode k_encode
  have b_encode := F_encode.binds (ps := ["value"]) fun _ _ _ _ _ _ us hl => match us, hl with | [_], _ => rfl
  have F__law_cell := fun_mk (st := s__law_cell) l__law_cell c__law_cell k__law_cell
  have b__law_cell := F__law_cell.binds (ps := ["_law_script", "_law_k"]) fun _ _ _ _ _ _ us hl => match us, hl with | [_, _], _ => rfl
  have F__law_rich := fun_mk (st := s__law_rich) l__law_rich c__law_rich k__law_rich
  have b__law_rich := F__law_rich.binds (ps := ["_law_cell_here", "_law_k"]) fun _ _ _ _ _ _ us hl => match us, hl with | [_, _], _ => rfl
  have F__law_word := fun_mk (st := s__law_word) l__law_word c__law_word k__law_word
  have b__law_word := F__law_word.binds (ps := ["_law_size", "_law_chars", "_law_seed"]) fun _ _ _ _ _ _ us hl => match us, hl with | [_, _, _], _ => rfl
  have F__law_plain := fun_mk (st := s__law_plain) l__law_plain c__law_plain k__law_plain
  have b__law_plain := F__law_plain.binds (ps := ["_law_rich_here", "_law_depth_here"]) fun _ _ _ _ _ _ us hl => match us, hl with | [_, _], _ => rfl
  have F__law_text := fun_mk (st := s__law_text) l__law_text c__law_text k__law_text
  have b__law_text := F__law_text.binds (ps := ["_law_value"]) fun _ _ _ _ _ _ us hl => match us, hl with | [_], _ => rfl
  have F__law_depth := fun_mk (st := s__law_depth) l__law_depth c__law_depth k__law_depth
  have b__law_depth := F__law_depth.binds (ps := ["_law_value"]) fun _ _ _ _ _ _ us hl => match us, hl with | [_], _ => rfl
  have F__law_outcome := fun_mk (st := s__law_outcome) l__law_outcome c__law_outcome k__law_outcome
  have b__law_outcome := F__law_outcome.binds (ps := ["_law_value"]) fun _ _ _ _ _ _ us hl => match us, hl with | [_], _ => rfl
  have F_law := fun_mk (st := s_law) l_law c_law k_law
  have q0 : mg "ord" = none := PySem.W.mg_none_of X G z_ord
  have q1 : GC K mg "PERCENT" c_PERCENT := gc_int X G gc_PERCENT
  have q2 : mg "isinstance" = none := PySem.W.mg_none_of X G z_isinstance
  have q3 : mg "str" = none := PySem.W.mg_none_of X G z_str
  have o_is_printable : FnOk P w K mg base (L2.CX P w) 1 f_is_printable _ ["value"] (spD nm K mg 1 V_is_printable) := ok_is_printable F_is_printable q0 q1 q2 q3
  have q4 : mg "int" = none := PySem.W.mg_none_of X G z_int
  have q5 : mg "bool" = none := PySem.W.mg_none_of X G z_bool
  have o_is_integer : FnOk P w K mg base (L2.CX P w) 1 f_is_integer _ ["value", "least", "greatest"] (spD nm K mg 3 V_is_integer) := ok_is_integer F_is_integer q2 q4 q5
  have q6 : DefOk P w K mg base nm 1 "is_integer" 3 V_is_integer := def_mk (PySem.W.mg_of X G a_is_integer) k_is_integer rfl b_is_integer o_is_integer
  have q7 : GC K mg "GREATEST" c_GREATEST := gc_int X G gc_GREATEST
  have q8 : ExcOk K mg "BadText" := ⟨C_BadText, gC_BadText, xI_BadText, kc_BadText, eC_BadText, tC_BadText⟩
  have q9 : mg "tuple" = none := PySem.W.mg_none_of X G z_tuple
  have q10 : GC K mg "MOST_DEPTH" c_MOST_DEPTH := gc_int X G gc_MOST_DEPTH
  have q11 : DefOk P w K mg base nm 1 "is_printable" 1 V_is_printable := def_mk (PySem.W.mg_of X G a_is_printable) k_is_printable rfl b_is_printable o_is_printable
  have r__written : ∀ j : Nat, FnOk P w K mg base (L2.CX P w) (1 + j) f__written (PySem.W.fnOf "_written" "_written" (defArgs s__written) (defBody s__written) (defScope s__written) .none kV__written dc__written pm__written an__written cd__written ct__written) ["value", "depth"] (spD nm K mg 2 (VR__written j)) := by
      intro j
      induction j with
      | zero => exact (fnok_stuck rfl)
      | succ j ih => exact ok__written (Nat.le_add_right _ _) F__written q3 q6 q7 q8 q2 q9 (def_mk (PySem.W.mg_of X G a__written) k__written rfl b__written ih) q10 q11
  have o__written : FnOk P w K mg base (L2.CX P w) 17 f__written (PySem.W.fnOf "_written" "_written" (defArgs s__written) (defBody s__written) (defScope s__written) .none kV__written dc__written pm__written an__written cd__written ct__written) ["value", "depth"] (spD nm K mg 2 V__written) := (r__written 16)
  have q12 : mg "len" = none := PySem.W.mg_none_of X G z_len
  have q13 : GC K mg "MOST_LENGTH" c_MOST_LENGTH := gc_int X G gc_MOST_LENGTH
  have q14 : DefOk P w K mg base nm 17 "_written" 2 V__written := def_mk (PySem.W.mg_of X G a__written) k__written rfl b__written o__written
  have o_encode : FnOk P w K mg base (L2.CX P w) 18 f_encode _ ["value"] (spD nm K mg 1 V_encode) := ok_encode F_encode q12 q13 q8 q14
  have o__law_cell : FnOk P w K mg base (L2.CX P w) 1 f__law_cell _ ["_law_script", "_law_k"] (spD nm K mg 2 V__law_cell) := ok__law_cell F__law_cell q12 q4
  have o__law_rich : FnOk P w K mg base (L2.CX P w) 1 f__law_rich _ ["_law_cell_here", "_law_k"] (spD nm K mg 2 V__law_rich) := ok__law_rich F__law_rich q4
  have q15 : mg "range" = none := PySem.W.mg_none_of X G z_range
  have o__law_word : FnOk P w K mg base (L2.CX P w) 1 f__law_word _ ["_law_size", "_law_chars", "_law_seed"] (spD nm K mg 3 V__law_word) := ok__law_word F__law_word q15 q12 q4
  have q16 : DefOk P w K mg base nm 1 "_law_word" 3 V__law_word := def_mk (PySem.W.mg_of X G a__law_word) k__law_word rfl b__law_word o__law_word
  have r__law_plain : ∀ j : Nat, FnOk P w K mg base (L2.CX P w) (1 + j) f__law_plain (PySem.W.fnOf "_law_plain" "_law_plain" (defArgs s__law_plain) (defBody s__law_plain) (defScope s__law_plain) .none kV__law_plain dc__law_plain pm__law_plain an__law_plain cd__law_plain ct__law_plain) ["_law_rich_here", "_law_depth_here"] (spD nm K mg 2 (VR__law_plain j)) := by
      intro j
      induction j with
      | zero => exact (fnok_stuck rfl)
      | succ j ih => exact ok__law_plain (Nat.le_add_right _ _) F__law_plain q9 q15 (def_mk (PySem.W.mg_of X G a__law_plain) k__law_plain rfl b__law_plain ih) q16
  have o__law_plain : FnOk P w K mg base (L2.CX P w) 17 f__law_plain (PySem.W.fnOf "_law_plain" "_law_plain" (defArgs s__law_plain) (defBody s__law_plain) (defScope s__law_plain) .none kV__law_plain dc__law_plain pm__law_plain an__law_plain cd__law_plain ct__law_plain) ["_law_rich_here", "_law_depth_here"] (spD nm K mg 2 V__law_plain) := (r__law_plain 16)
  have r__law_text : ∀ j : Nat, FnOk P w K mg base (L2.CX P w) (0 + j) f__law_text (PySem.W.fnOf "_law_text" "_law_text" (defArgs s__law_text) (defBody s__law_text) (defScope s__law_text) .none kV__law_text dc__law_text pm__law_text an__law_text cd__law_text ct__law_text) ["_law_value"] (spD nm K mg 1 (VR__law_text j)) := by
      intro j
      induction j with
      | zero => exact (fnok_stuck rfl)
      | succ j ih => exact ok__law_text (Nat.le_add_right _ _) F__law_text q3 q2 q9 (def_mk (PySem.W.mg_of X G a__law_text) k__law_text rfl b__law_text ih)
  have o__law_text : FnOk P w K mg base (L2.CX P w) 16 f__law_text (PySem.W.fnOf "_law_text" "_law_text" (defArgs s__law_text) (defBody s__law_text) (defScope s__law_text) .none kV__law_text dc__law_text pm__law_text an__law_text cd__law_text ct__law_text) ["_law_value"] (spD nm K mg 1 V__law_text) := (r__law_text 16)
  have q17 : mg "max" = none := PySem.W.mg_none_of X G z_max
  have r__law_depth : ∀ j : Nat, FnOk P w K mg base (L2.CX P w) (0 + j) f__law_depth (PySem.W.fnOf "_law_depth" "_law_depth" (defArgs s__law_depth) (defBody s__law_depth) (defScope s__law_depth) .none kV__law_depth dc__law_depth pm__law_depth an__law_depth cd__law_depth ct__law_depth) ["_law_value"] (spD nm K mg 1 (VR__law_depth j)) := by
      intro j
      induction j with
      | zero => exact (fnok_stuck rfl)
      | succ j ih => exact ok__law_depth (Nat.le_add_right _ _) F__law_depth (def_mk (PySem.W.mg_of X G a__law_depth) k__law_depth rfl b__law_depth ih) q17 q2 q9
  have o__law_depth : FnOk P w K mg base (L2.CX P w) 20 f__law_depth (PySem.W.fnOf "_law_depth" "_law_depth" (defArgs s__law_depth) (defBody s__law_depth) (defScope s__law_depth) .none kV__law_depth dc__law_depth pm__law_depth an__law_depth cd__law_depth ct__law_depth) ["_law_value"] (spD nm K mg 1 V__law_depth) := (r__law_depth 20)
  have q18 : DefOk P w K mg base nm 18 "encode" 1 V_encode := def_mk (PySem.W.mg_of X G a_encode) k_encode rfl b_encode o_encode
  have q19 : Catch K mg nm "TableError" [14] [] := catch_of gC_TableError (catch_cons cl_BadText gC_BadText (exm_of eC_TableError iC_TableError tC_TableError sC_BadText_TableError) catch_nil) catch_nil
  have q20 : IsE K mg nm "BadText" [14] [] := ⟨C_BadText, gC_BadText, (all_cons (K := K) cl_BadText gC_BadText ⟨⟨ga_BadText, gg_BadText, eC_BadText, hd_BadText, ka_BadText, kn_all, kt_all, km_BadText⟩, kit_self⟩ all_nil), all_nil⟩
  have o__law_outcome : FnOk P w K mg base (L2.CX P w) 19 f__law_outcome _ ["_law_value"] (spD nm K mg 1 V__law_outcome) := ok__law_outcome F__law_outcome q18 q19 q2 q20
  have q21 : mg "min" = none := PySem.W.mg_none_of X G z_min
  have q22 : DefOk P w K mg base nm 19 "_law_outcome" 1 V__law_outcome := def_mk (PySem.W.mg_of X G a__law_outcome) k__law_outcome rfl b__law_outcome o__law_outcome
  have q23 : DefOk P w K mg base nm 20 "_law_depth" 1 V__law_depth := def_mk (PySem.W.mg_of X G a__law_depth) k__law_depth rfl b__law_depth o__law_depth
  have q24 : DefOk P w K mg base nm 16 "_law_text" 1 V__law_text := def_mk (PySem.W.mg_of X G a__law_text) k__law_text rfl b__law_text o__law_text
  have q25 : DefOk P w K mg base nm 17 "_law_plain" 2 V__law_plain := def_mk (PySem.W.mg_of X G a__law_plain) k__law_plain rfl b__law_plain o__law_plain
  have q26 : DefOk P w K mg base nm 1 "_law_rich" 2 V__law_rich := def_mk (PySem.W.mg_of X G a__law_rich) k__law_rich rfl b__law_rich o__law_rich
  have q27 : DefOk P w K mg base nm 1 "_law_cell" 2 V__law_cell := def_mk (PySem.W.mg_of X G a__law_cell) k__law_cell rfl b__law_cell o__law_cell
  exact law_end (ok_law F_law q15 q12 q21 q17 q22 q23 q24 q25 q26 q27) hF
end L_k03
open PySem PySem.W PyProof.Rows
set_option maxRecDepth 100000 in
set_option maxHeartbeats 0 in
theorem PySem.Challenge.cw_boundstone_k03_encode_holds : PySem.Challenge.rw_boundstone_k03_encode.Holds := by
  w_on; o_law; k_head; (case hw => w_witness2)
  k_fill
  refine BS.walk (l := PySem.Challenge.rw_boundstone_k03_encode) (k := 21) (x := "_law_script") rfl rfl ⟨rfl, by decide, by decide⟩ (fun w h Y => PySem.W.kIn_of Y) ?F
  case F =>
    intro w mg fa h KX G hmg
    refine' L_k03.all_mk L_k03.law_true KX G hmg ?aC_TableError ?aC_BadText ?kc_TableError ?eC_TableError ?tC_TableError ?kc_BadText ?eC_BadText ?tC_BadText ?xI_BadText ?ga_BadText ?gg_BadText ?hd_BadText ?ka_BadText ?km_BadText ?kn_all ?kt_all ?iC_TableError ?sC_BadText_TableError ?z_ord ?gc_PERCENT ?z_isinstance ?z_str ?z_int ?z_bool ?gc_GREATEST ?z_tuple ?gc_MOST_DEPTH ?z_len ?gc_MOST_LENGTH ?z_range ?z_max ?z_min ?a_is_printable ?l_is_printable ?c_is_printable ?k_is_printable ?a_is_integer ?l_is_integer ?c_is_integer ?k_is_integer ?a__written ?l__written ?c__written ?k__written ?a_encode ?l_encode ?c_encode ?k_encode ?a__law_cell ?l__law_cell ?c__law_cell ?k__law_cell ?a__law_rich ?l__law_rich ?c__law_rich ?k__law_rich ?a__law_word ?l__law_word ?c__law_word ?k__law_word ?a__law_plain ?l__law_plain ?c__law_plain ?k__law_plain ?a__law_text ?l__law_text ?c__law_text ?k__law_text ?a__law_depth ?l__law_depth ?c__law_depth ?k__law_depth ?a__law_outcome ?l__law_outcome ?c__law_outcome ?k__law_outcome ?a_law ?l_law ?c_law ?k_law
    (case aC_TableError => k_is)
    (case aC_BadText => k_is)
    (case kc_TableError => k_is)
    (case eC_TableError => k_is)
    (case tC_TableError => k_is)
    (case kc_BadText => k_is)
    (case eC_BadText => k_is)
    (case tC_BadText => k_is)
    (case xI_BadText => k_exc)
    (case ga_BadText => k_is)
    (case gg_BadText => k_is)
    (case hd_BadText => k_is)
    (case ka_BadText => k_is)
    (case km_BadText => k_is)
    (case kn_all => k_is)
    (case kt_all => k_is)
    (case iC_TableError => k_is)
    (case sC_BadText_TableError => k_is)
    (case z_ord => k_is)
    (case gc_PERCENT => k_is)
    (case z_isinstance => k_is)
    (case z_str => k_is)
    (case z_int => k_is)
    (case z_bool => k_is)
    (case gc_GREATEST => k_is)
    (case z_tuple => k_is)
    (case gc_MOST_DEPTH => k_is)
    (case z_len => k_is)
    (case gc_MOST_LENGTH => k_is)
    (case z_range => k_is)
    (case z_max => k_is)
    (case z_min => k_is)
    (case a_is_printable => k_is)
    (case l_is_printable => k_is)
    (case c_is_printable => k_is)
    (case k_is_printable => k_is)
    (case a_is_integer => k_is)
    (case l_is_integer => k_is)
    (case c_is_integer => k_is)
    (case k_is_integer => k_is)
    (case a__written => k_is)
    (case l__written => k_is)
    (case c__written => k_is)
    (case k__written => k_is)
    (case a_encode => k_is)
    (case l_encode => k_is)
    (case c_encode => k_is)
    (case k_encode => k_is)
    (case a__law_cell => k_is)
    (case l__law_cell => k_is)
    (case c__law_cell => k_is)
    (case k__law_cell => k_is)
    (case a__law_rich => k_is)
    (case l__law_rich => k_is)
    (case c__law_rich => k_is)
    (case k__law_rich => k_is)
    (case a__law_word => k_is)
    (case l__law_word => k_is)
    (case c__law_word => k_is)
    (case k__law_word => k_is)
    (case a__law_plain => k_is)
    (case l__law_plain => k_is)
    (case c__law_plain => k_is)
    (case k__law_plain => k_is)
    (case a__law_text => k_is)
    (case l__law_text => k_is)
    (case c__law_text => k_is)
    (case k__law_text => k_is)
    (case a__law_depth => k_is)
    (case l__law_depth => k_is)
    (case c__law_depth => k_is)
    (case k__law_depth => k_is)
    (case a__law_outcome => k_is)
    (case l__law_outcome => k_is)
    (case c__law_outcome => k_is)
    (case k__law_outcome => k_is)
    (case a_law => k_is)
    (case l_law => k_is)
    (case c_law => k_is)
    (case k_law => k_is)
