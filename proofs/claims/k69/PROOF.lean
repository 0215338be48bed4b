import PyProof.Rows.All
import Wide.All
import OpenK.AllK
import Wide.FinOn
import HandS.ForMost
import HandS.ForExc
import HandS.Wide
import HandS.CallSlots
import HandS.HotCalls
import KE.DataEq
import KE.DataCmp
import HandS.IsInst
import HandS.ExcInit
import PySem.Challenge.RW_boundstone_k69_histories
set_option Elab.async false
set_option linter.all false
set_option maxRecDepth 100000
set_option maxHeartbeats 4000000
namespace BS
open PySem PySem.Spec PyProof.Rows L2
/-- plain data by value (lst: a list that nobody changes any more; scr: the script); obj n: the n-th object of the store -/
inductive D where
  | non | bl (b : Bool) | int (i : Int) | str (x : Str) | tup (ds : List D) | lst (ds : List D) | scr (ds : List D) | obj (n : Nat)
/-- objects that may change; classes and fields by numbers -/
inductive O where
  | lst (ds : List D) | dct (kvs : List (Key × D)) | ins (c : Nat) (fs : List (Nat × D))
abbrev Store := List O
inductive R (α : Type) where
  | ok (a : α) (S : Store) | exc (c : Nat) (fs : List (Nat × D)) (S : Store) | stuck
def R.bind {α β : Type} (r : R α) (k : α → Store → R β) : R β := match r with
  | .ok a S => k a S
  | .exc c fs S => .exc c fs S
  | .stuck => .stuck
@[simp] theorem R.bind_ok {α β : Type} (a : α) (S : Store) (k : α → Store → R β) : (R.ok a S).bind k = k a S := rfl
@[simp] theorem R.bind_exc {α β : Type} (c : Nat) (fs : List (Nat × D)) (S : Store) (k : α → Store → R β) : (R.exc c fs S).bind k = .exc c fs S := rfl
@[simp] theorem R.bind_stuck {α β : Type} (k : α → Store → R β) : (R.stuck : R α).bind k = .stuck := rfl
/-- the names' values; ex: the caught exceptions that names stand for -/
structure Ev where
  sl : List (Option D)
  ex : List (Nat × Nat × List (Nat × D)) := []
inductive RS where
  | nx (e : Ev) (S : Store) | rt (d : D) (S : Store) | bk (e : Ev) (S : Store) | ct (e : Ev) (S : Store) | exc (c : Nat) (fs : List (Nat × D)) (e : Ev) (S : Store) | stuck
abbrev EM := Ev → Store → R D
abbrev TM := Ev → Store → R Bool
abbrev AM := Ev → Store → R (List D)
abbrev SM := Ev → Store → RS
abbrev GM := D → Ev → Store → RS
/-- a def -/
abbrev FM := List D → Store → R D
/-- how classes and fields are named -/
structure Nms where
  cls : Nat → Str
  fld : Nat → Str
  most : Nat
  inj : ∀ i j, i < most → j < most → fld i = fld j → i = j
def KTup (K : PySem.W.Frag) (a : Addr) (xs : List V) : Prop :=
  ∃ (o : Obj) (its : Array Value) (n : Nat), K.lookup a = some o ∧ o.cls = .type "tuple" ∧ o.data = .seq its n ∧ its.size ≤ sizeLine ∧ Vals xs its.toList
def KLst (K : PySem.W.Frag) (a : Addr) (xs : List V) : Prop :=
  ∃ (o : Obj) (its : Array Value) (n : Nat), K.lookup a = some o ∧ o.cls = .type "list" ∧ o.dict = none ∧ o.data = .seq its n ∧ its.size ≤ sizeLine ∧ Vals xs its.toList
def TupAt (K : PySem.W.Frag) (H : Hp) (μ : List Addr) (a : Addr) (xs : List V) : Prop := (a ∉ μ ∧ Rd H a (.tup xs)) ∨ KTup K a xs
def LstAt (H : Hp) (μ : List Addr) (a : Addr) (xs : List V) : Prop := a ∉ μ ∧ H a = some (.lst xs)
def ScrAt (K : PySem.W.Frag) (H : Hp) (μ : List Addr) (a : Addr) (xs : List V) : Prop := (a ∉ μ ∧ Rd H a (.lst xs)) ∨ KLst K a xs
theorem TupAt.sq {K : PySem.W.Frag} {H : Hp} {μ : List Addr} {a : Addr} {xs : List V} (h : TupAt K H μ a xs) : SqT K H a xs := h.elim (fun h => .inl h.2) .inr
theorem ScrAt.sq {K : PySem.W.Frag} {H : Hp} {μ : List Addr} {a : Addr} {xs : List V} (h : ScrAt K H μ a xs) : SqL K H a xs := h.elim (fun h => .inl h.2) .inr
mutual
inductive RV (K : PySem.W.Frag) (H : Hp) (μ : List Addr) : V → D → Prop
  | non : RV K H μ .non .non
  | bl (b : Bool) : RV K H μ (.bl b) (.bl b)
  | int (i : Int) : RV K H μ (.int i) (.int i)
  | str (x : Str) : RV K H μ (.str x) (.str x)
  | tup {a : Addr} {xs : List V} {ds : List D} : TupAt K H μ a xs → RVs K H μ xs ds → RV K H μ (.ref a) (.tup ds)
  | lst {a : Addr} {xs : List V} {ds : List D} : LstAt H μ a xs → RVs K H μ xs ds → RV K H μ (.ref a) (.lst ds)
  | scr {a : Addr} {xs : List V} {ds : List D} : ScrAt K H μ a xs → RVs K H μ xs ds → RV K H μ (.ref a) (.scr ds)
  | obj {a : Addr} {n : Nat} : μ[n]? = some a → RV K H μ (.ref a) (.obj n)
inductive RVs (K : PySem.W.Frag) (H : Hp) (μ : List Addr) : List V → List D → Prop
  | nil : RVs K H μ [] []
  | cons {v : V} {vs : List V} {d : D} {ds : List D} : RV K H μ v d → RVs K H μ vs ds → RVs K H μ (v :: vs) (d :: ds)
end
section
variable {K : PySem.W.Frag} {H H' : Hp} {μ μ' : List Addr}
theorem RVs.length : ∀ {vs : List V} {ds : List D}, RVs K H μ vs ds → vs.length = ds.length
  | [], _, h => by cases h; rfl
  | _ :: vs, _, h => by
    cases h with
    | cons _ t => simp only [List.length_cons, RVs.length t]
theorem RVs.get : ∀ {vs : List V} {ds : List D} {i : Nat} {d : D}, RVs K H μ vs ds → ds[i]? = some d → ∃ v, vs[i]? = some v ∧ RV K H μ v d
  | [], _, _, _, h, e => by cases h; simp at e
  | v :: vs, _, 0, d, h, e => by
    cases h with
    | cons r _ => simp at e; subst e; exact ⟨v, rfl, r⟩
  | v :: vs, _, i + 1, d, h, e => by
    cases h with
    | cons _ t => exact RVs.get (vs := vs) t (by simpa using e)
theorem RVs.get' : ∀ {vs : List V} {ds : List D} {i : Nat} {v : V}, RVs K H μ vs ds → vs[i]? = some v → ∃ d, ds[i]? = some d ∧ RV K H μ v d
  | [], _, _, _, h, e => by simp at e
  | v :: vs, _, 0, w, h, e => by
    cases h with
    | cons r _ => simp at e; subst e; exact ⟨_, rfl, r⟩
  | v :: vs, _, i + 1, w, h, e => by
    cases h with
    | cons _ t =>
      obtain ⟨d, e1, r⟩ := RVs.get' (i := i) t (by simpa using e)
      exact ⟨d, by simpa using e1, r⟩
theorem RVs.append : ∀ {vs ws : List V} {ds es : List D}, RVs K H μ vs ds → RVs K H μ ws es → RVs K H μ (vs ++ ws) (ds ++ es)
  | [], _, _, _, h, t => by cases h; exact t
  | _ :: _, _, _, _, h, t => by
    cases h with
    | cons r h => exact .cons r (RVs.append h t)
theorem RVs.take : ∀ {vs : List V} {ds : List D} (n : Nat), RVs K H μ vs ds → RVs K H μ (vs.take n) (ds.take n)
  | _, _, 0, _ => .nil
  | [], _, _ + 1, h => by cases h; exact .nil
  | _ :: _, _, n + 1, h => by
    cases h with
    | cons r h => exact .cons r (RVs.take n h)
theorem RVs.drop : ∀ {vs : List V} {ds : List D} (n : Nat), RVs K H μ vs ds → RVs K H μ (vs.drop n) (ds.drop n)
  | _, _, 0, h => h
  | [], _, _ + 1, h => by cases h; exact .nil
  | _ :: _, _, n + 1, h => by
    cases h with
    | cons r h => exact RVs.drop n h
theorem RVs.set : ∀ {vs : List V} {ds : List D} (n : Nat) {v : V} {d : D}, RVs K H μ vs ds → RV K H μ v d → RVs K H μ (vs.set n v) (ds.set n d)
  | [], _, _, _, _, h, _ => by cases h; exact .nil
  | _ :: _, _, 0, _, _, h, r => by
    cases h with
    | cons _ h => exact .cons r h
  | _ :: _, _, n + 1, _, _, h, r => by
    cases h with
    | cons q h => exact .cons q (RVs.set n h r)
theorem RVs.eraseIdx : ∀ {vs : List V} {ds : List D} (n : Nat), RVs K H μ vs ds → RVs K H μ (vs.eraseIdx n) (ds.eraseIdx n)
  | [], _, _, h => by cases h; exact .nil
  | _ :: _, _, 0, h => by
    cases h with
    | cons _ h => exact h
  | _ :: _, _, n + 1, h => by
    cases h with
    | cons q h => exact .cons q (RVs.eraseIdx n h)
theorem rvs_ints : ∀ ns : List Int, RVs K H μ (ns.map V.int) (ns.map D.int)
  | [] => .nil
  | n :: r => .cons (.int n) (rvs_ints r)
theorem rvs_iff : ∀ {vs : List V} {ds : List D}, RVs K H μ vs ds ↔ Paired (RV K H μ) vs ds
  | [], [] => ⟨fun _ => .nil, fun _ => .nil⟩
  | [], _ :: _ => ⟨fun h => (nomatch h), fun h => (nomatch h)⟩
  | _ :: _, [] => ⟨fun h => (nomatch h), fun h => (nomatch h)⟩
  | _ :: _, _ :: _ => ⟨fun h => by cases h with | cons r t => exact .cons r (rvs_iff.mp t), fun h => by cases h with | cons r t => exact .cons r (rvs_iff.mpr t)⟩
/-- what an evaluation leaves as it was: all that is tracked and no object of the store; new objects of the store were free -/
structure Ext (μ : List Addr) (H : Hp) (μ' : List Addr) (H' : Hp) : Prop where
  pre : ∃ ν, μ' = μ ++ ν
  fr : ∀ a, a ∈ μ' → a ∉ μ → H a = none
  keep : ∀ a o, a ∉ μ → H a = some o → H' a = some o
theorem Ext.refl : Ext μ H μ H := ⟨⟨[], by simp⟩, fun a h n => absurd h n, fun _ _ _ h => h⟩
theorem Ext.trans {μ1 μ2 : List Addr} {H1 H2 : Hp} (a : Ext μ H μ1 H1) (b : Ext μ1 H1 μ2 H2) : Ext μ H μ2 H2 := by
  obtain ⟨ν, e⟩ := a.pre
  obtain ⟨ν', e'⟩ := b.pre
  refine ⟨⟨ν ++ ν', by rw [e', e, List.append_assoc]⟩, fun x h n => ?_, fun x o n h => ?_⟩
  · by_cases q : x ∈ μ1
    · exact a.fr x q n
    · have z := b.fr x h q
      cases w : H x with
      | none => rfl
      | some o => rw [a.keep x o n w] at z; cases z
  · refine b.keep x o (fun q => ?_) (a.keep x o n h)
    have z := a.fr x q n
    rw [h] at z; cases z
theorem Ext.rd {u : HO} {a : Addr} (x : Ext μ H μ' H') (n : a ∉ μ) (h : Rd H a u) : Rd H' a u := by
  rcases h with h | ⟨o, h⟩
  · exact .inl (x.keep a _ n h)
  · exact .inr ⟨o, x.keep a _ n h⟩
theorem Ext.out {u : HO} {a : Addr} (x : Ext μ H μ' H') (n : a ∉ μ) (h : Rd H a u) : a ∉ μ' := fun q => by
  have z := x.fr a q n
  rcases h with h | ⟨o, h⟩ <;> (rw [h] at z; cases z)
theorem Ext.at (x : Ext μ H μ' H') {n : Nat} {a : Addr} (h : μ[n]? = some a) : μ'[n]? = some a := by
  obtain ⟨ν, e⟩ := x.pre
  rw [e, List.getElem?_append_left (List.getElem?_eq_some_iff.mp h).1, h]
theorem TupAt.ext {a : Addr} {xs : List V} (x : Ext μ H μ' H') (h : TupAt K H μ a xs) : TupAt K H' μ' a xs :=
  h.elim (fun h => .inl ⟨x.out h.1 h.2, x.rd h.1 h.2⟩) .inr
theorem LstAt.ext {a : Addr} {xs : List V} (x : Ext μ H μ' H') (h : LstAt H μ a xs) : LstAt H' μ' a xs :=
  ⟨x.out h.1 (.inl h.2), x.keep _ _ h.1 h.2⟩
theorem ScrAt.ext {a : Addr} {xs : List V} (x : Ext μ H μ' H') (h : ScrAt K H μ a xs) : ScrAt K H' μ' a xs :=
  h.elim (fun h => .inl ⟨x.out h.1 h.2, x.rd h.1 h.2⟩) .inr
mutual
theorem RV.ext (x : Ext μ H μ' H') : ∀ {v : V} (d : D), RV K H μ v d → RV K H' μ' v d
  | _, .non, h => by cases h; exact .non
  | _, .bl b, h => by cases h; exact .bl b
  | _, .int i, h => by cases h; exact .int i
  | _, .str y, h => by cases h; exact .str y
  | _, .tup ds, h => by
    cases h with
    | tup t r => exact .tup (t.ext x) (RVs.ext x ds r)
  | _, .lst ds, h => by
    cases h with
    | lst t r => exact .lst (t.ext x) (RVs.ext x ds r)
  | _, .scr ds, h => by
    cases h with
    | scr t r => exact .scr (t.ext x) (RVs.ext x ds r)
  | _, .obj n, h => by
    cases h with
    | obj e => exact .obj (x.at e)
theorem RVs.ext (x : Ext μ H μ' H') : ∀ {vs : List V} (ds : List D), RVs K H μ vs ds → RVs K H' μ' vs ds
  | _, [], h => by cases h; exact .nil
  | _, d :: ds, h => by
    cases h with
    | cons r t => exact .cons (RV.ext x d r) (RVs.ext x ds t)
end
/-- named fields -/
abbrev RF (nm : Nms) (K : PySem.W.Frag) (H : Hp) (μ : List Addr) : List (Str × V) → List (Nat × D) → Prop :=
  Paired fun (p : Str × V) (q : Nat × D) => p.1 = nm.fld q.1 ∧ q.1 < nm.most ∧ RV K H μ p.2 q.2
abbrev RK (K : PySem.W.Frag) (H : Hp) (μ : List Addr) : List (Key × V) → List (Key × D) → Prop :=
  Paired fun (p : Key × V) (q : Key × D) => p.1 = q.1 ∧ RV K H μ p.2 q.2
theorem RF.ext {nm : Nms} (x : Ext μ H μ' H') {gs : List (Str × V)} {fs : List (Nat × D)} (h : RF nm K H μ gs fs) : RF nm K H' μ' gs fs :=
  Paired.mapP h fun _ q z => ⟨z.1, z.2.1, RV.ext x q.2 z.2.2⟩
theorem RK.ext (x : Ext μ H μ' H') {gs : List (Key × V)} {fs : List (Key × D)} (h : RK K H μ gs fs) : RK K H' μ' gs fs :=
  Paired.mapP h fun _ q z => ⟨z.1, RV.ext x q.2 z.2⟩
def OK (nm : Nms) (K : PySem.W.Frag) (mg : Str → Option Value) (H : Hp) (μ : List Addr) (a : Addr) : O → Prop
  | .lst ds => ∃ xs, H a = some (.lst xs) ∧ RVs K H μ xs ds
  | .dct kvs => ∃ ys, H a = some (.dK ys) ∧ RK K H μ ys kvs
  | .ins c fs => ∃ C dx gs, mg (nm.cls c) = some (.ref C) ∧ H a = some (.ins C dx gs) ∧ RF nm K H μ gs fs
theorem OK.some {nm : Nms} {mg : Str → Option Value} {a : Addr} {o : O} (h : OK nm K mg H μ a o) : ∃ u, H a = some u ∧ Mut (some u) := by
  cases o with
  | lst ds => obtain ⟨xs, e, _⟩ := h; exact ⟨_, e, trivial⟩
  | dct ds => obtain ⟨xs, e, _⟩ := h; exact ⟨_, e, trivial⟩
  | ins c fs => obtain ⟨C, dx, gs, _, e, _⟩ := h; exact ⟨_, e, trivial⟩
/-- .. where the object itself stays -/
theorem OK.ext {nm : Nms} {mg : Str → Option Value} {a : Addr} {o : O} (x : Ext μ H μ' H') (e : H' a = H a) (h : OK nm K mg H μ a o) : OK nm K mg H' μ' a o := by
  cases o with
  | lst ds => obtain ⟨xs, e1, r⟩ := h; exact ⟨xs, e.trans e1, RVs.ext x _ r⟩
  | dct kvs => obtain ⟨ys, e1, r⟩ := h; exact ⟨ys, e.trans e1, RK.ext x r⟩
  | ins c fs => obtain ⟨C, dx, gs, g, e1, r⟩ := h; exact ⟨C, dx, gs, g, e.trans e1, RF.ext x r⟩
structure Sim (nm : Nms) (K : PySem.W.Frag) (mg : Str → Option Value) (μ : List Addr) (S : Store) (H : Hp) : Prop where
  len : μ.length = S.length
  nd : μ.Nodup
  ob : ∀ (n : Nat) (a : Addr) (o : O), μ[n]? = some a → S[n]? = some o → OK nm K mg H μ a o
section
variable {nm : Nms} {mg : Str → Option Value} {S : Store}
theorem Sim.there (s : Sim nm K mg μ S H) {a : Addr} (h : a ∈ μ) : ∃ u, H a = Option.some u ∧ Mut (Option.some u) := by
  obtain ⟨n, hn, e⟩ := List.mem_iff_getElem.mp h
  have hn' : n < S.length := by rw [← s.len]; exact hn
  exact (s.ob n a S[n] (by rw [List.getElem?_eq_getElem hn, e]) (List.getElem?_eq_getElem hn')).some
theorem Sim.fresh (s : Sim nm K mg μ S H) {a : Addr} (h : H a = none) : a ∉ μ := fun q => by
  obtain ⟨u, e, _⟩ := s.there q
  rw [h] at e; cases e
theorem Sim.nonmut (s : Sim nm K mg μ S H) {a : Addr} {u : HO} (h : H a = Option.some u) (m : ¬ Mut (Option.some u)) : a ∉ μ := fun q => by
  obtain ⟨u', e, m'⟩ := s.there q
  rw [h] at e; cases e; exact m m'
/-- something new that is no object of the store -/
theorem Ext.laid (s : Sim nm K mg μ S H) {p : Addr} {u : HO} (h : H p = none) : Ext μ H μ (upd H p u) :=
  ⟨⟨[], by simp⟩, fun a q n => absurd q n, fun a o _ e => by rw [upd_ne (ne_of_none e h)]; exact e⟩
theorem Sim.keep (s : Sim nm K mg μ S H) (x : Ext μ H μ H') (h : ∀ a, a ∈ μ → H' a = H a) : Sim nm K mg μ S H' :=
  ⟨s.len, s.nd, fun n a o h1 h2 => (s.ob n a o h1 h2).ext x (h a (List.mem_of_getElem? h1))⟩
theorem Sim.laid (s : Sim nm K mg μ S H) {p : Addr} {u : HO} (h : H p = none) : Sim nm K mg μ S (upd H p u) :=
  s.keep (Ext.laid s h) fun a q => by
    obtain ⟨v, e, _⟩ := s.there q
    rw [upd_ne (ne_of_none e h)]
/-- a new object of the store at p -/
theorem Ext.made (s : Sim nm K mg μ S H) {p : Addr} {u : HO} (h : H p = none) : Ext μ H (μ ++ [p]) (upd H p u) :=
  ⟨⟨[p], rfl⟩, fun a q n => by
    rcases List.mem_append.mp q with q | q
    · exact absurd q n
    · rw [List.mem_singleton] at q; rw [q]; exact h, fun a o _ e => by rw [upd_ne (ne_of_none e h)]; exact e⟩
theorem Sim.made (s : Sim nm K mg μ S H) {p : Addr} {u : HO} {o : O} (h : H p = none) (ho : OK nm K mg (upd H p u) (μ ++ [p]) p o) : Sim nm K mg (μ ++ [p]) (S ++ [o]) (upd H p u) := by
  have hp : p ∉ μ := s.fresh h
  refine ⟨by simp [s.len], List.nodup_append.mpr ⟨s.nd, by simp, fun a ha b hb e => ?_⟩, fun n a ob h1 h2 => ?_⟩
  · rw [List.mem_singleton] at hb
    exact hp (hb ▸ e ▸ ha)
  · by_cases hn : n < μ.length
    · have hn' : n < S.length := by rw [← s.len]; exact hn
      rw [List.getElem?_append_left hn] at h1
      rw [List.getElem?_append_left hn'] at h2
      refine (s.ob n a ob h1 h2).ext (Ext.made s h) ?_
      obtain ⟨v, e, _⟩ := s.there (List.mem_of_getElem? h1)
      rw [upd_ne (ne_of_none e h)]
    · rw [List.getElem?_append_right (Nat.le_of_not_lt hn)] at h1
      rw [List.getElem?_append_right (by rw [← s.len]; exact Nat.le_of_not_lt hn)] at h2
      have hz : n - μ.length = 0 := by
        rcases Nat.eq_zero_or_pos (n - μ.length) with z | z
        · exact z
        · rw [List.getElem?_eq_none (by rw [List.length_singleton]; exact z)] at h1; cases h1
      rw [hz] at h1
      rw [← s.len, hz] at h2
      simp at h1 h2
      subst h1 h2
      exact ho
/-- an object of the store is written -/
theorem Ext.wrote {p : Addr} {u : HO} (h : p ∈ μ) : Ext μ H μ (upd H p u) :=
  ⟨⟨[], by simp⟩, fun a q n => absurd q n, fun a o n e => by rw [upd_ne (fun z => n (by rw [z]; exact h))]; exact e⟩
theorem Sim.wrote (s : Sim nm K mg μ S H) {p : Addr} {u : HO} {n : Nat} {o : O} (hp : μ[n]? = Option.some p) (ho : OK nm K mg (upd H p u) μ p o) : Sim nm K mg μ (S.set n o) (upd H p u) := by
  have hm := List.mem_of_getElem? hp
  refine ⟨by simp [s.len], s.nd, fun i a ob h1 h2 => ?_⟩
  by_cases hi : i = n
  · subst hi
    rw [hp] at h1; cases h1
    have hl : i < S.length := by rw [← s.len]; exact (List.getElem?_eq_some_iff.mp hp).1
    rw [List.getElem?_set_self hl] at h2
    cases h2
    exact ho
  · rw [List.getElem?_set_ne (Ne.symm hi)] at h2
    refine (s.ob i a ob h1 h2).ext (Ext.wrote hm) ?_
    rw [upd_ne]
    intro e
    subst e
    exact hi (nd_ix s.nd h1 hp)
end
end
end BS
namespace BS
open PySem
/-- names from two tables -/
def mkNms (cls fld : List String) (h : (fld.map Str.ofString).Nodup) : Nms where
  cls := fun i => (cls.map Str.ofString).getD i ""
  fld := fun i => (fld.map Str.ofString).getD i ""
  most := fld.length
  inj := fun i j hi hj e => by
    have hi' : i < (fld.map Str.ofString).length := by rw [List.length_map]; exact hi
    have hj' : j < (fld.map Str.ofString).length := by rw [List.length_map]; exact hj
    rw [List.getD_eq_getElem?_getD, List.getD_eq_getElem?_getD, List.getElem?_eq_getElem hi', List.getElem?_eq_getElem hj'] at e
    exact (List.getElem_inj h).mp e
end BS
namespace BS
open PySem PySem.Spec PyProof.Rows L2
def ExcAt (nm : Nms) (K : PySem.W.Frag) (mg : Str → Option Value) (H : Hp) (μ : List Addr) (c : Nat) (fs : List (Nat × D)) (C : Addr) (d : Option Addr) : Prop :=
  mg (nm.cls c) = some (.ref C) ∧ match d with
    | none => fs = []
    | some dd => ∃ gs, dd ∉ μ ∧ H dd = some (.xd gs) ∧ RF nm K H μ gs fs
theorem ExcAt.ext {nm : Nms} {K : PySem.W.Frag} {mg : Str → Option Value} {H H' : Hp} {μ μ' : List Addr} {c : Nat} {fs : List (Nat × D)} {C : Addr} {d : Option Addr} (x : Ext μ H μ' H') (h : ExcAt nm K mg H μ c fs C d) : ExcAt nm K mg H' μ' c fs C d := by
  refine ⟨h.1, ?_⟩
  cases d with
  | none => exact h.2
  | some dd =>
    obtain ⟨gs, n, e, r⟩ := h.2
    exact ⟨gs, x.out n (.inl e), x.keep dd _ n e, RF.ext x r⟩
abbrev St := L2.St
abbrev PA (α : Type) := α → Store → List Addr → Hp → Prop
abbrev PX := Value → Option Addr → Hp → Prop
section
variable {nm : Nms} {K : PySem.W.Frag} {mg : Str → Option Value} {H H' : Hp} {μ μ' : List Addr} {α β : Type}
def Post (nm : Nms) (K : PySem.W.Frag) (mg : Str → Option Value) (μ : List Addr) (H : Hp) (r : R α) (P : PA α) (E : PX) : Prop := match r with
  | .ok a S => ∀ μ' H', Ext μ H μ' H' → Sim nm K mg μ' S H' → P a S μ' H'
  | .exc c fs S => ∀ μ' H' C d, Ext μ H μ' H' → Sim nm K mg μ' S H' → ExcAt nm K mg H' μ' c fs C d → E (.ref C) d H'
  | .stuck => False
theorem Post.ext {r : R α} {P : PA α} {E : PX} (x : Ext μ H μ' H') (h : Post nm K mg μ H r P E) : Post nm K mg μ' H' r P E := by
  cases r with
  | ok a S => exact fun μ2 H2 x2 s2 => h μ2 H2 (x.trans x2) s2
  | exc c fs S => exact fun μ2 H2 C d x2 s2 => h μ2 H2 C d (x.trans x2) s2
  | stuck => exact h
theorem Post.mono {r : R α} {P P' : PA α} {E : PX} (h : Post nm K mg μ H r P E) (f : ∀ a S μ' H', Ext μ H μ' H' → Sim nm K mg μ' S H' → P a S μ' H' → P' a S μ' H') : Post nm K mg μ H r P' E := by
  cases r with
  | ok a S => exact fun μ2 H2 x2 s2 => f _ _ _ _ x2 s2 (h μ2 H2 x2 s2)
  | exc c fs S => exact h
  | stuck => exact h
theorem Post.bind {r : R α} {k : α → Store → R β} {P : PA β} {E : PX} (h : Post nm K mg μ H (r.bind k) P E) : Post nm K mg μ H r (fun a S μ1 H1 => Post nm K mg μ1 H1 (k a S) P E) E := by
  cases r with
  | ok a S => exact fun μ2 H2 x2 _ => Post.ext (r := k a S) x2 h
  | exc c fs S => exact h
  | stuck => exact h
end
/-- the names' values as the interpretation has them -/
structure EvR (nm : Nms) (X : Cx) (H : Hp) (μ : List Addr) (e : Ev) (σ : St) : Prop where
  len : e.sl.length = σ.length
  at_ : ∀ (i : Nat) (d : D), e.sl[i]? = some (some d) → ∃ v, σ[i]? = some (some v) ∧ RV X.K H μ v d
  ex : ∀ p ∈ e.ex, ∃ (a : Addr) (oe : Obj) (C : Addr) (d : Option Addr), σ[p.1]? = some (some (.ref a)) ∧ (a, oe) ∈ X.pn ∧ (Zc (.ref C) d oe ∧ ∃ vs, oe.data = .fields vs) ∧ ExcAt nm X.K X.mg H μ p.2.1 p.2.2 C d
theorem EvR.ext {nm : Nms} {X : Cx} {H H' : Hp} {μ μ' : List Addr} {e : Ev} {σ : St} (x : Ext μ H μ' H') (h : EvR nm X H μ e σ) : EvR nm X H' μ' e σ :=
  ⟨h.len, fun i d e => let ⟨v, a, b⟩ := h.at_ i d e; ⟨v, a, b.ext x⟩, fun p hp => let ⟨a, oe, C, d, h1, h2, h3, h4⟩ := h.ex p hp; ⟨a, oe, C, d, h1, h2, h3, h4.ext x⟩⟩
section
variable (nm : Nms) (X : Cx) (W : WX)
abbrev PostX {α : Type} (μ : List Addr) (H : Hp) (σ : St) (r : R α) (P : PA α) : Prop := Post nm X.K X.mg μ H r P fun c d H' => W c d σ H'
def rdE (m : EM) : TE := fun σ H Q => ∃ e S μ, EvR nm X H μ e σ ∧ Sim nm X.K X.mg μ S H ∧ PostX nm X W μ H σ (m e S) fun d _ μ' H' => ∀ v, RV X.K H' μ' v d → Q v H'
def rdT (m : TM) : TT := fun σ H Q => ∃ e S μ, EvR nm X H μ e σ ∧ Sim nm X.K X.mg μ S H ∧ PostX nm X W μ H σ (m e S) fun b _ _ H' => Q b H'
def rdA (m : AM) : TA := fun σ H Q => ∃ e S μ, EvR nm X H μ e σ ∧ Sim nm X.K X.mg μ S H ∧ PostX nm X W μ H σ (m e S) fun ds _ μ' H' => ∀ vs, RVs X.K H' μ' vs ds → Q vs H'
end
/-- the expression does what m says -/
structure ME (nm : Nms) (X : Cx) (e : Expr) (m : EM) : Prop where
  run : ∀ W, Takes X W → PE X e (rdE nm X W m)
structure MT (nm : Nms) (X : Cx) (e : Expr) (m : TM) : Prop where
  run : ∀ W, Takes X W → PT X e (rdT nm X W m)
structure MW (nm : Nms) (X : Cx) (e : Expr) (m : TM) : Prop where
  run : ∀ W, Takes X W → PW X e (rdT nm X W m)
structure MA (nm : Nms) (X : Cx) (es : List Expr) (m : AM) : Prop where
  run : ∀ W, Takes X W → L2.PA X es (rdA nm X W m)
  len : ∀ e S ds S', m e S = .ok ds S' → ds.length = es.length
theorem _root_.L2.PE.imp {X : Cx} {e : Expr} {t t' : TE} (h : PE X e t) (f : ∀ σ H Q, t' σ H Q → t σ H Q) : PE X e t' := ⟨fun pins s σ H Q I q => h.run pins s σ H Q I (f _ _ _ q)⟩
theorem _root_.L2.PT.imp {X : Cx} {e : Expr} {t t' : TT} (h : PT X e t) (f : ∀ σ H Q, t' σ H Q → t σ H Q) : PT X e t' := ⟨fun pins s σ H Q I q => h.run pins s σ H Q I (f _ _ _ q)⟩
theorem _root_.L2.PW.imp {X : Cx} {e : Expr} {t t' : TT} (h : PW X e t) (f : ∀ σ H Q, t' σ H Q → t σ H Q) : PW X e t' := ⟨fun wh pins s σ H Q I q => h.run wh pins s σ H Q I (f _ _ _ q)⟩
theorem _root_.L2.PA.imp {X : Cx} {e : List Expr} {t t' : TA} (h : L2.PA X e t) (f : ∀ σ H Q, t' σ H Q → t σ H Q) : L2.PA X e t' := ⟨fun p pins s σ H Q I q => h.run p pins s σ H Q I (f _ _ _ q)⟩
/-- the names at these places are the scope's own -/
def visAll (is : List Nat) (N : List Str) (sc : Scope) : Bool := is.all fun i => match N[i]? with
  | some x => (match sc.names.lookup x with | some .local => true | some .cell => true | some .free => true | _ => false) && (x == ("__debug__" : Str)) == false && (x == ("__classdict__" : Str)) == false
  | none => false
def locAll (is : List Nat) (N : List Str) (sc : Scope) : Bool := is.all fun i => match N[i]? with
  | some x => (match sc.names.lookup x with | some .local => true | some .cell => true | _ => false) && (x == ("__debug__" : Str)) == false && (x == ("__classdict__" : Str)) == false
  | none => false
theorem vis_of {is : List Nat} {N : List Str} {sc : Scope} (h : visAll is N sc = true) {i : Nat} {x : Str} (hi : is.contains i = true) (hN : N[i]? = some x) : Vis sc x ∧ (x == ("__debug__" : Str)) = false ∧ (x == ("__classdict__" : Str)) = false := by
  have h1 := List.all_eq_true.mp h i (by simpa using hi)
  simp only [hN, Bool.and_eq_true, beq_iff_eq] at h1
  refine ⟨?_, h1.1.2, h1.2⟩
  have h2 := h1.1.1
  unfold Vis
  split at h2
  · rename_i e; exact .inl e
  · rename_i e; exact .inr (.inl e)
  · rename_i e; exact .inr (.inr e)
  · cases h2
theorem loc_of {is : List Nat} {N : List Str} {sc : Scope} (h : locAll is N sc = true) {i : Nat} {x : Str} (hi : is.contains i = true) (hN : N[i]? = some x) : L2.Loc sc x ∧ (x == ("__debug__" : Str)) = false ∧ (x == ("__classdict__" : Str)) = false := by
  have h1 := List.all_eq_true.mp h i (by simpa using hi)
  simp only [hN, Bool.and_eq_true, beq_iff_eq] at h1
  refine ⟨?_, h1.1.2, h1.2⟩
  have h2 := h1.1.1
  unfold L2.Loc
  split at h2
  · rename_i e; exact .inl e
  · rename_i e; exact .inr e
  · cases h2
theorem locVis {is : List Nat} {N : List Str} {sc : Scope} (h : locAll is N sc = true) : visAll is N sc = true := by
  refine List.all_eq_true.mpr fun i hi => ?_
  have h1 := List.all_eq_true.mp h i hi
  cases hN : N[i]? with
  | none => rw [hN] at h1; cases h1
  | some x =>
    simp only [hN, Bool.and_eq_true, beq_iff_eq] at h1 ⊢
    refine ⟨⟨?_, h1.1.2⟩, h1.2⟩
    have h2 := h1.1.1
    split at h2
    · rename_i e; rw [e]
    · rename_i e; rw [e]
    · cases h2
/-- global names -/
def glAll (xs : List Str) (sc : Scope) : Bool := xs.all fun x => (match sc.names.lookup x with | some .globalImplicit => true | _ => false) && (x == ("__debug__" : Str)) == false && !(decide (x = "__name__"))
structure GlN (X : Cx) (x : Str) : Prop where
  g : Gl X x
  d : (x == ("__debug__" : Str)) = false
  n : x ≠ "__name__"
theorem glS {X : Cx} {x : Str} {a : Addr} {pn : List (Addr × Obj)} (h : GlN X x) : GlN (X.suite a pn) x := ⟨h.g, h.d, h.n⟩
theorem rhS {X : Cx} {k : Nat} {a : Addr} {pn : List (Addr × Obj)} (h : L2H.RoomH k X.A) : L2H.RoomH k (X.suite a pn).A := ⟨h.dp, h.un⟩
theorem gl_at {X : Cx} {xs : List Str} (h : glAll xs X.env.scope = true) (j : Nat) {x : Str} (hj : xs[j]? = some x := by rfl) : GlN X x := by
  have h1 := List.all_eq_true.mp h x (List.mem_of_getElem? hj)
  simp only [Bool.and_eq_true, beq_iff_eq] at h1
  refine ⟨?_, h1.1.2, by simpa using h1.2⟩
  have h2 := h1.1.1
  split at h2
  · rename_i e; exact e
  · cases h2
def mVar (i : Nat) : EM := fun e S => match e.sl[i]? with
  | some (some d) => .ok d S
  | _ => .stuck
def mC (d : D) : EM := fun _ S => .ok d S
section
variable {nm : Nms} {X : Cx} {pos : Pos} {a b c : Expr} {ma mb mc : EM}
theorem me_var {is : List Nat} (i : Nat) {x : Str} (hv : visAll is X.N X.env.scope = true) (hN : X.N[i]? = some x := by rfl) (hi : is.contains i = true := by rfl) : ME nm X (.Name x pos) (mVar i) := by
  obtain ⟨hv, hd, hcd⟩ := vis_of hv hi hN
  refine ⟨fun W tk => (pe_var (i := i) hN hv hd hcd).imp fun σ H Q h => ?_⟩
  obtain ⟨e, S, μ, E, s, p⟩ := h
  unfold mVar at p
  split at p
  · rename_i d hd
    obtain ⟨v, e1, r⟩ := E.at_ i d hd
    exact ⟨v, e1, p μ H .refl s v r⟩
  · exact False.elim p
theorem me_cn {e : Expr} {v : V} {d : D} (h : PE X e (tC v)) (r : ∀ H μ, RV X.K H μ v d) : ME nm X e (mC d) := by
  refine ⟨fun W tk => h.imp fun σ H Q h => ?_⟩
  obtain ⟨e, S, μ, E, s, p⟩ := h
  exact p μ H .refl s v (r _ _)
theorem me_int {i : Int} {j pos} : ME nm X (.Constant (.int i) j pos) (mC (.int i)) := me_cn pe_int fun _ _ => .int i
theorem me_bl {b : Bool} {j pos} : ME nm X (.Constant (.bool b) j pos) (mC (.bl b)) := me_cn pe_bl fun _ _ => .bl b
theorem me_non {j pos} : ME nm X (.Constant .none j pos) (mC .non) := me_cn pe_non fun _ _ => .non
theorem me_str {x : Str} {j pos} : ME nm X (.Constant (.str x) j pos) (mC (.str x)) := me_cn pe_str fun _ _ => .str x
/-- a module's constant -/
def GC (K : PySem.W.Frag) (mg : Str → Option Value) (x : Str) (d : D) : Prop := ∃ u v, mg x = some u ∧ RelV v u ∧ ∀ H μ, RV K H μ v d
theorem me_gc {x : Str} {d : D} (h : GC X.K X.mg x d) (hg : GlN X x) : ME nm X (.Name x pos) (mC d) := let ⟨u, v, h1, h2, h3⟩ := h; me_cn (pe_glob hg.g h1 h2 hg.d) h3
def lift2 (f : Store → D → D → Option D) (S : Store) (x y : D) : R D := match f S x y with
  | some d => .ok d S
  | none => .stuck
def mBin (f : Store → D → D → Option D) (a b : EM) : EM := fun e S => (a e S).bind fun x S => (b e S).bind fun y S => lift2 f S x y
def mUn (f : Store → D → Option D) (a : EM) : EM := fun e S => (a e S).bind fun x S => match f S x with
  | some d => .ok d S
  | none => .stuck
/-- what an operation asks of the interpretation -/
def rOpD (nm : Nms) (X : Cx) (f : Store → D → D → Option D) : R2 := fun x y H Q => ∃ S μ dx dy d, Sim nm X.K X.mg μ S H ∧ RV X.K H μ x dx ∧ RV X.K H μ y dy ∧ f S dx dy = some d ∧
  ∀ v μ' H', Ext μ H μ' H' → Sim nm X.K X.mg μ' S H' → RV X.K H' μ' v d → Q v H'
abbrev OpD (nm : Nms) (X : Cx) (g : Value → Value → Sem Value) (f : Store → D → D → Option D) : Prop := OpR X g (rOpD nm X f)
theorem bin_rd {f : Store → D → D → Option D} {W : WX} {σ : St} {H : Hp} {Q : VK} (h : rdE nm X W (mBin f ma mb) σ H Q) : tOp (rOpD nm X f) (rdE nm X W ma) (rdE nm X W mb) σ H Q := by
  obtain ⟨e, S, μ, E, s, p⟩ := h
  refine ⟨e, S, μ, E, s, (Post.bind p).mono fun dx S1 μ1 H1 x1 s1 p1 v rv => ?_⟩
  refine ⟨e, S1, μ1, E.ext x1, s1, (Post.bind p1).mono fun dy S2 μ2 H2 x2 s2 p2 u ru => ?_⟩
  unfold lift2 at p2
  split at p2
  · rename_i d hd
    exact ⟨S2, μ2, dx, dy, d, s2, rv.ext x2, ru, hd, fun w μ3 H3 x3 s3 r => p2 μ3 H3 x3 s3 w r⟩
  · exact False.elim p2
theorem me_bin {op : Operator} {f : Store → D → D → Option D} (ho : OpD nm X (binaryOp op) f) (ha : ME nm X a ma) (hb : ME nm X b mb) : ME nm X (.BinOp a op b pos) (mBin f ma mb) :=
  ⟨fun W tk => (pe_op ho (ha.run W tk) (hb.run W tk)).imp fun _ _ _ h => bin_rd h⟩
theorem me_cmp {op : CmpOp} {f : Store → D → D → Option D} (ho : OpD nm X (compareOp op) f) (ha : ME nm X a ma) (hb : ME nm X b mb) (hm : behindInMarks op b = false) : ME nm X (.Compare a [op] [b] pos) (mBin f ma mb) :=
  ⟨fun W tk => (pe_cmpR ho (ha.run W tk) (hb.run W tk) hm).imp fun _ _ _ h => bin_rd h⟩
def asB (d : D) : Option Bool := match d with
  | .bl b => some b
  | _ => none
@[simp] theorem asB_bl (b : Bool) : asB (.bl b) = some b := rfl
def mBl (m : EM) : TM := fun e S => (m e S).bind fun d S => match asB d with
  | some b => .ok b S
  | none => .stuck
theorem bl_rd {W : WX} {m : EM} {t : TE} (f : ∀ σ H Q, rdE nm X W m σ H Q → t σ H Q) {σ : St} {H : Hp} {Q : Bool → Hp → Prop} (h : rdT nm X W (mBl m) σ H Q) : t σ H fun x H' => ∃ k, x = .bl k ∧ Q k H' := by
  obtain ⟨e, S, μ, E, s, p⟩ := h
  refine f σ H _ ⟨e, S, μ, E, s, (Post.bind p).mono fun d S1 μ1 H1 x1 s1 p1 v rv => ?_⟩
  split at p1
  · rename_i b hb
    cases d with
    | bl b' => cases hb; cases rv; exact ⟨_, rfl, p1 μ1 H1 .refl s1⟩
    | _ => cases hb
  · exact False.elim p1
/-- a comparison as a test -/
theorem mt_cmp {op : CmpOp} {f : Store → D → D → Option D} (ho : OpD nm X (compareOp op) f) (ha : ME nm X a ma) (hb : ME nm X b mb) (hm : behindInMarks op b = false) : MT nm X (.Compare a [op] [b] pos) (mBl (mBin f ma mb)) :=
  ⟨fun W tk => (pt_cmpR ho (ha.run W tk) (hb.run W tk) hm).imp fun _ _ _ h => bl_rd (fun _ _ _ h => bin_rd h) h⟩
/-- an expression whose value is a truth, as a test -/
theorem mt_val {e : Expr} {m : EM} (h : ME nm X e m) (he : ∀ whole, isTrue e X.env whole = (do let v ← whole; standAt e.pos; holding [v] (truthy v)) := by intro _; rfl) : MT nm X e (mBl m) :=
  ⟨fun W tk => (pt_val (h.run W tk) he).imp fun _ _ _ h => bl_rd (fun _ _ _ h => h) h⟩
def mChain (f g : Store → D → D → Option D) (a b c : EM) : EM := fun e S => (a e S).bind fun x S => (b e S).bind fun y S => (lift2 f S x y).bind fun z S => match asB z with
  | some true => (c e S).bind fun w S => lift2 g S y w
  | some false => .ok (.bl false) S
  | none => .stuck
theorem chain_rd {f g : Store → D → D → Option D} {W : WX} {σ : St} {H : Hp} {Q : VK} (h : rdE nm X W (mChain f g ma mb mc) σ H Q) : tChain (rOpD nm X f) (rOpD nm X g) (rdE nm X W ma) (rdE nm X W mb) (rdE nm X W mc) σ H Q := by
  obtain ⟨e, S, μ, E, s, p⟩ := h
  refine ⟨e, S, μ, E, s, (Post.bind p).mono fun dx S1 μ1 H1 x1 s1 p1 v rv => ?_⟩
  refine ⟨e, S1, μ1, E.ext x1, s1, (Post.bind p1).mono fun dy S2 μ2 H2 x2 s2 p2 u ru => ?_⟩
  unfold lift2 at p2
  split at p2
  · rename_i d hd
    refine ⟨S2, μ2, dx, dy, d, s2, rv.ext x2, ru, hd, fun w μ3 H3 x3 s3 r => ?_⟩
    have p3 : Post nm X.K X.mg μ3 H3 (match asB d with
      | some true => (mc e S2).bind fun w S => (match g S dy w with | some d => R.ok d S | none => .stuck)
      | some false => .ok (.bl false) S2
      | none => .stuck) _ _ := Post.ext x3 p2
    cases d with
    | bl b =>
      cases r
      refine ⟨b, rfl, ?_⟩
      cases b with
      | false => rw [if_neg Bool.false_ne_true]; exact p3 μ3 H3 .refl s3 _ (.bl false)
      | true =>
        rw [if_pos rfl]
        refine ⟨e, S2, μ3, (E.ext (x1.trans x2)).ext x3, s3, (Post.bind (k := fun w S => (match g S dy w with | some d => R.ok d S | none => .stuck)) p3).mono fun dz S4 μ4 H4 x4 s4 p4 z rz => ?_⟩
        split at p4
        · rename_i d hd
          exact ⟨S4, μ4, dy, dz, d, s4, ru.ext (x3.trans x4), rz, hd, fun w μ5 H5 x5 s5 r => p4 μ5 H5 x5 s5 w r⟩
        · exact False.elim p4
    | _ => exact False.elim p3
  · exact False.elim p2
theorem me_chain {op op' : CmpOp} {f g : Store → D → D → Option D} (ho : OpD nm X (compareOp op) f) (ho' : OpD nm X (compareOp op') g) (ha : ME nm X a ma) (hb : ME nm X b mb) (hc : ME nm X c mc)
    (hm : lastMarks [op, op'] [b, c] = false := by rfl) : ME nm X (.Compare a [op, op'] [b, c] pos) (mChain f g ma mb mc) :=
  ⟨fun W tk => (pe_chain ho ho' (ha.run W tk) (hb.run W tk) (hc.run W tk) hm).imp fun _ _ _ h => chain_rd h⟩
theorem mt_chain {op op' : CmpOp} {f g : Store → D → D → Option D} (ho : OpD nm X (compareOp op) f) (ho' : OpD nm X (compareOp op') g) (ha : ME nm X a ma) (hb : ME nm X b mb) (hc : ME nm X c mc)
    (hm : lastMarks [op, op'] [b, c] = false := by rfl) : MT nm X (.Compare a [op, op'] [b, c] pos) (mBl (mChain f g ma mb mc)) :=
  ⟨fun W tk => (pt_chain ho ho' (ha.run W tk) (hb.run W tk) (hc.run W tk) hm).imp fun _ _ _ h => bl_rd (fun _ _ _ h => chain_rd h) h⟩
def mAnd (a b : TM) : TM := fun e S => (a e S).bind fun k S => if k = true then b e S else .ok false S
def mOr (a b : TM) : TM := fun e S => (a e S).bind fun k S => if k = true then .ok true S else b e S
def mNot (a : TM) : TM := fun e S => (a e S).bind fun k S => .ok (!k) S
variable {ta tb : TM} {rest : List Expr}
theorem MW.mt (h : MW nm X a ta) : MT nm X a ta := ⟨fun W tk => (h.run W tk).pt⟩
theorem mw_and1 (ha : MT nm X a ta) : MW nm X (.BoolOp .And [a] pos) ta := ⟨fun W tk => pw_and1 (ha.run W tk)⟩
theorem mw_or1 (ha : MT nm X a ta) : MW nm X (.BoolOp .Or [a] pos) ta := ⟨fun W tk => pw_or1 (ha.run W tk)⟩
theorem mw_and (ha : MT nm X a ta) (hb : MW nm X (.BoolOp .And (b :: rest) pos) tb) : MW nm X (.BoolOp .And (a :: b :: rest) pos) (mAnd ta tb) := by
  refine ⟨fun W tk => (pw_and (ha.run W tk) (hb.run W tk)).imp fun σ H Q h => ?_⟩
  obtain ⟨e, S, μ, E, s, p⟩ := h
  refine ⟨e, S, μ, E, s, (Post.bind p).mono fun k S1 μ1 H1 x1 s1 p1 => ?_⟩
  cases k with
  | true => rw [if_pos rfl] at p1 ⊢; exact ⟨e, S1, μ1, E.ext x1, s1, p1⟩
  | false => rw [if_neg Bool.false_ne_true] at p1 ⊢; exact p1 μ1 H1 .refl s1
theorem mw_or (ha : MT nm X a ta) (hb : MW nm X (.BoolOp .Or (b :: rest) pos) tb) : MW nm X (.BoolOp .Or (a :: b :: rest) pos) (mOr ta tb) := by
  refine ⟨fun W tk => (pw_or (ha.run W tk) (hb.run W tk)).imp fun σ H Q h => ?_⟩
  obtain ⟨e, S, μ, E, s, p⟩ := h
  refine ⟨e, S, μ, E, s, (Post.bind p).mono fun k S1 μ1 H1 x1 s1 p1 => ?_⟩
  cases k with
  | true => rw [if_pos rfl] at p1 ⊢; exact p1 μ1 H1 .refl s1
  | false => rw [if_neg Bool.false_ne_true] at p1 ⊢; exact ⟨e, S1, μ1, E.ext x1, s1, p1⟩
theorem mt_not (ha : MT nm X a ta) : MT nm X (.UnaryOp .Not a pos) (mNot ta) := by
  refine ⟨fun W tk => (pt_not (ha.run W tk)).imp fun σ H Q h => ?_⟩
  obtain ⟨e, S, μ, E, s, p⟩ := h
  exact ⟨e, S, μ, E, s, (Post.bind p).mono fun k S1 μ1 H1 x1 s1 p1 => p1 μ1 H1 .refl s1⟩
def mAndV (a b : EM) : EM := fun e S => (a e S).bind fun d S => match asB d with
  | some true => b e S
  | some false => .ok (.bl false) S
  | none => .stuck
def mOrV (a b : EM) : EM := fun e S => (a e S).bind fun d S => match asB d with
  | some false => b e S
  | some true => .ok (.bl true) S
  | none => .stuck
def mNotV (a : EM) : EM := fun e S => (a e S).bind fun d S => match asB d with
  | some k => .ok (.bl (!k)) S
  | none => .stuck
theorem me_one {op} (ha : ME nm X a ma) : ME nm X (.BoolOp op [a] pos) ma := ⟨fun W tk => pe_one (ha.run W tk)⟩
theorem me_and (ha : ME nm X a ma) (hb : ME nm X (.BoolOp .And (b :: rest) pos) mb) : ME nm X (.BoolOp .And (a :: b :: rest) pos) (mAndV ma mb) := by
  refine ⟨fun W tk => (pe_and (ha.run W tk) (hb.run W tk)).imp fun σ H Q h => ?_⟩
  obtain ⟨e, S, μ, E, s, p⟩ := h
  refine ⟨e, S, μ, E, s, (Post.bind p).mono fun d S1 μ1 H1 x1 s1 p1 v rv => ?_⟩
  split at p1
  · rename_i hb
    cases d with
    | bl b' => cases hb; cases rv; exact ⟨_, rfl, by rw [if_pos rfl]; exact ⟨e, S1, μ1, E.ext x1, s1, p1⟩⟩
    | _ => cases hb
  · rename_i hb
    cases d with
    | bl b' => cases hb; cases rv; exact ⟨_, rfl, by rw [if_neg Bool.false_ne_true]; exact p1 μ1 H1 .refl s1 _ (.bl false)⟩
    | _ => cases hb
  · exact False.elim p1
theorem me_or (ha : ME nm X a ma) (hb : ME nm X (.BoolOp .Or (b :: rest) pos) mb) : ME nm X (.BoolOp .Or (a :: b :: rest) pos) (mOrV ma mb) := by
  refine ⟨fun W tk => (pe_or (ha.run W tk) (hb.run W tk)).imp fun σ H Q h => ?_⟩
  obtain ⟨e, S, μ, E, s, p⟩ := h
  refine ⟨e, S, μ, E, s, (Post.bind p).mono fun d S1 μ1 H1 x1 s1 p1 v rv => ?_⟩
  split at p1
  · rename_i hb
    cases d with
    | bl b' => cases hb; cases rv; exact ⟨_, rfl, by rw [if_neg Bool.false_ne_true]; exact ⟨e, S1, μ1, E.ext x1, s1, p1⟩⟩
    | _ => cases hb
  · rename_i hb
    cases d with
    | bl b' => cases hb; cases rv; exact ⟨_, rfl, by rw [if_pos rfl]; exact p1 μ1 H1 .refl s1 _ (.bl true)⟩
    | _ => cases hb
  · exact False.elim p1
theorem me_not (ha : ME nm X a ma) : ME nm X (.UnaryOp .Not a pos) (mNotV ma) := by
  refine ⟨fun W tk => (pe_not (ha.run W tk)).imp fun σ H Q h => ?_⟩
  obtain ⟨e, S, μ, E, s, p⟩ := h
  refine ⟨e, S, μ, E, s, (Post.bind p).mono fun d S1 μ1 H1 x1 s1 p1 v rv => ?_⟩
  split at p1
  · rename_i hb
    cases d with
    | bl b' => cases hb; cases rv; exact ⟨_, rfl, p1 μ1 H1 .refl s1 _ (.bl _)⟩
    | _ => cases hb
  · exact False.elim p1
def mIf (c : TM) (a b : EM) : EM := fun e S => (c e S).bind fun k S => if k = true then a e S else b e S
theorem me_if {c : Expr} (hc : MT nm X c ta) (ha : ME nm X a ma) (hb : ME nm X b mb) : ME nm X (.IfExp c a b pos) (mIf ta ma mb) := by
  refine ⟨fun W tk => (pe_ifExp (hc.run W tk) (ha.run W tk) (hb.run W tk)).imp fun σ H Q h => ?_⟩
  obtain ⟨e, S, μ, E, s, p⟩ := h
  refine ⟨e, S, μ, E, s, (Post.bind p).mono fun k S1 μ1 H1 x1 s1 p1 => ?_⟩
  cases k with
  | true => rw [if_pos rfl] at p1 ⊢; exact ⟨e, S1, μ1, E.ext x1, s1, p1⟩
  | false => rw [if_neg Bool.false_ne_true] at p1 ⊢; exact ⟨e, S1, μ1, E.ext x1, s1, p1⟩
end
end BS
namespace BS
open PySem PySem.Spec PyProof.Rows L2
mutual
def pyF (f : Nat → PyData) : D → PyData
  | .non => .none
  | .bl b => .bool b
  | .int i => .int i
  | .str x => .str x
  | .tup ds => .tuple (pyFs f ds)
  | .lst ds => .list (pyFs f ds)
  | .scr ds => .list (pyFs f ds)
  | .obj n => f n
def pyFs (f : Nat → PyData) : List D → List PyData
  | [] => []
  | d :: ds => pyF f d :: pyFs f ds
end
def pyk : Nat → Store → Nat → PyData
  | 0, _, _ => .dict []
  | k + 1, S, n => match S[n]? with
    | some (.lst ds) => .list (pyFs (pyk k S) ds)
    | _ => .dict []
abbrev py (S : Store) (d : D) : PyData := pyF (pyk 3 S) d
abbrev pys (S : Store) (ds : List D) : List PyData := pyFs (pyk 3 S) ds
section
variable {nm : Nms} {K : PySem.W.Frag} {mg : Str → Option Value} {H : Hp} {μ : List Addr} {S : Store} {f : Nat → PyData}
mutual
theorem dp_F (hf : ∀ n a, μ[n]? = some a → (f n).plain = true → Dp K H (.ref a) (f n)) : ∀ {v : V} (d : D), RV K H μ v d → (pyF f d).plain = true → Dp K H v (pyF f d)
  | _, .non, h, _ => by cases h; exact .non
  | _, .bl b, h, _ => by cases h; exact .bl b
  | _, .int i, h, _ => by cases h; exact .int i
  | _, .str x, h, _ => by cases h; exact .str x
  | _, .tup ds, h, p => by
    cases h with
    | tup t r => exact .tup t.sq (dp_Fs hf ds r (by simpa [pyF, PyData.plain] using p))
  | _, .lst ds, h, p => by
    cases h with
    | lst t r => exact .lst (.of t.2) (dp_Fs hf ds r (by simpa [pyF, PyData.plain] using p))
  | _, .scr ds, h, p => by
    cases h with
    | scr t r => exact .lst t.sq (dp_Fs hf ds r (by simpa [pyF, PyData.plain] using p))
  | _, .obj n, h, p => by
    cases h with
    | obj e => exact hf n _ e p
theorem dp_Fs (hf : ∀ n a, μ[n]? = some a → (f n).plain = true → Dp K H (.ref a) (f n)) : ∀ {vs : List V} (ds : List D), RVs K H μ vs ds → PyData.plainAll (pyFs f ds) = true → DpAll K H vs (pyFs f ds)
  | _, [], h, _ => by cases h; exact .nil
  | _, d :: ds, h, p => by
    cases h with
    | cons r t =>
      have p' : (pyF f d).plain = true ∧ PyData.plainAll (pyFs f ds) = true := by simpa [pyFs, PyData.plainAll] using p
      exact .cons (dp_F hf d r p'.1) (dp_Fs hf ds t p'.2)
end
theorem dp_k (s : Sim nm K mg μ S H) : ∀ (k n : Nat) (a : Addr), μ[n]? = some a → (pyk k S n).plain = true → Dp K H (.ref a) (pyk k S n)
  | 0, n, a, _, p => by simp [pyk, PyData.plain] at p
  | k + 1, n, a, e, p => by
    unfold pyk at p ⊢
    split at p
    · rename_i ds hds
      obtain ⟨xs, e1, r⟩ := s.ob n a _ e hds
      exact .lst (.of e1) (dp_Fs (fun n a e p => dp_k s k n a e p) ds r (by simpa [PyData.plain] using p))
    · simp [PyData.plain] at p
theorem RV.dp (s : Sim nm K mg μ S H) {v : V} {d : D} (r : RV K H μ v d) (p : (py S d).plain = true) : Dp K H v (py S d) := dp_F (dp_k s 3) d r p
theorem RVs.dp (s : Sim nm K mg μ S H) {v : List V} {d : List D} (r : RVs K H μ v d) (p : PyData.plainAll (pys S d) = true) : DpAll K H v (pys S d) := dp_Fs (dp_k s 3) d r p
end
def small (a b : PyData) : Bool := a.plain && b.plain && decide (min a.depth b.depth < 100)
/-- x == y, where it may be asked -/
def eqS (S : Store) (x y : D) : Option Bool := if small (py S x) (py S y) = true then some (PyData.eqv (py S x) (py S y)) else none
def lstOf (S : Store) (d : D) : Option (List D) := match d with
  | .lst ds => some ds
  | .scr ds => some ds
  | .obj n => match S[n]? with
    | some (.lst ds) => some ds
    | _ => none
  | _ => none
def tupOf (d : D) : Option (List D) := match d with
  | .tup ds => some ds
  | _ => none
def seqOf (S : Store) (d : D) : Option (List D) := match tupOf d with
  | some ds => some ds
  | none => lstOf S d
section
variable {nm : Nms} {K : PySem.W.Frag} {mg : Str → Option Value} {H : Hp} {μ : List Addr} {S : Store} {v : V} {d : D} {ds : List D}
theorem lstOf_sq (s : Sim nm K mg μ S H) (r : RV K H μ v d) (h : lstOf S d = some ds) : ∃ a xs, v = .ref a ∧ SqL K H a xs ∧ RVs K H μ xs ds := by
  unfold lstOf at h
  split at h
  · cases h; cases r with | lst t r => exact ⟨_, _, rfl, .of t.2, r⟩
  · cases h; cases r with | scr t r => exact ⟨_, _, rfl, t.sq, r⟩
  · split at h
    · rename_i hds
      cases h
      cases r with | obj e =>
        obtain ⟨xs, e1, r⟩ := s.ob _ _ _ e hds
        exact ⟨_, xs, rfl, .of e1, r⟩
    · cases h
  · cases h
theorem tupOf_sq (r : RV K H μ v d) (h : tupOf d = some ds) : ∃ a xs, v = .ref a ∧ SqT K H a xs ∧ RVs K H μ xs ds := by
  unfold tupOf at h
  split at h
  · cases h; cases r with | tup t r => exact ⟨_, _, rfl, t.sq, r⟩
  · cases h
theorem seqOf_sq (s : Sim nm K mg μ S H) (r : RV K H μ v d) (h : seqOf S d = some ds) : ∃ a xs, v = .ref a ∧ (SqL K H a xs ∨ SqT K H a xs) ∧ RVs K H μ xs ds := by
  unfold seqOf at h
  split at h
  · rename_i e; cases h
    obtain ⟨a, xs, h1, h2, h3⟩ := tupOf_sq r e
    exact ⟨a, xs, h1, .inr h2, h3⟩
  · obtain ⟨a, xs, h1, h2, h3⟩ := lstOf_sq s r h
    exact ⟨a, xs, h1, .inl h2, h3⟩
end
/-- a list that has just been made: an object of the store, or one that stays as it is -/
def fin (new : Bool) (ds : List D) (S : Store) : R D := if new = true then .ok (.obj S.length) (S ++ [.lst ds]) else .ok (.lst ds) S
@[simp] theorem fin_t (ds : List D) (S : Store) : fin true ds S = .ok (.obj S.length) (S ++ [.lst ds]) := rfl
@[simp] theorem fin_f (ds : List D) (S : Store) : fin false ds S = .ok (.lst ds) S := rfl
section
variable {nm : Nms} {K : PySem.W.Frag} {mg : Str → Option Value} {H : Hp} {μ : List Addr} {S : Store}
theorem fin_post {new : Bool} {ds : List D} {xs : List V} {Q : VK} {E : PX} {p : Addr} (s : Sim nm K mg μ S H) (r : RVs K H μ xs ds) (np : H p = none)
    (h : Post nm K mg μ H (fin new ds S) (fun d _ μ' H' => ∀ v, RV K H' μ' v d → Q v H') E) : Q (.ref p) (upd H p (.lst xs)) := by
  cases new with
  | true =>
    have x := Ext.made (u := .lst xs) s np
    refine h _ _ x (s.made np ⟨xs, upd_same, RVs.ext x _ r⟩) _ (.obj ?_)
    rw [← s.len, List.getElem?_append_right (Nat.le_refl _)]
    simp
  | false =>
    have x := Ext.laid (u := .lst xs) s np
    exact h _ _ x (s.laid np) _ (.lst ⟨s.fresh np, upd_same⟩ (RVs.ext x _ r))
/-- a tuple that has just been made -/
theorem tup_post {ds : List D} {xs : List V} {Q : VK} {E : PX} {p : Addr} (s : Sim nm K mg μ S H) (r : RVs K H μ xs ds) (np : H p = none)
    (h : Post nm K mg μ H (.ok (.tup ds) S) (fun d _ μ' H' => ∀ v, RV K H' μ' v d → Q v H') E) : Q (.ref p) (upd H p (.tup xs)) := by
  have x := Ext.laid (u := .tup xs) s np
  exact h _ _ x (s.laid np) _ (.tup (.inl ⟨s.fresh np, .inl upd_same⟩) (RVs.ext x _ r))
end
def fI (g : Int → Int → Option D) : Store → D → D → Option D := fun _ x y => match x, y with
  | .int i, .int j => g i j
  | _, _ => none
def fAdd : Store → D → D → Option D := fun _ x y => match x, y with
  | .int i, .int j => some (.int (i + j))
  | .str a, .str b => if a.length + b.length ≤ sizeLine then some (.str (a ++ b)) else none
  | .tup a, .tup b => if a.isEmpty = false ∧ a.length + b.length ≤ sizeLine then some (.tup (a ++ b)) else none
  | _, _ => none
abbrev fSub := fI fun i j => some (.int (i - j))
abbrev fMul := fI fun i j => if (-(2 ^ 64) < i ∧ i < 2 ^ 64) ∨ (-(2 ^ 64) < j ∧ j < 2 ^ 64) then some (.int (i * j)) else none
abbrev fMod := fI fun i j => if 0 < j then some (.int (i % j)) else none
abbrev fDiv := fI fun i j => if 0 < j ∧ j < 1073741824 then some (.int (i / j)) else none
abbrev fPow := fI fun i j => if 0 ≤ j ∧ j ≤ 1000000 ∧ i.natAbs < 2 ^ 64 then some (.int (i ^ j.toNat)) else none
def ltS (a b : Str) : Bool := decide (a.cps.toList < b.cps.toList)
def fCmp (g : Int → Int → Bool) (h : Str → Str → Bool) : Store → D → D → Option D := fun _ x y => match x, y with
  | .int i, .int j => some (.bl (g i j))
  | .str a, .str b => some (.bl (h a b))
  | _, _ => none
abbrev fLt := fCmp (fun i j => decide (i < j)) fun a b => ltS a b
abbrev fLe := fCmp (fun i j => decide (i ≤ j)) fun a b => !ltS b a
abbrev fGt := fCmp (fun i j => decide (j < i)) fun a b => ltS b a
abbrev fGe := fCmp (fun i j => decide (j ≤ i)) fun a b => !ltS a b
def fEq : Store → D → D → Option D := fun S x y => (eqS S x y).map .bl
def fNe : Store → D → D → Option D := fun S x y => (eqS S x y).map fun b => .bl (!b)
def isNon (d : D) : Bool := match d with
  | .non => true
  | _ => false
@[simp] theorem isNon_non : isNon .non = true := rfl
@[simp] theorem isNon_bl (b : Bool) : isNon (.bl b) = false := rfl
@[simp] theorem isNon_int (b : Int) : isNon (.int b) = false := rfl
@[simp] theorem isNon_str (b : Str) : isNon (.str b) = false := rfl
@[simp] theorem isNon_tup (b : List D) : isNon (.tup b) = false := rfl
@[simp] theorem isNon_lst (b : List D) : isNon (.lst b) = false := rfl
@[simp] theorem isNon_obj (b : Nat) : isNon (.obj b) = false := rfl
def fIs : Store → D → D → Option D := fun _ x y => if isNon y = true then some (.bl (isNon x)) else none
def fIsNot : Store → D → D → Option D := fun _ x y => if isNon y = true then some (.bl (!isNon x)) else none
section
variable {nm : Nms} {X : Cx}
theorem opI_D {f : Value → Value → Sem Value} {C : Int → Int → Prop} {g : Int → Int → V} {h : Int → Int → Option D} (o : OpR X f (rI C g)) (hc : ∀ i j d, h i j = some d → C i j ∧ ∀ H μ, RV X.K H μ (g i j) d) : OpD nm X f (fI h) := by
  intro pins s σ H x y v u Q I rv ru hh
  obtain ⟨S, μ, dx, dy, d, sm, rx, ry, e, q⟩ := hh
  unfold fI at e
  split at e
  · cases rx; cases ry
    obtain ⟨c, r⟩ := hc _ _ _ e
    exact o pins s σ H _ _ v u Q I rv ru ⟨_, _, rfl, rfl, c, q _ μ H .refl sm (r _ _)⟩
  · cases e
theorem opI0_D {f : Value → Value → Sem Value} {g : Int → Int → Int} (o : OpR X f (rI0 fun i j => .int (g i j))) : OpD nm X f (fI fun i j => some (.int (g i j))) := by
  intro pins s σ H x y v u Q I rv ru hh
  obtain ⟨S, μ, dx, dy, d, sm, rx, ry, e, q⟩ := hh
  unfold fI at e
  split at e
  · cases rx; cases ry; cases e
    exact o pins s σ H _ _ v u Q I rv ru ⟨_, _, rfl, rfl, q _ μ H .refl sm (.int _)⟩
  · cases e
theorem o_sub : OpD nm X (binaryOp .Sub) fSub := opI0_D op_sub
theorem o_mul : OpD nm X (binaryOp .Mult) fMul := opI_D op_mul fun i j d h => by
  split at h
  · rename_i c; cases h; exact ⟨c, fun _ _ => .int _⟩
  · cases h
theorem o_mod : OpD nm X (binaryOp .Mod) fMod := opI_D op_mod fun i j d h => by
  split at h
  · rename_i c; cases h; exact ⟨c, fun _ _ => .int _⟩
  · cases h
theorem o_div : OpD nm X (binaryOp .FloorDiv) fDiv := opI_D op_fdiv fun i j d h => by
  split at h
  · rename_i c; cases h; exact ⟨c, fun _ _ => .int _⟩
  · cases h
theorem o_pow : OpD nm X (binaryOp .Pow) fPow := opI_D op_pow fun i j d h => by
  split at h
  · rename_i c; cases h; exact ⟨c, fun _ _ => .int _⟩
  · cases h
theorem o_add : OpD nm X (binaryOp .Add) fAdd := by
  intro pins s σ H x y v u Q I rv ru hh
  obtain ⟨S, μ, dx, dy, d, sm, rx, ry, e, q⟩ := hh
  unfold fAdd at e
  split at e
  · cases rx; cases ry; cases e
    exact op_add pins s σ H _ _ v u Q I rv ru ⟨_, _, rfl, rfl, q _ μ H .refl sm (.int _)⟩
  · split at e
    · rename_i c; cases rx; cases ry; cases e
      exact op_add_str pins s σ H _ _ v u Q I rv ru ⟨_, _, rfl, rfl, c, q _ μ H .refl sm (.str _)⟩
    · cases e
  · rename_i a b
    split at e
    · rename_i c
      cases e
      cases rx with | tup t1 r1 =>
      cases ry with | @tup b2 ys _ t2 r2 =>
      rename_i a1 xs
      have l1 := r1.length
      have l2 := r2.length
      have ne : xs ≠ [] := by
        intro z
        subst z
        cases a with
        | nil => exact absurd c.1 (by simp)
        | cons _ _ => simp at l1
      refine op_catT pins s σ H _ _ v u Q I rv ru ⟨_, _, xs, ys, rfl, rfl, t1.sq, t2.sq, ne, by rw [l1, l2]; exact c.2, fun z => ?_, fun _ p np => ?_⟩
      · subst z
        have hb : b = [] := by
          cases b with
          | nil => rfl
          | cons _ _ => simp at l2
        subst hb
        refine q _ μ H .refl sm ?_
        rw [List.append_nil]
        exact .tup t1 r1
      · exact tup_post (E := fun _ _ _ => False) sm (r1.append r2) np fun μ' H' x s v r => q v μ' H' x s r
    · cases e
  · cases e
theorem opC_D {op : CmpOp} {g : Int → Int → Bool} {h : Str → Str → Bool} (o : OpR X (compareOp op) (rI0 fun i j => .bl (g i j)))
    (p : OpR X (compareOp op) (fun x y H Q => ∃ i j, x = .str i ∧ y = .str j ∧ Q (.bl (h i j)) H)) : OpD nm X (compareOp op) (fCmp g h) := by
  intro pins s σ H x y v u Q I rv ru hh
  obtain ⟨S, μ, dx, dy, d, sm, rx, ry, e, q⟩ := hh
  unfold fCmp at e
  split at e
  · cases rx; cases ry; cases e
    exact o pins s σ H _ _ v u Q I rv ru ⟨_, _, rfl, rfl, q _ μ H .refl sm (.bl _)⟩
  · cases rx; cases ry; cases e
    exact p pins s σ H _ _ v u Q I rv ru ⟨_, _, rfl, rfl, q _ μ H .refl sm (.bl _)⟩
  · cases e
theorem o_lt : OpD nm X (compareOp .Lt) fLt := opC_D op_lt op_lt_str
theorem o_le : OpD nm X (compareOp .LtE) fLe := opC_D op_le op_le_str
theorem o_gt : OpD nm X (compareOp .Gt) fGt := opC_D op_gt op_gt_str
theorem o_ge : OpD nm X (compareOp .GtE) fGe := opC_D op_ge op_ge_str
theorem o_eq {k : Nat} (hr : L2H.RoomH k X.A) : OpD nm X (compareOp .Eq) fEq := by
  intro pins s σ H x y v u Q I rv ru hh
  obtain ⟨S, μ, dx, dy, d, sm, rx, ry, e, q⟩ := hh
  unfold fEq eqS at e
  split at e
  · rename_i c
    cases e
    simp only [small, Bool.and_eq_true, decide_eq_true_eq] at c
    obtain ⟨as, h1⟩ := Dp.reads I _ _ _ (rx.dp sm c.1.1) rv
    obtain ⟨bs, h2⟩ := Dp.reads I _ _ _ (ry.dp sm c.1.2) ru
    have := hr.un
    exact SeqAt.eq_plain h1 h2 c.1.1 c.1.2 (by omega) ⟨.bl _, H, I, rfl, q _ μ H .refl sm (.bl _)⟩
  · cases e
theorem o_ne {k : Nat} (hr : L2H.RoomH k X.A) : OpD nm X (compareOp .NotEq) fNe := by
  intro pins s σ H x y v u Q I rv ru hh
  obtain ⟨S, μ, dx, dy, d, sm, rx, ry, e, q⟩ := hh
  unfold fNe eqS at e
  split at e
  · rename_i c
    cases e
    simp only [small, Bool.and_eq_true, decide_eq_true_eq] at c
    obtain ⟨as, h1⟩ := Dp.reads I _ _ _ (rx.dp sm c.1.1) rv
    obtain ⟨bs, h2⟩ := Dp.reads I _ _ _ (ry.dp sm c.1.2) ru
    have := hr.un
    exact SeqAt.ne_plain h1 h2 c.1.1 c.1.2 (by omega) ⟨.bl _, H, I, rfl, q _ μ H .refl sm (.bl _)⟩
  · cases e
theorem isNon_iff {K : PySem.W.Frag} {H : Hp} {μ : List Addr} {v : V} {d : D} (r : RV K H μ v d) : decide (v = .non) = isNon d := by
  cases r <;> first | rfl | simp [isNon]
theorem o_is : OpD nm X (compareOp .Is) fIs := by
  intro pins s σ H x y v u Q I rv ru hh
  obtain ⟨S, μ, dx, dy, d, sm, rx, ry, e, q⟩ := hh
  unfold fIs at e
  split at e
  · rename_i c
    cases e
    refine op_isN pins s σ H _ _ v u Q I rv ru ⟨?_, q _ μ H .refl sm ?_⟩
    · have := isNon_iff ry; rw [c] at this; exact of_decide_eq_true this
    · rw [isNon_iff rx]; exact .bl _
  · cases e
theorem o_isnot : OpD nm X (compareOp .IsNot) fIsNot := by
  intro pins s σ H x y v u Q I rv ru hh
  obtain ⟨S, μ, dx, dy, d, sm, rx, ry, e, q⟩ := hh
  unfold fIsNot at e
  split at e
  · rename_i c
    cases e
    refine op_notN pins s σ H _ _ v u Q I rv ru ⟨?_, q _ μ H .refl sm ?_⟩
    · have := isNon_iff ry; rw [c] at this; exact of_decide_eq_true this
    · rw [isNon_iff rx]; exact .bl _
  · cases e
end
def inStr (a b : Str) : Bool := !(Builtin.Str.occurrences b a 0 b.length 1).isEmpty
def keyOf (d : D) : Option Key := match d with
  | .int i => some (.inl i)
  | .str x => some (.inr x)
  | _ => none
def getK (kvs : List (Key × D)) (k : Key) : Option D := (kvs.find? fun kv => decide (kv.1 = k)).map (·.2)
def dctOf (S : Store) (d : D) : Option (List (Key × D)) := match d with
  | .obj n => match S[n]? with
    | some (.dct kvs) => some kvs
    | _ => none
  | _ => none
def inS (S : Store) (x y : D) : Option Bool := match y with
  | .str b => match x with
    | .str a => some (inStr a b)
    | _ => none
  | _ => match dctOf S y with
    | some kvs => (keyOf x).map fun k => (getK kvs k).isSome
    | none => match seqOf S y with
      | some ys => if ((py S x).plain && PyData.plainAll (pys S ys) && decide (min (PyData.depthAll (pys S ys)) (py S x).depth < 100)) = true then some ((pys S ys).any fun z => PyData.eqv z (py S x)) else none
      | none => none
def fIn : Store → D → D → Option D := fun S x y => (inS S x y).map .bl
def fNotIn : Store → D → D → Option D := fun S x y => (inS S x y).map fun b => .bl (!b)
section
variable {nm : Nms} {X : Cx}
theorem getK_val {K : PySem.W.Frag} {H : Hp} {μ : List Addr} : ∀ {ys : List (Key × V)} {kvs : List (Key × D)} (k : Key), RK K H μ ys kvs → (valV ys k = none ∧ getK kvs k = none) ∨ ∃ v d, valV ys k = some v ∧ getK kvs k = some d ∧ RV K H μ v d
  | _, _, k, .nil => .inl ⟨rfl, rfl⟩
  | p :: ys, q :: kvs, k, .cons r t => by
    by_cases e : p.1 = k
    · refine .inr ⟨p.2, q.2, valV_pos e, ?_, r.2⟩
      unfold getK
      rw [List.find?_cons_of_pos (by rw [← r.1]; simpa using e)]
      rfl
    · rcases getK_val k t with ⟨h1, h2⟩ | ⟨v, d, h1, h2, h3⟩
      · refine .inl ⟨by rw [valV_neg e]; exact h1, ?_⟩
        unfold getK at h2 ⊢
        rw [List.find?_cons_of_neg (by rw [← r.1]; simpa using e)]
        exact h2
      · refine .inr ⟨v, d, by rw [valV_neg e]; exact h1, ?_, h3⟩
        unfold getK at h2 ⊢
        rw [List.find?_cons_of_neg (by rw [← r.1]; simpa using e)]
        exact h2
theorem keyOf_kV {K : PySem.W.Frag} {H : Hp} {μ : List Addr} {v : V} {d : D} {k : Key} (r : RV K H μ v d) (e : keyOf d = some k) : v = kV k := by
  unfold keyOf at e
  split at e
  · cases e; cases r; rfl
  · cases e; cases r; rfl
  · cases e
theorem dctOf_at {K : PySem.W.Frag} {mg : Str → Option Value} {H : Hp} {μ : List Addr} {S : Store} {v : V} {d : D} {kvs : List (Key × D)} (s : Sim nm K mg μ S H) (r : RV K H μ v d) (h : dctOf S d = some kvs) :
    ∃ n a ys, d = .obj n ∧ v = .ref a ∧ μ[n]? = some a ∧ S[n]? = some (.dct kvs) ∧ H a = some (.dK ys) ∧ RK K H μ ys kvs := by
  unfold dctOf at h
  split at h
  · split at h
    · rename_i hds
      cases h
      cases r with | obj e =>
        obtain ⟨ys, e1, r⟩ := s.ob _ _ _ e hds
        exact ⟨_, _, ys, rfl, rfl, e, hds, e1, r⟩
    · cases h
  · cases h
theorem in_core {k : Nat} {neg : Bool} (hr : L2H.RoomH k X.A) {op : CmpOp} (hop : op = if neg = true then .NotIn else .In) : OpD nm X (compareOp op) (fun S x y => (inS S x y).map fun b => .bl (if neg = true then !b else b)) := by
  intro pins s σ H x y v u Q I rv ru hh
  obtain ⟨S, μ, dx, dy, d, sm, rx, ry, e0, q⟩ := hh
  have hun := hr.un
  obtain ⟨b, e, e1⟩ := Option.map_eq_some_iff.mp e0
  clear e0
  subst e1
  have q : Q (.bl (if neg = true then !b else b)) H := q _ μ H .refl sm (.bl _)
  unfold inS at e
  split at e
  · split at e
    · cases e; cases rx; cases ry
      subst hop
      cases neg with
      | true => exact op_notin_str pins s σ H _ _ v u Q I rv ru ⟨_, _, rfl, rfl, q⟩
      | false => exact op_in_str pins s σ H _ _ v u Q I rv ru ⟨_, _, rfl, rfl, q⟩
    · cases e
  · split at e
    · rename_i kvs hk
      obtain ⟨key, hkey, rfl⟩ := Option.map_eq_some_iff.mp e
      obtain ⟨n, a, ys, rfl, rfl, _, _, e1, r1⟩ := dctOf_at sm ry hk
      have ek := keyOf_kV rx hkey
      subst ek
      cases ru
      have hs : (valV ys key).isSome = (getK kvs key).isSome := by
        rcases getK_val key r1 with ⟨h1, h2⟩ | ⟨_, _, h1, h2, _⟩ <;> rw [h1, h2] <;> rfl
      subst hop
      cases neg with
      | true => exact d_notIn (by omega) I (DGet.k e1) rv fun s' I' => ⟨.bl _, H, I', rfl, by rw [hs]; exact q⟩
      | false => exact d_in (by omega) I (DGet.k e1) rv fun s' I' => ⟨.bl _, H, I', rfl, by rw [hs]; exact q⟩
    · split at e
      · rename_i ys hys
        split at e
        · rename_i c
          cases e
          simp only [Bool.and_eq_true, decide_eq_true_eq] at c
          obtain ⟨as, h1⟩ := Dp.reads I _ _ _ (rx.dp sm c.1.1) rv
          obtain ⟨a, xs, rfl, hs, r⟩ := seqOf_sq sm ry hys
          cases ru
          subst hop
          rcases hs with hs | hs
          · obtain ⟨its, rvs, ⟨o, n, ho, hc, _, hd⟩, _⟩ := I.list hs
            obtain ⟨bs, h2⟩ := Dp.readsAll I _ _ _ (r.dp sm c.1.2) rvs
            cases neg with
            | true => exact SeqAt.notIn_list_data (Reads.list ho hc hd h2) h1 c.1.2 c.1.1 (by omega) ⟨.bl _, H, I, rfl, q⟩
            | false => exact SeqAt.in_list_data (Reads.list ho hc hd h2) h1 c.1.2 c.1.1 (by omega) ⟨.bl _, H, I, rfl, q⟩
          · obtain ⟨its, rvs, ⟨o, ho, hc, n, hd⟩, _⟩ := I.tuple hs
            obtain ⟨bs, h2⟩ := Dp.readsAll I _ _ _ (r.dp sm c.1.2) rvs
            cases neg with
            | true => exact SeqAt.notIn_tuple_data (Reads.tuple ho hc hd h2) h1 c.1.2 c.1.1 (by omega) ⟨.bl _, H, I, rfl, q⟩
            | false => exact SeqAt.in_tuple_data (Reads.tuple ho hc hd h2) h1 c.1.2 c.1.1 (by omega) ⟨.bl _, H, I, rfl, q⟩
        · cases e
      · cases e
theorem o_in {k : Nat} (hr : L2H.RoomH k X.A) : OpD nm X (compareOp .In) fIn := in_core (neg := false) hr rfl
theorem o_notin {k : Nat} (hr : L2H.RoomH k X.A) : OpD nm X (compareOp .NotIn) fNotIn := in_core (neg := true) hr rfl
theorem un_D {op : UnaryOp} {f : Store → D → Option D} {a : Expr} {ma : EM} {pos : Pos} {r : V → Hp → VK → Prop} (hu : UnR X (unaryOp op) r) (h : ∀ S μ H x dx d Q, Sim nm X.K X.mg μ S H → RV X.K H μ x dx → f S dx = some d → (∀ v, RV X.K H μ v d → Q v H) → r x H Q)
    (ha : ME nm X a ma) : ME nm X (.UnaryOp op a pos) (mUn f ma) := by
  refine ⟨fun W tk => (pe_un hu (ha.run W tk)).imp fun σ H Q hh => ?_⟩
  obtain ⟨e, S, μ, E, s, p⟩ := hh
  refine ⟨e, S, μ, E, s, (Post.bind p).mono fun dx S1 μ1 H1 x1 s1 p1 v rv => ?_⟩
  split at p1
  · rename_i d hd
    exact h S1 μ1 H1 v dx d Q s1 rv hd fun w r => p1 μ1 H1 .refl s1 w r
  · exact False.elim p1
def fNeg : Store → D → Option D := fun _ x => match x with
  | .int i => some (.int (-i))
  | _ => none
theorem me_neg {a : Expr} {ma : EM} {pos : Pos} (ha : ME nm X a ma) : ME nm X (.UnaryOp .USub a pos) (mUn fNeg ma) := un_D un_neg (fun S μ H x dx d Q s r e q => by
  unfold fNeg at e
  split at e
  · cases e; cases r; exact ⟨_, rfl, q _ (.int _)⟩
  · cases e) ha
end
end BS
namespace BS
open PySem PySem.Spec PyProof.Rows L2
section
variable {nm : Nms} {X : Cx} {pos : Pos} {e : Expr} {es : List Expr} {me : EM} {ma : AM}
def mNil : AM := fun _ S => .ok [] S
def mCons (m : EM) (r : AM) : AM := fun e S => (m e S).bind fun d S => (r e S).bind fun ds S => .ok (d :: ds) S
theorem ma_nil : MA nm X [] mNil := ⟨fun W tk => pa_nil.imp fun σ H Q h => by
  obtain ⟨e, S, μ, E, s, p⟩ := h
  exact p μ H .refl s _ .nil, fun e S ds S' h => by cases h; rfl⟩
theorem ma_cons (ha : ME nm X e me) (hr : MA nm X es ma) (hs : starEach (e :: es) X.env = (false, eval e X.env) :: starEach es X.env := by rfl) : MA nm X (e :: es) (mCons me ma) := by
  refine ⟨fun W tk => (pa_cons (ha.run W tk) (hr.run W tk) hs).imp fun σ H Q h => ?_, fun e S ds S' h => ?_⟩
  · obtain ⟨e, S, μ, E, s, p⟩ := h
    refine ⟨e, S, μ, E, s, (Post.bind p).mono fun d S1 μ1 H1 x1 s1 p1 v rv => ?_⟩
    refine ⟨e, S1, μ1, E.ext x1, s1, (Post.bind p1).mono fun ds S2 μ2 H2 x2 s2 p2 vs rvs => ?_⟩
    exact p2 μ2 H2 .refl s2 _ (.cons (rv.ext x2) rvs)
  · unfold mCons at h
    cases h1 : me e S with
    | ok d S1 =>
      rw [h1, R.bind_ok] at h
      cases h2 : ma e S1 with
      | ok ds1 S2 =>
        rw [h2, R.bind_ok] at h
        cases h
        rw [List.length_cons, List.length_cons, hr.len _ _ _ _ h2]
      | exc c fs S2 => rw [h2] at h; cases h
      | stuck => rw [h2] at h; cases h
    | exc c fs S1 => rw [h1] at h; cases h
    | stuck => rw [h1] at h; cases h
def mTup (m : AM) : EM := fun e S => (m e S).bind fun ds S => .ok (.tup ds) S
def mLst (new : Bool) (m : AM) : EM := fun e S => (m e S).bind fun ds S => fin new ds S
theorem lenOk {n : Nat} (h : n ≤ 1000) : n ≤ sizeLine := Nat.le_of_lt (small1000 h)
theorem post_len {W : WX} {σ : St} {H : Hp} {μ : List Addr} {ev : Ev} {S : Store} {P : PA (List D)} (hm : MA nm X es ma) (p : PostX nm X W μ H σ (ma ev S) P) : PostX nm X W μ H σ (ma ev S) fun ds S' μ' H' => ds.length = es.length ∧ P ds S' μ' H' := by
  cases h : ma ev S with
  | ok ds S' => rw [h] at p; exact fun μ' H' x s => ⟨hm.len _ _ _ _ h, p μ' H' x s⟩
  | exc c fs S' => rw [h] at p; exact p
  | stuck => rw [h] at p; exact p
theorem me_tup {x1} (h : MA nm X es ma) (hl : es.length ≤ 1000 := by decide) : ME nm X (.Tuple es x1 pos) (mTup ma) := by
  refine ⟨fun W tk => (pe_tup (h.run W tk)).imp fun σ H Q hh => ?_⟩
  obtain ⟨e, S, μ, E, s, p⟩ := hh
  refine ⟨e, S, μ, E, s, (post_len h (Post.bind p)).mono fun ds S1 μ1 H1 x1 s1 p1 vs rvs => ⟨?_, fun p np => tup_post s1 rvs np p1.2⟩⟩
  rw [rvs.length, p1.1]; exact lenOk hl
theorem me_lst (new : Bool) (h : MA nm X es ma) (hl : es.length ≤ 1000 := by decide) : ME nm X (.List es pos) (mLst new ma) := by
  refine ⟨fun W tk => (pe_lst (h.run W tk)).imp fun σ H Q hh => ?_⟩
  obtain ⟨e, S, μ, E, s, p⟩ := hh
  refine ⟨e, S, μ, E, s, (post_len h (Post.bind p)).mono fun ds S1 μ1 H1 x1 s1 p1 vs rvs => ⟨?_, fun p np => fin_post s1 rvs np p1.2⟩⟩
  rw [rvs.length, p1.1]; exact lenOk hl
/-- {} -/
def mDct : EM := fun _ S => .ok (.obj S.length) (S ++ [.dct []])
theorem made_dct {K : PySem.W.Frag} {mg : Str → Option Value} {μ : List Addr} {S : Store} {H : Hp} {p : Addr} (s : Sim nm K mg μ S H) (np : H p = none) : Sim nm K mg (μ ++ [p]) (S ++ [.dct []]) (upd H p (.dK [])) :=
  s.made np ⟨[], upd_same, .nil⟩
theorem new_at {K : PySem.W.Frag} {mg : Str → Option Value} {μ : List Addr} {S : Store} {H : Hp} {p : Addr} (s : Sim nm K mg μ S H) : (μ ++ [p])[S.length]? = some p := by
  rw [← s.len, List.getElem?_append_right (Nat.le_refl _)]; simp
theorem me_dct : ME nm X (.Dict [] [] pos) mDct := by
  refine ⟨fun W tk => pe_dnewK.imp fun σ H Q hh => ?_⟩
  obtain ⟨e, S, μ, E, s, p⟩ := hh
  intro q nq
  exact p _ _ (Ext.made s nq) (made_dct s nq) _ (.obj (new_at s))
def strAt (c : Nat) : D := .str ⟨#[c]⟩
def fIx : Store → D → D → Option D := fun S x i => match i with
  | .int i => match x with
    | .str z => if z.length ≤ sizeLine then (atI z.cps.toList i).map strAt else none
    | _ => match seqOf S x with
      | some ds => atI ds i
      | none => match dctOf S x with
        | some kvs => getK kvs (.inl i)
        | none => none
  | .str k => match dctOf S x with
    | some kvs => getK kvs (.inr k)
    | none => none
  | _ => none
theorem atI_rvs {K : PySem.W.Frag} {H : Hp} {μ : List Addr} {xs : List V} {ds : List D} {i : Int} {d : D} (r : RVs K H μ xs ds) (h : atI ds i = some d) : ∃ v, atI xs i = some v ∧ RV K H μ v d := by
  unfold atI at h ⊢
  rw [← r.length] at h
  cases e : ixN xs.length i with
  | none => rw [e] at h; cases h
  | some j =>
    rw [e] at h
    obtain ⟨v, h1, h2⟩ := r.get (i := j) h
    exact ⟨v, h1, h2⟩
theorem dict_tail {prog : Program} {w : World} {A : Around} {E : Value → Shared → Prop} {s₂ : Shared} {value slice : Expr} {o i : Value} {Q : Value → Shared → Prop} (hT : s₂.TypeIs o "dict") (hs : subscripted slice false o i = operate [o, i] (getItem o i))
    (h₂ : wpAny (model prog w) A (getItem o i) Q E s₂) : wpAny (model prog w) A (subscriptTail value slice o i) Q E s₂ := by
  unfold subscriptTail
  refine wpAny_bind ?_
  rw [getitemInPython_of_ne hT.not_modules]
  refine wpAny_bind (wpAny_specialOf hT PySem.F.slot_dict_getitem.lookup ?_)
  have fin : wpAny (model prog w) A (subscripted slice false o i) (fun r s₃ => wpAny (model prog w) A (letTemporaryGo value o r >>= fun _ => pure r) Q E s₃) E s₂ := by
    rw [hs]
    exact wpAny_operating (wpAny_mono h₂ (fun r s₃ h₃ => wpAny_bind (wpAny_letTemporaryGo (wpAny_pure h₃))) fun _ _ x => x)
  first
    | exact wpAny_pure (wpAny_bind fin)
    | exact wpAny_bind (wpAny_pure (wpAny_bind fin))
    | exact wpAny_bind fin
/-- the read o[i] of a sequence or a dict, as the two rules of the layer give it -/
def mIx (a b : EM) : EM := mBin fIx a b
theorem ix_core (hr : X.A.units + 1 < cLine) {a b : Expr} {ta tb : TE} (ha : PE X a ta) (hb : PE X b tb) (hs : PlainIx b) : PE X (.Subscript a b pos) (tOp (rOpD nm X fIx) ta tb) := by
  refine ⟨fun pins s σ H Q I h => ?_⟩
  -- which rule is decided by the values: run both subexpressions, then the tail
  have key : ∀ (pins : List (Addr × Obj)) (s : Shared) (σ : St) (H : Hp) (x y : V) (v u : Value) (Q : VK), Inv X pins σ H s → RelV x v → RelV y u → rOpD nm X fIx x y H Q →
      (rIx X.K x y H Q) ∨ ∃ a w, x = .ref a ∧ DGet H a y (some w) ∧ Q w H := by
    intro pins s σ H x y v u Q I rv ru hh
    obtain ⟨S, μ, dx, dy, d, sm, rx, ry, e, q⟩ := hh
    have q : ∀ v, RV X.K H μ v d → Q v H := fun v r => q v μ H .refl sm r
    unfold fIx at e
    split at e
    · cases ry
      split at e
      · cases rx
        split at e
        · rename_i c
          obtain ⟨z, h1, rfl⟩ := Option.map_eq_some_iff.mp e
          exact .inl (.inr (.inr ⟨_, _, z, rfl, rfl, c, h1, q _ (.str _)⟩))
        · cases e
      · split at e
        · rename_i ds hds
          obtain ⟨a, xs, rfl, hs, r⟩ := seqOf_sq sm rx hds
          obtain ⟨w, h1, h2⟩ := atI_rvs r e
          rcases hs with hs | hs
          · exact .inl (.inl ⟨a, xs, _, w, rfl, rfl, hs, h1, q _ h2⟩)
          · exact .inl (.inr (.inl ⟨a, xs, _, w, rfl, rfl, hs, h1, q _ h2⟩))
        · split at e
          · rename_i kvs hk
            obtain ⟨n, a, ys, rfl, rfl, _, _, e1, r1⟩ := dctOf_at sm rx hk
            rcases getK_val _ r1 with ⟨h1, h2⟩ | ⟨w, d', h1, h2, h3⟩
            · rw [h2] at e; cases e
            · rw [h2] at e; cases e
              exact .inr ⟨a, w, rfl, h1 ▸ DGet.k (k := Sum.inl _) e1, q _ h3⟩
          · cases e
    · cases ry
      split at e
      · rename_i kvs hk
        obtain ⟨n, a, ys, rfl, rfl, _, _, e1, r1⟩ := dctOf_at sm rx hk
        rcases getK_val _ r1 with ⟨h1, h2⟩ | ⟨w, d', h1, h2, h3⟩
        · rw [h2] at e; cases e
        · rw [h2] at e; cases e
          exact .inr ⟨a, w, rfl, h1 ▸ DGet.k (k := Sum.inr _) e1, q _ h3⟩
      · cases e
    · cases e
  refine Subscript_ (thn (ha.run pins s σ H _ I h) fun v s1 ⟨x, H1, I1, r1, q1⟩ => thn (hb.run pins s1 σ H1 _ I1 q1) fun u s2 ⟨y, H2, I2, r2, q2⟩ => ?_)
  rcases key pins s2 σ H2 x y v u Q I2 r1 r2 q2 with h | ⟨a', w, rfl, g, q⟩
  · exact ix_seq a b pins s2 σ H2 x y v u Q I2 r1 r2 h (hs _ _)
  · cases r1
    exact dict_tail (dict_typeIs I2 g) (hs _ _) (d_getItem hr I2 g r2 fun w' s' I' rw' => ⟨w, H2, I', rw', q⟩)
theorem me_ix {k : Nat} (hr : L2H.RoomH k X.A) {a b : Expr} {ma mb : EM} (ha : ME nm X a ma) (hb : ME nm X b mb) (hs : PlainIx b := by exact fun _ _ => rfl) : ME nm X (.Subscript a b pos) (mIx ma mb) :=
  ⟨fun W tk => (ix_core (nm := nm) (by have := hr.un; omega) (ha.run W tk) (hb.run W tk) hs).imp fun _ _ _ h => bin_rd h⟩
abbrev OM := Ev → Store → R (Option Int)
def rdO (nm : Nms) (X : Cx) (W : WX) (m : OM) : TO := fun σ H Q => ∃ e S μ, EvR nm X H μ e σ ∧ Sim nm X.K X.mg μ S H ∧ PostX nm X W μ H σ (m e S) fun o _ μ' H' => Q o H'
structure MO (nm : Nms) (X : Cx) (e : Option Expr) (m : OM) : Prop where
  run : ∀ W, Takes X W → PO X e (rdO nm X W m)
theorem _root_.L2.PO.imp {X : Cx} {e : Option Expr} {t t' : TO} (h : PO X e t) (f : ∀ σ H Q, t' σ H Q → t σ H Q) : PO X e t' := ⟨fun pins s σ H Q I q => h.run pins s σ H Q I (f _ _ _ q)⟩
def oNo : OM := fun _ S => .ok none S
def oAt (m : EM) : OM := fun e S => (m e S).bind fun d S => match d with
  | .int i => .ok (some i) S
  | _ => .stuck
theorem mo_no : MO nm X none oNo := ⟨fun W tk => po_none.imp fun σ H Q h => by
  obtain ⟨e, S, μ, E, s, p⟩ := h
  exact p μ H .refl s⟩
theorem mo_at (h : ME nm X e me) : MO nm X (some e) (oAt me) := ⟨fun W tk => (po_some (h.run W tk)).imp fun σ H Q h => by
  obtain ⟨e, S, μ, E, s, p⟩ := h
  refine ⟨e, S, μ, E, s, (Post.bind p).mono fun d S1 μ1 H1 x1 s1 p1 v rv => ?_⟩
  split at p1
  · cases rv; exact ⟨_, rfl, p1 μ1 H1 .refl s1⟩
  · exact False.elim p1⟩
def cutD (xs : List D) (lo hi : Option Int) : List D := (xs.drop (HT.sIx xs.length 0 lo)).take (HT.sIx xs.length xs.length hi - HT.sIx xs.length 0 lo)
theorem cut_rvs {K : PySem.W.Frag} {H : Hp} {μ : List Addr} {xs : List V} {ds : List D} (r : RVs K H μ xs ds) (lo hi : Option Int) : RVs K H μ (cutV xs lo hi) (cutD ds lo hi) := by
  unfold cutV cutD
  rw [r.length]
  exact (r.drop _).take _
def slS (new : Bool) (S : Store) (x : D) (lo hi : Option Int) : R D := match x with
  | .str z => if z.length ≤ sizeLine then .ok (.str (cutS z lo hi)) S else .stuck
  | .tup ds => if HT.sIx ds.length 0 lo = 0 ∧ HT.sIx ds.length ds.length hi = ds.length then .stuck else .ok (.tup (cutD ds lo hi)) S
  | _ => match lstOf S x with
    | some ds => fin new (cutD ds lo hi) S
    | none => .stuck
def mSl (new : Bool) (a : EM) (lo hi : OM) : EM := fun e S => (a e S).bind fun x S => (lo e S).bind fun l S => (hi e S).bind fun h S => slS new S x l h
theorem me_sl (new : Bool) {lo hi : Option Expr} {ml mh : OM} {p2 : Pos} (he : ME nm X e me) (hl : MO nm X lo ml) (hu : MO nm X hi mh) : ME nm X (.Subscript e (.Slice lo hi none p2) pos) (mSl new me ml mh) := by
  refine ⟨fun W tk => (pe_slice ((sl_str.or sl_tup).or sl_list) (he.run W tk) (hl.run W tk) (hu.run W tk)).imp fun σ H Q h => ?_⟩
  obtain ⟨e, S, μ, E, s, p⟩ := h
  refine ⟨e, S, μ, E, s, (Post.bind p).mono fun d S1 μ1 H1 x1 s1 p1 v rv => ?_⟩
  refine ⟨e, S1, μ1, E.ext x1, s1, (Post.bind p1).mono fun l S2 μ2 H2 x2 s2 p2 => ?_⟩
  refine ⟨e, S2, μ2, E.ext (x1.trans x2), s2, (Post.bind p2).mono fun h S3 μ3 H3 x3 s3 p3 => ?_⟩
  have rv := rv.ext (x2.trans x3)
  unfold slS at p3
  split at p3
  · cases rv
    split at p3
    · rename_i c; exact .inl (.inl ⟨_, rfl, c, p3 μ3 H3 .refl s3 _ (.str _)⟩)
    · exact False.elim p3
  · cases rv with | tup t r =>
    split at p3
    · exact False.elim p3
    · rename_i c
      exact .inl (.inr ⟨_, _, rfl, t.sq, by rw [r.length]; exact c, fun p np => tup_post s3 (cut_rvs r l h) np p3⟩)
  · split at p3
    · rename_i ds hds
      obtain ⟨a, xs, rfl, hs, r⟩ := lstOf_sq s3 rv hds
      exact .inr ⟨a, xs, rfl, hs, fun p np => fin_post s3 (cut_rvs r l h) np p3⟩
    · exact False.elim p3
def getN {α : Type} : List (Nat × α) → Nat → Option α
  | [], _ => none
  | p :: r, k => if p.1 = k then some p.2 else getN r k
def setN {α : Type} (k : Nat) (v : α) : List (Nat × α) → List (Nat × α)
  | [] => [(k, v)]
  | p :: r => if p.1 = k then (k, v) :: r else p :: setN k v r
theorem rf_get {K : PySem.W.Frag} {H : Hp} {μ : List Addr} : ∀ {gs : List (Str × V)} {fs : List (Nat × D)} (f : Nat), f < nm.most → RF nm K H μ gs fs → (gs.lookup (nm.fld f) = none ∧ getN fs f = none) ∨ ∃ v d, gs.lookup (nm.fld f) = some v ∧ getN fs f = some d ∧ RV K H μ v d
  | _, _, f, _, .nil => .inl ⟨rfl, rfl⟩
  | p :: gs, q :: fs, f, hf, .cons r t => by
    by_cases e : q.1 = f
    · refine .inr ⟨p.2, q.2, ?_, by unfold getN; rw [if_pos e], r.2.2⟩
      rw [List.lookup_cons, r.1, e]
      simp
    · have ne : nm.fld f ≠ p.1 := fun z => e (nm.inj _ _ r.2.1 hf (by rw [← r.1]; exact z.symm))
      have hb : (nm.fld f == p.1) = false := by simpa using ne
      rw [List.lookup_cons, hb]
      unfold getN
      rw [if_neg e]
      exact rf_get f hf t
theorem rf_set {K : PySem.W.Frag} {H : Hp} {μ : List Addr} : ∀ {gs : List (Str × V)} {fs : List (Nat × D)} (f : Nat) {v : V} {d : D}, f < nm.most → RV K H μ v d → RF nm K H μ gs fs → RF nm K H μ (putF (nm.fld f) v gs) (setN f d fs)
  | _, _, f, v, d, hf, rv, .nil => .cons ⟨rfl, hf, rv⟩ .nil
  | p :: gs, q :: fs, f, v, d, hf, rv, .cons r t => by
    unfold putF setN
    by_cases e : q.1 = f
    · rw [if_pos (by rw [r.1, e]), if_pos e]
      exact .cons ⟨by rw [r.1, e], hf, rv⟩ t
    · have ne : ¬ p.1 = nm.fld f := fun z => e (nm.inj _ _ r.2.1 hf (by rw [← r.1]; exact z))
      rw [if_neg ne, if_neg e]
      exact .cons r (rf_set f hf rv t)
theorem rf_length {K : PySem.W.Frag} {H : Hp} {μ : List Addr} {gs : List (Str × V)} {fs : List (Nat × D)} (r : RF nm K H μ gs fs) : gs.length = fs.length := Paired.length r
/-- what the text's class (for each of cs) says of the field f -/
def FldOk (K : PySem.W.Frag) (mg : Str → Option Value) (nm : Nms) (cs : List Nat) (f : Nat) : Prop := f < nm.most ∧ ∀ c ∈ cs, ∀ C, mg (nm.cls c) = some (.ref C) → Cls K C ∧ NoAttr K C (nm.fld f)
def insOf (S : Store) (d : D) : Option (Nat × List (Nat × D)) := match d with
  | .obj n => match S[n]? with
    | some (.ins c fs) => some (c, fs)
    | _ => none
  | _ => none
theorem insOf_at {K : PySem.W.Frag} {mg : Str → Option Value} {H : Hp} {μ : List Addr} {S : Store} {v : V} {d : D} {c : Nat} {fs : List (Nat × D)} (s : Sim nm K mg μ S H) (r : RV K H μ v d) (h : insOf S d = some (c, fs)) :
    ∃ n a C dx gs, d = .obj n ∧ v = .ref a ∧ μ[n]? = some a ∧ S[n]? = some (.ins c fs) ∧ mg (nm.cls c) = some (.ref C) ∧ H a = some (.ins C dx gs) ∧ RF nm K H μ gs fs := by
  unfold insOf at h
  split at h
  · split at h
    · rename_i hds
      cases h
      cases r with | obj e =>
        obtain ⟨C, dx, gs, g, e1, r⟩ := s.ob _ _ _ e hds
        exact ⟨_, _, C, dx, gs, rfl, rfl, e, hds, g, e1, r⟩
    · cases h
  · cases h
def getF (cs : List Nat) (f : Nat) (S : Store) (x : D) : Option D := match insOf S x with
  | some (c, fs) => if cs.contains c = true then getN fs f else none
  | none => none
def mFld (cs : List Nat) (f : Nat) (o : EM) : EM := mUn (getF cs f) o
theorem me_fld {cs : List Nat} {f : Nat} {fx : Str} (h : FldOk X.K X.mg nm cs f) (ho : ME nm X e me) (hf : nm.fld f = fx) (hb : attributeBase e fx X.env (eval e X.env) = eval e X.env := by rfl) : ME nm X (.Attribute e fx pos) (mFld cs f me) := by
  subst hf
  refine ⟨fun W tk => (pe_fld (ho.run W tk) hb).imp fun σ H Q hh => ?_⟩
  obtain ⟨e, S, μ, E, s, p⟩ := hh
  refine ⟨e, S, μ, E, s, (Post.bind p).mono fun d S1 μ1 H1 x1 s1 p1 v rv => ?_⟩
  split at p1
  · rename_i d' hd
    unfold getF at hd
    split at hd
    · rename_i c fs hi
      split at hd
      · rename_i hc
        obtain ⟨n, a, C, dx, gs, rfl, rfl, h1, h2, h3, h4, h5⟩ := insOf_at s1 rv hi
        obtain ⟨k1, k2⟩ := h.2 c (by simpa using hc) C h3
        rcases rf_get f h.1 h5 with ⟨_, z⟩ | ⟨w, d2, z1, z2, z3⟩
        · rw [z] at hd; cases hd
        · rw [z2] at hd; cases hd
          exact ⟨a, C, dx, gs, w, rfl, h4, k1, k2, z1, p1 μ1 H1 .refl s1 w z3⟩
      · cases hd
    · cases hd
  · exact False.elim p1
/-- a def by its value: what is promised of it -/
def spD (nm : Nms) (K : PySem.W.Frag) (mg : Str → Option Value) (n : Nat) (F : FM) : Sp := fun vs H Q E => ∃ ds S μ, RVs K H μ vs ds ∧ ds.length = n ∧ Sim nm K mg μ S H ∧ Post nm K mg μ H (F ds S) (fun d _ μ' H' => ∀ v, RV K H' μ' v d → Q v H') E
section
variable (P : Program) (w : World) (K : PySem.W.Frag) (mg : Str → Option Value) (base : Heap) (nm : Nms)
def DefOk (k : Nat) (x : Str) (n : Nat) (F : FM) : Prop :=
  ∃ f fd ps, mg x = some (.ref f) ∧ PySem.W.keepIn K (.ref f) = true ∧ ps.length = n ∧ Binds K fd ps [] ∧ FnOk P w K mg base (L2.CX P w) k f fd ps (spD nm K mg n F)
def MethOk (k : Nat) (c : Nat) (m : Str) (n : Nat) (F : FM) : Prop :=
  ∃ C f fd ps, mg (nm.cls c) = some (.ref C) ∧ Cls K C ∧ Meth K C m f ∧ ps.length = n ∧ Binds K fd ps [] ∧ FnOk P w K mg base (L2.CX P w) k f fd ps (spD nm K mg n F) ∧ ∀ i, i < nm.most → nm.fld i ≠ m
def MakeOk (k : Nat) (c : Nat) (n : Nat) (F : FM) : Prop :=
  ∃ C f fd ps, mg (nm.cls c) = some (.ref C) ∧ Mk K C f ∧ ps.length = n + 1 ∧ Binds K fd ps [] ∧ FnOk P w K mg base (L2.CX P w) k f fd ps (spD nm K mg (n + 1) F)
end
theorem DefOk.mono {P : Program} {w : World} {K : PySem.W.Frag} {mg : Str → Option Value} {base : Heap} {k k' : Nat} {x : Str} {n : Nat} {F : FM} (h : DefOk P w K mg base nm k x n F) (hk : k ≤ k') : DefOk P w K mg base nm k' x n F :=
  let ⟨f, fd, ps, h1, h2, h3, h4, h5⟩ := h; ⟨f, fd, ps, h1, h2, h3, h4, h5.mono hk⟩
theorem MethOk.mono {P : Program} {w : World} {K : PySem.W.Frag} {mg : Str → Option Value} {base : Heap} {k k' c : Nat} {x : Str} {n : Nat} {F : FM} (h : MethOk P w K mg base nm k c x n F) (hk : k ≤ k') : MethOk P w K mg base nm k' c x n F :=
  let ⟨C, f, fd, ps, h1, h2, h3, h4, h5, h6, h7⟩ := h; ⟨C, f, fd, ps, h1, h2, h3, h4, h5, h6.mono hk, h7⟩
theorem MakeOk.mono {P : Program} {w : World} {K : PySem.W.Frag} {mg : Str → Option Value} {base : Heap} {k k' c : Nat} {n : Nat} {F : FM} (h : MakeOk P w K mg base nm k c n F) (hk : k ≤ k') : MakeOk P w K mg base nm k' c n F :=
  let ⟨C, f, fd, ps, h1, h2, h3, h4, h5⟩ := h; ⟨C, f, fd, ps, h1, h2, h3, h4, h5.mono hk⟩
theorem spD.imp {K : PySem.W.Frag} {mg : Str → Option Value} {n : Nat} {F G : FM} (h : ∀ ds S, ds.length = n → G ds S ≠ .stuck → F ds S = G ds S) : ∀ vs H Q E, spD nm K mg n G vs H Q E → spD nm K mg n F vs H Q E := by
  rintro vs H Q E ⟨ds, S, μ, h1, h2, h3, h4⟩
  refine ⟨ds, S, μ, h1, h2, h3, ?_⟩
  rw [h ds S h2 (fun z => by rw [z] at h4; exact h4)]
  exact h4
/-- another value for a def: wherever it says something, it says what the def does -/
theorem DefOk.imp {P : Program} {w : World} {K : PySem.W.Frag} {mg : Str → Option Value} {base : Heap} {k : Nat} {x : Str} {n : Nat} {F G : FM} (h : DefOk P w K mg base nm k x n F) (g : ∀ ds S, ds.length = n → G ds S ≠ .stuck → F ds S = G ds S) : DefOk P w K mg base nm k x n G :=
  let ⟨f, fd, ps, h1, h2, h3, h4, h5⟩ := h; ⟨f, fd, ps, h1, h2, h3, h4, h5.imp (spD.imp g)⟩
theorem MethOk.imp {P : Program} {w : World} {K : PySem.W.Frag} {mg : Str → Option Value} {base : Heap} {k c : Nat} {x : Str} {n : Nat} {F G : FM} (h : MethOk P w K mg base nm k c x n F) (g : ∀ ds S, ds.length = n → G ds S ≠ .stuck → F ds S = G ds S) : MethOk P w K mg base nm k c x n G :=
  let ⟨C, f, fd, ps, h1, h2, h3, h4, h5, h6, h7⟩ := h; ⟨C, f, fd, ps, h1, h2, h3, h4, h5, h6.imp (spD.imp g), h7⟩
def mCall (F : FM) (as : AM) : EM := fun e S => (as e S).bind F
section
variable {pins : List (Addr × Obj)} {σ : St} {H : Hp} {s : Shared} {W : WX} {k n : Nat} {x m : Str} {F : FM} {vs : List V} {us : List Value} {ds : List D} {S : Store} {μ : List Addr} {Q : VK} {p apos : Pos}
theorem run_spD {f : Addr} {fd : FuncData} {ps : List Str} (F' : FnOk X.prog X.w X.K X.mg X.base (L2.CX X.prog X.w) k f fd ps (spD nm X.K X.mg n F)) (hb : Binds X.K fd ps []) (hr : Room k X.A) (tk : Takes X W) (I : Inv X pins σ H s) (r : Vals vs us) (rv : RVs X.K H μ vs ds) (hl : ds.length = n)
    (sm : Sim nm X.K X.mg μ S H) (q : PostX nm X W μ H σ (F ds S) fun d _ μ' H' => ∀ v, RV X.K H' μ' v d → Q v H') : wpAny (model X.prog X.w) X.A (call (.ref f) us) (EP X pins σ Q) X.xe s :=
  run_fnS F' hr hb (passAt tk σ) I r ⟨ds, S, μ, rv, hl, sm, q⟩
theorem me_call {e : Expr} {es : List Expr} {ma : AM} (h : DefOk X.prog X.w X.K X.mg X.base nm k x n F) (hr : Room k X.A) (hg : GlN X x) (ha : MA nm X (e :: es) ma) (hn : (e :: es).length = n := by rfl)
    (he : starEach (e :: es) X.env = (false, eval e X.env) :: starEach es X.env := by rfl) (hpl : (backTo pos (starEach es X.env)).any (·.1) = false := by rfl) : ME nm X (.Call (.Name x p) (e :: es) [] pos) (mCall F ma) := by
  obtain ⟨f, fd, ps, h1, h2, h3, h4, h5⟩ := h
  refine ⟨fun W tk => (pe_callS (E := WE W) h5 hr hg.g h1 h2 h4 (passAt tk) (ha.run W tk) hg.d he hpl).imp fun σ H Q hh => ?_⟩
  obtain ⟨ev, S, μ, E, s, q⟩ := hh
  exact ⟨ev, S, μ, E, s, (post_len ha (Post.bind q)).mono fun ds S1 μ1 H1 x1 s1 q1 vs rvs => ⟨ds, S1, μ1, rvs, by rw [q1.1, hn], s1, q1.2⟩⟩
theorem me_call0 (h : DefOk X.prog X.w X.K X.mg X.base nm k x 0 F) (hr : Room k X.A) (hg : GlN X x) : ME nm X (.Call (.Name x p) [] [] pos) (mCall F mNil) := by
  obtain ⟨f, fd, ps, h1, h2, h3, h4, h5⟩ := h
  refine ⟨fun W tk => ⟨fun pins s σ H Q I hh => ?_⟩⟩
  obtain ⟨ev, S, μ, E, sm, q⟩ := hh
  refine wpAny_Call_Name_kw (ld_glob I hg.g h1 ?_ hg.d)
  exact PySem.W.callWith_K0 I.kIn h2 (run_spD h5 h4 hr tk I .nil .nil rfl sm q)
def isIns (c : Nat) (S : Store) (x : D) : Bool := match insOf S x with
  | some (c', _) => c' == c
  | none => false
def mMeth (c : Nat) (F : FM) (o : EM) (as : AM) : EM := fun e S => (o e S).bind fun x S => if isIns c S x = true then (as e S).bind fun ds S => F (x :: ds) S else .stuck
theorem rf_no {K : PySem.W.Frag} {H : Hp} {μ : List Addr} {m : Str} (hm : ∀ i, i < nm.most → nm.fld i ≠ m) : ∀ {gs : List (Str × V)} {fs : List (Nat × D)}, RF nm K H μ gs fs → gs.lookup m = none
  | _, _, .nil => rfl
  | p :: gs, q :: fs, .cons r t => by
    have ne : m ≠ p.1 := fun z => hm q.1 r.2.1 (by rw [← r.1, z])
    have hb : (m == p.1) = false := by simpa using ne
    rw [List.lookup_cons, hb]
    exact rf_no hm t
theorem ins_meth {K : PySem.W.Frag} {mg : Str → Option Value} {C : Addr} {c : Nat} {v : V} {d : D} (hC : mg (nm.cls c) = some (.ref C)) (hm : ∀ i, i < nm.most → nm.fld i ≠ m) (s : Sim nm K mg μ S H) (r : RV K H μ v d) (h : isIns c S d = true) :
    ∃ a dx gs, v = .ref a ∧ H a = some (.ins C dx gs) ∧ gs.lookup m = none := by
  unfold isIns at h
  split at h
  · rename_i c' fs hi
    have : c' = c := by simpa using h
    subst this
    obtain ⟨n, a, C', dx, gs, rfl, rfl, h1, h2, h3, h4, h5⟩ := insOf_at s r hi
    rw [hC] at h3; cases h3
    exact ⟨a, dx, gs, rfl, h4, rf_no hm h5⟩
  · cases h
theorem me_meth {c : Nat} {o e : Expr} {es : List Expr} {mo : EM} {ma : AM} {pl : Sem Bool} (h : MethOk X.prog X.w X.K X.mg X.base nm k c m n F) (hr : Room k X.A) (ho : ME nm X o mo) (ha : MA nm X (e :: es) ma) (hn : (e :: es).length + 1 = n := by rfl)
    (hst : starEach (e :: es) X.env = (false, eval e X.env) :: starEach es X.env := by rfl) (hpl : (backTo pos (starEach es X.env)).any (·.1) = false := by rfl)
    (ht : eval (.Call (.Attribute o m apos) (e :: es) [] pos) X.env = (do
      let ov ← eval o X.env
      standAt apos.atName
      let (f, first) ← holding [ov] (getMethod ov m pl)
      callWith pos f first (backTo pos (starEach (e :: es) X.env)) (backToKw pos (keywordEach [] X.env))) := by rfl) : ME nm X (.Call (.Attribute o m apos) (e :: es) [] pos) (mMeth c F mo ma) := by
  obtain ⟨C, f, fd, ps, g1, g2, g3, g4, g5, g6, g7⟩ := h
  refine ⟨fun W tk => ⟨fun pins s σ H Q I hh => ?_⟩⟩
  obtain ⟨ev, S, μ, E, sm, q⟩ := hh
  refine PySem.W.methodCall_KW (pl := pl) (thn ((ho.run W tk).run pins s σ H (fun x H1 => ∃ S1 μ1 d, EvR nm X H1 μ1 ev σ ∧ Sim nm X.K X.mg μ1 S1 H1 ∧ RV X.K H1 μ1 x d ∧ isIns c S1 d = true ∧ PostX nm X W μ1 H1 σ ((ma ev S1).bind fun ds S => F (d :: ds) S) fun d _ μ' H' => ∀ v, RV X.K H' μ' v d → Q v H') I
    ⟨ev, S, μ, E, sm, (Post.bind q).mono fun d S1 μ1 H1 x1 s1 q1 v rv => ?_⟩) fun u s1 ⟨x, H1, I1, rx, S1, μ1, d, E1, sm1, rd, hi, q1⟩ => ?_) ht
  · split at q1
    · rename_i hi; exact ⟨S1, μ1, d, E.ext x1, s1, rv, hi, q1⟩
    · exact False.elim q1
  · obtain ⟨a, dx, gs, rfl, ea, l⟩ := ins_meth g1 g7 sm1 rd hi
    obtain rfl : u = Value.ref a := rx
    refine getmeth_ok I1 ea g2 g3 l ?_
    refine PySem.W.callWith_K (first := [.ref a]) (h₀ := X.base) I1.ok.mod.kin g3.kp (thn ((ha.run W tk).run pos pins s1 σ H1 (fun vs H2 => ∃ ds S2 μ2, RVs X.K H2 μ2 (.ref a :: vs) (d :: ds) ∧ (d :: ds).length = n ∧ Sim nm X.K X.mg μ2 S2 H2 ∧ PostX nm X W μ2 H2 σ (F (d :: ds) S2) fun d _ μ' H' => ∀ v, RV X.K H' μ' v d → Q v H') I1
      ⟨ev, S1, μ1, E1, sm1, (post_len ha (Post.bind q1)).mono fun ds S2 μ2 H2 x2 s2 q2 vs rvs => ⟨ds, S2, μ2, .cons (rd.ext x2) rvs, by rw [List.length_cons, q2.1, hn], s2, q2.2⟩⟩) fun us s2 ⟨vs, H2, I2, r, ds, S2, μ2, rvs, hl, sm2, q2⟩ => ⟨I2.kIn, ?_⟩) hst hpl
    exact run_spD (us := .ref a :: us) (vs := .ref a :: vs) g6 g5 hr tk I2 (.cons rfl r) rvs hl sm2 q2
theorem me_meth0 {c : Nat} {o : Expr} {mo : EM} {pl : Sem Bool} (h : MethOk X.prog X.w X.K X.mg X.base nm k c m 1 F) (hr : Room k X.A) (ho : ME nm X o mo)
    (ht : eval (.Call (.Attribute o m apos) [] [] pos) X.env = (do
      let ov ← eval o X.env
      standAt apos.atName
      let (f, first) ← holding [ov] (getMethod ov m pl)
      callWith pos f first (backTo pos (starEach [] X.env)) (backToKw pos (keywordEach [] X.env))) := by rfl) : ME nm X (.Call (.Attribute o m apos) [] [] pos) (mMeth c F mo mNil) := by
  obtain ⟨C, f, fd, ps, g1, g2, g3, g4, g5, g6, g7⟩ := h
  refine ⟨fun W tk => ⟨fun pins s σ H Q I hh => ?_⟩⟩
  obtain ⟨ev, S, μ, E, sm, q⟩ := hh
  refine PySem.W.methodCall_KW (pl := pl) (thn ((ho.run W tk).run pins s σ H (fun x H1 => ∃ S1 μ1 d, Sim nm X.K X.mg μ1 S1 H1 ∧ RV X.K H1 μ1 x d ∧ isIns c S1 d = true ∧ PostX nm X W μ1 H1 σ (F [d] S1) fun d _ μ' H' => ∀ v, RV X.K H' μ' v d → Q v H') I
    ⟨ev, S, μ, E, sm, (Post.bind q).mono fun d S1 μ1 H1 x1 s1 q1 v rv => ?_⟩) fun u s1 ⟨x, H1, I1, rx, S1, μ1, d, sm1, rd, hi, q1⟩ => ?_) ht
  · split at q1
    · rename_i hi; exact ⟨S1, μ1, d, s1, rv, hi, q1⟩
    · exact False.elim q1
  · obtain ⟨a, dx, gs, rfl, ea, l⟩ := ins_meth g1 g7 sm1 rd hi
    obtain rfl : u = Value.ref a := rx
    refine getmeth_ok I1 ea g2 g3 l ?_
    exact PySem.W.callWith_K0 (first := [.ref a]) I1.kIn g3.kp (run_spD (us := [.ref a]) (vs := [.ref a]) g6 g5 hr tk I1 (.cons rfl .nil) (.cons rd .nil) rfl sm1 q1)
def mNew (c : Nat) (F : FM) (as : AM) : EM := fun e S => (as e S).bind fun ds S => (F (.obj S.length :: ds) (S ++ [.ins c []])).bind fun d S' => if isNon d = true then .ok (.obj S.length) S' else .stuck
theorem run_mk {C f : Addr} {c : Nat} {fd : FuncData} {ps : List Str} (hC : X.mg (nm.cls c) = some (.ref C)) (M : Mk X.K C f) (F' : FnOk X.prog X.w X.K X.mg X.base (L2.CX X.prog X.w) k f fd ps (spD nm X.K X.mg (n + 1) F)) (hb : Binds X.K fd ps []) (hr : Room (k + 1) X.A) (tk : Takes X W)
    (I : Inv X pins σ H s) (r : Vals vs us) (rv : RVs X.K H μ vs ds) (hl : ds.length = n) (sm : Sim nm X.K X.mg μ S H)
    (q : PostX nm X W μ H σ ((F (.obj S.length :: ds) (S ++ [.ins c []])).bind fun d S' => if isNon d = true then R.ok (D.obj S.length) S' else .stuck) fun d _ μ' H' => ∀ v, RV X.K H' μ' v d → Q v H') : wpAny (model X.prog X.w) X.A (call (.ref C) us) (EP X pins σ Q) X.xe s := by
  have nx : H (s.heap.objs.size + 1) = none := I.hok.fresh (Nat.le_succ _)
  have nd : H s.heap.objs.size = none := I.hok.fresh (Nat.le_refl _)
  have ne : s.heap.objs.size ≠ s.heap.objs.size + 1 := Nat.ne_of_lt (Nat.lt_succ_self _)
  have s1 : Sim nm X.K X.mg μ S (upd H s.heap.objs.size (.own (s.heap.objs.size + 1))) := sm.laid nd
  have nx1 : (upd H s.heap.objs.size (.own (s.heap.objs.size + 1))) (s.heap.objs.size + 1) = none := by rw [upd_ne ne.symm]; exact nx
  have x2 : Ext μ H (μ ++ [s.heap.objs.size + 1]) (upd (upd H s.heap.objs.size (.own (s.heap.objs.size + 1))) (s.heap.objs.size + 1) (.ins C s.heap.objs.size [])) := (Ext.laid sm nd).trans (Ext.made s1 nx1)
  have s2 : Sim nm X.K X.mg (μ ++ [s.heap.objs.size + 1]) (S ++ [.ins c []]) (upd (upd H s.heap.objs.size (.own (s.heap.objs.size + 1))) (s.heap.objs.size + 1) (.ins C s.heap.objs.size [])) :=
    s1.made nx1 ⟨C, _, [], hC, upd_same, .nil⟩
  have rself : RV X.K (upd (upd H s.heap.objs.size (.own (s.heap.objs.size + 1))) (s.heap.objs.size + 1) (.ins C s.heap.objs.size [])) (μ ++ [s.heap.objs.size + 1]) (.ref (s.heap.objs.size + 1)) (.obj S.length) := .obj (new_at s1)
  have hq : spD nm X.K X.mg (n + 1) F (.ref (s.heap.objs.size + 1) :: vs) (upd (upd H s.heap.objs.size (.own (s.heap.objs.size + 1))) (s.heap.objs.size + 1) (.ins C s.heap.objs.size [])) (fun v H2 => v = .non ∧ Q (.ref (s.heap.objs.size + 1)) H2) (WE W σ) := by
    refine ⟨.obj S.length :: ds, S ++ [.ins c []], μ ++ [s.heap.objs.size + 1], .cons rself (RVs.ext x2 _ rv), by rw [List.length_cons, hl], s2, ((Post.bind (Post.ext x2 q)).mono fun d S3 μ3 H3 x3 s3 q3 v r3 => ?_)⟩
    split at q3
    · rename_i hn
      refine ⟨?_, q3 μ3 H3 .refl s3 _ (rself.ext x3)⟩
      have := isNon_iff r3; rw [hn] at this; exact of_decide_eq_true this
    · exact False.elim q3
  have I2 := Inv.made (C := C) I
  have r2 : Vals (V.ref (s.heap.objs.size + 1) :: vs) (Value.ref (s.heap.objs.size + 1) :: us) := .cons rfl r
  have hlen : (Value.ref (s.heap.objs.size + 1) :: us).length = ps.length := by
    have e := r2.length
    rw [F'.len _ _ _ _ hq] at e
    exact e.symm
  have hbb := hb _ (Value.ref (s.heap.objs.size + 1) :: us) I2.kIn (by rw [List.append_nil]; exact hlen)
  rw [List.append_nil] at hbb
  refine wpAny_call (make_map (f := f) I.kIn M.makes M.init (beq_iff_eq.mp M.fn) (codeAny_mono (F'.run _ X.stack _ _ ⟨Value.ref (s.heap.objs.size + 1) :: us, []⟩ (Value.ref (s.heap.objs.size + 1) :: us) _ _ (WE W σ) (hr.make C us [])
    (I2.env0.make C us []) hbb r2 hq) fun r s' hq' => ?_))
  cases r with
  | error e => exact passAt tk σ pins _ _ e s' I2 hq'
  | ok fl =>
    cases fl with
    | ret u =>
      obtain ⟨v, H', I3, rv, ev, q3⟩ := I2.after hq'
      subst ev
      exact ⟨rv, ⟨V.ref (s.heap.objs.size + 1), H', I3, rfl, q3⟩⟩
    | next => exact False.elim hq'
    | brk => exact False.elim hq'
    | cont => exact False.elim hq'
theorem me_new {c : Nat} {e : Expr} {es : List Expr} {ma : AM} (h : MakeOk X.prog X.w X.K X.mg X.base nm k c n F) (hr : Room (k + 1) X.A) (hg : GlN X x) (ha : MA nm X (e :: es) ma) (hx : nm.cls c = x) (hn : (e :: es).length = n := by rfl)
    (he : starEach (e :: es) X.env = (false, eval e X.env) :: starEach es X.env := by rfl) (hpl : (backTo pos (starEach es X.env)).any (·.1) = false := by rfl) : ME nm X (.Call (.Name x p) (e :: es) [] pos) (mNew c F ma) := by
  subst hx
  obtain ⟨C, f, fd, ps, h1, h2, h3, h4, h5⟩ := h
  refine ⟨fun W tk => ⟨fun pins s σ H Q I hh => ?_⟩⟩
  obtain ⟨ev, S, μ, E, sm, q⟩ := hh
  refine wpAny_Call_Name_kw (ld_glob I hg.g h1 ?_ hg.d)
  refine PySem.W.callWith_K (h₀ := X.base) I.ok.mod.kin h2.kp (thn ((ha.run W tk).run pos pins s σ H (fun vs H1 => ∃ ds S1 μ1, RVs X.K H1 μ1 vs ds ∧ ds.length = n ∧ Sim nm X.K X.mg μ1 S1 H1 ∧
    PostX nm X W μ1 H1 σ ((F (.obj S1.length :: ds) (S1 ++ [.ins c []])).bind fun d S' => if isNon d = true then R.ok (D.obj S1.length) S' else .stuck) fun d _ μ' H' => ∀ v, RV X.K H' μ' v d → Q v H') I
    ⟨ev, S, μ, E, sm, (post_len ha (Post.bind q)).mono fun ds S1 μ1 H1 x1 s1 q1 vs rvs => ⟨ds, S1, μ1, rvs, by rw [q1.1, hn], s1, q1.2⟩⟩) fun us s1 ⟨vs, H1, I1, r, ds, S1, μ1, rvs, hl, sm1, q1⟩ => ⟨I1.kIn, ?_⟩) he hpl
  exact run_mk h1 h2 h5 h4 hr tk I1 r rvs hl sm1 q1
theorem me_new0 {c : Nat} (h : MakeOk X.prog X.w X.K X.mg X.base nm k c 0 F) (hr : Room (k + 1) X.A) (hg : GlN X x) (hx : nm.cls c = x) : ME nm X (.Call (.Name x p) [] [] pos) (mNew c F mNil) := by
  subst hx
  obtain ⟨C, f, fd, ps, h1, h2, h3, h4, h5⟩ := h
  refine ⟨fun W tk => ⟨fun pins s σ H Q I hh => ?_⟩⟩
  obtain ⟨ev, S, μ, E, sm, q⟩ := hh
  refine wpAny_Call_Name_kw (ld_glob I hg.g h1 ?_ hg.d)
  exact PySem.W.callWith_K0 I.kIn h2.kp (run_mk h1 h2 h5 h4 hr tk I .nil .nil rfl sm q)
end
end
end BS
namespace BS
open PySem PySem.Spec PyProof.Rows L2
def Ev.set (e : Ev) (i : Nat) (d : D) : Ev := { sl := e.sl.set i (some d), ex := e.ex.filter fun p => p.1 != i }
def Ev.clr (e : Ev) : Ev := { sl := e.sl, ex := [] }
@[simp] theorem Ev.set_sl (l : List (Option D)) (i : Nat) (d : D) : Ev.set ⟨l, []⟩ i d = ⟨l.set i (some d), []⟩ := rfl
@[simp] theorem Ev.clr_mk (l : List (Option D)) (x) : Ev.clr ⟨l, x⟩ = ⟨l, []⟩ := rfl
def R.toS {α : Type} (r : R α) (e : Ev) (k : α → Store → RS) : RS := match r with
  | .ok a S => k a S
  | .exc c fs S => .exc c fs e S
  | .stuck => .stuck
@[simp] theorem R.toS_ok {α : Type} (a : α) (S : Store) (e : Ev) (k : α → Store → RS) : (R.ok a S).toS e k = k a S := rfl
@[simp] theorem R.toS_exc {α : Type} (c : Nat) (fs : List (Nat × D)) (S : Store) (e : Ev) (k : α → Store → RS) : (R.exc c fs S).toS e k = .exc c fs e S := rfl
@[simp] theorem R.toS_stuck {α : Type} (e : Ev) (k : α → Store → RS) : (R.stuck : R α).toS e k = .stuck := rfl
def RS.seq (r : RS) (k : Ev → Store → RS) : RS := match r with
  | .nx e S => k e S
  | r => r
@[simp] theorem RS.seq_nx (e : Ev) (S : Store) (k : Ev → Store → RS) : (RS.nx e S).seq k = k e S := rfl
@[simp] theorem RS.seq_rt (d : D) (S : Store) (k : Ev → Store → RS) : (RS.rt d S).seq k = .rt d S := rfl
@[simp] theorem RS.seq_bk (e : Ev) (S : Store) (k : Ev → Store → RS) : (RS.bk e S).seq k = .bk e S := rfl
@[simp] theorem RS.seq_ct (e : Ev) (S : Store) (k : Ev → Store → RS) : (RS.ct e S).seq k = .ct e S := rfl
@[simp] theorem RS.seq_exc (c : Nat) (fs : List (Nat × D)) (e : Ev) (S : Store) (k : Ev → Store → RS) : (RS.exc c fs e S).seq k = .exc c fs e S := rfl
@[simp] theorem RS.seq_stuck (k : Ev → Store → RS) : RS.stuck.seq k = .stuck := rfl
/-- a loop's turn is through -/
def RS.loop (r : RS) (k : Ev → Store → RS) : RS := match r with
  | .nx e S => k e S
  | .ct e S => k e S
  | .bk e S => .nx e S
  | r => r
@[simp] theorem RS.loop_nx (e : Ev) (S : Store) (k : Ev → Store → RS) : (RS.nx e S).loop k = k e S := rfl
@[simp] theorem RS.loop_rt (d : D) (S : Store) (k : Ev → Store → RS) : (RS.rt d S).loop k = .rt d S := rfl
@[simp] theorem RS.loop_bk (e : Ev) (S : Store) (k : Ev → Store → RS) : (RS.bk e S).loop k = .nx e S := rfl
@[simp] theorem RS.loop_ct (e : Ev) (S : Store) (k : Ev → Store → RS) : (RS.ct e S).loop k = k e S := rfl
@[simp] theorem RS.loop_exc (c : Nat) (fs : List (Nat × D)) (e : Ev) (S : Store) (k : Ev → Store → RS) : (RS.exc c fs e S).loop k = .exc c fs e S := rfl
@[simp] theorem RS.loop_stuck (k : Ev → Store → RS) : RS.stuck.loop k = .stuck := rfl
section
variable (nm : Nms) (X : Cx)
def PostS (W : WX) (μ : List Addr) (H : Hp) (r : RS) (D : Ends) : Prop := match r with
  | .nx e S => ∀ σ' μ' H', Ext μ H μ' H' → Sim nm X.K X.mg μ' S H' → EvR nm X H' μ' e σ' → D.nx σ' H'
  | .bk e S => ∀ σ' μ' H', Ext μ H μ' H' → Sim nm X.K X.mg μ' S H' → EvR nm X H' μ' e σ' → D.bk σ' H'
  | .ct e S => ∀ σ' μ' H', Ext μ H μ' H' → Sim nm X.K X.mg μ' S H' → EvR nm X H' μ' e σ' → D.ct σ' H'
  | .rt d S => ∀ v μ' H', Ext μ H μ' H' → Sim nm X.K X.mg μ' S H' → RV X.K H' μ' v d → D.rt v H'
  | .exc c fs e S => ∀ σ' μ' H' C d, Ext μ H μ' H' → Sim nm X.K X.mg μ' S H' → EvR nm X H' μ' e σ' → ExcAt nm X.K X.mg H' μ' c fs C d → W (.ref C) d σ' H'
  | .stuck => False
def rdS (W : WX) (m : SM) : TS := fun D σ H => ∃ e S μ, EvR nm X H μ e σ ∧ Sim nm X.K X.mg μ S H ∧ PostS nm X W μ H (m e S) D
def rdG (W : WX) (g : GM) : TG := fun v σ H Q => ∃ d e S μ, RV X.K H μ v d ∧ EvR nm X H μ e σ ∧ Sim nm X.K X.mg μ S H ∧ PostS nm X W μ H (g d e S) { nx := Q, rt := fun _ _ => False }
def rdGs (W : WX) (g : List D → Ev → Store → RS) : TGs := fun vs σ H Q => ∃ ds e S μ, RVs X.K H μ vs ds ∧ EvR nm X H μ e σ ∧ Sim nm X.K X.mg μ S H ∧ PostS nm X W μ H (g ds e S) { nx := Q, rt := fun _ _ => False }
end
structure MS (nm : Nms) (X : Cx) (st : Stmt) (m : SM) : Prop where
  run : ∀ W, Takes X W → PS X st (rdS nm X W m)
structure MB (nm : Nms) (X : Cx) (sts : List Stmt) (m : SM) : Prop where
  run : ∀ W, Takes X W → PSs X sts (rdS nm X W m)
structure MG (nm : Nms) (X : Cx) (t : Expr) (g : GM) : Prop where
  run : ∀ W, Takes X W → PG X t (rdG nm X W g)
structure MGs (nm : Nms) (X : Cx) (ts : List Expr) (g : List D → Ev → Store → RS) : Prop where
  run : ∀ W, Takes X W → PGs X ts (rdGs nm X W g)
theorem _root_.L2.PS.imp {X : Cx} {e : Stmt} {t t' : TS} (h : PS X e t) (f : ∀ D σ H, t' D σ H → t D σ H) : PS X e t' := ⟨fun pins s σ H D I q => h.run pins s σ H D I (f _ _ _ q)⟩
theorem _root_.L2.PSs.imp {X : Cx} {e : List Stmt} {t t' : TS} (h : PSs X e t) (f : ∀ D σ H, t' D σ H → t D σ H) : PSs X e t' := ⟨fun pins s σ H D I q => h.run pins s σ H D I (f _ _ _ q)⟩
theorem _root_.L2.PG.imp {X : Cx} {e : Expr} {t t' : TG} (h : PG X e t) (f : ∀ v σ H Q, t' v σ H Q → t v σ H Q) : PG X e t' := ⟨fun pins s σ H v u Q I r q => h.run pins s σ H v u Q I r (f _ _ _ _ q)⟩
theorem _root_.L2.PGs.imp {X : Cx} {e : List Expr} {t t' : TGs} (h : PGs X e t) (f : ∀ v σ H Q, t' v σ H Q → t v σ H Q) : PGs X e t' := ⟨fun pins s σ H v u Q I r q => h.run pins s σ H v u Q I r (f _ _ _ _ q)⟩
section
variable {nm : Nms} {X : Cx} {W : WX} {H H' : Hp} {μ μ' : List Addr} {D : Ends} {σ : St}
theorem PostS.ext {r : RS} (x : Ext μ H μ' H') (h : PostS nm X W μ H r D) : PostS nm X W μ' H' r D := by
  cases r with
  | nx e S => exact fun σ2 μ2 H2 x2 => h σ2 μ2 H2 (x.trans x2)
  | bk e S => exact fun σ2 μ2 H2 x2 => h σ2 μ2 H2 (x.trans x2)
  | ct e S => exact fun σ2 μ2 H2 x2 => h σ2 μ2 H2 (x.trans x2)
  | rt d S => exact fun v μ2 H2 x2 => h v μ2 H2 (x.trans x2)
  | exc c fs e S => exact fun σ2 μ2 H2 C d x2 => h σ2 μ2 H2 C d (x.trans x2)
  | stuck => exact h
theorem PostS.mono {r : RS} {D' : Ends} (h : PostS nm X W μ H r D) (h1 : ∀ σ H, D.nx σ H → D'.nx σ H) (h2 : ∀ v H, D.rt v H → D'.rt v H) (h3 : ∀ σ H, D.bk σ H → D'.bk σ H) (h4 : ∀ σ H, D.ct σ H → D'.ct σ H) : PostS nm X W μ H r D' := by
  cases r with
  | nx e S => exact fun σ2 μ2 H2 x2 s r => h1 _ _ (h σ2 μ2 H2 x2 s r)
  | bk e S => exact fun σ2 μ2 H2 x2 s r => h3 _ _ (h σ2 μ2 H2 x2 s r)
  | ct e S => exact fun σ2 μ2 H2 x2 s r => h4 _ _ (h σ2 μ2 H2 x2 s r)
  | rt d S => exact fun v μ2 H2 x2 s r => h2 _ _ (h v μ2 H2 x2 s r)
  | exc c fs e S => exact h
  | stuck => exact h
/-- behind an expression -/
theorem PostS.toS {α : Type} {r : R α} {e : Ev} {k : α → Store → RS} (E : EvR nm X H μ e σ) (h : PostS nm X W μ H (r.toS e k) D) : PostX nm X W μ H σ r fun a S' μ' H' => PostS nm X W μ' H' (k a S') D := by
  cases r with
  | ok a S => exact fun μ2 H2 x2 _ => PostS.ext (r := k a S) x2 h
  | exc c fs S => exact fun μ2 H2 C d x2 s ea => h σ μ2 H2 C d x2 s (E.ext x2) ea
  | stuck => exact h
/-- behind a statement -/
theorem PostS.seq {r : RS} {k : Ev → Store → RS} (h : PostS nm X W μ H (r.seq k) D) : PostS nm X W μ H r { D with nx := fun σ H' => ∃ e S μ', EvR nm X H' μ' e σ ∧ Sim nm X.K X.mg μ' S H' ∧ PostS nm X W μ' H' (k e S) D } := by
  cases r with
  | nx e S => exact fun σ2 μ2 H2 x2 s r => ⟨e, S, μ2, r, s, PostS.ext (r := k e S) x2 h⟩
  | bk e S => exact h
  | ct e S => exact h
  | rt d S => exact h
  | exc c fs e S => exact h
  | stuck => exact h
theorem EvR.set {e : Ev} {i : Nat} {v : V} {d : BS.D} (E : EvR nm X H μ e σ) (r : RV X.K H μ v d) : EvR nm X H μ (e.set i d) (σ.set i (some v)) := by
  refine ⟨by simp [Ev.set, E.len], fun j d' hj => ?_, fun p hp => ?_⟩
  · by_cases e1 : i = j
    · subst e1
      have hl : i < e.sl.length := by
        have := (List.getElem?_eq_some_iff.mp hj).1
        simpa [Ev.set] using this
      have : (e.sl.set i (some d))[i]? = some (some d) := List.getElem?_set_self hl
      unfold Ev.set at hj
      rw [this] at hj; cases hj
      exact ⟨v, List.getElem?_set_self (by rw [← E.len]; exact hl), r⟩
    · unfold Ev.set at hj
      rw [show ({ sl := e.sl.set i (some d), ex := e.ex.filter fun p => p.1 != i } : Ev).sl = e.sl.set i (some d) from rfl, List.getElem?_set_ne e1] at hj
      obtain ⟨w, h1, h2⟩ := E.at_ j d' hj
      exact ⟨w, by rw [List.getElem?_set_ne e1]; exact h1, h2⟩
  · obtain ⟨h1, h2⟩ := List.mem_filter.mp (show p ∈ e.ex.filter fun p => p.1 != i from hp)
    obtain ⟨a, oe, C, dd, g1, g2, g3, g4⟩ := E.ex p h1
    have ne : i ≠ p.1 := by
      intro z
      simp [z] at h2
    exact ⟨a, oe, C, dd, by rw [List.getElem?_set_ne ne]; exact g1, g2, g3, g4⟩
end
section
variable {nm : Nms} {X : Cx} {pos : Pos} {e : Expr} {me : EM} {st : Stmt} {rest : List Stmt} {ms mr : SM}
def mSkip : SM := fun e S => .nx e S
def mSeq (a b : SM) : SM := fun e S => (a e S).seq b
theorem mb_nil : MB nm X [] mSkip := ⟨fun W tk => pss_nil.imp fun D σ H h => by
  obtain ⟨e, S, μ, E, s, p⟩ := h
  exact p σ μ H .refl s E⟩
theorem mb_cons (h1 : MS nm X st ms) (h2 : MB nm X rest mr) : MB nm X (st :: rest) (mSeq ms mr) := ⟨fun W tk => (pss_cons (h1.run W tk) (h2.run W tk)).imp fun D σ H h => by
  obtain ⟨e, S, μ, E, s, p⟩ := h
  exact ⟨e, S, μ, E, s, PostS.seq p⟩⟩
theorem mb_one (h1 : MS nm X st ms) : MB nm X [st] ms := ⟨fun W tk => pss_one (h1.run W tk)⟩
theorem ms_skip {t : TS} (h : PS X st t) (f : ∀ D σ H, D.nx σ H → t D σ H) : MS nm X st mSkip := ⟨fun W tk => h.imp fun D σ H h => by
  obtain ⟨e, S, μ, E, s, p⟩ := h
  exact f _ _ _ (p σ μ H .refl s E)⟩
theorem ms_pass : MS nm X (.Pass pos) mSkip := ms_skip ps_pass fun _ _ _ h => h
theorem ms_doc {x j pos pos'} : MS nm X (.Expr (.Constant (.str x) j pos) pos') mSkip := ms_skip ps_doc fun _ _ _ h => h
def mBrk : SM := fun e S => .bk e S
def mCnt : SM := fun e S => .ct e S
theorem ms_brk : MS nm X (.Break pos) mBrk := ⟨fun W tk => ps_break.imp fun D σ H h => by
  obtain ⟨e, S, μ, E, s, p⟩ := h
  exact p σ μ H .refl s E⟩
theorem ms_cnt : MS nm X (.Continue pos) mCnt := ⟨fun W tk => ps_continue.imp fun D σ H h => by
  obtain ⟨e, S, μ, E, s, p⟩ := h
  exact p σ μ H .refl s E⟩
def mExpr (m : EM) : SM := fun e S => (m e S).toS e fun _ S => .nx e S
theorem ms_expr (he : ME nm X e me) (hs : swapsWith e none pos.line X.env = pure false := by rfl) : MS nm X (.Expr e pos) (mExpr me) := ⟨fun W tk => (ps_expr (he.run W tk) hs).imp fun D σ H h => by
  obtain ⟨e, S, μ, E, s, p⟩ := h
  exact ⟨e, S, μ, E, s, (PostS.toS E p).mono fun a S' μ' H' x s' q v r => q σ μ' H' .refl s' (E.ext x)⟩⟩
def mRet (m : EM) : SM := fun e S => (m e S).toS e fun d S => .rt d S
theorem ms_ret (he : ME nm X e me) : MS nm X (.Return (some e) pos) (mRet me) := ⟨fun W tk => (ps_ret (he.run W tk)).imp fun D σ H h => by
  obtain ⟨e, S, μ, E, s, p⟩ := h
  exact ⟨e, S, μ, E, s, (PostS.toS E p).mono fun a S' μ' H' x s' q v r => q v μ' H' .refl s' r⟩⟩
def mRetN : SM := fun _ S => .rt .non S
theorem ms_retN : MS nm X (.Return none pos) mRetN := ⟨fun W tk => ps_retN.imp fun D σ H h => by
  obtain ⟨e, S, μ, E, s, p⟩ := h
  exact p _ μ H .refl s .non⟩
def mIfS (c : TM) (a b : SM) : SM := fun e S => (c e S).toS e fun k S => if k = true then a e S else b e S
theorem ms_if {c : Expr} {tc : TM} {a b : List Stmt} {ma mb : SM} (hc : MT nm X c tc) (ha : MB nm X a ma) (hb : MB nm X b mb) : MS nm X (.If c a b pos) (mIfS tc ma mb) := ⟨fun W tk => (ps_if (hc.run W tk) (ha.run W tk) (hb.run W tk)).imp fun D σ H h => by
  obtain ⟨e, S, μ, E, s, p⟩ := h
  refine ⟨e, S, μ, E, s, (PostS.toS E p).mono fun k S' μ' H' x s' q => ?_⟩
  cases k with
  | true => rw [if_pos rfl] at q ⊢; exact ⟨e, S', μ', E.ext x, s', q⟩
  | false => rw [if_neg Bool.false_ne_true] at q ⊢; exact ⟨e, S', μ', E.ext x, s', q⟩⟩
def gNm (i : Nat) : GM := fun d e S => .nx (e.set i d) S
theorem mg_name {is : List Nat} (i : Nat) {x : Str} (hN : X.N.Nodup) (hl : locAll is X.N X.env.scope = true) (hi : X.N[i]? = some x := by rfl) (hc : is.contains i = true := by rfl) (hf : X.fn x = true ∨ X.env.scope.names.lookup x = some .local := by first | exact .inl rfl | exact .inr rfl | assumption) :
    MG nm X (.Name x pos) (gNm i) := ⟨fun W tk => (pg_name hN hi (loc_of hl hc hi).1 hf).imp fun v σ H Q h => by
  obtain ⟨d, e, S, μ, r, E, s, p⟩ := h
  exact p _ μ H .refl s (E.set r)⟩
abbrev GsM := List D → Ev → Store → RS
def gsNil : GsM := fun ds e S => match ds with
  | [] => .nx e S
  | _ => .stuck
def gsCons (g : GM) (r : GsM) : GsM := fun ds e S => match ds with
  | d :: ds => (g d e S).seq fun e S => r ds e S
  | [] => .stuck
theorem mgs_nil : MGs nm X [] gsNil := ⟨fun W tk => pgs_nil.imp fun vs σ H Q h => by
  obtain ⟨ds, e, S, μ, r, E, s, p⟩ := h
  unfold gsNil at p
  split at p
  · cases r; exact ⟨rfl, p σ μ H .refl s E⟩
  · exact False.elim p⟩
theorem mgs_cons {t : Expr} {ts : List Expr} {g : GM} {gr : GsM} (h1 : MG nm X t g) (h2 : MGs nm X ts gr) (hs : (assignEach (t :: ts) X.env).map (·.2) = assign t X.env :: (assignEach ts X.env).map (·.2) := by rfl) : MGs nm X (t :: ts) (gsCons g gr) := ⟨fun W tk => (pgs_cons (h1.run W tk) (h2.run W tk) hs).imp fun vs σ H Q h => by
  obtain ⟨ds, e, S, μ, r, E, s, p⟩ := h
  unfold gsCons at p
  split at p
  · cases r with | cons r1 rr =>
    rename_i d ds v vs
    refine ⟨v, vs, rfl, d, e, S, μ, r1, E, s, ?_⟩
    -- the rest's values have to be carried over
    have q := PostS.seq p
    cases hg : g d e S with
    | nx e' S' =>
      rw [hg] at p
      exact fun σ2 μ2 H2 x2 s2 E2 => ⟨ds, e', S', μ2, RVs.ext x2 _ rr, E2, s2, PostS.ext (r := gr ds e' S') x2 p⟩
    | bk e' S' => rw [hg] at p; exact fun σ2 μ2 H2 x2 s2 E2 => (p σ2 μ2 H2 x2 s2 E2)
    | ct e' S' => rw [hg] at p; exact fun σ2 μ2 H2 x2 s2 E2 => (p σ2 μ2 H2 x2 s2 E2)
    | rt d' S' => rw [hg] at p; exact fun v μ2 H2 x2 s2 E2 => (p v μ2 H2 x2 s2 E2)
    | exc c fs e' S' => rw [hg] at p; exact p
    | stuck => rw [hg] at p; exact p
  · exact False.elim p⟩
def gTp (n : Nat) (g : GsM) : GM := fun d e S => match tupOf d with
  | some ds => if ds.length = n then g ds e S else .stuck
  | none => .stuck
theorem mg_tup {es : List Expr} {k : Nat} {g : GsM} (hc : X.calm = true) (n : Nat) (h : MGs nm X es g) (hn : (assignEach es X.env).length = n := by rfl) (hst : (assignEach es X.env).findIdx? (·.1) = none := by rfl) : MG nm X (.Tuple es k pos) (gTp n g) := ⟨fun W tk => (pg_tup hc (h.run W tk) hn hst).imp fun v σ H Q hh => by
  obtain ⟨d, e, S, μ, r, E, s, p⟩ := hh
  unfold gTp at p
  split at p
  · rename_i ds hds
    split at p
    · rename_i hl
      obtain ⟨a, xs, rfl, hs, rs⟩ := tupOf_sq r hds
      exact ⟨a, xs, rfl, hs, by rw [rs.length, hl], ds, e, S, μ, rs, E, s, p⟩
    · exact False.elim p
  · exact False.elim p⟩
def mAsg (m : EM) (g : GM) : SM := fun e S => (m e S).toS e fun d S => g d e S
theorem asg_rd {W : WX} {D : Ends} {σ : St} {H : Hp} {g : GM} (tk : Takes X W) (h : rdS nm X W (mAsg me g) D σ H) (hg : ∀ d e S, ∀ d' S', g d e S ≠ .rt d' S' ∧ ∀ e', g d e S ≠ .bk e' S' ∧ g d e S ≠ .ct e' S') : tAsg (rdE nm X W me) (rdG nm X W g) D σ H := by
  obtain ⟨e, S, μ, E, s, p⟩ := h
  refine ⟨e, S, μ, E, s, (PostS.toS E p).mono fun d S' μ' H' x s' q v r => ⟨d, e, S', μ', r, E.ext x, s', ?_⟩⟩
  cases hh : g d e S' with
  | nx e' S2 => rw [hh] at q; exact q
  | bk e' S2 => exact absurd hh ((hg d e S' d S2).2 e').1
  | ct e' S2 => exact absurd hh ((hg d e S' d S2).2 e').2
  | rt d' S2 => exact absurd hh (hg d e S' d' S2).1
  | exc c fs e' S2 => rw [hh] at q; exact q
  | stuck => rw [hh] at q; exact q
/-- what a target never does -/
def GOk (g : GM) : Prop := ∀ d e S, ∀ d' S', g d e S ≠ .rt d' S' ∧ ∀ e', g d e S ≠ .bk e' S' ∧ g d e S ≠ .ct e' S'
theorem gok_nm (i : Nat) : GOk (gNm i) := fun d e S d' S' => ⟨fun h => (nomatch h), fun e' => ⟨fun h => (nomatch h), fun h => (nomatch h)⟩⟩
def GsOk (g : GsM) : Prop := ∀ d e S, ∀ d' S', g d e S ≠ .rt d' S' ∧ ∀ e', g d e S ≠ .bk e' S' ∧ g d e S ≠ .ct e' S'
theorem gsok_nil : GsOk gsNil := fun d e S d' S' => by
  unfold gsNil
  split <;> exact ⟨fun h => (nomatch h), fun e' => ⟨fun h => (nomatch h), fun h => (nomatch h)⟩⟩
theorem gsok_cons {g : GM} {r : GsM} (h1 : GOk g) (h2 : GsOk r) : GsOk (gsCons g r) := fun ds e S d' S' => by
  unfold gsCons
  split
  · rename_i d ds
    cases hg : g d e S with
    | nx e1 S1 => exact h2 ds e1 S1 d' S'
    | bk e1 S1 => exact absurd hg ((h1 d e S d S1).2 e1).1
    | ct e1 S1 => exact absurd hg ((h1 d e S d S1).2 e1).2
    | rt d1 S1 => exact absurd hg (h1 d e S d1 S1).1
    | exc c fs e1 S1 => exact ⟨fun h => (nomatch h), fun e' => ⟨fun h => (nomatch h), fun h => (nomatch h)⟩⟩
    | stuck => exact ⟨fun h => (nomatch h), fun e' => ⟨fun h => (nomatch h), fun h => (nomatch h)⟩⟩
  · exact ⟨fun h => (nomatch h), fun e' => ⟨fun h => (nomatch h), fun h => (nomatch h)⟩⟩
theorem gok_tp {n : Nat} {g : GsM} (h : GsOk g) : GOk (gTp n g) := fun d e S d' S' => by
  unfold gTp
  split
  · split
    · exact h _ _ _ _ _
    · exact ⟨fun h => (nomatch h), fun e' => ⟨fun h => (nomatch h), fun h => (nomatch h)⟩⟩
  · exact ⟨fun h => (nomatch h), fun e' => ⟨fun h => (nomatch h), fun h => (nomatch h)⟩⟩
def mSet (i : Nat) (m : EM) : SM := mAsg m (gNm i)
theorem ms_set {is : List Nat} (i : Nat) {x : Str} {pos' : Pos} (hN : X.N.Nodup) (hl : locAll is X.N X.env.scope = true) (he : ME nm X e me) (hi : X.N[i]? = some x := by rfl) (hc : is.contains i = true := by rfl)
    (hs : swapsWith e (some (.Name x pos')) pos.line X.env = pure false := by rfl) (hf : X.fn x = true ∨ X.env.scope.names.lookup x = some .local := by first | exact .inl rfl | exact .inr rfl | assumption) : MS nm X (.Assign [.Name x pos'] e pos) (mSet i me) :=
  ⟨fun W tk => (ps_set hN hi (loc_of hl hc hi).1 (he.run W tk) hs hf).imp fun D σ H h => by
    obtain ⟨e, S, μ, E, s, p⟩ := h
    exact ⟨e, S, μ, E, s, (PostS.toS E p).mono fun d S' μ' H' x s' q v r => q _ μ' H' .refl s' ((E.ext x).set r)⟩⟩
theorem ms_asg {t : Expr} {g : GM} (he : ME nm X e me) (hg : MG nm X t g) (ok : GOk g) (hs : swapsWithSole [t] e pos.line X.env = pure false := by rfl) (hw : swappedStores [t] e X.env = pure none := by rfl)
    (h1 : (assignEach [t] X.env).map (·.2) = [assign t X.env] := by rfl) : MS nm X (.Assign [t] e pos) (mAsg me g) :=
  ⟨fun W tk => (ps_asg (he.run W tk) (hg.run W tk) hs hw h1).imp fun D σ H h => asg_rd tk h ok⟩
/-- a, b = x, y -/
def mPar (i j : Nat) (m : AM) : SM := fun e S => (m e S).toS e fun ds S => match ds with
  | [a, b] => .nx ((e.set i a).set j b) S
  | _ => .stuck
theorem ms_par (i j : Nat) {x y : Str} {a b : Expr} {ma : AM} {px py pt : Pos} {kt k2 pt2} (hc : X.calm = true) (hN : X.N.Nodup) (ha : MA nm X [a, b] ma) (hi : X.N[i]? = some x := by rfl) (hj : X.N[j]? = some y := by rfl) (hij : i ≠ j := by decide)
    (hx : X.env.scope.names.lookup x = some .local := by rfl) (hy : X.env.scope.names.lookup y = some .local := by rfl)
    (hw : swappedStores [.Tuple [.Name x px, .Name y py] kt pt] (.Tuple [a, b] k2 pt2) X.env = pure (some [x, y]) := by rfl)
    (hs : swapsWithSole [.Tuple [.Name x px, .Name y py] kt pt] (.Tuple [a, b] k2 pt2) pos.line X.env = pure false := by rfl) : MS nm X (.Assign [.Tuple [.Name x px, .Name y py] kt pt] (.Tuple [a, b] k2 pt2) pos) (mPar i j ma) :=
  ⟨fun W tk => (ps_par hc hN hi hj hij hx hy (ha.run W tk) hw hs).imp fun D σ H h => by
    obtain ⟨e, S, μ, E, s, p⟩ := h
    refine ⟨e, S, μ, E, s, (PostS.toS E p).mono fun ds S' μ' H' x s' q vs r => ?_⟩
    split at q
    · cases r with | cons r1 r =>
      cases r with | cons r2 r =>
      cases r
      exact ⟨_, _, rfl, q _ μ' H' .refl s' (((E.ext x).set r1).set r2)⟩
    · exact False.elim q⟩
def putF_ (cs : List Nat) (f : Nat) (S : Store) (x y : D) : Option Store := match x with
  | .obj n => match S[n]? with
    | some (.ins c fs) => if cs.contains c = true ∧ fs.length < 1000 then some (S.set n (.ins c (setN f y fs))) else none
    | _ => none
  | _ => none
def mSetF (cs : List Nat) (f : Nat) (o m : EM) : SM := fun e S => (m e S).toS e fun y S => (o e S).toS e fun x S => match putF_ cs f S x y with
  | some S => .nx e S
  | none => .stuck
theorem putF_at {cs : List Nat} {f : Nat} {S S' : Store} {x y : D} {H : Hp} {μ : List Addr} {v u : V} (h : FldOk X.K X.mg nm cs f) (s : Sim nm X.K X.mg μ S H) (r : RV X.K H μ v x) (ry : RV X.K H μ u y) (hp : putF_ cs f S x y = some S') :
    ∃ a C dx gs, v = .ref a ∧ H a = some (.ins C dx gs) ∧ Cls X.K C ∧ NoAttr X.K C (nm.fld f) ∧ gs.length < 1000 ∧ Ext μ H μ (upd H a (.ins C dx (putF (nm.fld f) u gs))) ∧ Sim nm X.K X.mg μ S' (upd H a (.ins C dx (putF (nm.fld f) u gs))) ∧ ∃ c, c ∈ cs ∧ X.mg (nm.cls c) = some (.ref C) := by
  unfold putF_ at hp
  split at hp
  · split at hp
    · rename_i n c fs hds
      split at hp
      · rename_i hc
        cases hp
        cases r with | @obj a n e =>
        obtain ⟨C, dx, gs, g, e1, r1⟩ := s.ob _ _ _ e hds
        obtain ⟨k1, k2⟩ := h.2 c (by simpa using hc.1) C g
        have x := Ext.wrote (H := H) (u := .ins C dx (putF (nm.fld f) u gs)) (List.mem_of_getElem? e)
        exact ⟨a, C, dx, gs, rfl, e1, k1, k2, by rw [rf_length r1]; exact hc.2, x, s.wrote e ⟨C, dx, _, g, upd_same, RF.ext x (rf_set f h.1 ry r1)⟩, c, by simpa using hc.1, g⟩
      · cases hp
    · cases hp
  · cases hp
theorem ms_setF {cs : List Nat} {f : Nat} {fx : Str} {o : Expr} {mo : EM} {pos' : Pos} (h : FldOk X.K X.mg nm cs f) (ho : ME nm X o mo) (he : ME nm X e me) (hf : nm.fld f = fx) (hs : swapsWith e (some (.Attribute o fx pos')) pos.line X.env = pure false := by rfl) :
    MS nm X (.Assign [.Attribute o fx pos'] e pos) (mSetF cs f mo me) := by
  subst hf
  exact ⟨fun W tk => (ps_fld (ho.run W tk) (he.run W tk) hs).imp fun D σ H hh => by
    obtain ⟨e, S, μ, E, s, p⟩ := hh
    refine ⟨e, S, μ, E, s, (PostS.toS E p).mono fun d S' μ' H' x s' q v r => ?_⟩
    refine ⟨e, S', μ', E.ext x, s', (PostS.toS (E.ext x) q).mono fun d2 S2 μ2 H2 x2 s2 q2 v2 r2 => ?_⟩
    split at q2
    · rename_i S3 hp
      obtain ⟨a, C, dx, gs, h1, h2, h3, h4, h5, h6, h7, _⟩ := putF_at h s2 r2 (r.ext x2) hp
      exact ⟨a, C, dx, gs, h1, h2, h3, h4, h5, q2 _ _ _ h6 h7 (((E.ext x).ext x2).ext h6)⟩
    · exact False.elim q2⟩
end
end BS
namespace BS
open PySem PySem.Spec PyProof.Rows L2
/-- G: what the store must bear at each turn -/
structure Wk where
  ds : List D
  G : Store → Prop
abbrev IM := Ev → Store → R Wk
def WOk (nm : Nms) (X : Cx) (J : It) (w : Wk) (C : Hp → List Addr → Prop) : Prop := ∀ (i : Nat) (S : Store) (μ : List Addr) (H : Hp), Sim nm X.K X.mg μ S H → C H μ → w.G S →
  (∀ d, w.ds[i]? = some d → J.go i H ∧ ∀ x H', J.yld i H x H' → Ext μ H μ H' ∧ Sim nm X.K X.mg μ S H' ∧ RV X.K H' μ x d) ∧ (w.ds.length ≤ i → J.stop i H)
def Stable (C : Hp → List Addr → Prop) : Prop := ∀ μ H μ' H', Ext μ H μ' H' → C H μ → C H' μ'
structure MI (nm : Nms) (X : Cx) (tg iter : Expr) (it : IM) : Prop where
  run : ∀ W, Takes X W → PI X tg iter (fun σ H R => ∃ e S μ, EvR nm X H μ e σ ∧ Sim nm X.K X.mg μ S H ∧ PostX nm X W μ H σ (it e S) fun w S' μ' H' => ∀ J C, Stable C → C H' μ' → WOk nm X J w C → R J H')
theorem _root_.L2.PI.imp {X : Cx} {tg e : Expr} {t t' : TI} (h : PI X tg e t) (f : ∀ σ H Q, t' σ H Q → t σ H Q) : PI X tg e t' := ⟨fun pins s σ H Q I q => h.run pins s σ H Q I (f _ _ _ q)⟩
section
variable {nm : Nms} {X : Cx} {tg : Expr} {e : Expr} {me : EM} {pos : Pos}
theorem wok_list {a : Addr} {xs : List V} {ds : List D} {w : Wk} {C : Hp → List Addr → Prop} (hd : w.ds = ds) (hc : ∀ S μ H, Sim nm X.K X.mg μ S H → C H μ → w.G S → ∃ xs, SqL X.K H a xs ∧ RVs X.K H μ xs ds) : WOk nm X (Itl X.K a) w C := by
  intro i S μ H s c g
  obtain ⟨xs, h1, h2⟩ := hc S μ H s c g
  refine ⟨fun d e => ?_, fun h => ⟨xs, h1, by rw [h2.length, ← hd]; exact h⟩⟩
  rw [hd] at e
  obtain ⟨v, e1, r⟩ := h2.get e
  refine ⟨⟨xs, v, h1, e1⟩, fun x H' y => ?_⟩
  obtain ⟨e2, y⟩ := y
  subst e2
  have : x = v := Option.some.inj ((y xs h1).symm.trans e1)
  subst this
  exact ⟨.refl, s, r⟩
theorem wok_tup {a : Addr} {xs : List V} {ds : List D} {w : Wk} {C : Hp → List Addr → Prop} (hd : w.ds = ds) (hc : ∀ S μ H, Sim nm X.K X.mg μ S H → C H μ → w.G S → ∃ xs, SqT X.K H a xs ∧ RVs X.K H μ xs ds) : WOk nm X (Itt X.K a) w C := by
  intro i S μ H s c g
  obtain ⟨xs, h1, h2⟩ := hc S μ H s c g
  refine ⟨fun d e => ?_, fun h => ⟨xs, h1, by rw [h2.length, ← hd]; exact h⟩⟩
  rw [hd] at e
  obtain ⟨v, e1, r⟩ := h2.get e
  refine ⟨⟨xs, v, h1, e1⟩, fun x H' y => ?_⟩
  obtain ⟨e2, y⟩ := y
  subst e2
  have : x = v := Option.some.inj ((y xs h1).symm.trans e1)
  subst this
  exact ⟨.refl, s, r⟩
/-- a list, a tuple -/
def wkS (S : Store) (x : D) : R Wk := match x with
  | .lst ds => .ok ⟨ds, fun _ => True⟩ S
  | .scr ds => .ok ⟨ds, fun _ => True⟩ S
  | .obj n => match S[n]? with
    | some (.lst ds) => .ok ⟨ds, fun S => S[n]? = some (.lst ds)⟩ S
    | _ => .stuck
  | _ => .stuck
def iLs (m : EM) : IM := fun e S => (m e S).bind fun x S => wkS S x
theorem mi_lst (h : ME nm X e me) : MI nm X tg e (iLs me) := by
  refine ⟨fun W tk => (pi_list (h.run W tk)).imp fun σ H R hh => ?_⟩
  obtain ⟨ev, S, μ, E, s, p⟩ := hh
  refine ⟨ev, S, μ, E, s, (Post.bind p).mono fun d S1 μ1 H1 x1 s1 p1 v rv => ?_⟩
  unfold wkS at p1
  split at p1
  · rename_i ds
    cases rv with | @lst a xs _ t r =>
    exact ⟨a, rfl, ⟨xs, .of t.2⟩, p1 μ1 H1 .refl s1 (Itl X.K a) (fun H μ => LstAt H μ a xs ∧ RVs X.K H μ xs ds) (fun μ H μ' H' x c => ⟨c.1.ext x, RVs.ext x _ c.2⟩) ⟨t, r⟩ (wok_list (xs := xs) rfl fun S μ H s c g => ⟨xs, .of c.1.2, c.2⟩)⟩
  · rename_i ds
    cases rv with | @scr a xs _ t r =>
    exact ⟨a, rfl, ⟨xs, t.sq⟩, p1 μ1 H1 .refl s1 (Itl X.K a) (fun H μ => ScrAt X.K H μ a xs ∧ RVs X.K H μ xs ds) (fun μ H μ' H' x c => ⟨c.1.ext x, RVs.ext x _ c.2⟩) ⟨t, r⟩ (wok_list (xs := xs) rfl fun S μ H s c g => ⟨xs, c.1.sq, c.2⟩)⟩
  · rename_i n
    split at p1
    · rename_i ds hds
      cases rv with | @obj a _ en =>
      obtain ⟨xs, e1, r⟩ := s1.ob _ _ _ en hds
      exact ⟨a, rfl, ⟨xs, .of e1⟩, p1 μ1 H1 .refl s1 (Itl X.K a) (fun H μ => μ[n]? = some a) (fun μ H μ' H' x c => x.at c) en (wok_list (xs := xs) rfl fun S μ H s c g => by
        obtain ⟨xs, e1, r⟩ := s.ob _ _ _ c g
        exact ⟨xs, .of e1, r⟩)⟩
    · exact False.elim p1
  · exact False.elim p1
def iTp (m : EM) : IM := fun e S => (m e S).bind fun x S => match tupOf x with
  | some ds => .ok ⟨ds, fun _ => True⟩ S
  | none => .stuck
theorem mi_tup (h : ME nm X e me) : MI nm X tg e (iTp me) := by
  refine ⟨fun W tk => (pi_tup (h.run W tk)).imp fun σ H R hh => ?_⟩
  obtain ⟨ev, S, μ, E, s, p⟩ := hh
  refine ⟨ev, S, μ, E, s, (Post.bind p).mono fun d S1 μ1 H1 x1 s1 p1 v rv => ?_⟩
  split at p1
  · rename_i ds hds
    cases d with
    | tup ds' =>
      cases hds
      cases rv with | @tup a xs ds t r =>
      exact ⟨a, rfl, ⟨xs, t.sq⟩, p1 μ1 H1 .refl s1 (Itt X.K a) (fun H μ => TupAt X.K H μ a xs ∧ RVs X.K H μ xs ds) (fun μ H μ' H' x c => ⟨c.1.ext x, RVs.ext x _ c.2⟩) ⟨t, r⟩ (wok_tup (xs := xs) rfl fun S μ H s c g => ⟨xs, c.1.sq, c.2⟩)⟩
    | _ => cases hds
  · exact False.elim p1
def intsFrom (lo : Int) : Nat → List D
  | 0 => []
  | n + 1 => .int lo :: intsFrom (lo + 1) n
theorem intsFrom_len (lo : Int) : ∀ n, (intsFrom lo n).length = n
  | 0 => rfl
  | n + 1 => by rw [intsFrom, List.length_cons, intsFrom_len (lo + 1) n]
theorem intsFrom_get : ∀ (n i : Nat) (lo : Int), i < n → (intsFrom lo n)[i]? = some (.int (lo + i))
  | 0, _, _, h => absurd h (Nat.not_lt_zero _)
  | n + 1, 0, lo, _ => by simp [intsFrom]
  | n + 1, i + 1, lo, h => by
    rw [intsFrom, List.getElem?_cons_succ, intsFrom_get n i (lo + 1) (Nat.lt_of_succ_lt_succ h)]
    congr 2
    omega
theorem wok_range {lo : Int} {n : Nat} : WOk nm X (Itr lo n) ⟨intsFrom lo n, fun _ => True⟩ fun _ _ => True := by
  intro i S μ H s _ _
  refine ⟨fun d e => ?_, fun h => by rw [intsFrom_len] at h; exact h⟩
  have hl : i < n := by have := (List.getElem?_eq_some_iff.mp e).1; rwa [intsFrom_len] at this
  rw [intsFrom_get n i lo hl] at e
  cases e
  refine ⟨hl, fun x H' y => ?_⟩
  obtain ⟨e2, rfl⟩ := y
  subst e2
  exact ⟨.refl, s, .int _⟩
def rngOk (i : Int) : Prop := -(2 ^ 62) ≤ i ∧ i < 2 ^ 62
instance (i : Int) : Decidable (rngOk i) := inferInstanceAs (Decidable (_ ∧ _))
def iRng (as : AM) : IM := fun e S => (as e S).bind fun ds S => match ds with
  | [.int j] => if rngOk j then .ok ⟨intsFrom 0 j.toNat, fun _ => True⟩ S else .stuck
  | [.int i, .int j] => if rngOk i ∧ rngOk j then .ok ⟨intsFrom i (j - i).toNat, fun _ => True⟩ S else .stuck
  | _ => .stuck
theorem mi_range1 {a : Expr} {ma : AM} {p : Pos} (hg : GlN X "range") (hm : X.mg "range" = none) (ha : MA nm X [a] ma) (hs : starEach [a] X.env = [(false, eval a X.env)] := by rfl) : MI nm X tg (.Call (.Name "range" p) [a] [] pos) (iRng ma) := by
  refine ⟨fun W tk => (pi_range1 hg.g hm (ha.run W tk) hs).imp fun σ H R hh => ?_⟩
  obtain ⟨ev, S, μ, E, s, p⟩ := hh
  refine ⟨ev, S, μ, E, s, (post_len ha (Post.bind p)).mono fun d S1 μ1 H1 x1 s1 p1 v rv => ?_⟩
  obtain ⟨hl, p1⟩ := p1
  split at p1
  · split at p1
    · rename_i c
      cases rv with | cons r1 r => cases r1; cases r; exact ⟨_, rfl, c.1, c.2, p1 μ1 H1 .refl s1 _ _ (fun _ _ _ _ _ _ => True.intro) True.intro wok_range⟩
    · exact False.elim p1
  · cases hl
  · exact False.elim p1
theorem mi_range2 {a b : Expr} {ma : AM} {p : Pos} (hg : GlN X "range") (hm : X.mg "range" = none) (ha : MA nm X [a, b] ma) (hs : starEach [a, b] X.env = [(false, eval a X.env), (false, eval b X.env)] := by rfl) (hs2 : starEach [b] X.env = [(false, eval b X.env)] := by rfl) : MI nm X tg (.Call (.Name "range" p) [a, b] [] pos) (iRng ma) := by
  refine ⟨fun W tk => (pi_range2 hg.g hm (ha.run W tk) hs hs2).imp fun σ H R hh => ?_⟩
  obtain ⟨ev, S, μ, E, s, p⟩ := hh
  refine ⟨ev, S, μ, E, s, (post_len ha (Post.bind p)).mono fun d S1 μ1 H1 x1 s1 p1 v rv => ?_⟩
  obtain ⟨hl, p1⟩ := p1
  split at p1
  · cases hl
  · split at p1
    · rename_i c
      cases rv with | cons r1 r => cases r with | cons r2 r => cases r1; cases r2; cases r; exact ⟨_, _, rfl, ⟨c.1.1, c.1.2, c.2.1, c.2.2⟩, p1 μ1 H1 .refl s1 _ _ (fun _ _ _ _ _ _ => True.intro) True.intro wok_range⟩
    · exact False.elim p1
  · exact False.elim p1
/-- the signs of a text -/
def signs (z : Str) : List D := z.cps.toList.map strAt
end
open Classical in
/-- the loop itself -/
noncomputable def forL (G : Store → Prop) (g : GM) (b : SM) : List D → Ev → Store → RS
  | [], e, S => if G S then .nx e S else .stuck
  | d :: ds, e, S => if G S then ((g d e S).seq b).loop (forL G g b ds) else .stuck
noncomputable def mFor (it : IM) (g : GM) (b : SM) : SM := fun e S => (it e S).toS e fun w S => forL w.G g b w.ds e S
theorem forL_nil {g : GM} {b : SM} {e : Ev} {S : Store} : forL (fun _ => True) g b [] e S = .nx e S := by simp [forL]
theorem forL_cons {g : GM} {b : SM} {d : D} {ds : List D} {e : Ev} {S : Store} : forL (fun _ => True) g b (d :: ds) e S = ((g d e S).seq b).loop (forL (fun _ => True) g b ds) := by simp [forL]
section
variable {nm : Nms} {X : Cx} {tg iter : Expr} {it : IM} {g : GM} {body : List Stmt} {mb : SM} {pos : Pos}
/-- behind a turn -/
theorem PostS.loop {W : WX} {μ : List Addr} {H : Hp} {D : Ends} {r : RS} {k : Ev → Store → RS} (h : PostS nm X W μ H (r.loop k) D) :
    PostS nm X W μ H r { D with nx := fun σ H' => ∃ e S μ', EvR nm X H' μ' e σ ∧ Sim nm X.K X.mg μ' S H' ∧ Ext μ H μ' H' ∧ PostS nm X W μ' H' (k e S) D, ct := fun σ H' => ∃ e S μ', EvR nm X H' μ' e σ ∧ Sim nm X.K X.mg μ' S H' ∧ Ext μ H μ' H' ∧ PostS nm X W μ' H' (k e S) D, bk := D.nx } := by
  cases r with
  | nx e S => exact fun σ2 μ2 H2 x2 s r => ⟨e, S, μ2, r, s, x2, PostS.ext (r := k e S) x2 h⟩
  | bk e S => exact h
  | ct e S => exact fun σ2 μ2 H2 x2 s r => ⟨e, S, μ2, r, s, x2, PostS.ext (r := k e S) x2 h⟩
  | rt d S => exact h
  | exc c fs e S => exact h
  | stuck => exact h
theorem ms_for (hp : PassesOwn (model X.prog X.w) X.A X.env X.xe) (hc : X.calm = true) (hi : MI nm X tg iter it) (hg : MG nm X tg g) (ok : GOk g) (hb : MB nm X body mb) (hs : ∀ x, foldedSetIterable iter X.env x = pure x := by intro _; rfl) : MS nm X (.For tg iter body [] pos) (mFor it g mb) := by
  refine ⟨fun W tk => (ps_for hp hc (hi.run W tk) (hg.run W tk) (hb.run W tk) hs).imp fun D σ H h => ?_⟩
  obtain ⟨e, S, μ, E, s, p⟩ := h
  refine ⟨e, S, μ, E, s, (PostS.toS E p).mono fun w S1 μ1 H1 x1 s1 p1 J C st c0 ok' => ?_⟩
  refine ⟨fun i m σ H => m = w.ds.length - i ∧ i ≤ w.ds.length ∧ ∃ e S μ, EvR nm X H μ e σ ∧ Sim nm X.K X.mg μ S H ∧ C H μ ∧ PostS nm X W μ H (forL w.G g mb (w.ds.drop i) e S) D,
    ⟨w.ds.length, rfl, Nat.zero_le _, e, S1, μ1, E.ext x1, s1, c0, p1⟩, ?_⟩
  rintro i m σ H ⟨rfl, hi, e, S, μ, E, s, c, p⟩
  by_cases hlt : i < w.ds.length
  · obtain ⟨d, hd⟩ : ∃ d, w.ds[i]? = some d := ⟨_, List.getElem?_eq_getElem hlt⟩
    have hdr : w.ds.drop i = d :: w.ds.drop (i + 1) := by
      rw [List.drop_eq_getElem_cons hlt]
      rw [List.getElem?_eq_getElem hlt] at hd
      cases hd; rfl
    rw [hdr] at p
    unfold forL at p
    split at p
    · rename_i hG
      obtain ⟨go, yl⟩ := (ok' i S μ H s c hG).1 d hd
      refine .inr ⟨go, fun σ' H' => ∃ m', m' < w.ds.length - i ∧ m' = w.ds.length - (i + 1) ∧ i + 1 ≤ w.ds.length ∧ ∃ e S μ, EvR nm X H' μ e σ' ∧ Sim nm X.K X.mg μ S H' ∧ C H' μ ∧ PostS nm X W μ H' (forL w.G g mb (w.ds.drop (i + 1)) e S) D, fun σ' H' h => h, fun x H' y => ?_⟩
      obtain ⟨x2, s2, r2⟩ := yl x H' y
      refine ⟨d, e, S, μ, r2, E.ext x2, s2, ?_⟩
      have q := PostS.seq (PostS.loop (PostS.ext x2 p))
      have turn : ∀ {σ' : St} {H3 : Hp}, (∃ e S μ', EvR nm X H3 μ' e σ' ∧ Sim nm X.K X.mg μ' S H3 ∧ Ext μ H' μ' H3 ∧ PostS nm X W μ' H3 (forL w.G g mb (w.ds.drop (i + 1)) e S) D) →
          ∃ m', m' < w.ds.length - i ∧ m' = w.ds.length - (i + 1) ∧ i + 1 ≤ w.ds.length ∧ ∃ e S μ, EvR nm X H3 μ e σ' ∧ Sim nm X.K X.mg μ S H3 ∧ C H3 μ ∧ PostS nm X W μ H3 (forL w.G g mb (w.ds.drop (i + 1)) e S) D := by
        rintro σ' H3 ⟨e, S, μ3, E3, s3, x3, p3⟩
        exact ⟨_, by omega, rfl, hlt, e, S, μ3, E3, s3, st _ _ _ _ (x2.trans x3) c, p3⟩
      have conv : ∀ {σ' : St} {H3 : Hp}, (∃ e S μ', EvR nm X H3 μ' e σ' ∧ Sim nm X.K X.mg μ' S H3 ∧ PostS nm X W μ' H3 (mb e S) { D with nx := fun σ H'' => ∃ e S μ', EvR nm X H'' μ' e σ ∧ Sim nm X.K X.mg μ' S H'' ∧ Ext μ H' μ' H'' ∧ PostS nm X W μ' H'' (forL w.G g mb (w.ds.drop (i + 1)) e S) D, ct := fun σ H'' => ∃ e S μ', EvR nm X H'' μ' e σ ∧ Sim nm X.K X.mg μ' S H'' ∧ Ext μ H' μ' H'' ∧ PostS nm X W μ' H'' (forL w.G g mb (w.ds.drop (i + 1)) e S) D, bk := D.nx }) →
          rdS nm X W mb { D with nx := fun σ' H' => ∃ m', m' < w.ds.length - i ∧ m' = w.ds.length - (i + 1) ∧ i + 1 ≤ w.ds.length ∧ ∃ e S μ, EvR nm X H' μ e σ' ∧ Sim nm X.K X.mg μ S H' ∧ C H' μ ∧ PostS nm X W μ H' (forL w.G g mb (w.ds.drop (i + 1)) e S) D, ct := fun σ' H' => ∃ m', m' < w.ds.length - i ∧ m' = w.ds.length - (i + 1) ∧ i + 1 ≤ w.ds.length ∧ ∃ e S μ, EvR nm X H' μ e σ' ∧ Sim nm X.K X.mg μ S H' ∧ C H' μ ∧ PostS nm X W μ H' (forL w.G g mb (w.ds.drop (i + 1)) e S) D, bk := D.nx } σ' H3 := by
        rintro σ' H3 ⟨e, S, μ3, E3, s3, p3⟩
        exact ⟨e, S, μ3, E3, s3, p3.mono (fun _ _ h => turn h) (fun _ _ h => h) (fun _ _ h => h) (fun _ _ h => turn h)⟩
      cases hh : g d e S with
      | nx e' S' => rw [hh] at q; exact fun σ3 μ3 H3 x3 s3 E3 => conv (q σ3 μ3 H3 x3 s3 E3)
      | bk e' S' => exact absurd hh ((ok d e S d S').2 e').1
      | ct e' S' => exact absurd hh ((ok d e S d S').2 e').2
      | rt d' S' => exact absurd hh (ok d e S d' S').1
      | exc c fs e' S' => rw [hh] at q; exact q
      | stuck => rw [hh] at q; exact q
    · exact False.elim p
  · have hz : w.ds.drop i = [] := List.drop_eq_nil_of_le (Nat.le_of_not_lt hlt)
    rw [hz] at p
    unfold forL at p
    split at p
    · rename_i hG
      exact .inl ⟨(ok' i S μ H s c hG).2 (Nat.le_of_not_lt hlt), p σ μ H .refl s E⟩
    · exact False.elim p
def whileL (c : TM) (b : SM) : Nat → SM
  | 0, _, _ => .stuck
  | n + 1, e, S => (c e S).toS e fun k S => if k = true then (b e S).loop (whileL c b n) else .nx e S
def mWhile (n : Nat) (c : TM) (b : SM) : SM := whileL c b n
theorem ms_while (n : Nat) {c : Expr} {mc : TM} (hp : PassesOwn (model X.prog X.w) X.A X.env X.xe) (hc : MT nm X c mc) (hb : MB nm X body mb) : MS nm X (.While c body [] pos) (mWhile n mc mb) := by
  refine ⟨fun W tk => (ps_while hp (hc.run W tk) (hb.run W tk)).imp fun D σ H h => ?_⟩
  obtain ⟨e, S, μ, E, s, p⟩ := h
  refine ⟨fun m σ H => ∃ e S μ, EvR nm X H μ e σ ∧ Sim nm X.K X.mg μ S H ∧ PostS nm X W μ H (whileL mc mb m e S) D, ⟨n, e, S, μ, E, s, p⟩, ?_⟩
  rintro m σ H ⟨e, S, μ, E, s, p⟩
  cases m with
  | zero => exact False.elim p
  | succ m =>
    unfold whileL at p
    refine ⟨e, S, μ, E, s, (PostS.toS E p).mono fun k S1 μ1 H1 x1 s1 p1 => ?_⟩
    cases k with
    | false => rw [if_neg Bool.false_ne_true] at p1 ⊢; exact p1 σ μ1 H1 .refl s1 (E.ext x1)
    | true =>
      rw [if_pos rfl] at p1 ⊢
      have conv : ∀ {σ : St} {H' : Hp}, (∃ e S μ', EvR nm X H' μ' e σ ∧ Sim nm X.K X.mg μ' S H' ∧ Ext μ1 H1 μ' H' ∧ PostS nm X W μ' H' (whileL mc mb m e S) D) → ∃ m', m' < m + 1 ∧ ∃ e S μ, EvR nm X H' μ e σ ∧ Sim nm X.K X.mg μ S H' ∧ PostS nm X W μ H' (whileL mc mb m' e S) D := by
        rintro σ H' ⟨e, S, μ, E, s, _, p⟩
        exact ⟨m, Nat.lt_succ_self m, e, S, μ, E, s, p⟩
      refine ⟨fun σ' H' => ∃ m', m' < m + 1 ∧ ∃ e S μ, EvR nm X H' μ e σ' ∧ Sim nm X.K X.mg μ S H' ∧ PostS nm X W μ H' (whileL mc mb m' e S) D, fun σ' H' h => h, e, S1, μ1, E.ext x1, s1, (PostS.loop p1).mono (fun _ _ h => conv h) (fun _ _ h => h) (fun _ _ h => h) (fun _ _ h => conv h)⟩
end
end BS
namespace BS
open PySem PySem.Spec PyProof.Rows L2
section
variable {nm : Nms} {X : Cx} {pos : Pos} {e : Expr} {me : EM}
def putD (kvs : List (Key × D)) (k : Key) (v : D) : List (Key × D) := if (kvs.any fun kv => decide (kv.1 = k)) = true then kvs.map (fun kv => if kv.1 = k then (kv.1, v) else kv) else kvs ++ [(k, v)]
theorem any_rk {K : PySem.W.Frag} {H : Hp} {μ : List Addr} (k : Key) : ∀ {ys : List (Key × V)} {kvs : List (Key × D)}, RK K H μ ys kvs → (ys.any fun kv => decide (kv.1 = k)) = kvs.any fun kv => decide (kv.1 = k)
  | _, _, .nil => rfl
  | p :: ys, q :: kvs, .cons r t => by rw [List.any_cons, List.any_cons, any_rk k t, r.1]
theorem paired_app {α β : Type} {R : α → β → Prop} : ∀ {l : List α} {m : List β} {l' : List α} {m' : List β}, Paired R l m → Paired R l' m' → Paired R (l ++ l') (m ++ m')
  | _, _, _, _, .nil, h => h
  | _, _, _, _, .cons r t, h => .cons r (paired_app t h)
theorem put_rk {K : PySem.W.Frag} {H : Hp} {μ : List Addr} {k : Key} {v : V} {d : D} (rv : RV K H μ v d) {ys : List (Key × V)} {kvs : List (Key × D)} (r : RK K H μ ys kvs) : RK K H μ (putK ys k v) (putD kvs k d) := by
  unfold putK putD
  rw [any_rk k r]
  split
  · rename_i hany
    clear hany
    induction r with
    | nil => exact .nil
    | @cons p q ys kvs r t ih =>
      rw [List.map_cons, List.map_cons]
      refine .cons ?_ ih
      rw [r.1]
      split
      · exact ⟨rfl, rv⟩
      · exact ⟨r.1, r.2⟩
  · exact paired_app r (.cons ⟨rfl, rv⟩ .nil)
def dropD (kvs : List (Key × D)) (k : Key) : List (Key × D) := kvs.filter fun kv => decide (kv.1 ≠ k)
theorem drop_rk {K : PySem.W.Frag} {H : Hp} {μ : List Addr} {k : Key} {ys : List (Key × V)} {kvs : List (Key × D)} (r : RK K H μ ys kvs) : RK K H μ (dropK ys k) (dropD kvs k) := by
  unfold dropK dropD
  induction r with
  | nil => exact .nil
  | @cons p q ys kvs r t ih =>
    rw [List.filter_cons, List.filter_cons, r.1]
    split
    · exact .cons r ih
    · exact ih
theorem rk_len {K : PySem.W.Frag} {H : Hp} {μ : List Addr} {ys : List (Key × V)} {kvs : List (Key × D)} (r : RK K H μ ys kvs) : ys.length = kvs.length := Paired.length r
def setS (S : Store) (o i v : D) : Option Store := match o with
  | .obj n => match S[n]? with
    | some (.lst ds) => match i with
      | .int k => (ixN ds.length k).map fun j => S.set n (.lst (ds.set j v))
      | _ => none
    | some (.dct kvs) => match keyOf i with
      | some k => if kvs.length < sizeLine then some (S.set n (.dct (putD kvs k v))) else none
      | none => none
    | _ => none
  | _ => none
def rSetD (nm : Nms) (X : Cx) : TSet := fun o i v H Q => ∃ S μ ox ix vx S', Sim nm X.K X.mg μ S H ∧ RV X.K H μ o ox ∧ RV X.K H μ i ix ∧ RV X.K H μ v vx ∧ setS S ox ix vx = some S' ∧ ∀ H', Ext μ H μ H' → Sim nm X.K X.mg μ S' H' → Q H'
theorem set_D {k : Nat} (hr : L2H.RoomH k X.A) : PSet X (rSetD nm X) := by
  intro pins s σ H o i v ov iv u Q I ro ri rv h
  obtain ⟨S, μ, ox, ix, vx, S', sm, r1, r2, r3, e, q⟩ := h
  have hun := hr.un
  unfold setS at e
  split at e
  · cases r1 with | @obj a n en =>
    split at e
    · rename_i ds hds
      split at e
      · obtain ⟨j, hj, rfl⟩ := Option.map_eq_some_iff.mp e
        cases r2
        obtain ⟨xs, e1, r⟩ := sm.ob _ _ _ en hds
        have x := Ext.wrote (H := H) (u := .lst (xs.set j v)) (List.mem_of_getElem? en)
        exact set_list pins s σ H _ _ v ov iv u Q I ro ri rv ⟨a, xs, _, j, rfl, rfl, e1, by rw [r.length]; exact hj, q _ x (sm.wrote en ⟨_, upd_same, RVs.ext x _ (r.set j r3)⟩)⟩
      · cases e
    · rename_i kvs hds
      split at e
      · rename_i k hk
        split at e
        · rename_i hl
          cases e
          have ek := keyOf_kV r2 hk
          subst ek
          obtain ⟨ys, e1, r⟩ := sm.ob _ _ _ en hds
          have x := Ext.wrote (H := H) (u := .dK (putK ys k v)) (List.mem_of_getElem? en)
          cases ro
          exact d_setItem (by omega) I (DPut.k e1 (by rw [rk_len r]; exact hl)) ri rv fun s' I' => ⟨_, I', q _ x (sm.wrote en ⟨_, upd_same, RK.ext x (put_rk r3 r)⟩)⟩
        · cases e
      · cases e
    · cases e
  · cases e
def gSb (o i : EM) : GM := fun v e S => (o e S).toS e fun x S => (i e S).toS e fun y S => match setS S x y v with
  | some S => .nx e S
  | none => .stuck
theorem mg_sub {k : Nat} (hr : L2H.RoomH k X.A) {o i : Expr} {mo mi : EM} (ho : ME nm X o mo) (hi : ME nm X i mi) (ha : ∀ v, assign (.Subscript o i pos) X.env v = (do
      let ov ← holding [v] (eval o X.env)
      let iv ← holding [v, ov] (eval i X.env)
      standAt pos
      holding [v, ov, iv] (setItem ov iv v)
      release [v, ov, iv] []) := by intro _; rfl) : MG nm X (.Subscript o i pos) (gSb mo mi) := ⟨fun W tk => (pg_sub (ho.run W tk) (hi.run W tk) (set_D hr) ha).imp fun v σ H Q h => by
  obtain ⟨d, e, S, μ, r, E, s, p⟩ := h
  refine ⟨e, S, μ, E, s, (PostS.toS E p).mono fun ox S1 μ1 H1 x1 s1 p1 vo ro => ?_⟩
  refine ⟨e, S1, μ1, E.ext x1, s1, (PostS.toS (E.ext x1) p1).mono fun ix S2 μ2 H2 x2 s2 p2 vi ri => ?_⟩
  split at p2
  · rename_i S3 hS
    exact ⟨S2, μ2, ox, ix, d, S3, s2, ro.ext x2, ri, (r.ext x1).ext x2, hS, fun H3 x3 s3 => p2 σ μ2 H3 x3 s3 (((E.ext x1).ext x2).ext x3)⟩
  · exact False.elim p2⟩
theorem gok_sb {o i : EM} : GOk (gSb o i) := fun d e S d' S' => by
  unfold gSb
  cases h1 : o e S with
  | ok x S1 =>
    rw [R.toS_ok]
    cases h2 : i e S1 with
    | ok y S2 =>
      rw [R.toS_ok]
      split <;> exact ⟨fun h => (nomatch h), fun e' => ⟨fun h => (nomatch h), fun h => (nomatch h)⟩⟩
    | exc c fs S2 => exact ⟨fun h => (nomatch h), fun e' => ⟨fun h => (nomatch h), fun h => (nomatch h)⟩⟩
    | stuck => exact ⟨fun h => (nomatch h), fun e' => ⟨fun h => (nomatch h), fun h => (nomatch h)⟩⟩
  | exc c fs S2 => exact ⟨fun h => (nomatch h), fun e' => ⟨fun h => (nomatch h), fun h => (nomatch h)⟩⟩
  | stuck => exact ⟨fun h => (nomatch h), fun e' => ⟨fun h => (nomatch h), fun h => (nomatch h)⟩⟩
def mSetI (m o i : EM) : SM := mAsg m (gSb o i)
theorem ms_setI {k : Nat} (hr : L2H.RoomH k X.A) {o i : Expr} {mo mi : EM} {pos' : Pos} (ho : ME nm X o mo) (hi : ME nm X i mi) (he : ME nm X e me) (ha : ∀ v, assign (.Subscript o i pos') X.env v = (do
      let ov ← holding [v] (eval o X.env)
      let iv ← holding [v, ov] (eval i X.env)
      standAt pos'
      holding [v, ov, iv] (setItem ov iv v)
      release [v, ov, iv] []) := by intro _; rfl) (hs : swapsWithSole [.Subscript o i pos'] e pos.line X.env = pure false := by rfl) (hw : swappedStores [.Subscript o i pos'] e X.env = pure none := by rfl)
    (h1 : (assignEach [.Subscript o i pos'] X.env).map (·.2) = [assign (.Subscript o i pos') X.env] := by rfl) : MS nm X (.Assign [.Subscript o i pos'] e pos) (mSetI me mo mi) :=
  ms_asg he (mg_sub hr ho hi ha) gok_sb hs hw h1
theorem ip_D {op : Operator} {f : Int → Int → Int} (o : OpR X (inplaceOp op) (rI0 fun i j => .int (f i j))) : OpD nm X (inplaceOp op) (fI fun i j => some (.int (f i j))) := opI0_D o
theorem i_sub : OpD nm X (inplaceOp .Sub) fSub := opI0_D iop_sub
def iAdd : Store → D → D → Option D := fun _ x y => match x, y with
  | .int i, .int j => some (.int (i + j))
  | .str a, .str b => if a.length + b.length ≤ sizeLine then some (.str (a ++ b)) else none
  | _, _ => none
theorem i_add : OpD nm X (inplaceOp .Add) iAdd := by
  intro pins s σ H x y v u Q I rv ru hh
  obtain ⟨S, μ, dx, dy, d, sm, rx, ry, e, q⟩ := hh
  unfold iAdd at e
  split at e
  · cases rx; cases ry; cases e
    exact iop_add pins s σ H _ _ v u Q I rv ru ⟨_, _, rfl, rfl, q _ μ H .refl sm (.int _)⟩
  · split at e
    · rename_i c; cases rx; cases ry; cases e
      exact iop_add_str pins s σ H _ _ v u Q I rv ru ⟨_, _, rfl, rfl, c, q _ μ H .refl sm (.str _)⟩
    · cases e
  · cases e
def mAug (i : Nat) (f : Store → D → D → Option D) (m : EM) : SM := fun e S => match e.sl[i]? with
  | some (some x) => (m e S).toS e fun y S => (lift2 f S x y).toS e fun z S => .nx (e.set i z) S
  | _ => .stuck
theorem ms_aug {is : List Nat} (i : Nat) {x : Str} {op : Operator} {f : Store → D → D → Option D} {pos' : Pos} (hN : X.N.Nodup) (hl : locAll is X.N X.env.scope = true) (ho : OpD nm X (inplaceOp op) f) (he : ME nm X e me) (hi : X.N[i]? = some x := by rfl) (hc : is.contains i = true := by rfl)
    (hf : X.fn x = true ∨ X.env.scope.names.lookup x = some .local := by first | exact .inl rfl | exact .inr rfl | assumption) : MS nm X (.AugAssign (.Name x pos') op e pos) (mAug i f me) :=
  ⟨fun W tk => (ps_aug hN hi (loc_of hl hc hi).1 (he.run W tk) (ti := rOpD nm X f) (fun pins s σ H x y v u Q I rx ry q => ho pins s σ H x y v u Q I rx ry q) hf).imp fun D σ H h => by
    obtain ⟨e, S, μ, E, s, p⟩ := h
    unfold mAug at p
    split at p
    · rename_i d hd
      obtain ⟨v, h1, r1⟩ := E.at_ i d hd
      refine ⟨v, h1, e, S, μ, E, s, (PostS.toS E p).mono fun y S1 μ1 H1 x1 s1 p1 u ru => ?_⟩
      unfold lift2 at p1
      split at p1
      · rename_i z hz
        exact ⟨S1, μ1, d, y, z, s1, r1.ext x1, ru, hz, fun w μ2 H2 x2 s2 r2 => p1 _ μ2 H2 x2 s2 (((E.ext x1).ext x2).set r2)⟩
      · exact False.elim p1
    · exact False.elim p⟩
/-- o.f op= e -/
def mAugF (c : Nat) (f : Nat) (g : Store → D → D → Option D) (o m : EM) : SM := fun e S => (o e S).toS e fun x S => match getF [c] f S x with
  | some y => (m e S).toS e fun z S => (lift2 g S y z).toS e fun w S => match putF_ [c] f S x w with
    | some S => .nx e S
    | none => .stuck
  | none => .stuck
theorem ms_augF {c : Nat} {f : Nat} {fx : Str} {op : Operator} {g : Store → D → D → Option D} {o : Expr} {mo : EM} {pos' : Pos} (h : FldOk X.K X.mg nm [c] f) (hop : OpD nm X (inplaceOp op) g) (ho : ME nm X o mo) (he : ME nm X e me) (hf : nm.fld f = fx) :
    MS nm X (.AugAssign (.Attribute o fx pos') op e pos) (mAugF c f g mo me) := by
  subst hf
  exact ⟨fun W tk => (ps_fldaug (rd := rOpD nm X g) (ho.run W tk) (he.run W tk) (fun pins s σ H x y u v Q I rx ry q => hop pins s σ H x y u v Q I rx ry q)).imp fun D σ H hh => by
    obtain ⟨e, S, μ, E, s, p⟩ := hh
    refine ⟨e, S, μ, E, s, (PostS.toS E p).mono fun d S1 μ1 H1 x1 s1 p1 v rv => ?_⟩
    split at p1
    · rename_i y hy
      unfold getF at hy
      split at hy
      · rename_i c' fs hi
        split at hy
        · rename_i hc
          have hc' : c' = c := by simpa using hc
          subst hc'
          obtain ⟨n, a, C, dx, gs, rfl, rfl, h1, h2, h3, h4, h5⟩ := insOf_at s1 rv hi
          obtain ⟨k1, k2⟩ := h.2 c' (by simp) C h3
          rcases rf_get f h.1 h5 with ⟨_, z⟩ | ⟨w, d2, z1, z2, z3⟩
          · rw [z] at hy; cases hy
          · rw [z2] at hy; cases hy
            refine ⟨a, C, dx, gs, w, rfl, h4, k1, k2, z1, e, S1, μ1, E.ext x1, s1, (PostS.toS (E.ext x1) p1).mono fun zd S2 μ2 H2 x2 s2 p2 u ru => ?_⟩
            unfold lift2 at p2
            split at p2
            · rename_i wd hw
              refine ⟨S2, μ2, _, zd, wd, s2, z3.ext x2, ru, hw, fun w' μ3 H3 x3 s3 r3 => ?_⟩
              have p3 : PostS nm X W μ3 H3 (match putF_ [c'] f S2 (.obj n) wd with | some S => RS.nx e S | none => .stuck) D := PostS.ext x3 p2
              split at p3
              · rename_i S4 hp
                obtain ⟨a', C', dx', gs', g1, g2, g3, g4, g5, g6, g7, c2, g8, g9⟩ := putF_at h s3 (rv.ext (x2.trans x3)) r3 hp
                cases g1
                have : c2 = c' := by simpa using g8
                subst this
                rw [h3] at g9
                cases g9
                exact ⟨dx', gs', g2, g5, p3 σ μ3 _ g6 g7 ((((E.ext x1).ext x2).ext x3).ext g6)⟩
              · exact False.elim p3
            · exact False.elim p2
        · cases hy
      · cases hy
    · exact False.elim p1⟩
/-- del d[k] -/
def delS (S : Store) (o i : D) : Option Store := match o with
  | .obj n => match S[n]? with
    | some (.dct kvs) => match keyOf i with
      | some k => if (getK kvs k).isSome = true then some (S.set n (.dct (dropD kvs k))) else none
      | none => none
    | _ => none
  | _ => none
def mDel (o i : EM) : SM := fun e S => (o e S).toS e fun x S => (i e S).toS e fun y S => match delS S x y with
  | some S => .nx e S
  | none => .stuck
theorem ms_del {o i : Expr} {mo mi : EM} {tpos : Pos} (ho : ME nm X o mo) (hi : ME nm X i mi) : MS nm X (.Delete [.Subscript o i tpos] pos) (mDel mo mi) := ⟨fun W tk => (ps_ddel (ho.run W tk) (hi.run W tk)).imp fun D σ H h => by
  obtain ⟨e, S, μ, E, s, p⟩ := h
  refine ⟨e, S, μ, E, s, (PostS.toS E p).mono fun ox S1 μ1 H1 x1 s1 p1 vo ro => ?_⟩
  refine ⟨e, S1, μ1, E.ext x1, s1, (PostS.toS (E.ext x1) p1).mono fun ix S2 μ2 H2 x2 s2 p2 vi ri => ?_⟩
  split at p2
  · rename_i S3 hS
    unfold delS at hS
    split at hS
    · split at hS
      · rename_i kvs hds
        split at hS
        · rename_i k hk
          split at hS
          · rename_i hg
            cases hS
            cases ro.ext x2 with | @obj a n en =>
            have ek := keyOf_kV ri hk
            obtain ⟨ys, e1, r⟩ := s2.ob _ _ _ en hds
            have x := Ext.wrote (H := H2) (u := .dK (dropK ys k)) (List.mem_of_getElem? en)
            refine ⟨a, ys, k, rfl, e1, ek, ?_, p2 σ μ2 _ x (s2.wrote en ⟨_, upd_same, RK.ext x (drop_rk r)⟩) (((E.ext x1).ext x2).ext x)⟩
            rcases getK_val k r with ⟨_, z⟩ | ⟨w, d, z1, z2, _⟩
            · rw [z] at hg; cases hg
            · rw [z1]; rfl
          · cases hS
        · cases hS
      · cases hS
    · cases hS
  · exact False.elim p2⟩
section
variable {C : Addr} {bmB : List Value} {B newId initId : String}
/-- X() -/
theorem pmk_own0 {x : Str} {p pos : Pos} (F : ExcBaseFacts B newId initId bmB) (q : PySem.W.excIn X.K C bmB newId = true) (gC : X.mg x = some (.ref C)) (kC : PySem.W.keepIn X.K (.ref C) = true) (r : Raises X (.ref C)) (hg : Gl X x)
    (hdb : (x == ("__debug__" : Str)) = false := by decide) : PMk X (.Call (.Name x p) [] [] pos) (fun _ H Q => Q (.ref C) none H) := by
  intro pins s σ H Q I h
  refine wpAny_Call_Name_kw (ld_glob I hg gC ?_ hdb)
  refine PySem.W.callWith_K0 I.kIn kC ?_
  obtain ⟨bm, N, nm, qn, bs, hdct, sn, sub, ab, col, dd, k0, k1, k2, k3, k5, mN, hC, hN, hni, T⟩ := exc_obj I.kIn q
  refine wpAny_call_exc_subT F T hC hN hni (fun h' e hm => ?_) (by show 0 ≤ sizeLine; decide)
  exact mk_of I hm r h (I.hok.gone hm.new)
end
/-- what the written part says of an exception class without own __init__ -/
def ExcOk (K : PySem.W.Frag) (mg : Str → Option Value) (x : Str) : Prop := ∃ C, mg x = some (.ref C) ∧ PySem.W.excIn K C [.type "ValueError", .type "Exception", .type "BaseException", .type "object"] "ValueError.__new__" = true ∧ PySem.W.keepIn K (.ref C) = true ∧
  PySem.W.subIn K (.ref C) (.type "BaseException") = some true ∧ PySem.W.typeIn K (.ref C) = some (.type "type")
def mRaise0 (c : Nat) : SM := fun e S => .exc c [] e S
theorem ms_raise0 {c : Nat} {x : Str} {p pos' : Pos} (h : ExcOk X.K X.mg x) (hc : X.calm = true) (hg : GlN X x) (hx : nm.cls c = x) : MS nm X (.Raise (some (.Call (.Name x p) [] [] pos')) none pos) (mRaise0 c) := by
  subst hx
  obtain ⟨C, h1, h2, h3, h4, h5⟩ := h
  exact ⟨fun W tk => (ps_raise hc tk (pmk_own0 PySem.F.excBase_ValueError h2 h1 h3 (raises_own h4 h5) hg.g hg.d)).imp fun D σ H hh => by
    obtain ⟨e, S, μ, E, s, p⟩ := hh
    exact p σ μ H C none .refl s E ⟨h1, rfl⟩⟩
/-- a raise that the proof never comes to, or any statement -/
def mNever : SM := fun _ _ => .stuck
theorem ms_never {st : Stmt} : MS nm X st mNever := ⟨fun W tk => ps_never.imp fun D σ H hh => by
  obtain ⟨e, S, μ, E, s, p⟩ := hh
  exact p⟩
def RS.clr (r : RS) : RS := match r with
  | .nx e S => .nx e.clr S
  | .bk e S => .bk e.clr S
  | .ct e S => .ct e.clr S
  | .exc c fs e S => .exc c fs e.clr S
  | r => r
@[simp] theorem RS.clr_nx (e : Ev) (S : Store) : (RS.nx e S).clr = .nx e.clr S := rfl
@[simp] theorem RS.clr_bk (e : Ev) (S : Store) : (RS.bk e S).clr = .bk e.clr S := rfl
@[simp] theorem RS.clr_ct (e : Ev) (S : Store) : (RS.ct e S).clr = .ct e.clr S := rfl
@[simp] theorem RS.clr_rt (d : D) (S : Store) : (RS.rt d S).clr = .rt d S := rfl
@[simp] theorem RS.clr_exc (c : Nat) (fs : List (Nat × D)) (e : Ev) (S : Store) : (RS.exc c fs e S).clr = .exc c fs e.clr S := rfl
@[simp] theorem RS.clr_stuck : RS.stuck.clr = .stuck := rfl
/-- which of the known classes a clause catches -/
structure Catch (K : PySem.W.Frag) (mg : Str → Option Value) (nm : Nms) (x : Str) (yes no : List Nat) : Prop where
  ex : ∃ cv, mg x = some cv ∧ (∀ c ∈ yes, ∀ C, mg (nm.cls c) = some (.ref C) → PySem.W.exmOne K (.ref C) cv = some true) ∧ (∀ c ∈ no, ∀ C, mg (nm.cls c) = some (.ref C) → PySem.W.exmOne K (.ref C) cv = some false)
/-- a body's exception, by its class -/
def RS.caught (r : RS) (yes no : List Nat) (k : Nat → List (Nat × D) → Ev → Store → RS) : RS := match r with
  | .exc c fs e S => if yes.contains c = true then k c fs e.clr S else if no.contains c = true then .exc c fs e.clr S else .stuck
  | r => r.clr
@[simp] theorem RS.caught_nx (e : Ev) (S : Store) (y n : List Nat) (k) : (RS.nx e S).caught y n k = .nx e.clr S := rfl
@[simp] theorem RS.caught_bk (e : Ev) (S : Store) (y n : List Nat) (k) : (RS.bk e S).caught y n k = .bk e.clr S := rfl
@[simp] theorem RS.caught_ct (e : Ev) (S : Store) (y n : List Nat) (k) : (RS.ct e S).caught y n k = .ct e.clr S := rfl
@[simp] theorem RS.caught_rt (d : D) (S : Store) (y n : List Nat) (k) : (RS.rt d S).caught y n k = .rt d S := rfl
@[simp] theorem RS.caught_stuck (y n : List Nat) (k) : RS.stuck.caught y n k = .stuck := rfl
@[simp] theorem RS.caught_exc (c : Nat) (fs : List (Nat × D)) (e : Ev) (S : Store) (y n : List Nat) (k) : (RS.exc c fs e S).caught y n k = if y.contains c = true then k c fs e.clr S else if n.contains c = true then .exc c fs e.clr S else .stuck := rfl
/-- a suite that raises nothing -/
def RS.nox (r : RS) : RS := match r with
  | .exc _ _ _ _ => .stuck
  | r => r.clr
@[simp] theorem RS.nox_nx (e : Ev) (S : Store) : (RS.nx e S).nox = .nx e.clr S := rfl
@[simp] theorem RS.nox_bk (e : Ev) (S : Store) : (RS.bk e S).nox = .bk e.clr S := rfl
@[simp] theorem RS.nox_ct (e : Ev) (S : Store) : (RS.ct e S).nox = .ct e.clr S := rfl
@[simp] theorem RS.nox_rt (d : D) (S : Store) : (RS.rt d S).nox = .rt d S := rfl
@[simp] theorem RS.nox_exc (c : Nat) (fs : List (Nat × D)) (e : Ev) (S : Store) : (RS.exc c fs e S).nox = .stuck := rfl
@[simp] theorem RS.nox_stuck : RS.stuck.nox = .stuck := rfl
def mTry (yes no : List Nat) (b s : SM) : SM := fun e S => (b e.clr S).caught yes no fun _ _ e S => (s e S).nox
theorem EvR.clr {X X' : Cx} {H : Hp} {μ : List Addr} {e : Ev} {σ : St} (E : EvR nm X H μ e σ) (hK : X'.K = X.K) : EvR nm X' H μ e.clr σ :=
  ⟨E.len, fun i d h => by rw [hK]; exact E.at_ i d h, fun p hp => absurd (show p ∈ ([] : List _) from hp) (by simp)⟩
/-- what is wanted with the caught exceptions forgotten holds in every other context of the same program -/
theorem PostS.back {X X' : Cx} {W : WX} {μ : List Addr} {H : Hp} {D : Ends} {r : RS} (hK : X'.K = X.K) (hm : X'.mg = X.mg) (h : PostS nm X W μ H r.clr D) : PostS nm X' W μ H r D := by
  cases r with
  | nx e S => exact fun σ' μ' H' x s E => h σ' μ' H' x (by rw [← hK, ← hm]; exact s) (E.clr hK.symm)
  | bk e S => exact fun σ' μ' H' x s E => h σ' μ' H' x (by rw [← hK, ← hm]; exact s) (E.clr hK.symm)
  | ct e S => exact fun σ' μ' H' x s E => h σ' μ' H' x (by rw [← hK, ← hm]; exact s) (E.clr hK.symm)
  | rt d S => exact fun v μ' H' x s r => h v μ' H' x (by rw [← hK, ← hm]; exact s) (by rw [← hK]; exact r)
  | exc c fs e S => exact fun σ' μ' H' C d x s E a => h σ' μ' H' C d x (by rw [← hK, ← hm]; exact s) (E.clr hK.symm) (by rw [← hK, ← hm]; exact a)
  | stuck => exact h
theorem PostS.noW {W : WX} {μ : List Addr} {H : Hp} {D : Ends} {r : RS} (h : PostS nm X W μ H r.nox D) : PostS nm X (fun _ _ _ _ => False) μ H r.clr D := by
  cases r <;> first | exact h | exact False.elim h
/-- the reading of a body or suite in a context that is not known yet -/
def rdC (nm : Nms) (X : Cx) (W : WX) (m : SM) : TS := fun D σ H => ∃ e S μ, EvR nm X H μ e σ ∧ Sim nm X.K X.mg μ S H ∧ e.ex = [] ∧ PostS nm X W μ H (m e S).clr D
theorem rdC_to (X : Cx) {X' : Cx} {W : WX} {m : SM} {D : Ends} {σ : St} {H : Hp} (hK : X'.K = X.K) (hm : X'.mg = X.mg) (h : rdC nm X W m D σ H) : rdS nm X' W m D σ H := by
  obtain ⟨e, S, μ, E, s, ee, p⟩ := h
  have E' := E.clr (X' := X') hK
  have : e.clr = e := by
    obtain ⟨a, b⟩ := e
    cases ee; rfl
  rw [this] at E'
  exact ⟨e, S, μ, E', by rw [hK, hm]; exact s, PostS.back hK hm p⟩
theorem try_rd {W : WX} {D : Ends} {σ : St} {H : Hp} {mb : SM} {yes no : List Nat} {k : Nat → List (Nat × BS.D) → Ev → Store → RS} {W' : WX} (h : rdS nm X W (fun e S => (mb e.clr S).caught yes no k) D σ H)
    (hy : ∀ c ∈ yes, ∀ fs (e : Ev) S σ' μ' H' C d, X.mg (nm.cls c) = some (.ref C) → Sim nm X.K X.mg μ' S H' → EvR nm X H' μ' e.clr σ' → ExcAt nm X.K X.mg H' μ' c fs C d → PostS nm X W μ' H' (k c fs e.clr S) D → W' (.ref C) d σ' H')
    (hn : ∀ c ∈ no, ∀ C d σ' H', X.mg (nm.cls c) = some (.ref C) → W (.ref C) d σ' H' → W' (.ref C) d σ' H') : rdC nm X W' mb D σ H := by
  obtain ⟨e, S, μ, E, s, p⟩ := h
  refine ⟨e.clr, S, μ, E.clr rfl, s, rfl, ?_⟩
  have p : PostS nm X W μ H ((mb e.clr S).caught yes no k) D := p
  cases hr : mb e.clr S with
  | nx e' S' => rw [hr] at p; exact p
  | bk e' S' => rw [hr] at p; exact p
  | ct e' S' => rw [hr] at p; exact p
  | rt d S' => rw [hr] at p; exact p
  | stuck => rw [hr] at p; exact p
  | exc c fs e' S' =>
    rw [hr, RS.caught_exc] at p
    intro σ' μ' H' C d x s' E' a
    split at p
    · rename_i hc
      exact hy c (by simpa using hc) fs e' S' σ' μ' H' C d a.1 s' E' a (PostS.ext x p)
    · split at p
      · rename_i hc
        exact hn c (by simpa using hc) C d σ' H' a.1 (p σ' μ' H' C d x s' E' a)
      · exact False.elim p
theorem ms_try {x : Str} {body suite : List Stmt} {b₀ : Stmt} {np pos' : Pos} {mb ms : SM} {yes no : List Nat} (hs : X.stack = X.env :: X.outer) (hf : X.env.frame = some X.env.locals) (hg : GlN X x) (hc : Catch X.K X.mg nm x yes no)
    (hb : ∀ (pn : List (Addr × Obj)) (xe : Value → Shared → Prop), PassesOwn (model X.prog X.w) X.A X.env xe → MB nm (X.tr pn xe) body mb)
    (hsu : ∀ (a : Addr) (oe : Obj) (pn : List (Addr × Obj)), MB nm (X.suite a ((a, oe) :: pn)) (b₀ :: suite) ms) :
    MS nm X (.Try body [.ExceptHandler (some (.Name x np)) none (b₀ :: suite) pos'] [] [] pos) (mTry yes no mb ms) := by
  obtain ⟨cv, h1, h2, h3⟩ := hc
  refine ⟨fun W tk => (ps_try_only (c := cv) (tb := fun W => rdC nm X W mb) (ts := fun a _ _ => rdC nm X (fun _ _ _ _ => False) ms) hs hf ⟨hg.g, hg.d, .inl h1⟩ tk
    (fun W' pn xe tk' hp => ((hb pn xe hp).run W' tk').imp fun D σ H hh => rdC_to X rfl rfl hh) (fun a oe cls d pn hz hv => ((hsu a oe pn).run _ takes0).imp fun D σ H hh => rdC_to X rfl rfl hh)).imp fun D σ H hh => ?_⟩
  refine try_rd hh (fun c hc fs e S σ' μ' H' C d g s E a p => ⟨true, h2 c hc C g, fun _ a na => ⟨e.clr, S, μ', E, s, rfl, PostS.noW p⟩, fun q => (nomatch q)⟩) fun c hc C d σ' H' g w => ⟨false, h3 c hc C g, fun q => (nomatch q), fun _ => w⟩
/-- n stands for the exception -/
def Ev.exn (e : Ev) (i c : Nat) (fs : List (Nat × D)) : Ev := { sl := e.sl.set i none, ex := [(i, c, fs)] }
/-- n goes -/
def RS.gone (r : RS) (i : Nat) : RS := match r with
  | .nx e S => .nx ⟨e.sl.set i none, []⟩ S
  | .bk e S => .bk ⟨e.sl.set i none, []⟩ S
  | .ct e S => .ct ⟨e.sl.set i none, []⟩ S
  | .exc _ _ _ _ => .stuck
  | r => r
@[simp] theorem RS.gone_nx (i : Nat) (e : Ev) (S : Store) : (RS.nx e S).gone i = .nx ⟨e.sl.set i none, []⟩ S := rfl
@[simp] theorem RS.gone_bk (i : Nat) (e : Ev) (S : Store) : (RS.bk e S).gone i = .bk ⟨e.sl.set i none, []⟩ S := rfl
@[simp] theorem RS.gone_ct (i : Nat) (e : Ev) (S : Store) : (RS.ct e S).gone i = .ct ⟨e.sl.set i none, []⟩ S := rfl
@[simp] theorem RS.gone_rt (i : Nat) (d : D) (S : Store) : (RS.rt d S).gone i = .rt d S := rfl
@[simp] theorem RS.gone_exc (i : Nat) (c : Nat) (fs : List (Nat × D)) (e : Ev) (S : Store) : (RS.exc c fs e S).gone i = .stuck := rfl
@[simp] theorem RS.gone_stuck (i : Nat) : RS.stuck.gone i = .stuck := rfl
def mTryAs (i : Nat) (yes no : List Nat) (b s : SM) : SM := fun e S => (b e.clr S).caught yes no fun c fs e S => if i < e.sl.length then (s (e.exn i c fs) S).gone i else .stuck
theorem EvR.unset {H : Hp} {μ : List Addr} {e : Ev} {σ : St} (i : Nat) {X' : Cx} (hK : X'.K = X.K) (E : EvR nm X H μ e σ) : EvR nm X' H μ ⟨e.sl.set i none, []⟩ (σ.set i none) := by
  refine ⟨by simp [E.len], fun j d h => ?_, fun p hp => absurd (show p ∈ ([] : List _) from hp) (by simp)⟩
  by_cases e1 : i = j
  · subst e1
    have hl : i < e.sl.length := by simpa using (List.getElem?_eq_some_iff.mp h).1
    have h : (e.sl.set i none)[i]? = some (some d) := h
    rw [List.getElem?_set_self hl] at h; cases h
  · have h : (e.sl.set i none)[j]? = some (some d) := h
    rw [List.getElem?_set_ne e1] at h
    obtain ⟨v, a, b⟩ := E.at_ j d h
    exact ⟨v, by rw [List.getElem?_set_ne e1]; exact a, by rw [hK]; exact b⟩
theorem EvR.weak {H : Hp} {μ : List Addr} {e : Ev} {σ : St} (i : Nat) (v : V) {X' : Cx} (hK : X'.K = X.K) (E : EvR nm X H μ e.clr σ) : EvR nm X' H μ ⟨e.sl.set i none, []⟩ (σ.set i (some v)) := by
  refine ⟨by have := E.len; simpa [Ev.clr] using this, fun j d h => ?_, fun p hp => absurd (show p ∈ ([] : List _) from hp) (by simp)⟩
  by_cases e1 : i = j
  · subst e1
    have hl : i < e.sl.length := by simpa using (List.getElem?_eq_some_iff.mp h).1
    have h : (e.sl.set i none)[i]? = some (some d) := h
    rw [List.getElem?_set_self hl] at h; cases h
  · have h : (e.sl.set i none)[j]? = some (some d) := h
    rw [List.getElem?_set_ne e1] at h
    obtain ⟨v, a, b⟩ := E.at_ j d h
    exact ⟨v, by rw [List.getElem?_set_ne e1]; exact a, by rw [hK]; exact b⟩
theorem ms_tryAs (i : Nat) {x n : Str} {body suite : List Stmt} {b₀ : Stmt} {np pos' : Pos} {mb ms : SM} {yes no : List Nat} (hs : X.stack = X.env :: X.outer) (hf : X.env.frame = some X.env.locals) (hN : X.N.Nodup) (hg : GlN X x) (hc : Catch X.K X.mg nm x yes no)
    (hb : ∀ (pn : List (Addr × Obj)) (xe : Value → Shared → Prop), PassesOwn (model X.prog X.w) X.A X.env xe → MB nm (X.tr pn xe) body mb)
    (hsu : ∀ (a : Addr) (oe : Obj) (pn : List (Addr × Obj)), MB nm (X.suite a ((a, oe) :: pn)) (b₀ :: suite) ms) (hln : X.env.kindOf n = some .local) (hi : X.N[i]? = some n := by rfl) :
    MS nm X (.Try body [.ExceptHandler (some (.Name x np)) (some n) (b₀ :: suite) pos'] [] [] pos) (mTryAs i yes no mb ms) := by
  obtain ⟨cv, h1, h2, h3⟩ := hc
  -- the suite's reading, at the exception's address
  let ts : Addr → Value → Option Addr → TS := fun a cls d D σ H => ∃ c fs, ∃ e : Ev, ∃ S μ C, cls = .ref C ∧ EvR nm X H μ ⟨e.sl.set i none, []⟩ σ ∧ σ[i]? = some (some (.ref a)) ∧ Sim nm X.K X.mg μ S H ∧ ExcAt nm X.K X.mg H μ c fs C d ∧
    ∀ X', X'.K = X.K → X'.mg = X.mg → PostS nm X' (fun _ _ _ _ => False) μ H (ms (e.exn i c fs) S) D
  refine ⟨fun W tk => (ps_try_as (c := cv) (tb := fun W => rdC nm X W mb) (ts := ts) hs hf hN hi hln ⟨hg.g, hg.d, .inl h1⟩ tk
    (fun W' pn xe tk' hp => ((hb pn xe hp).run W' tk').imp fun D σ H hh => rdC_to X rfl rfl hh) (fun a oe cls d pn hz hv => ((hsu a oe pn).run _ takes0).imp fun D σ H hh => ?_)).imp fun D σ H hh => ?_⟩
  · obtain ⟨c, fs, e, S, μ, C, rfl, E, ha, s, ea, p⟩ := hh
    refine ⟨e.exn i c fs, S, μ, ⟨E.len, E.at_, fun q hq => ?_⟩, s, p _ rfl rfl⟩
    rcases List.mem_singleton.mp (show q ∈ [(i, c, fs)] from hq) with rfl
    exact ⟨a, oe, C, d, ha, List.mem_cons_self, ⟨hz, hv⟩, ea⟩
  · refine try_rd hh (fun c hc fs e S σ' μ' H' C d g s E ea p => ?_) fun c hc C d σ' H' g w => ⟨false, h3 c hc C g, fun q => (nomatch q), fun _ => w⟩
    have p : PostS nm X W μ' H' (if i < e.clr.sl.length then (ms (e.clr.exn i c fs) S).gone i else .stuck) D := p
    split at p
    · rename_i hl
      have hl2 : i < σ'.length := by rw [← E.len]; exact hl
      refine ⟨true, h2 c hc C g, fun _ a na => ⟨c, fs, e.clr, S, μ', C, rfl, E.weak i _ rfl, List.getElem?_set_self hl2, s, ea, fun X' hK hm => ?_⟩, fun q => (nomatch q)⟩
      cases hr : ms (e.clr.exn i c fs) S with
      | nx e' S' => rw [hr] at p; exact fun σ2 μ2 H2 x s E => p _ μ2 H2 x (by rw [← hK, ← hm]; exact s) (E.unset i hK.symm)
      | bk e' S' => rw [hr] at p; exact fun σ2 μ2 H2 x s E => p _ μ2 H2 x (by rw [← hK, ← hm]; exact s) (E.unset i hK.symm)
      | ct e' S' => rw [hr] at p; exact fun σ2 μ2 H2 x s E => p _ μ2 H2 x (by rw [← hK, ← hm]; exact s) (E.unset i hK.symm)
      | rt d' S' => rw [hr] at p; exact fun v μ2 H2 x s r => p v μ2 H2 x (by rw [← hK, ← hm]; exact s) (by rw [← hK]; exact r)
      | exc c' fs' e' S' => rw [hr] at p; exact False.elim p
      | stuck => rw [hr] at p; exact False.elim p
    · exact False.elim p
def den (n : Nat) (m : SM) : FM := fun ds S => match m ⟨ds.map some ++ List.replicate (n - ds.length) none, []⟩ S with
  | .nx _ S => .ok .non S
  | .rt d S => .ok d S
  | .exc c fs _ S => .exc c fs S
  | _ => .stuck
theorem evr_start {H : Hp} {μ : List Addr} {N : List Str} {vs : List V} {ds : List D} (r : RVs X.K H μ vs ds) (hl : ds.length ≤ N.length) : EvR nm X H μ ⟨ds.map some ++ List.replicate (N.length - ds.length) none, []⟩ (start N vs) := by
  refine ⟨by simp [L2.start, r.length], fun i d h => ?_, fun p hp => absurd (show p ∈ ([] : List _) from hp) (by simp)⟩
  have h : (ds.map some ++ List.replicate (N.length - ds.length) none)[i]? = some (some d) := h
  by_cases hi : i < ds.length
  · rw [List.getElem?_append_left (by simpa using hi), List.getElem?_map] at h
    cases h1 : ds[i]? with
    | none => rw [h1] at h; cases h
    | some d' =>
      rw [h1] at h; cases h
      obtain ⟨v, h2, h3⟩ := r.get h1
      refine ⟨v, ?_, h3⟩
      unfold L2.start
      rw [List.getElem?_append_left (by rw [List.length_map, r.length]; exact hi), List.getElem?_map, h2]
      rfl
  · rw [List.getElem?_append_right (by simpa using Nat.le_of_not_lt hi)] at h
    obtain ⟨hlt, e⟩ := List.getElem?_eq_some_iff.mp h
    rw [List.getElem_replicate] at e
    cases e
theorem den_ok {P : Program} {w : World} {K : PySem.W.Frag} {mg : Str → Option Value} {base : Heap} {x qual : Str} {st : Stmt} {f : Addr} {fd : FuncData} {N ps : List Str} {k : Nat} {m : SM} (F : Fun K x qual st f fd) (S : FnScope N ps (defScope st))
    (hb : ∀ (cdv : Value) (A : Around) (outer : List Env) (s : Shared) (H : Hp) (E : XK), Room k (A.deeper (envOfC qual (defScope st) s.heap.objs.size f cdv)) → MB nm (cxOf (L2.CX P w) P w K mg base N qual (defScope st) f cdv A outer s H E) (defBody st) m) {V : FM} {n : Nat} (hV : den N.length m = V) (hn : ps.length = n) :
    FnOk P w K mg base (L2.CX P w) (k + 1) f fd ps (spD nm K mg n V) := by
  subst hV hn
  refine F.okX S (fun vs H Q E h => ?_) fun cdv A outer s H vs Q E hr h => ?_
  · obtain ⟨ds, S, μ, r, hl, _⟩ := h
    rw [r.length, hl]
  · obtain ⟨ds, S', μ, r, hl, sm, p⟩ := h
    refine ⟨_, (hb cdv A outer s H E hr).run (fun cls d _ H => E cls d H) (takes_of rfl rfl rfl rfl), ⟨ds.map some ++ List.replicate (N.length - ds.length) none, []⟩, S', μ, evr_start r ?_, sm, ?_⟩
    · have := congrArg List.length S.pre
      rw [List.length_take] at this
      omega
    · unfold den at p
      cases hr : m ⟨ds.map some ++ List.replicate (N.length - ds.length) none, []⟩ S' with
      | nx e S2 => rw [hr] at p; exact fun σ' μ' H' x s _ => p μ' H' x s _ .non
      | bk e S2 => rw [hr] at p; exact False.elim p
      | ct e S2 => rw [hr] at p; exact False.elim p
      | rt d S2 => rw [hr] at p; exact fun v μ' H' x s r => p μ' H' x s v r
      | exc c fs e S2 => rw [hr] at p; exact fun σ' μ' H' C d x s _ a => p μ' H' C d x s a
      | stuck => rw [hr] at p; exact False.elim p
end
end BS
namespace BS
open PySem PySem.Spec PyProof.Rows L2
section
variable {nm : Nms} {X : Cx} {pos : Pos} {e : Expr} {es : List Expr} {me : EM} {ma : AM}
def rCallD (nm : Nms) (X : Cx) (F : FM) : List V → Hp → VK → Prop := fun xs H Q => ∃ ds S μ E, RVs X.K H μ xs ds ∧ Sim nm X.K X.mg μ S H ∧ Post nm X.K X.mg μ H (F ds S) (fun d _ μ' H' => ∀ v, RV X.K H' μ' v d → Q v H') E
abbrev CallD (nm : Nms) (X : Cx) (f : Value) (F : FM) : Prop := CallR X f (rCallD nm X F)
theorem me_callB {id : String} {x : Str} {p : Pos} {F : FM} (hc : CallD nm X (.builtin id) F) (hg : GlN X x) (hm : X.mg x = none) (hv : bootBuiltins x = some (.builtin id)) (ha : MA nm X (e :: es) ma)
    (he : starEach (e :: es) X.env = (false, eval e X.env) :: starEach es X.env := by rfl) (hpl : (backTo pos (starEach es X.env)).any (·.1) = false := by rfl) : ME nm X (.Call (.Name x p) (e :: es) [] pos) (mCall F ma) :=
  ⟨fun W tk => (pe_callB hc hg.g hm hv (ha.run W tk) hg.n hg.d he hpl).imp fun σ H Q h => by
    obtain ⟨e, S, μ, E, s, q⟩ := h
    exact ⟨e, S, μ, E, s, (Post.bind q).mono fun ds S1 μ1 H1 x1 s1 p1 vs rvs => ⟨ds, S1, μ1, _, rvs, s1, p1⟩⟩⟩
theorem me_callT {T : String} {x : Str} {p : Pos} {F : FM} (hc : CallD nm X (.type T) F) (hg : GlN X x) (hm : X.mg x = none) (hv : bootBuiltins x = some (.type T)) (ha : MA nm X (e :: es) ma)
    (he : starEach (e :: es) X.env = (false, eval e X.env) :: starEach es X.env := by rfl) (hpl : (backTo pos (starEach es X.env)).any (·.1) = false := by rfl) : ME nm X (.Call (.Name x p) (e :: es) [] pos) (mCall F ma) :=
  ⟨fun W tk => (pe_callTy hc hg.g hm hv (ha.run W tk) hg.n hg.d he hpl).imp fun σ H Q h => by
    obtain ⟨e, S, μ, E, s, q⟩ := h
    exact ⟨e, S, μ, E, s, (Post.bind q).mono fun ds S1 μ1 H1 x1 s1 p1 vs rvs => ⟨ds, S1, μ1, _, rvs, s1, p1⟩⟩⟩
theorem one_rv {K : PySem.W.Frag} {H : Hp} {μ : List Addr} {xs : List V} {d : D} (r : RVs K H μ xs [d]) : ∃ v, xs = [v] ∧ RV K H μ v d := by
  cases r with | cons r t => cases t; exact ⟨_, rfl, r⟩
theorem two_rv {K : PySem.W.Frag} {H : Hp} {μ : List Addr} {xs : List V} {d d' : D} (r : RVs K H μ xs [d, d']) : ∃ v w, xs = [v, w] ∧ RV K H μ v d ∧ RV K H μ w d' := by
  cases r with | cons r t => obtain ⟨w, rfl, r'⟩ := one_rv t; exact ⟨_, _, rfl, r, r'⟩
def fnInt : FM := fun ds S => match ds with
  | [.int i] => .ok (.int i) S
  | [.bl b] => .ok (.int (if b = true then 1 else 0)) S
  | [.str a] => match PySem.intText? a with
    | some n => if a.length ≤ 640 then .ok (.int n) S else .stuck
    | none => .stuck
  | _ => .stuck
theorem c_int : CallD nm X (.type "int") fnInt := by
  intro pins s σ H xs us Q I r h
  obtain ⟨ds, S, μ, E, rv, sm, p⟩ := h
  unfold fnInt at p
  split at p
  · obtain ⟨v, rfl, r1⟩ := one_rv rv; cases r1
    exact call_int1 pins s σ H _ us Q I r (.inl ⟨_, rfl, p μ H .refl sm _ (.int _)⟩)
  · obtain ⟨v, rfl, r1⟩ := one_rv rv; cases r1
    exact call_int1 pins s σ H _ us Q I r (.inr ⟨_, rfl, p μ H .refl sm _ (.int _)⟩)
  · obtain ⟨v, rfl, r1⟩ := one_rv rv; cases r1
    split at p
    · rename_i n hn
      split at p
      · rename_i hl
        exact call_int_str pins s σ H _ us Q I r ⟨_, n, rfl, hn, hl, p μ H .refl sm _ (.int _)⟩
      · exact False.elim p
    · exact False.elim p
  · exact False.elim p
def lenS (S : Store) (d : D) : Option Nat := match d with
  | .str z => if z.length ≤ sizeLine then some z.length else none
  | _ => match seqOf S d with
    | some ds => some ds.length
    | none => (dctOf S d).map (·.length)
def fnLen : FM := fun ds S => match ds with
  | [d] => match lenS S d with
    | some n => .ok (.int n) S
    | none => .stuck
  | _ => .stuck
theorem c_len : CallD nm X (.builtin "len") fnLen := by
  intro pins s σ H xs us Q I r h
  obtain ⟨ds, S, μ, E, rv, sm, p⟩ := h
  unfold fnLen at p
  split at p
  · rename_i d
    obtain ⟨v, rfl, r1⟩ := one_rv rv
    split at p
    · rename_i n hn
      have q := p μ H .refl sm _ (.int _)
      unfold lenS at hn
      split at hn
      · split at hn
        · rename_i hl; cases hn; cases r1
          exact call_len pins s σ H _ us Q I r ⟨_, _, rfl, ⟨hl, rfl⟩, q⟩
        · cases hn
      · split at hn
        · rename_i ds hds
          cases hn
          obtain ⟨a, xs, rfl, hs, r2⟩ := seqOf_sq sm r1 hds
          refine call_len pins s σ H _ us Q I r ⟨_, _, rfl, ?_, q⟩
          rcases hs with hs | hs
          · exact .inl ⟨xs, hs, r2.length.symm⟩
          · exact .inr ⟨xs, hs, r2.length.symm⟩
        · obtain ⟨kvs, hk, rfl⟩ := Option.map_eq_some_iff.mp hn
          obtain ⟨n, a, ys, rfl, rfl, _, _, e1, r2⟩ := dctOf_at sm r1 hk
          cases r with | cons r t =>
          cases r; cases t
          exact d_len I (.inl e1) fun t s' I' => ⟨.int _, H, I', ⟨t, rfl⟩, by rw [rk_len r2]; exact q⟩
    · exact False.elim p
  · exact False.elim p
def fnList (new : Bool) : FM := fun ds S => match ds with
  | [d] => match seqOf S d with
    | some ds => fin new ds S
    | none => .stuck
  | _ => .stuck
theorem c_list (new : Bool) : CallD nm X (.type "list") (fnList new) := by
  intro pins s σ H xs us Q I r h
  obtain ⟨ds, S, μ, E, rv, sm, p⟩ := h
  unfold fnList at p
  split at p
  · obtain ⟨v, rfl, r1⟩ := one_rv rv
    split at p
    · rename_i ds hds
      obtain ⟨a, xs, rfl, hs, r2⟩ := seqOf_sq sm r1 hds
      exact call_list_of pins s σ H _ us Q I r ⟨a, xs, rfl, hs, fun l hl => fin_post sm r2 hl p⟩
    · exact False.elim p
  · exact False.elim p
def fnTuple : FM := fun ds S => match ds with
  | [.tup ds] => .ok (.tup ds) S
  | [d] => match lstOf S d with
    | some ds => .ok (.tup ds) S
    | none => .stuck
  | _ => .stuck
theorem c_tuple : CallD nm X (.type "tuple") fnTuple := by
  intro pins s σ H xs us Q I r h
  obtain ⟨ds, S, μ, E, rv, sm, p⟩ := h
  unfold fnTuple at p
  split at p
  · obtain ⟨v, rfl, r1⟩ := one_rv rv
    cases r1 with | tup t r2 =>
    exact call_tuple_of pins s σ H _ us Q I r ⟨_, _, rfl, .inr ⟨t.sq, p μ H .refl sm _ (.tup t r2)⟩⟩
  · obtain ⟨v, rfl, r1⟩ := one_rv rv
    split at p
    · rename_i ds hds
      obtain ⟨a, xs, rfl, hs, r2⟩ := lstOf_sq sm r1 hds
      exact call_tuple_of pins s σ H _ us Q I r ⟨a, xs, rfl, .inl ⟨hs, fun l hl => tup_post sm r2 hl p⟩⟩
    · exact False.elim p
  · exact False.elim p
def fnAbs : FM := fun ds S => match ds with
  | [.int i] => .ok (.int (if i < 0 then -i else i)) S
  | _ => .stuck
theorem c_abs : CallD nm X (.builtin "abs") fnAbs := by
  intro pins s σ H xs us Q I r h
  obtain ⟨ds, S, μ, E, rv, sm, p⟩ := h
  unfold fnAbs at p
  split at p
  · obtain ⟨v, rfl, r1⟩ := one_rv rv; cases r1
    exact call_abs pins s σ H _ us Q I r ⟨_, rfl, p μ H .refl sm _ (.int _)⟩
  · exact False.elim p
def fnStr : FM := fun ds S => match ds with
  | [.int i] => if i.natAbs.log2 < 1920 then .ok (.str (Str.ofString (toString i))) S else .stuck
  | _ => .stuck
theorem c_str : CallD nm X (.type "str") fnStr := by
  intro pins s σ H xs us Q I r h
  obtain ⟨ds, S, μ, E, rv, sm, p⟩ := h
  unfold fnStr at p
  split at p
  · obtain ⟨v, rfl, r1⟩ := one_rv rv; cases r1
    split at p
    · rename_i c
      exact call_str_int pins s σ H _ us Q I r ⟨_, rfl, c, p μ H .refl sm _ (.str _)⟩
    · exact False.elim p
  · exact False.elim p
def fnOrd : FM := fun ds S => match ds with
  | [.str z] => if z.length = 1 then .ok (.int (z.cps.getD 0 0 : Nat)) S else .stuck
  | _ => .stuck
theorem c_ord : CallD nm X (.builtin "ord") fnOrd := by
  intro pins s σ H xs us Q I r h
  obtain ⟨ds, S, μ, E, rv, sm, p⟩ := h
  unfold fnOrd at p
  split at p
  · obtain ⟨v, rfl, r1⟩ := one_rv rv; cases r1
    split at p
    · rename_i c
      exact call_ord pins s σ H _ us Q I r ⟨_, rfl, c, p μ H .refl sm _ (.int _)⟩
    · exact False.elim p
  · exact False.elim p
inductive Ty where
  | none | bool | int | str | tuple | list | dict
def Ty.n : Ty → String
  | .none => "NoneType" | .bool => "bool" | .int => "int" | .str => "str" | .tuple => "tuple" | .list => "list" | .dict => "dict"
def isTy (a b : Ty) : Bool := match b with
  | .none => match a with | .none => true | _ => false
  | .bool => match a with | .bool => true | _ => false
  | .int => match a with | .int => true | .bool => true | _ => false
  | .str => match a with | .str => true | _ => false
  | .tuple => match a with | .tuple => true | _ => false
  | .list => match a with | .list => true | _ => false
  | .dict => match a with | .dict => true | _ => false
theorem kitB_ty (a b : Ty) : kitB a.n b.n = some (isTy a b) := by
  cases a <;> cases b <;> decide +kernel
def tyS (S : Store) (d : D) : Option Ty := match d with
  | .non => some .none
  | .bl _ => some .bool
  | .int _ => some .int
  | .str _ => some .str
  | .tup _ => some .tuple
  | .lst _ => some .list
  | .scr _ => some .list
  | .obj n => match S[n]? with
    | some (.lst _) => some .list
    | some (.dct _) => some .dict
    | _ => none
theorem tyS_of {K : PySem.W.Frag} {mg : Str → Option Value} {H : Hp} {μ : List Addr} {S : Store} {v : V} {d : D} {t : Ty} (s : Sim nm K mg μ S H) (r : RV K H μ v d) (h : tyS S d = some t) : TyX K H v (.type t.n) := by
  unfold tyS at h
  split at h
  · cases h; cases r; exact .base .non
  · cases h; cases r; exact .base (.bl _)
  · cases h; cases r; exact .base (.int _)
  · cases h; cases r; exact .base (.str _)
  · cases h; cases r with | tup t r =>
    rcases t with ⟨_, t | ⟨o, t⟩⟩ | ⟨o, its, n, k1, k2, _⟩
    · exact .base (.tup t)
    · exact .fTuple t
    · exact .kTuple k1 k2
  · cases h; cases r with | lst t r => exact .base (.lst t.2)
  · cases h; cases r with | scr t r =>
    rcases t with ⟨_, t | ⟨o, t⟩⟩ | ⟨o, its, n, k1, k2, _⟩
    · exact .base (.lst t)
    · exact .base (.frz t)
    · exact .kList k1 k2
  · cases r with | obj e =>
    split at h
    · rename_i hds; cases h
      obtain ⟨xs, e1, _⟩ := s.ob _ _ _ e hds
      exact .base (.lst e1)
    · rename_i hds; cases h
      obtain ⟨xs, e1, _⟩ := s.ob _ _ _ e hds
      exact .base (.dK e1)
    · cases h
def mIsi (T : Ty) (a : EM) : EM := mUn (fun S d => (tyS S d).map fun t => .bl (isTy t T)) a
theorem me_isi (T : Ty) {a : Expr} {m : EM} {p p2 : Pos} {x : Str} (ha : ME nm X a m) (hg : GlN X "isinstance") (hm : X.mg "isinstance" = none) (hgT : GlN X x) (hmT : X.mg x = none) (hb : bootBuiltins "isinstance" = some (.builtin "isinstance")) (hT : bootBuiltins x = some (.type T.n))
    (he : starEach (a :: [.Name x p2]) X.env = (false, eval a X.env) :: starEach [.Name x p2] X.env := by rfl) (he2 : starEach (.Name x p2 :: []) X.env = (false, eval (.Name x p2) X.env) :: starEach [] X.env := by rfl) (hpl : (backTo pos (starEach [.Name x p2] X.env)).any (·.1) = false := by rfl) :
    ME nm X (.Call (.Name "isinstance" p) [a, .Name x p2] [] pos) (mIsi T m) := by
  refine ⟨fun W tk => (pe_callB call_isi hg.g hm hb (pa_cons (ha.run W tk) (pa_cons (pe_bltn (v := .ty T.n) hgT.g hmT hT rfl hgT.n hgT.d) pa_nil he2) he) hg.n hg.d he hpl).imp fun σ H Q hh => ?_⟩
  obtain ⟨e, S, μ, E, s, p⟩ := hh
  refine ⟨e, S, μ, E, s, (Post.bind p).mono fun d S1 μ1 H1 x1 s1 p1 v rv => ?_⟩
  split at p1
  · rename_i d' hd
    obtain ⟨t, ht, rfl⟩ := Option.map_eq_some_iff.mp hd
    exact ⟨v, .ty T.n, .type t.n, .type T.n, isTy t T, rfl, .ty _, tyS_of s1 rv ht, kit_ty (kitB_ty t T), p1 μ1 H1 .refl s1 _ (.bl _)⟩
  · exact False.elim p1
def rMtD (nm : Nms) (X : Cx) (F : FM) : V → List V → Hp → VK → Prop := fun x xs H Q => rCallD nm X F (x :: xs) H Q
abbrev MtD (nm : Nms) (X : Cx) (id : String) (F : FM) : Prop := MtR X id (rMtD nm X F)
def mBm (T : Ty) (F : FM) (o : EM) (as : AM) : EM := fun e S => (o e S).bind fun x S => match tyS S x with
  | some t => if isTy t T = true then (as e S).bind fun ds S => F (x :: ds) S else .stuck
  | none => .stuck
theorem tyV_of {K : PySem.W.Frag} {mg : Str → Option Value} {H : Hp} {μ : List Addr} {S : Store} {v : V} {d : D} {t T : Ty} (hT : T = .str ∨ T = .list ∨ T = .dict) (s : Sim nm K mg μ S H) (r : RV K H μ v d) (h : tyS S d = some t) (ht : isTy t T = true) : tyV K T.n v H := by
  have e : t = T := by
    rcases hT with rfl | rfl | rfl <;> cases t <;> first | rfl | cases ht
  subst e
  clear ht
  unfold tyS at h
  split at h
  · cases h; rcases hT with z | z | z <;> cases z
  · cases h; rcases hT with z | z | z <;> cases z
  · cases h; rcases hT with z | z | z <;> cases z
  · cases h; cases r; rfl
  · cases h; rcases hT with z | z | z <;> cases z
  · cases h; cases r with | lst t r => exact .inl ⟨rfl, _, .of t.2⟩
  · cases h; cases r with | scr t r => exact .inl ⟨rfl, _, t.sq⟩
  · cases r with | obj e =>
    split at h
    · rename_i hds; cases h
      obtain ⟨xs, e1, _⟩ := s.ob _ _ _ e hds
      exact .inl ⟨rfl, _, .of e1⟩
    · rename_i hds; cases h
      obtain ⟨xs, e1, _⟩ := s.ob _ _ _ e hds
      exact .inr (.inr (.inl ⟨rfl, .inl ⟨_, e1⟩⟩))
    · cases h
theorem me_bm {T : Ty} {id : String} {name : Str} {F : FM} {o : Expr} {mo : EM} {apos : Pos} (pa : PlainAttrs T.n) (slot : Slot T.n name id) (hty : typeOf (.builtin id) = pure (.type "method_descriptor")) (hm : MtD nm X id F) (ho : ME nm X o mo) (ha : MA nm X (e :: es) ma) (hT : T = .str ∨ T = .list ∨ T = .dict := by simp)
    (hbase : attributeBase o name X.env (eval o X.env) = eval o X.env := by rfl)
    (hfew : ((backTo pos (starEach (e :: es) X.env)).all (fun x => !x.1) && (backToKw pos (keywordEach [] X.env)).all (fun x => x.1.isSome)
      && decide ((e :: es).length + ([] : List Keyword).length + (if ([] : List Keyword).isEmpty then 0 else 1) < 30)) = true := by rfl)
    (hline : (apos.endLine == pos.line) = true := by rfl) (hs : starEach (e :: es) X.env = (false, eval e X.env) :: starEach es X.env := by rfl) (hplain : (backTo pos (starEach es X.env)).any (·.1) = false := by rfl) :
    ME nm X (.Call (.Attribute o name apos) (e :: es) [] pos) (mBm T F mo ma) := by
  refine ⟨fun W tk => ⟨fun pins s σ H Q I h => ?_⟩⟩
  obtain ⟨ev, S, μ, E, sm, q⟩ := h
  refine wpAny_Call_method_late hbase hfew hline rfl (thn ((ho.run W tk).run pins s σ H (fun x H1 => ∃ S1 μ1 d, EvR nm X H1 μ1 ev σ ∧ Sim nm X.K X.mg μ1 S1 H1 ∧ RV X.K H1 μ1 x d ∧ tyV X.K T.n x H1 ∧ PostX nm X W μ1 H1 σ ((ma ev S1).bind fun ds S => F (d :: ds) S) fun d _ μ' H' => ∀ v, RV X.K H' μ' v d → Q v H') I
    ⟨ev, S, μ, E, sm, (Post.bind q).mono fun d S1 μ1 H1 x1 s1 q1 v rv => ?_⟩) fun v s1 ⟨x, H1, I1, r1, S1, μ1, d, E1, sm1, rd, ty, q1⟩ => ?_)
  · split at q1
    · rename_i t ht
      split at q1
      · rename_i hi; exact ⟨S1, μ1, d, E.ext x1, s1, rv, tyV_of hT s1 rv ht hi, q1⟩
      · exact False.elim q1
    · exact False.elim q1
  · obtain ⟨h1, h2⟩ := tyV_is I1 r1 ty
    refine ⟨T.n, id, pa, slot, hty, h1, h2, ?_⟩
    have hA := (ha.run W tk).run pos pins s1 σ H1 (fun vs H2 => ∃ ds S2 μ2, RVs X.K H2 μ2 (x :: vs) (d :: ds) ∧ Sim nm X.K X.mg μ2 S2 H2 ∧ PostX nm X W μ2 H2 σ (F (d :: ds) S2) fun d _ μ' H' => ∀ v, RV X.K H' μ' v d → Q v H') I1
      ⟨ev, S1, μ1, E1, sm1, (Post.bind q1).mono fun ds S2 μ2 H2 x2 s2 q2 vs rvs => ⟨ds, S2, μ2, .cons (rd.ext x2) rvs, s2, q2⟩⟩
    rw [hs] at hA ⊢
    refine Calls.callWith_builtin (by show (false || (backTo pos (starEach es X.env)).any (·.1)) = false; rw [hplain] <;> rfl) (Calls.evalArgs_plain ?_)
    exact thn hA fun us s2 ⟨vs, H2, I2, r2, ds, S2, μ2, rvs, sm2, q2⟩ => hm pins s2 σ H2 x vs v us Q I2 r1 r2 ⟨d :: ds, S2, μ2, _, rvs, sm2, q2⟩
theorem me_bm0 {T : Ty} {id : String} {name : Str} {F : FM} {o : Expr} {mo : EM} {apos : Pos} (pa : PlainAttrs T.n) (slot : Slot T.n name id) (hty : typeOf (.builtin id) = pure (.type "method_descriptor")) (hm : MtD nm X id F) (ho : ME nm X o mo) (hT : T = .str ∨ T = .list ∨ T = .dict := by simp)
    (hbase : attributeBase o name X.env (eval o X.env) = eval o X.env := by rfl) (hline : (apos.endLine == pos.line) = true := by rfl) :
    ME nm X (.Call (.Attribute o name apos) [] [] pos) (mBm T F mo mNil) := by
  refine ⟨fun W tk => (pe_bm0 pa slot hty hm (ho.run W tk) hbase hline).imp fun σ H Q h => ?_⟩
  obtain ⟨e, S, μ, E, s, p⟩ := h
  refine ⟨e, S, μ, E, s, (Post.bind p).mono fun d S1 μ1 H1 x1 s1 p1 v rv => ?_⟩
  split at p1
  · rename_i t ht
    split at p1
    · rename_i hi; exact ⟨tyV_of hT s1 rv ht hi, [d], S1, μ1, _, .cons rv .nil, s1, p1⟩
    · exact False.elim p1
  · exact False.elim p1
theorem rvs_cons {K : PySem.W.Frag} {H : Hp} {μ : List Addr} {x : V} {xs : List V} {d : D} {ds : List D} (r : RVs K H μ (x :: xs) (d :: ds)) : RV K H μ x d ∧ RVs K H μ xs ds := by
  cases r with | cons r t => exact ⟨r, t⟩
/-- a list of the store is written -/
theorem lst_wr {W : WX} {σ : St} {S S' : Store} {μ : List Addr} {H : Hp} {n : Nat} {a : Addr} {xs : List V} {ds : List D} {v : V} {d : D} {E : PX} {Q : VK} (sm : Sim nm X.K X.mg μ S H) (en : μ[n]? = some a) (r : RVs X.K H μ xs ds) (rv : RV X.K H μ v d)
    (p : Post nm X.K X.mg μ H (.ok d (S.set n (.lst ds))) (fun d _ μ' H' => ∀ v, RV X.K H' μ' v d → Q v H') E) : Q v (upd H a (.lst xs)) := by
  have x := Ext.wrote (H := H) (u := .lst xs) (List.mem_of_getElem? en)
  exact p μ _ x (sm.wrote en ⟨xs, upd_same, RVs.ext x _ r⟩) v (rv.ext x)
def fnAppend : FM := fun ds S => match ds with
  | [.obj n, d] => match S[n]? with
    | some (.lst ds) => if ds.length < sizeLine then .ok .non (S.set n (.lst (ds ++ [d]))) else .stuck
    | _ => .stuck
  | _ => .stuck
theorem t_append : MtD nm X "list.append" fnAppend := by
  intro pins s σ H x xs v us Q I rx r h
  obtain ⟨ds, S, μ, E, rv, sm, p⟩ := h
  unfold fnAppend at p
  split at p
  · rename_i n d
    obtain ⟨r1, rt⟩ := rvs_cons rv
    obtain ⟨w, rfl, r2⟩ := one_rv rt
    clear rt
    split at p
    · rename_i ds hds
      split at p
      · rename_i hl
        cases r1 with | @obj a _ en =>
        obtain ⟨xs, e1, rs⟩ := sm.ob _ _ _ en hds
        exact mt_append pins s σ H _ _ v us Q I rx r ⟨a, xs, w, rfl, rfl, e1, by rw [rs.length]; exact hl, lst_wr (W := fun _ _ _ _ => False) (σ := σ) (S' := S) sm en (rs.append (.cons r2 .nil)) .non p⟩
      · exact False.elim p
    · exact False.elim p
  · exact False.elim p
def fnExtend : FM := fun ds S => match ds with
  | [.obj n, d] => match S[n]? with
    | some (.lst ds) => match d with
      | .scr _ => .stuck
      | _ => match lstOf S d with
        | some es => if ds.length + es.length ≤ sizeLine then .ok .non (S.set n (.lst (ds ++ es))) else .stuck
        | none => .stuck
    | _ => .stuck
  | _ => .stuck
theorem lstOf_at {K : PySem.W.Frag} {mg : Str → Option Value} {H : Hp} {μ : List Addr} {S : Store} {v : V} {d : D} {ds : List D} (s : Sim nm K mg μ S H) (r : RV K H μ v d) (hn : ∀ l, d ≠ .scr l) (h : lstOf S d = some ds) : ∃ a xs, v = .ref a ∧ H a = some (.lst xs) ∧ RVs K H μ xs ds := by
  unfold lstOf at h
  split at h
  · cases h; cases r with | lst t r => exact ⟨_, _, rfl, t.2, r⟩
  · exact absurd rfl (hn _)
  · split at h
    · rename_i hds
      cases h
      cases r with | obj e =>
        obtain ⟨xs, e1, r⟩ := s.ob _ _ _ e hds
        exact ⟨_, xs, rfl, e1, r⟩
    · cases h
  · cases h
theorem t_extend : MtD nm X "list.extend" fnExtend := by
  intro pins s σ H x xs v us Q I rx r h
  obtain ⟨ds, S, μ, E, rv, sm, p⟩ := h
  unfold fnExtend at p
  split at p
  · rename_i n d
    obtain ⟨r1, rt⟩ := rvs_cons rv
    obtain ⟨w, rfl, r2⟩ := one_rv rt
    clear rt
    split at p
    · rename_i ds hds
      split at p
      · exact False.elim p
      · rename_i hns
        split at p
        · rename_i es hes
          split at p
          · rename_i hl
            cases r1 with | @obj a _ en =>
            obtain ⟨xs, e1, rs⟩ := sm.ob _ _ _ en hds
            obtain ⟨b, zs, rfl, e2, rs2⟩ := lstOf_at sm r2 (fun l z => hns l z) hes
            exact mt_extend pins s σ H _ _ v us Q I rx r ⟨a, b, xs, zs, rfl, rfl, e1, e2, by rw [rs.length, rs2.length]; exact hl, lst_wr (W := fun _ _ _ _ => False) (σ := σ) (S' := S) sm en (rs.append rs2) .non p⟩
          · exact False.elim p
        · exact False.elim p
    · exact False.elim p
  · exact False.elim p
/-- xs.pop(i), d.pop(k), there -/
def fnPopL : FM := fun ds S => match ds with
  | [.obj n, .int i] => match S[n]? with
    | some (.lst ds) => match ixN ds.length i with
      | some k => match ds[k]? with
        | some d => if i < 2 ^ 62 then .ok d (S.set n (.lst (ds.eraseIdx k))) else .stuck
        | none => .stuck
      | none => .stuck
    | _ => .stuck
  | _ => .stuck
theorem t_popL : MtD nm X "list.pop" fnPopL := by
  intro pins s σ H x xs v us Q I rx r h
  obtain ⟨ds, S, μ, E, rv, sm, p⟩ := h
  unfold fnPopL at p
  split at p
  · rename_i n i
    obtain ⟨r1, rt⟩ := rvs_cons rv
    obtain ⟨w, rfl, r2⟩ := one_rv rt
    clear rt rv
    cases r2
    split at p
    · rename_i ds hds
      split at p
      · rename_i k hk
        split at p
        · rename_i d hd
          split at p
          · rename_i hl
            cases r1 with | @obj a _ en =>
            obtain ⟨xs, e1, rs⟩ := sm.ob _ _ _ en hds
            obtain ⟨y, e2, ry⟩ := rs.get hd
            obtain ⟨h1, h2, h3, h4⟩ := ixN_seq hk
            have hz : xs.length ≤ sizeLine := (I.lstM e1).1
            have := rs.length
            have h63 : (sizeLine : Int) < 2 ^ 62 := by decide
            exact mt_popAt pins s σ H _ _ v us Q I rx r ⟨a, xs, i, k, y, rfl, rfl, e1, by omega, by omega, by rw [rs.length]; exact h1, e2, lst_wr (W := fun _ _ _ _ => False) (σ := σ) (S' := S) sm en (rs.eraseIdx k) ry p⟩
          · exact False.elim p
        · exact False.elim p
      · exact False.elim p
    · exact False.elim p
  · exact False.elim p
def getX (ex : List (Nat × Nat × List (Nat × D))) (i c f : Nat) : Option D := match ex with
  | [(j, c', fs)] => if j = i ∧ c' = c then getN fs f else none
  | _ => none
def mXf (i c f : Nat) : EM := fun e S => match getX e.ex i c f with
  | some d => .ok d S
  | none => .stuck
/-- what the written part says of an exception class with fields -/
def XcOk (K : PySem.W.Frag) (mg : Str → Option Value) (nm : Nms) (c f : Nat) : Prop := f < nm.most ∧ ∃ C, mg (nm.cls c) = some (.ref C) ∧ PySem.W.findIn K (.ref C) "__getattribute__" = some (some (.builtin "BaseException.__getattribute__")) ∧ PySem.W.findIn K (.ref C) "__getattr__" = some none ∧
  PySem.W.subIn K (.ref C) (.type "BaseException") = some true ∧ PySem.W.findIn K (.ref C) (nm.fld f) = some none ∧ PySem.W.hasDictIn K C = true
theorem me_xf (i c f : Nat) {n fx : Str} {p : Pos} {is : List Nat} (h : XcOk X.K X.mg nm c f) (hv : visAll is X.N X.env.scope = true) (hf : nm.fld f = fx) (hN : X.N[i]? = some n := by rfl) (hi : is.contains i = true := by rfl) (hb : attributeBase (.Name n p) fx X.env (eval (.Name n p) X.env) = eval (.Name n p) X.env := by rfl) : ME nm X (.Attribute (.Name n p) fx pos) (mXf i c f) := by
  subst hf
  obtain ⟨hv, hd, hcd⟩ := vis_of hv hi hN
  obtain ⟨hl, C, h1, h2, h3, h4, h5, h6⟩ := h
  refine ⟨fun W tk => ⟨fun pins s σ H Q I hh => ?_⟩⟩
  obtain ⟨e, S, μ, E, sm, q⟩ := hh
  unfold mXf at q
  split at q
  · rename_i d hd'
    unfold getX at hd'
    split at hd'
    · rename_i j c' fs hex
      split at hd'
      · rename_i hc
        obtain ⟨a, oe, C', dd, g1, g2, ⟨g3, vs, g4⟩, g5⟩ := E.ex (j, c', fs) (by rw [hex]; exact List.mem_cons_self)
        obtain ⟨rfl, rfl⟩ := hc
        obtain ⟨k1, k2⟩ := g5
        rw [h1] at k1
        cases k1
        cases dd with
        | none =>
          have k2 : fs = [] := k2
          subst k2
          cases hd'
        | some dx =>
          obtain ⟨gs, n1, n2, n3⟩ := k2
          rcases rf_get f hl n3 with ⟨_, z⟩ | ⟨w, d2, z1, z2, z3⟩
          · rw [z] at hd'; cases hd'
          · rw [z2] at hd'; cases hd'
            refine attr_of hb (thn ((pe_var hN hv hd hcd).run pins s σ H (fun x H1 => x = .ref a ∧ H1 = H) I ⟨_, g1, rfl, rfl⟩) fun u s1 hh => ?_)
            obtain ⟨x, H1, I1, rx, rfl, rfl⟩ := hh
            obtain rfl : u = Value.ref a := rx
            obtain ⟨ha, _⟩ := I1.pin (a, oe) (List.mem_append_left _ g2)
            have hx : ObjOk X.prog X.w H1 s1.heap dx (.xd gs) := I1.hok dx _ n2
            obtain ⟨mA, hns, hr⟩ := hx
            obtain ⟨od, ho, hlk⟩ := lookIn_ns hns
            obtain ⟨u, hu, ru⟩ := RelO.some_of (v := w) (o := mA (nm.fld f)) (by rw [← z1]; exact hr (nm.fld f))
            have J : PySem.W.InstAt s1.heap a oe C (some od) := ⟨ha, g3.1, by unfold PySem.W.notCls; rw [g4] <;> rfl, by rw [g3.2]; exact ho⟩
            exact HandSPX.exc_get I1.kIn J h2 h3 h4 (PySem.W.findObj_own h6 h5 rfl (by rw [hlk, hu])) (handed_of ru) ⟨w, H1, I1.tok _, ru, q μ H1 .refl sm w z3⟩
      · cases hd'
    · cases hd'
  · exact False.elim q
def spX2 (K : PySem.W.Frag) (f1 f2 : Str) : Sp := fun vs H Q _ => ∃ (a C : Addr) (y1 y2 : V), vs = [.ref a, y1, y2] ∧ OexC K C ∧ PySem.W.findIn K (.ref C) f1 = some none ∧ PySem.W.findIn K (.ref C) f2 = some none ∧ H a = some (exo a C none) ∧
  ∀ dx, H dx = none → dx ≠ a → Q .non (upd (upd (upd H dx (exd dx [(f1, y1)])) a (exo a C (some dx))) dx (exd dx [(f2, y2), (f1, y1)]))
theorem exc2_den {P : Program} {w : World} {K : PySem.W.Frag} {mg : Str → Option Value} {base : Heap} {x qual : Str} {st : Stmt} {f : Addr} {fd : FuncData} {n0 n1 n2 f1 f2 : Str} {k : Nat} (F : Fun K x qual st f fd) (S : FnScope [n0, n1, n2] [n0, n1, n2] (defScope st))
    (hb : ∀ (cdv : Value) (A : Around) (outer : List Env) (s : Shared) (H : Hp) (E : XK), PSs (cxOf (L2.CX P w) P w K mg base [n0, n1, n2] qual (defScope st) f cdv A outer s H E) (defBody st) (tSeq (tOst K f1 (tVar 0) (tVar 1)) (tOst K f2 (tVar 0) (tVar 2)))) :
    FnOk P w K mg base (L2.CX P w) (k + 1) f fd [n0, n1, n2] (spX2 K f1 f2) := by
  refine F.okX S (fun vs H Q E h => ?_) fun cdv A outer s H vs Q E hr h => ?_
  · obtain ⟨a, C, y1, y2, rfl, _⟩ := h; rfl
  · obtain ⟨a, C, y1, y2, rfl, T, g1, g2, ea, q⟩ := h
    refine ⟨_, hb cdv A outer s H E, ?_⟩
    refine ⟨y1, rfl, .ref a, rfl, a, C, rfl, T, g1, .inl ⟨ea, fun dx nd ne => ?_⟩⟩
    refine ⟨y2, rfl, .ref a, rfl, a, C, rfl, T, g2, .inr ⟨dx, [(f1, y1)], upd_same, ?_, by simp, q dx nd ne⟩⟩
    rw [upd_ne ne, upd_same]
def Exc2Ok (P : Program) (w : World) (K : PySem.W.Frag) (mg : Str → Option Value) (base : Heap) (nm : Nms) (k c f1 f2 : Nat) : Prop := ∃ C fI fd ps, mg (nm.cls c) = some (.ref C) ∧ OexC K C ∧ PySem.W.findIn K (.ref C) "__init__" = some (some (.ref fI)) ∧
  PySem.W.typeIn K (.ref fI) = some (.type "function") ∧ ps.length = 3 ∧ Binds K fd ps [] ∧ FnOk P w K mg base (L2.CX P w) k fI fd ps (spX2 K (nm.fld f1) (nm.fld f2)) ∧ PySem.W.findIn K (.ref C) (nm.fld f1) = some none ∧ PySem.W.findIn K (.ref C) (nm.fld f2) = some none ∧ f1 < nm.most ∧ f2 < nm.most
def mRaise2 (c f1 f2 : Nat) (as : AM) : SM := fun e S => (as e S).toS e fun ds S => match ds with
  | [x, y] => .exc c [(f2, y), (f1, x)] e S
  | _ => .stuck
theorem ms_raise2 {k c f1 f2 : Nat} {x : Str} {p pos' : Pos} {a b : Expr} (h : Exc2Ok X.prog X.w X.K X.mg X.base nm k c f1 f2) (hr : Room (k + 1) X.A) (hc : X.calm = true) (hg : GlN X x) (ha : MA nm X [a, b] ma) (hx : nm.cls c = x)
    (he : starEach (a :: [b]) X.env = (false, eval a X.env) :: starEach [b] X.env := by rfl) (hpl : (backTo pos' (starEach [b] X.env)).any (·.1) = false := by rfl) : MS nm X (.Raise (some (.Call (.Name x p) [a, b] [] pos')) none pos) (mRaise2 c f1 f2 ma) := by
  subst hx
  obtain ⟨C, fI, fd, ps, h1, h2, h3, h4, hps, h5, h6, h7, h8, h9, h10⟩ := h
  exact ⟨fun W tk => (ps_raise hc tk (pmk_oex h2 h3 h4 h6 hr h5 .nil passL hg.g h1 (ha.run W tk) hg.d he hpl)).imp fun D σ H hh => by
    obtain ⟨e, S, μ, E, s, p⟩ := hh
    refine ⟨e, S, μ, E, s, (post_len ha (PostS.toS E p)).mono fun ds S1 μ1 H1 x1 s1 p1 vs rvs => ?_⟩
    obtain ⟨hl, p1⟩ := p1
    split at p1
    · rename_i d1 d2
      obtain ⟨v1, v2, rfl, r1, r2⟩ := two_rv rvs
      refine ⟨by simp, fun a na => ⟨a, C, v1, v2, rfl, h2, h7, h8, upd_same, fun dx nd ne => ⟨rfl, dx, _, ?_, upd_same, ?_, ?_⟩⟩⟩
      · rw [upd_ne ne.symm, upd_same]
      · rw [upd_ne ne] at nd; exact nd
      · have nd1 : H1 dx = none := by rw [upd_ne ne] at nd; exact nd
        have hE : ∀ b, b ≠ a → b ≠ dx → upd (del (upd (upd (upd (upd H1 a (exo a C none)) dx (exd dx [(nm.fld f1, v1)])) a (exo a C (some dx))) dx (exd dx [(nm.fld f2, v2), (nm.fld f1, v1)])) a) dx (.xd [(nm.fld f2, v2), (nm.fld f1, v1)]) b = H1 b := fun b hb1 hb2 => by
          rw [upd_ne hb2, del_ne hb1, upd_ne hb2, upd_ne hb1, upd_ne hb2, upd_ne hb1]
        have x : Ext μ1 H1 μ1 (upd (del (upd (upd (upd (upd H1 a (exo a C none)) dx (exd dx [(nm.fld f1, v1)])) a (exo a C (some dx))) dx (exd dx [(nm.fld f2, v2), (nm.fld f1, v1)])) a) dx (.xd [(nm.fld f2, v2), (nm.fld f1, v1)])) :=
          ⟨⟨[], by simp⟩, fun b q n => absurd q n, fun b o n hb => by rw [hE b (ne_of_none hb na) (ne_of_none hb nd1)]; exact hb⟩
        have s2 := s1.keep x fun b hb => by
          obtain ⟨u, e1, _⟩ := s1.there hb
          exact hE b (ne_of_none e1 na) (ne_of_none e1 nd1)
        exact p1 σ μ1 _ C (some dx) x s2 ((E.ext x1).ext x) ⟨h1, _, s1.fresh nd1, upd_same, .cons ⟨rfl, h10, r2.ext x⟩ (.cons ⟨rfl, h9, r1.ext x⟩ .nil)⟩
    · exact False.elim p1⟩
end
end BS
namespace BS
open PySem PySem.Spec PyProof.Rows L2
/-- the law's own promise -/
def spLaw (K : PySem.W.Frag) : Sp := fun vs H Q _ => ∃ (a : Addr) (ns : List Int), vs = [.ref a] ∧ SqL K H a (ns.map V.int) ∧ ns.length ≤ 63 ∧ ∀ H', Q (.bl true) H'
theorem law_end {P : Program} {w : World} {K : PySem.W.Frag} {mg : Str → Option Value} {base : Heap} {nm : Nms} {k : Nat} {fa : Addr} {fd : FuncData} {x : Str} {F : FM} (h : FnOk P w K mg base (L2.CX P w) k fa fd [x] (spD nm K mg 1 F))
    (hF : ∀ ns : List Int, ns.length ≤ 63 → ∃ S, F [.scr (ns.map .int)] [] = .ok (.bl true) S) : FnOk P w K mg base (L2.CX P w) k fa fd [x] (spLaw K) := by
  refine h.imp fun vs H Q E hh => ?_
  obtain ⟨a, ns, rfl, hs, hl, q⟩ := hh
  obtain ⟨S, e⟩ := hF ns hl
  refine ⟨[.scr (ns.map .int)], [], [], .cons (.scr ?_ (rvs_ints ns)) .nil, rfl, ⟨rfl, List.nodup_nil, fun n a o h => by simp at h⟩, ?_⟩
  · rcases hs with hs | hs
    · exact .inl ⟨by simp, hs⟩
    · exact .inr hs
  · rw [e]
    intro μ' H' x s v r
    cases r
    exact q H'
theorem walk {l : PySem.W.OpenLaw} {q : Program} {loose : List Str} {XP : (Str → Option Value) → Heap → Prop} {YP : World → Heap → Prop} {d : DefRec} {K : Params → PySem.W.Frag} {k : Nat} {x : Str} (hn : l.most = some 63) (hdf : d.params.defaults = []) (hr : Room k callerA)
    (hY : ∀ (w : World) (h : Heap), YP w h → (K w.params).In h)
    (F : ∀ (w : World) (mg : Str → Option Value) (fa : Addr) (h : Heap), (K w.params).In h → h.Ns mainGlobals mg → mg d.name = some (.ref fa) →
      ∃ fd : FuncData, (∀ (s : Shared) (u : Value), BindsTo s fd ⟨[u], []⟩ [(x, u)]) ∧ ∀ base : Heap, (K w.params).In base → base.Ns mainGlobals mg → FnOk l.prog w (K w.params) mg base (L2.CX l.prog w) k fa fd [x] (spLaw (K w.params))) :
    PySem.W.WalkO q loose XP YP l.row.toRowW d [] (fun f vs => PySem.call f vs) :=
  L2.walk_of (n := 63) (k := k) (x := x) (CX := fun w => L2.CX l.prog w) (sp := fun w => spLaw (K w.params)) hn (by decide) hdf hr hY F (fun _ _ a ns hl _ hS => ⟨a, ns, rfl, hS, hl, fun _ => rfl⟩) fun _ _ _ _ _ z => by
    obtain ⟨_, _, _, _, _, _, _, _, _, _, _, _, z⟩ := z
    exact z.elim
section
variable {P : Program} {w : World} {K : PySem.W.Frag} {mg : Str → Option Value} {base : Heap} {nm : Nms} {h : Heap}
theorem gc_int {x : Str} {i : Int} {t : Tok} (X : K.In h) (G : h.Ns mainGlobals mg) (a : PySem.W.nsIn K mainGlobals x = some (some (.int i t))) : GC K mg x (.int i) := ⟨_, .int i, PySem.W.mg_of X G a, ⟨t, rfl⟩, fun _ _ => .int i⟩
theorem gc_str {x z : Str} {t : Tok} (X : K.In h) (G : h.Ns mainGlobals mg) (a : PySem.W.nsIn K mainGlobals x = some (some (.str z t))) : GC K mg x (.str z) := ⟨_, .str z, PySem.W.mg_of X G a, ⟨t, rfl⟩, fun _ _ => .str z⟩
theorem uniq {c : Nat} {x : Str} {C C' : Addr} (hx : nm.cls c = x) (g : mg x = some (.ref C)) (g' : mg (nm.cls c) = some (.ref C')) : C' = C := by
  rw [hx, g] at g'; cases g'; rfl
theorem fld_one {c f : Nat} {x fx : Str} {C : Addr} (hl : f < nm.most) (hx : nm.cls c = x) (hf : nm.fld f = fx) (g : mg x = some (.ref C)) (k : Cls K C) (n : PySem.W.findIn K (.ref C) fx = some none) : FldOk K mg nm [c] f := by
  subst hf
  refine ⟨hl, fun c' hc C' g' => ?_⟩
  rcases List.mem_singleton.mp hc with rfl
  rw [uniq hx g g']
  exact ⟨k, n⟩
theorem fld_cons {c f : Nat} {cs : List Nat} (h1 : FldOk K mg nm [c] f) (h2 : FldOk K mg nm cs f) : FldOk K mg nm (c :: cs) f := by
  refine ⟨h1.1, fun c' hc C' g' => ?_⟩
  rcases List.mem_cons.mp hc with rfl | hc
  · exact h1.2 _ (List.mem_singleton.mpr rfl) C' g'
  · exact h2.2 _ hc C' g'
theorem catch_of {x : Str} {cv : Value} {yes no : List Nat} (g : mg x = some cv) (hy : ∀ c ∈ yes, ∀ C, mg (nm.cls c) = some (.ref C) → PySem.W.exmOne K (.ref C) cv = some true) (hn : ∀ c ∈ no, ∀ C, mg (nm.cls c) = some (.ref C) → PySem.W.exmOne K (.ref C) cv = some false) : Catch K mg nm x yes no := ⟨⟨cv, g, hy, hn⟩⟩
theorem catch_cons {cv : Value} {b : Bool} {c : Nat} {cs : List Nat} {x : Str} {C : Addr} (hx : nm.cls c = x) (g : mg x = some (.ref C)) (e : PySem.W.exmOne K (.ref C) cv = some b) (h : ∀ c ∈ cs, ∀ C, mg (nm.cls c) = some (.ref C) → PySem.W.exmOne K (.ref C) cv = some b) :
    ∀ c' ∈ c :: cs, ∀ C, mg (nm.cls c') = some (.ref C) → PySem.W.exmOne K (.ref C) cv = some b := by
  intro c' hc C' g'
  rcases List.mem_cons.mp hc with rfl | hc
  · rw [uniq hx g g']; exact e
  · exact h c' hc C' g'
theorem catch_nil {cv : Value} {b : Bool} : ∀ c' ∈ ([] : List Nat), ∀ C, mg (nm.cls c') = some (.ref C) → PySem.W.exmOne K (.ref C) cv = some b := fun _ h => by cases h
/-- no field is called m -/
def noFld (nm : Nms) (m : Str) : Bool := (List.range nm.most).all fun i => !decide (nm.fld i = m)
theorem noFld_of {m : Str} (h : noFld nm m = true) : ∀ i, i < nm.most → nm.fld i ≠ m := fun i hi => by
  have := List.all_eq_true.mp h i (List.mem_range.mpr hi)
  simpa using this
end
end BS
namespace BS
open PySem PySem.Spec PyProof.Rows L2
theorem exm_of {K : PySem.W.Frag} {S C : Addr} {b : Bool} (h1 : PySem.W.subIn K (.ref C) (.type "BaseException") = some true) (h2 : PySem.W.isClsIn K C = true) (h3 : PySem.W.typeIn K (.ref C) = some (.type "type")) (h4 : PySem.W.subIn K (.ref S) (.ref C) = some b) :
    PySem.W.exmOne K (.ref S) (.ref C) = some b := by
  have e1 : (PySem.W.subIn K (.ref C) (.type "BaseException") == some true) = true := by rw [h1] <;> rfl
  have e2 : ((PySem.W.clsIn K C).isSome && PySem.W.typeIn K (.ref C) == some (.type "type")) = true := by
    have h2' : (PySem.W.clsIn K C).isSome = true := h2
    rw [h2', h3] <;> rfl
  show (if (PySem.W.subIn K (.ref C) (.type "BaseException") == some true) = true then (if ((PySem.W.clsIn K C).isSome && PySem.W.typeIn K (.ref C) == some (.type "type")) = true then PySem.W.subIn K (.ref S) (.ref C) else none) else none) = some b
  rw [if_pos e1, if_pos e2]
  exact h4
theorem refs_own {c : Addr} {r : List Value} (h : PySem.HandSPX.refsVE r = true) : PySem.HandSPX.refsVE (.ref c :: r) = true := h
theorem refs_end : PySem.HandSPX.refsVE [.type "ValueError", .type "Exception", .type "BaseException", .type "object"] = true := by decide +kernel
section
variable {P : Program} {w : World} {K : PySem.W.Frag} {mg : Str → Option Value} {base : Heap} {nm : Nms}
theorem meth_mk {k c n : Nat} {m cx : Str} {F : FM} {C f : Addr} {fd : FuncData} {ps : List Str} (hx : nm.cls c = cx) (g : mg cx = some (.ref C)) (kc : Cls K C) (a : PySem.W.findIn K (.ref C) m = some (some (.ref f))) (i : PySem.W.isFn K (.ref f) = true) (kp : PySem.W.keepIn K (.ref f) = true)
    (hps : ps.length = n) (b : Binds K fd ps []) (o : FnOk P w K mg base (L2.CX P w) k f fd ps (spD nm K mg n F)) (nf : noFld nm m = true) : MethOk P w K mg base nm k c m n F :=
  ⟨C, f, fd, ps, by rw [hx]; exact g, kc, ⟨a, i, kp⟩, hps, b, o, noFld_of nf⟩
theorem make_mk {k c n : Nat} {cx : Str} {F : FM} {C f : Addr} {fd : FuncData} {ps : List Str} (hx : nm.cls c = cx) (g : mg cx = some (.ref C)) (mk : PySem.W.makesIn K C = true) (a : PySem.W.findIn K (.ref C) "__init__" = some (some (.ref f))) (i : PySem.W.isFn K (.ref f) = true) (kp : PySem.W.keepIn K (.ref C) = true)
    (hps : ps.length = n + 1) (b : Binds K fd ps []) (o : FnOk P w K mg base (L2.CX P w) k f fd ps (spD nm K mg (n + 1) F)) : MakeOk P w K mg base nm k c n F :=
  ⟨C, f, fd, ps, by rw [hx]; exact g, ⟨mk, a, i, kp⟩, hps, b, o⟩
theorem def_mk {k n : Nat} {x : Str} {F : FM} {f : Addr} {fd : FuncData} {ps : List Str} (g : mg x = some (.ref f)) (kp : PySem.W.keepIn K (.ref f) = true) (hps : ps.length = n) (b : Binds K fd ps []) (o : FnOk P w K mg base (L2.CX P w) k f fd ps (spD nm K mg n F)) : DefOk P w K mg base nm k x n F :=
  ⟨f, fd, ps, g, kp, hps, b, o⟩
theorem exc2_mk {k c f1 f2 : Nat} {cx x1 x2 : Str} {C fI : Addr} {fd : FuncData} {ps : List Str} (hx : nm.cls c = cx) (g : mg cx = some (.ref C)) (T : OexC K C) (a : PySem.W.findIn K (.ref C) "__init__" = some (some (.ref fI))) (t : PySem.W.typeIn K (.ref fI) = some (.type "function"))
    (hps : ps.length = 3) (b : Binds K fd ps []) (o : FnOk P w K mg base (L2.CX P w) k fI fd ps (spX2 K (nm.fld f1) (nm.fld f2))) (h1 : nm.fld f1 = x1) (h2 : nm.fld f2 = x2) (n1 : PySem.W.findIn K (.ref C) x1 = some none) (n2 : PySem.W.findIn K (.ref C) x2 = some none) (l1 : f1 < nm.most) (l2 : f2 < nm.most) : Exc2Ok P w K mg base nm k c f1 f2 :=
  ⟨C, fI, fd, ps, by rw [hx]; exact g, T, a, t, hps, b, o, by rw [h1]; exact n1, by rw [h2]; exact n2, l1, l2⟩
theorem xc_mk {c f : Nat} {cx x1 : Str} {C : Addr} (hx : nm.cls c = cx) (g : mg cx = some (.ref C)) (ga : PySem.W.findIn K (.ref C) "__getattribute__" = some (some (.builtin "BaseException.__getattribute__"))) (gg : PySem.W.findIn K (.ref C) "__getattr__" = some none) (eC : PySem.W.subIn K (.ref C) (.type "BaseException") = some true) (h1 : nm.fld f = x1)
    (n1 : PySem.W.findIn K (.ref C) x1 = some none) (hd : PySem.W.hasDictIn K C = true) (l : f < nm.most) : XcOk K mg nm c f :=
  ⟨l, C, by rw [hx]; exact g, ga, gg, eC, by rw [h1]; exact n1, hd⟩
end
end BS
namespace BS
open PySem PySem.Spec PyProof.Rows L2
section
variable {nm : Nms} {X : Cx} {tg : Expr} {e : Expr} {me : EM} {pos : Pos}
def iAll (K : PySem.W.Frag) (tl : TE) : TI := fun σ H R => tl σ H fun x H1 => (∃ y, x = .str y ∧ R (Its y) H1) ∨ (∃ a, x = .ref a ∧ (∃ xs, SqL K H1 a xs) ∧ R (Itl K a) H1) ∨ ∃ a, x = .ref a ∧ (∃ xs, SqT K H1 a xs) ∧ R (Itt K a) H1
theorem pi_all {l : Expr} {tl : TE} (hl : PE X l tl) : PI X tg l (iAll X.K tl) := by
  refine ⟨fun pins s σ H R I h => ?_⟩
  refine thn (hl.run pins s σ H _ I h) fun v s1 ⟨x, H1, I1, r1, q1⟩ => ?_
  rcases q1 with ⟨y, ex, q⟩ | ⟨a, ex, ⟨xs, hq⟩, q⟩ | ⟨a, ex, ⟨xs, hq⟩, q⟩
  · subst ex
    obtain ⟨t, rfl⟩ := r1
    cases ha : y.cps.all (· < 128)
    · exact wpAny_pyIter_wide ha (pi_one (tk := s1.toks) I1 _ (turn_str _ y t "str_iterator" (.inr rfl)) ⟨_, Heap.get?_push_size _ rfl, rfl, rfl⟩ q)
    · exact wpAny_pyIter_ascii ha (pi_one (tk := s1.toks) I1 _ (turn_str _ y t "str_ascii_iterator" (.inl rfl)) ⟨_, Heap.get?_push_size _ rfl, rfl, rfl⟩ q)
  · subst ex
    cases r1
    obtain ⟨its, rv, p, hz⟩ := I1.list hq
    refine wpAny_pyIter_list p.isList ?_
    refine ⟨s1.heap.objs.size, [s1.heap.objs.size], _, _, H1, rfl, I1.kept (t' := s1.toks) fun b o e => Heap.get?_push_of_some _ e, turn_list a _, ⟨_, Heap.get?_push_size _ rfl, rfl, rfl⟩, fun b hb => ?_, q⟩
    have e : b = s1.heap.objs.size := by simpa using hb
    subst e
    exact I1.fpOk (Nat.le_refl _) (I1.hok.fresh (Nat.le_refl _))
  · subst ex
    cases r1
    obtain ⟨its, rv, p, hz⟩ := I1.tuple hq
    refine wpAny_pyIter_tuple (show s1.heap.IsTuple a its.toArray from p) ?_
    refine ⟨s1.heap.objs.size, [s1.heap.objs.size], _, _, H1, rfl, I1.kept (t' := s1.toks) fun b o e => Heap.get?_push_of_some _ e, turn_tuple a _, ⟨_, Heap.get?_push_size _ rfl, rfl, rfl⟩, fun b hb => ?_, q⟩
    have e : b = s1.heap.objs.size := by simpa using hb
    subst e
    exact I1.fpOk (Nat.le_refl _) (I1.hok.fresh (Nat.le_refl _))
theorem signs_get (x : Str) (i : Nat) : (signs x)[i]? = x.cps[i]?.map strAt := by
  simp [signs]
theorem wok_str {x : Str} {w : Wk} {C : Hp → List Addr → Prop} (hd : w.ds = signs x) : WOk nm X (Its x) w C := by
  intro i S μ H s c g
  rw [hd]
  refine ⟨fun d e => ?_, fun h => by simpa [signs, Its] using h⟩
  rw [signs_get] at e
  obtain ⟨k, hk, rfl⟩ := Option.map_eq_some_iff.mp e
  refine ⟨(Array.getElem?_eq_some_iff.mp hk).1, fun y H' q => ?_⟩
  obtain ⟨rfl, k', hk', rfl⟩ := q
  rw [hk] at hk'; cases hk'
  exact ⟨.refl, s, .str _⟩
def wkA (S : Store) (x : D) : R Wk := match x with
  | .str y => .ok ⟨signs y, fun _ => True⟩ S
  | .tup ds => .ok ⟨ds, fun _ => True⟩ S
  | .lst ds => .ok ⟨ds, fun _ => True⟩ S
  | .scr ds => .ok ⟨ds, fun _ => True⟩ S
  | .obj n => match S[n]? with
    | some (.lst ds) => .ok ⟨ds, fun S => S[n]? = some (.lst ds)⟩ S
    | _ => .stuck
  | _ => .stuck
def iAny (m : EM) : IM := fun e S => (m e S).bind fun x S => wkA S x
theorem mi_any (h : ME nm X e me) : MI nm X tg e (iAny me) := by
  refine ⟨fun W tk => (pi_all (h.run W tk)).imp fun σ H R hh => ?_⟩
  obtain ⟨ev, S, μ, E, s, p⟩ := hh
  refine ⟨ev, S, μ, E, s, (Post.bind p).mono fun d S1 μ1 H1 x1 s1 p1 v rv => ?_⟩
  unfold wkA at p1
  split at p1
  · rename_i y
    cases rv
    exact .inl ⟨y, rfl, p1 μ1 H1 .refl s1 (Its y) (fun _ _ => True) (fun _ _ _ _ _ _ => trivial) trivial (wok_str rfl)⟩
  · rename_i ds
    cases rv with | @tup a xs _ t r =>
    exact .inr (.inr ⟨a, rfl, ⟨xs, t.sq⟩, p1 μ1 H1 .refl s1 (Itt X.K a) (fun H μ => TupAt X.K H μ a xs ∧ RVs X.K H μ xs ds) (fun μ H μ' H' x c => ⟨c.1.ext x, RVs.ext x _ c.2⟩) ⟨t, r⟩ (wok_tup (xs := xs) rfl fun S μ H s c g => ⟨xs, c.1.sq, c.2⟩)⟩)
  · rename_i ds
    cases rv with | @lst a xs _ t r =>
    exact .inr (.inl ⟨a, rfl, ⟨xs, .of t.2⟩, p1 μ1 H1 .refl s1 (Itl X.K a) (fun H μ => LstAt H μ a xs ∧ RVs X.K H μ xs ds) (fun μ H μ' H' x c => ⟨c.1.ext x, RVs.ext x _ c.2⟩) ⟨t, r⟩ (wok_list (xs := xs) rfl fun S μ H s c g => ⟨xs, .of c.1.2, c.2⟩)⟩)
  · rename_i ds
    cases rv with | @scr a xs _ t r =>
    exact .inr (.inl ⟨a, rfl, ⟨xs, t.sq⟩, p1 μ1 H1 .refl s1 (Itl X.K a) (fun H μ => ScrAt X.K H μ a xs ∧ RVs X.K H μ xs ds) (fun μ H μ' H' x c => ⟨c.1.ext x, RVs.ext x _ c.2⟩) ⟨t, r⟩ (wok_list (xs := xs) rfl fun S μ H s c g => ⟨xs, c.1.sq, c.2⟩)⟩)
  · rename_i n
    split at p1
    · rename_i ds hds
      cases rv with | @obj a _ en =>
      obtain ⟨xs, e1, r⟩ := s1.ob _ _ _ en hds
      exact .inr (.inl ⟨a, rfl, ⟨xs, .of e1⟩, p1 μ1 H1 .refl s1 (Itl X.K a) (fun H μ => μ[n]? = some a) (fun μ H μ' H' x c => x.at c) en (wok_list (xs := xs) rfl fun S μ H s c g => by
        obtain ⟨xs, e1, r⟩ := s.ob _ _ _ c g
        exact ⟨xs, .of e1, r⟩)⟩)
    · exact False.elim p1
  · exact False.elim p1
end
def txt (v : Value) : Str := match v with
  | .str x _ => x
  | _ => Str.empty
section
variable {prog : Program} {w : World} {A : Around} {E : Value → Shared → Prop} {s : Shared}
theorem two_at {a b : Str} {t u : Tok} {i : Nat} {v : Value} (h : (#[Value.str a t, Value.str b u] : Array Value)[i]? = some v) : ∃ r, v = .str (txt ((#[Value.str a t, Value.str b u] : Array Value).getD i .none)) r := by
  match i, h with
  | 0, h => simp at h; subst h; exact ⟨_, rfl⟩
  | 1, h => simp at h; subst h; exact ⟨_, rfl⟩
  | n + 2, h => simp at h
theorem lt_strR {x y : Str} {t u : Tok} {Q : Value → Shared → Prop} (h : Q (.bool (ltS x y)) s) : wpAny (model prog w) A (richCompare .Lt (.str x t) (.str y u)) Q E s :=
  richCompare_gives (op := .Lt) (typeIs_str s x t) (typeIs_str s y u) F.slot_str_lt F.entry_str_lt (F.args_str_lt_2 _ _) (gives_str_lt x y t u) (fun e => nomatch e) h
theorem gt_strR {x y : Str} {t u : Tok} {Q : Value → Shared → Prop} (h : Q (.bool (ltS y x)) s) : wpAny (model prog w) A (richCompare .Gt (.str x t) (.str y u)) Q E s :=
  richCompare_gives (op := .Gt) (typeIs_str s x t) (typeIs_str s y u) F.slot_str_gt F.entry_str_gt (F.args_str_gt_2 _ _) (gives_str_gt x y t u) (fun e => nomatch e) h
theorem cmp_ltS (a b : Str) (t u : Tok) : CmpOf prog w A .Lt (fun i v => (#[Value.str a t, Value.str b u] : Array Value)[i]? = some v) (fun i j => ltS (txt ((#[Value.str a t, Value.str b u] : Array Value).getD i .none)) (txt ((#[Value.str a t, Value.str b u] : Array Value).getD j .none))) := fun i j vi vj s Q E hi hj h => by
  obtain ⟨t1, e1⟩ := two_at hi
  obtain ⟨t2, e2⟩ := two_at hj
  rw [e1, e2]
  exact lt_strR h
theorem cmp_gtS (a b : Str) (t u : Tok) : CmpOf prog w A .Gt (fun i v => (#[Value.str a t, Value.str b u] : Array Value)[i]? = some v) (fun i j => ltS (txt ((#[Value.str a t, Value.str b u] : Array Value).getD j .none)) (txt ((#[Value.str a t, Value.str b u] : Array Value).getD i .none))) := fun i j vi vj s Q E hi hj h => by
  obtain ⟨t1, e1⟩ := two_at hi
  obtain ⟨t2, e2⟩ := two_at hj
  rw [e1, e2]
  exact gt_strR h
theorem max_two_str {a b : Str} {t u : Tok} {Q : Value → Shared → Prop} (hh : A.handled = none)
    (h : ∀ h' tk, (∀ c o, s.heap.get? c = some o → h'.get? c = some o) → Q (if ltS a b = true then .str b u else .str a t) { s with heap := h', toks := tk }) :
    wpAny (model prog w) A (call (.builtin "max") [.str a t, .str b u]) Q E s := by
  have hT : (s.heap.push { cls := .type "tuple", data := .seq #[.str a t, .str b u] }).IsTuple s.heap.objs.size #[.str a t, .str b u] := ⟨_, Heap.get?_push_size _ rfl, rfl, 0, rfl⟩
  refine call_max_two (wpAny_pyIter_tuple hT ?_)
  have hsz : (s.heap.push { cls := .type "tuple", data := .seq #[.str a t, .str b u] }).objs.size = s.heap.objs.size + 1 := Heap.size_push ..
  refine ⟨_, [_, s.heap.objs.size], [_], _, _, _, _, rfl, Walks.tuple (A := A.in1) hh _ s.heap.objs.size (by rw [hsz]; exact Nat.ne_of_lt (Nat.lt_succ_self _)) #[.str a t, .str b u],
    ⟨⟨_, Heap.get?_push_size _ rfl, rfl, rfl⟩, hT.push _⟩, fun c hc => ?_, by simp, cmp_gtS a b t u, fun v h' tk hP hk => ?_⟩
  · show c < ((s.heap.push _).push _).objs.size
    rw [Heap.size_push, hsz]
    rcases List.mem_cons.mp hc with rfl | hc
    · rw [hsz]; exact Nat.lt_succ_self _
    · rcases List.mem_cons.mp hc with rfl | hc
      · exact Nat.lt_succ_of_lt (Nat.lt_succ_self _)
      · cases hc
  · have hold : ∀ c o, s.heap.get? c = some o → h'.get? c = some o := fun c o e => by
      refine hk c o (fun hm => ?_) (Heap.get?_push_of_some _ (Heap.get?_push_of_some _ e))
      rcases List.mem_cons.mp hm with e1 | hm
      · have := Heap.lt_size e; rw [e1, hsz] at this; exact Nat.lt_irrefl _ (Nat.lt_of_succ_lt this)
      · cases hm
    have := h h' tk hold
    have hv : v = if ltS a b = true then .str b u else .str a t := by
      cases hc : ltS a b <;> simp [argBest, txt, hc] at hP <;> simp [hP]
    rw [hv]; exact this
theorem min_two_str {a b : Str} {t u : Tok} {Q : Value → Shared → Prop} (hh : A.handled = none)
    (h : ∀ h' tk, (∀ c o, s.heap.get? c = some o → h'.get? c = some o) → Q (if ltS b a = true then .str b u else .str a t) { s with heap := h', toks := tk }) :
    wpAny (model prog w) A (call (.builtin "min") [.str a t, .str b u]) Q E s := by
  have hT : (s.heap.push { cls := .type "tuple", data := .seq #[.str a t, .str b u] }).IsTuple s.heap.objs.size #[.str a t, .str b u] := ⟨_, Heap.get?_push_size _ rfl, rfl, 0, rfl⟩
  refine call_min_two (wpAny_pyIter_tuple hT ?_)
  have hsz : (s.heap.push { cls := .type "tuple", data := .seq #[.str a t, .str b u] }).objs.size = s.heap.objs.size + 1 := Heap.size_push ..
  refine ⟨_, [_, s.heap.objs.size], [_], _, _, _, _, rfl, Walks.tuple (A := A.in1) hh _ s.heap.objs.size (by rw [hsz]; exact Nat.ne_of_lt (Nat.lt_succ_self _)) #[.str a t, .str b u],
    ⟨⟨_, Heap.get?_push_size _ rfl, rfl, rfl⟩, hT.push _⟩, fun c hc => ?_, by simp, cmp_ltS a b t u, fun v h' tk hP hk => ?_⟩
  · show c < ((s.heap.push _).push _).objs.size
    rw [Heap.size_push, hsz]
    rcases List.mem_cons.mp hc with rfl | hc
    · rw [hsz]; exact Nat.lt_succ_self _
    · rcases List.mem_cons.mp hc with rfl | hc
      · exact Nat.lt_succ_of_lt (Nat.lt_succ_self _)
      · cases hc
  · have hold : ∀ c o, s.heap.get? c = some o → h'.get? c = some o := fun c o e => by
      refine hk c o (fun hm => ?_) (Heap.get?_push_of_some _ (Heap.get?_push_of_some _ e))
      rcases List.mem_cons.mp hm with e1 | hm
      · have := Heap.lt_size e; rw [e1, hsz] at this; exact Nat.lt_irrefl _ (Nat.lt_of_succ_lt this)
      · cases hm
    have := h h' tk hold
    have hv : v = if ltS b a = true then .str b u else .str a t := by
      cases hc : ltS b a <;> simp [argBest, txt, hc] at hP <;> simp [hP]
    rw [hv]; exact this
end
section
variable {nm : Nms} {X : Cx}
def fnMax2 : FM := fun ds S => match ds with
  | [.int i, .int j] => .ok (.int (if i < j then j else i)) S
  | [.str a, .str b] => .ok (.str (if ltS a b = true then b else a)) S
  | _ => .stuck
def fnMin2 : FM := fun ds S => match ds with
  | [.int i, .int j] => .ok (.int (if j < i then j else i)) S
  | [.str a, .str b] => .ok (.str (if ltS b a = true then b else a)) S
  | _ => .stuck
theorem c_max2 (hc : X.calm = true) : CallD nm X (.builtin "max") fnMax2 := by
  intro pins s σ H xs us Q I r h
  obtain ⟨ds, S, μ, E, rv, sm, p⟩ := h
  unfold fnMax2 at p
  split at p
  · obtain ⟨v, u, rfl, r1, r2⟩ := two_rv rv
    cases r1; cases r2
    exact call_max2 hc pins s σ H _ us Q I r ⟨_, _, rfl, p μ H .refl sm _ (.int _)⟩
  · obtain ⟨v, u, rfl, r1, r2⟩ := two_rv rv
    cases r1; cases r2
    obtain ⟨u, w', rfl, ⟨t, rfl⟩, ⟨t', rfl⟩⟩ := vals2 r
    rename_i a b
    refine max_two_str (I.ok.hd hc) fun h' tk k => ⟨.str (if ltS a b = true then b else a), H, I.kept k, ?_, p μ H .refl sm _ (.str _)⟩
    cases ltS a b
    · exact ⟨_, rfl⟩
    · exact ⟨_, rfl⟩
  · exact False.elim p
theorem c_min2 (hc : X.calm = true) : CallD nm X (.builtin "min") fnMin2 := by
  intro pins s σ H xs us Q I r h
  obtain ⟨ds, S, μ, E, rv, sm, p⟩ := h
  unfold fnMin2 at p
  split at p
  · obtain ⟨v, u, rfl, r1, r2⟩ := two_rv rv
    cases r1; cases r2
    exact call_min2 hc pins s σ H _ us Q I r ⟨_, _, rfl, p μ H .refl sm _ (.int _)⟩
  · obtain ⟨v, u, rfl, r1, r2⟩ := two_rv rv
    cases r1; cases r2
    obtain ⟨u, w', rfl, ⟨t, rfl⟩, ⟨t', rfl⟩⟩ := vals2 r
    rename_i a b
    refine min_two_str (I.ok.hd hc) fun h' tk k => ⟨.str (if ltS b a = true then b else a), H, I.kept k, ?_, p μ H .refl sm _ (.str _)⟩
    cases ltS b a
    · exact ⟨_, rfl⟩
    · exact ⟨_, rfl⟩
  · exact False.elim p
end
end BS
namespace BS
open PySem PySem.Spec PyProof.Rows L2
section
variable {nm : Nms} {X : Cx} {e : Expr} {me : EM} {pos : Pos}
def evalPs : List (EM × EM) → Ev → Store → R (List (D × D))
  | [], _, S => .ok [] S
  | p :: r, e, S => (p.1 e S).bind fun x S => (p.2 e S).bind fun y S => (evalPs r e S).bind fun ps S => .ok ((x, y) :: ps) S
def psNil : List (EM × EM) := []
def psCons (a b : EM) (r : List (EM × EM)) : List (EM × EM) := (a, b) :: r
def RVP (K : PySem.W.Frag) (H : Hp) (μ : List Addr) (vs : List (V × V)) (ds : List (D × D)) : Prop := Paired (fun p q => RV K H μ p.1 q.1 ∧ RV K H μ p.2 q.2) vs ds
structure MPs (nm : Nms) (X : Cx) (pos : Pos) (keys : List (Option Expr)) (values : List Expr) (ms : List (EM × EM)) : Prop where
  run : ∀ W, Takes X W → PPs X pos keys values (ms.map fun p => (rdE nm X W p.1, rdE nm X W p.2))
theorem mps_nil : MPs nm X pos [] [] psNil := ⟨fun W tk => pps_nil⟩
theorem mps_cons {k v : Expr} {ks : List (Option Expr)} {vs : List Expr} {mk mv : EM} {ms : List (EM × EM)} (hk : ME nm X k mk) (hv : ME nm X v mv) (hr : MPs nm X pos ks vs ms) : MPs nm X pos (some k :: ks) (v :: vs) (psCons mk mv ms) :=
  ⟨fun W tk => pps_cons (hk.run W tk) (hv.run W tk) (hr.run W tk)⟩
theorem tPairs_rd {W : WX} : ∀ (ms : List (EM × EM)) (σ : St) (H : Hp) (Q : List (V × V) → Hp → Prop), (∃ e S μ, EvR nm X H μ e σ ∧ Sim nm X.K X.mg μ S H ∧ PostX nm X W μ H σ (evalPs ms e S) fun ps S' μ' H' => ∀ vps, RVP X.K H' μ' vps ps → Q vps H') →
    tPairs (ms.map fun p => (rdE nm X W p.1, rdE nm X W p.2)) σ H Q
  | [], σ, H, Q, ⟨e, S, μ, E, s, p⟩ => p μ H .refl s [] .nil
  | m :: r, σ, H, Q, ⟨e, S, μ, E, s, p⟩ =>
    ⟨e, S, μ, E, s, (Post.bind p).mono fun d S1 μ1 H1 x1 s1 p1 v rv => ⟨e, S1, μ1, E.ext x1, s1, (Post.bind p1).mono fun d2 S2 μ2 H2 x2 s2 p2 u ru =>
      tPairs_rd r σ H2 _ ⟨e, S2, μ2, (E.ext x1).ext x2, s2, (Post.bind p2).mono fun ps S3 μ3 H3 x3 s3 p3 vps rps => p3 μ3 H3 .refl s3 _ (.cons ⟨(rv.ext x2).ext x3, ru.ext x3⟩ rps)⟩⟩⟩
def keysOf : List (D × D) → Option (List (Key × D))
  | [] => some []
  | p :: r => match keyOf p.1, keysOf r with
    | some k, some kvs => some ((k, p.2) :: kvs)
    | _, _ => none
theorem keysOf_rk {K : PySem.W.Frag} {H : Hp} {μ : List Addr} : ∀ {vps : List (V × V)} {ps : List (D × D)} {kvs : List (Key × D)}, RVP K H μ vps ps → keysOf ps = some kvs → ∃ ws : List (Key × V), vps = ws.map (fun kv => (kV kv.1, kv.2)) ∧ RK K H μ ws kvs
  | _, _, _, .nil, h => by cases h; exact ⟨[], rfl, .nil⟩
  | v :: vps, p :: ps, kvs, .cons r t, h => by
    unfold keysOf at h
    split at h
    · rename_i k kvs' hk hks
      cases h
      obtain ⟨ws, e1, r1⟩ := keysOf_rk t hks
      refine ⟨(k, v.2) :: ws, ?_, .cons ⟨rfl, r.2⟩ r1⟩
      rw [List.map_cons, ← e1, ← keyOf_kV r.1 hk]
    · cases h
def mergeD (kvs : List (Key × D)) : List (Key × D) := kvs.foldl (fun acc kv => putD acc kv.1 kv.2) []
theorem merge_rk {K : PySem.W.Frag} {H : Hp} {μ : List Addr} : ∀ {ws : List (Key × V)} {kvs : List (Key × D)} {acc : List (Key × V)} {acd : List (Key × D)}, RK K H μ ws kvs → RK K H μ acc acd → RK K H μ (ws.foldl (fun acc kv => putK acc kv.1 kv.2) acc) (kvs.foldl (fun acc kv => putD acc kv.1 kv.2) acd)
  | _, _, _, _, .nil, h => h
  | p :: ws, q :: kvs, acc, acd, .cons r t, h => by
    rw [List.foldl_cons, List.foldl_cons]
    refine merge_rk t ?_
    rw [← r.1]
    exact put_rk r.2 h
def mDisp (ms : List (EM × EM)) : EM := fun e S => (evalPs ms e (S ++ [.dct []])).bind fun ps S2 => match keysOf ps with
  | some kvs => match S2[S.length]? with
    | some (.dct []) => if kvs.length ≤ 15 then .ok (.obj S.length) (S2.set S.length (.dct (mergeD kvs))) else .stuck
    | _ => .stuck
  | none => .stuck
theorem me_disp {keys : List (Option Expr)} {values : List Expr} {ms : List (EM × EM)} (h : MPs nm X pos keys values ms) (hall : keys.all (·.isSome) = true := by rfl) (hl : keys.length = values.length := by rfl) (h0 : keys ≠ [] := by simp) (h15 : keys.length ≤ 15 := by decide) :
    ME nm X (.Dict keys values pos) (mDisp ms) := by
  refine ⟨fun W tk => (pe_disp (h.run W tk) hall hl h0 h15).imp fun σ H Q hh => ?_⟩
  obtain ⟨e, S, μ, E, s, p⟩ := hh
  intro q nq
  refine tPairs_rd ms σ _ _ ⟨e, S ++ [.dct []], μ ++ [q], E.ext (Ext.made s nq), made_dct s nq, ?_⟩
  refine (Post.ext (Ext.made s nq) (Post.bind p)).mono fun ps S2 μ2 H2 x2 s2 p1 vps rps => ?_
  split at p1
  · rename_i kvs hk
    split at p1
    · rename_i hS
      split at p1
      · rename_i h15
        have eq := x2.at (new_at s)
        obtain ⟨ys, e1, r1⟩ := s2.ob _ _ _ eq hS
        cases r1
        obtain ⟨ws, e2, r2⟩ := keysOf_rk rps hk
        refine ⟨e1, ws, e2, by rw [rk_len r2]; exact h15, ?_⟩
        have x := Ext.wrote (H := H2) (u := .dK (mergeK [] ws)) (List.mem_of_getElem? eq)
        exact p1 μ2 _ x (s2.wrote eq ⟨_, upd_same, RK.ext x (merge_rk r2 .nil)⟩) _ (.obj eq)
      · exact False.elim p1
    · exact False.elim p1
  · exact False.elim p1
def fnGet2 : FM := fun ds S => match ds with
  | [x, k, d] => match dctOf S x with
    | some kvs => match keyOf k with
      | some key => .ok ((getK kvs key).getD d) S
      | none => .stuck
    | none => .stuck
  | _ => .stuck
theorem t_get2 {k : Nat} (hr : L2H.RoomH k X.A) : MtD nm X "dict.get" fnGet2 := by
  intro pins s σ H x xs v us Q I rx r h
  obtain ⟨ds, S, μ, E, rv, sm, p⟩ := h
  unfold fnGet2 at p
  split at p
  · rename_i dx dk dd
    split at p
    · rename_i kvs hk
      split at p
      · rename_i key hkey
        obtain ⟨r1, rt⟩ := rvs_cons rv
        obtain ⟨y, z, rfl, r2, r3⟩ := two_rv rt
        obtain ⟨n, a, ys, rfl, rfl, _, _, e1, rk⟩ := dctOf_at sm r1 hk
        have ek := keyOf_kV r2 hkey
        subst ek
        cases rx
        obtain ⟨u, w', rfl, ru, rw'⟩ := vals2 r
        refine d_get2 (by have := hr.un; omega) I (DGet.k e1) ru rw' fun w2 s' I' rl => ⟨_, H, I', rl, ?_⟩
        rcases getK_val key rk with ⟨h1, h2⟩ | ⟨w3, d', h1, h2, h3⟩
        · rw [h1]; rw [h2] at p; exact p μ H .refl sm _ r3
        · rw [h1]; rw [h2] at p; exact p μ H .refl sm _ h3
      · exact False.elim p
    · exact False.elim p
  · exact False.elim p
def truS (S : Store) (d : D) : Option Bool := match d with
  | .non => some false
  | .bl b => some b
  | .int i => some (i != 0)
  | .str z => if z.length ≤ sizeLine then some ((z.length : Int) != 0) else none
  | _ => match seqOf S d with
    | some ds => some (!ds.isEmpty)
    | none => (dctOf S d).map fun kvs => !kvs.isEmpty
theorem emp_rvs {K : PySem.W.Frag} {H : Hp} {μ : List Addr} {xs : List V} {ds : List D} (r : RVs K H μ xs ds) : (!ds.isEmpty) = !xs.isEmpty := by
  cases r <;> rfl
theorem tru_of {S : Store} {μ : List Addr} {H : Hp} {v : V} {d : D} {b : Bool} (s : Sim nm X.K X.mg μ S H) (r : RV X.K H μ v d) (h : truS S d = some b) : TruV X.K v H b := by
  unfold truS at h
  split at h
  · cases h; cases r; exact (rfl : (false : Bool) = false)
  · cases h; cases r; exact (rfl : _ = _)
  · cases h; cases r; exact (rfl : _ = _)
  · split at h
    · cases h; cases r; exact ⟨by assumption, rfl⟩
    · cases h
  · split at h
    · rename_i ds hds
      cases h
      obtain ⟨a, xs, rfl, hs, rr⟩ := seqOf_sq s r hds
      rcases hs with hs | hs
      · exact .inl ⟨xs, hs, emp_rvs rr⟩
      · exact .inr (.inl ⟨xs, hs, emp_rvs rr⟩)
    · obtain ⟨kvs, hk, rfl⟩ := Option.map_eq_some_iff.mp h
      obtain ⟨n, a, ys, rfl, rfl, _, _, e1, rk⟩ := dctOf_at s r hk
      exact .inr (.inr ⟨ys, e1, by cases rk <;> rfl⟩)
def mTru (m : EM) : TM := fun e S => (m e S).bind fun d S => match truS S d with
  | some b => .ok b S
  | none => .stuck
theorem mt_tru {e : Expr} {m : EM} (h : ME nm X e m) (he : ∀ whole, isTrue e X.env whole = (do let v ← whole; standAt e.pos; holding [v] (truthy v)) := by intro _; rfl) : MT nm X e (mTru m) := by
  refine ⟨fun W tk => (pt_truth (h.run W tk) he).imp fun σ H Q hh => ?_⟩
  obtain ⟨e, S, μ, E, s, p⟩ := hh
  refine ⟨e, S, μ, E, s, (Post.bind p).mono fun d S1 μ1 H1 x1 s1 p1 v rv => ?_⟩
  split at p1
  · rename_i b hb
    exact ⟨b, tru_of s1 rv hb, p1 μ1 H1 .refl s1⟩
  · exact False.elim p1
/-- what a table holds: constants -/
def TV (p : Key × D) (q : Key × Value) : Prop := p.1 = q.1 ∧ ∃ v, RelV v q.2 ∧ ∀ K H μ, RV K H μ v p.2
def TC (P : Program) (w : World) (K : PySem.W.Frag) (mg : Str → Option Value) (x : Str) (kvs : List (Key × D)) : Prop :=
  ∃ (a : Addr) (o : Obj) (es : Array DictEntry) (ep : Nat) (vs : List (Key × Value)), mg x = some (.ref a) ∧ K.lookup a = some o ∧ (a == sysModules) = false ∧ o.ExactDict ∧ o.data = .dict es ep ∧ KeysOf (mixKind P w) es ∧ Pairs (mixKind P w) es.toList vs ∧ (vs.map (·.1)).Nodup ∧ Paired TV kvs vs
theorem tv_get : ∀ {kvs : List (Key × D)} {vs : List (Key × Value)} (k : Key), Paired TV kvs vs → (getK kvs k = none ∧ valueAt vs k = none) ∨ ∃ d v u, getK kvs k = some d ∧ valueAt vs k = some u ∧ RelV v u ∧ ∀ K H μ, RV K H μ v d
  | _, _, k, .nil => .inl ⟨rfl, rfl⟩
  | p :: kvs, q :: vs, k, .cons r t => by
    obtain ⟨e, v, r1, r2⟩ := r
    by_cases h : p.1 = k
    · refine .inr ⟨p.2, v, q.2, ?_, ?_, r1, r2⟩
      · simp [getK, h]
      · simp [valueAt, ← e, h]
    · rcases tv_get k t with ⟨h1, h2⟩ | ⟨d, v', u, h1, h2, h3⟩
      · refine .inl ⟨?_, ?_⟩
        · simp only [getK, List.find?_cons, decide_eq_false h] at h1 ⊢; exact h1
        · have h' : ¬ q.1 = k := fun z => h (e.trans z)
          simp only [valueAt, List.find?_cons, decide_eq_false h'] at h2 ⊢; exact h2
      · refine .inr ⟨d, v', u, ?_, ?_, h3⟩
        · simp only [getK, List.find?_cons, decide_eq_false h] at h1 ⊢; exact h1
        · have h' : ¬ q.1 = k := fun z => h (e.trans z)
          simp only [valueAt, List.find?_cons, decide_eq_false h'] at h2 ⊢; exact h2
theorem tab_dict {K : PySem.W.Frag} {a : Addr} {o : Obj} {es : Array DictEntry} {ep : Nat} {vs : List (Key × Value)} {pins : List (Addr × Obj)} {σ : St} {H : Hp} {s : Shared} (I : Inv X pins σ H s) (hk : X.K.lookup a = some o) (h1 : o.ExactDict) (h2 : o.data = .dict es ep) (h3 : KeysOf (mixKind X.prog X.w) es) (h4 : Pairs (mixKind X.prog X.w) es.toList vs) (h5 : (vs.map (·.1)).Nodup) :
    s.heap.DictOf (mixKind X.prog X.w) a vs := ⟨o, es, ep, I.kIn a o hk, h1, h2, h3, h4, h5⟩
def mTabIn (neg : Bool) (kvs : List (Key × D)) (m : EM) : TM := fun e S => (m e S).bind fun d S => match keyOf d with
  | some k => .ok (if neg = true then !(getK kvs k).isSome else (getK kvs k).isSome) S
  | none => .stuck
theorem tabin_core {neg : Bool} {op : CmpOp} (hop : op = if neg = true then .NotIn else .In) {kvs : List (Key × D)} {a : Addr} {o : Obj} {es : Array DictEntry} {ep : Nat} {vs : List (Key × Value)} (hk : X.K.lookup a = some o) (hs : (a == sysModules) = false) (h1 : o.ExactDict) (h2 : o.data = .dict es ep) (h3 : KeysOf (mixKind X.prog X.w) es) (h4 : Pairs (mixKind X.prog X.w) es.toList vs) (h5 : (vs.map (·.1)).Nodup) (tv : Paired TV kvs vs) :
    OpR X (compareOp op) (fun x y H Q => y = .ref a ∧ ∃ k, x = kV k ∧ Q (.bl (if neg = true then !(getK kvs k).isSome else (getK kvs k).isSome)) H) := by
  intro pins s σ H x y v u Q I rx ry h
  obtain ⟨rfl, k, rfl, q⟩ := h
  cases ry
  have dd := tab_dict (K := X.K) I hk h1 h2 h3 h4 h5
  have e : (valueAt vs k).isSome = (getK kvs k).isSome := by
    rcases tv_get k tv with ⟨e1, e2⟩ | ⟨d, v', u, e1, e2, _⟩ <;> rw [e1, e2] <;> rfl
  subst hop
  cases neg with
  | true => exact wpAny_notIn_of (kV_is rx) hs dd.mapOf ⟨.bl _, H, I.tok _, rfl, by rw [e]; exact q⟩
  | false => exact wpAny_in_of (kV_is rx) hs dd.mapOf ⟨.bl _, H, I.tok _, rfl, by rw [e]; exact q⟩
theorem tabin_rd {neg : Bool} {kvs : List (Key × D)} {a : Addr} {W : WX} {σ : St} {H : Hp} {Q : Bool → Hp → Prop} (hh : rdT nm X W (mTabIn neg kvs me) σ H Q) :
    tTest (tOp (fun x y H Q => y = .ref a ∧ ∃ k, x = kV k ∧ Q (.bl (if neg = true then !(getK kvs k).isSome else (getK kvs k).isSome)) H) (rdE nm X W me) fun _ H Q => Q (.ref a) H) σ H Q := by
  obtain ⟨e, S, μ, E, s, p⟩ := hh
  refine ⟨e, S, μ, E, s, (Post.bind p).mono fun d S1 μ1 H1 x1 s1 p1 v rv => ?_⟩
  split at p1
  · rename_i k hk
    exact ⟨rfl, k, keyOf_kV rv hk, _, rfl, p1 μ1 H1 .refl s1⟩
  · exact False.elim p1
theorem mt_tabinN {k : Nat} {x : Str} {p : Pos} {kvs : List (Key × D)} (_ : L2H.RoomH k X.A) (h : TC X.prog X.w X.K X.mg x kvs) (hg : GlN X x) (he : ME nm X e me) (hm : behindInMarks .NotIn (.Name x p) = false := by rfl) : MT nm X (.Compare e [.NotIn] [.Name x p] pos) (mTabIn true kvs me) := by
  obtain ⟨a, o, es, ep, vs, h1, h2, h3, h4, h5, h6, h7, h8, h9⟩ := h
  exact ⟨fun W tk => (pt_cmpR (tabin_core (neg := true) rfl h2 h3 h4 h5 h6 h7 h8 h9) (he.run W tk) (pe_glob (v := .ref a) hg.g h1 rfl hg.d) hm).imp fun σ H Q hh => tabin_rd hh⟩
theorem mt_tabin {k : Nat} {x : Str} {p : Pos} {kvs : List (Key × D)} (_ : L2H.RoomH k X.A) (h : TC X.prog X.w X.K X.mg x kvs) (hg : GlN X x) (he : ME nm X e me) (hm : behindInMarks .In (.Name x p) = false := by rfl) : MT nm X (.Compare e [.In] [.Name x p] pos) (mTabIn false kvs me) := by
  obtain ⟨a, o, es, ep, vs, h1, h2, h3, h4, h5, h6, h7, h8, h9⟩ := h
  exact ⟨fun W tk => (pt_cmpR (tabin_core (neg := false) rfl h2 h3 h4 h5 h6 h7 h8 h9) (he.run W tk) (pe_glob (v := .ref a) hg.g h1 rfl hg.d) hm).imp fun σ H Q hh => tabin_rd hh⟩
def mTabGet (kvs : List (Key × D)) (m : EM) : EM := fun e S => (m e S).bind fun d S => match keyOf d with
  | some k => match getK kvs k with
    | some d => .ok d S
    | none => .stuck
  | none => .stuck
theorem me_tabget {k : Nat} {x : Str} {p : Pos} {kvs : List (Key × D)} (hr : L2H.RoomH k X.A) (h : TC X.prog X.w X.K X.mg x kvs) (hg : GlN X x) (he : ME nm X e me) (hs : PlainIx e := by exact fun _ _ => rfl) : ME nm X (.Subscript (.Name x p) e pos) (mTabGet kvs me) := by
  obtain ⟨a, o, es, ep, vs, h1, h2, h3, h4, h5, h6, h7, h8, h9⟩ := h
  refine ⟨fun W tk => ⟨fun pins s σ H Q I hh => ?_⟩⟩
  obtain ⟨ev, S, μ, E, sm, p⟩ := hh
  refine Subscript_ (thn ((pe_glob (v := .ref a) hg.g h1 rfl hg.d).run pins s σ H (fun x H1 => x = .ref a ∧ H1 = H) I ⟨rfl, rfl⟩) fun v s1 ⟨x, H1, I1, r1, q1⟩ => ?_)
  obtain ⟨rfl, rfl⟩ := q1
  cases r1
  refine thn ((he.run W tk).run pins s1 σ H1 (fun y H2 => ∃ key u v, y = kV key ∧ valueAt vs key = some u ∧ RelV v u ∧ Q v H2) I1 ⟨ev, S, μ, E, sm, (Post.bind p).mono fun d S1 μ1 H2 x1 s2 p1 v rv => ?_⟩) fun u s2 ⟨y, H2, I2, r2, q2⟩ => ?_
  · split at p1
    · rename_i key hk
      split at p1
      · rename_i d' hd
        rcases tv_get key h9 with ⟨e1, e2⟩ | ⟨d2, v', u, e1, e2, e3, e4⟩
        · rw [e1] at hd; cases hd
        · rw [e1] at hd; cases hd
          exact ⟨key, u, v', keyOf_kV rv hk, e2, e3, p1 μ1 H2 .refl s2 _ (e4 _ _ _)⟩
      · exact False.elim p1
    · exact False.elim p1
  · obtain ⟨key, u', v', rfl, e2, e3, q⟩ := q2
    have dd := tab_dict (K := X.K) I2 h2 h4 h5 h6 h7 h8
    exact dict_tail dd.typeIs (hs _ _) (wpAny_getItem_of (kV_is r2) dd.mapOf e2 ⟨v', H2, I2.tok _, e3, q⟩)
def lvOf (S : Store) (d : D) : Option (List D) := match d with
  | .lst ds => some ds
  | .obj n => match S[n]? with
    | some (.lst ds) => some ds
    | _ => none
  | _ => none
theorem lv_at {K : PySem.W.Frag} {mg : Str → Option Value} {H : Hp} {μ : List Addr} {S : Store} {v : V} {d : D} {ds : List D} (s : Sim nm K mg μ S H) (r : RV K H μ v d) (h : lvOf S d = some ds) : ∃ a xs, v = .ref a ∧ H a = some (.lst xs) ∧ RVs K H μ xs ds := by
  unfold lvOf at h
  split at h
  · cases h; cases r with | lst t r => exact ⟨_, _, rfl, t.2, r⟩
  · split at h
    · rename_i hds
      cases h
      cases r with | obj e =>
        obtain ⟨xs, e1, r⟩ := s.ob _ _ _ e hds
        exact ⟨_, xs, rfl, e1, r⟩
    · cases h
  · cases h
def catS (new : Bool) (S : Store) (x y : D) : R D := match lvOf S x with
  | some xs => match lvOf S y with
    | some ys => if xs.length + ys.length ≤ sizeLine then fin new (xs ++ ys) S else .stuck
    | none => .stuck
  | none => .stuck
def mCat (new : Bool) (a b : EM) : EM := fun e S => (a e S).bind fun x S => (b e S).bind fun y S => catS new S x y
theorem me_cat (new : Bool) {a b : Expr} {ma mb : EM} (ha : ME nm X a ma) (hb : ME nm X b mb) : ME nm X (.BinOp a .Add b pos) (mCat new ma mb) := by
  refine ⟨fun W tk => (pe_op op_cat (ha.run W tk) (hb.run W tk)).imp fun σ H Q h => ?_⟩
  obtain ⟨e, S, μ, E, s, p⟩ := h
  refine ⟨e, S, μ, E, s, (Post.bind p).mono fun dx S1 μ1 H1 x1 s1 p1 v rv => ?_⟩
  refine ⟨e, S1, μ1, E.ext x1, s1, (Post.bind p1).mono fun dy S2 μ2 H2 x2 s2 p2 u ru => ?_⟩
  have rv := rv.ext x2
  unfold catS at p2
  split at p2
  · rename_i xs hx
    split at p2
    · rename_i ys hy
      split at p2
      · rename_i hl
        obtain ⟨a, vs, rfl, e1, r1⟩ := lv_at s2 rv hx
        obtain ⟨b, us, rfl, e2, r2⟩ := lv_at s2 ru hy
        exact ⟨a, b, vs, us, rfl, rfl, e1, e2, by rw [r1.length, r2.length]; exact hl, fun p np => fin_post s2 (r1.append r2) np p2⟩
      · exact False.elim p2
    · exact False.elim p2
  · exact False.elim p2
theorem rvs_rep {K : PySem.W.Frag} {H : Hp} {μ : List Addr} {xs : List V} {ds : List D} (r : RVs K H μ xs ds) : ∀ n : Nat, RVs K H μ (List.replicate n xs).flatten (List.replicate n ds).flatten
  | 0 => .nil
  | n + 1 => by
    rw [List.replicate_succ, List.replicate_succ, List.flatten_cons, List.flatten_cons]
    exact r.append (rvs_rep r n)
def repS (new : Bool) (S : Store) (x y : D) : R D := match y with
  | .int k => match lvOf S x with
    | some xs => if -(2 ^ 63) ≤ k ∧ k < 2 ^ 63 ∧ xs.length * k.toNat ≤ sizeLine then fin new (List.replicate k.toNat xs).flatten S else .stuck
    | none => .stuck
  | _ => .stuck
def mRep (new : Bool) (a b : EM) : EM := fun e S => (a e S).bind fun x S => (b e S).bind fun y S => repS new S x y
theorem me_rep (new : Bool) {a b : Expr} {ma mb : EM} (ha : ME nm X a ma) (hb : ME nm X b mb) : ME nm X (.BinOp a .Mult b pos) (mRep new ma mb) := by
  refine ⟨fun W tk => (pe_op op_rep (ha.run W tk) (hb.run W tk)).imp fun σ H Q h => ?_⟩
  obtain ⟨e, S, μ, E, s, p⟩ := h
  refine ⟨e, S, μ, E, s, (Post.bind p).mono fun dx S1 μ1 H1 x1 s1 p1 v rv => ?_⟩
  refine ⟨e, S1, μ1, E.ext x1, s1, (Post.bind p1).mono fun dy S2 μ2 H2 x2 s2 p2 u ru => ?_⟩
  have rv := rv.ext x2
  unfold repS at p2
  split at p2
  · rename_i k
    split at p2
    · rename_i xs hx
      split at p2
      · rename_i hl
        obtain ⟨a, vs, rfl, e1, r1⟩ := lv_at s2 rv hx
        cases ru
        exact ⟨a, k, vs, rfl, rfl, e1, hl.1, hl.2.1, by rw [r1.length]; exact hl.2.2, fun p np => fin_post s2 (rvs_rep r1 _) np p2⟩
      · exact False.elim p2
    · exact False.elim p2
  · exact False.elim p2
/-- a table, from its entries -/
theorem tc_mk {P : Program} {w : World} {K : PySem.W.Frag} {mg : Str → Option Value} {x : Str} {a : Addr} {ep : Nat} {es : Array DictEntry} {L : List (Key × Value × Value)} {kvs : List (Key × D)} (g : mg x = some (.ref a)) (l : K.lookup a = some ⟨.type "dict", none, .dict es ep, #[]⟩)
    (he : es = (L.map fun x => (⟨keyH w x.1, x.2.1, x.2.2⟩ : DictEntry)).toArray) (z : (a == sysModules) = false) (hk : ∀ x ∈ L, keyIs x.1 x.2.1 = true) (nd : (L.map (·.1)).Nodup) (tv : Paired TV kvs (L.map fun x => (x.1, x.2.2))) : TC P w K mg x kvs := by
  subst he
  refine ⟨a, _, _, ep, L.map fun x => (x.1, x.2.2), g, l, z, ⟨rfl, rfl, rfl⟩, rfl, fun e h => ?_, ?_, by rw [List.map_map]; exact nd, tv⟩
  · have h' : e ∈ L.map fun x => (⟨keyH w x.1, x.2.1, x.2.2⟩ : DictEntry) := by simpa using h
    obtain ⟨q, hq, rfl⟩ := List.mem_map.mp h'
    exact ⟨q.1, hk q hq, rfl⟩
  · have : ∀ M : List (Key × Value × Value), (∀ x ∈ M, keyIs x.1 x.2.1 = true) → Pairs (mixKind P w) (M.map fun x => (⟨keyH w x.1, x.2.1, x.2.2⟩ : DictEntry)) (M.map fun x => (x.1, x.2.2)) := by
      intro M
      induction M with
      | nil => intro _; exact .nil
      | cons q M ih => intro hM; exact .cons (hM q (by simp)) rfl (ih fun x hx => hM x (by simp [hx]))
    exact this L hk
theorem tv_int {k : Key} {i : Int} {t : Tok} : TV (k, .int i) (k, .int i t) := ⟨rfl, .int i, ⟨t, rfl⟩, fun _ _ _ => .int i⟩
theorem tv_str {k : Key} {i : Str} {t : Tok} : TV (k, .str i) (k, .str i t) := ⟨rfl, .str i, ⟨t, rfl⟩, fun _ _ _ => .str i⟩
end
end BS
namespace BS
open PySem PySem.Spec PyProof.Rows L2
@[simp] theorem mVar_ev (i : Nat) (e : Ev) (S : Store) : mVar i e S = match e.sl[i]? with
  | some (some d) => .ok d S
  | _ => .stuck := rfl
@[simp] theorem mC_ev (d : D) (z0 : Ev) (S : Store) : mC d z0 S = .ok d S := rfl
@[simp] theorem mBin_ev (f : Store → D → D → Option D) (a b : EM) (e : Ev) (S : Store) : mBin f a b e S = (a e S).bind fun x S => (b e S).bind fun y S => lift2 f S x y := rfl
@[simp] theorem mUn_ev (f : Store → D → Option D) (a : EM) (e : Ev) (S : Store) : mUn f a e S = (a e S).bind fun x S => match f S x with
  | some d => .ok d S
  | none => .stuck := rfl
@[simp] theorem mBl_ev (m : EM) (e : Ev) (S : Store) : mBl m e S = (m e S).bind fun d S => match asB d with
  | some b => .ok b S
  | none => .stuck := rfl
@[simp] theorem mChain_ev (f g : Store → D → D → Option D) (a b c : EM) (e : Ev) (S : Store) : mChain f g a b c e S = (a e S).bind fun x S => (b e S).bind fun y S => (lift2 f S x y).bind fun z S => match asB z with
  | some true => (c e S).bind fun w S => lift2 g S y w
  | some false => .ok (.bl false) S
  | none => .stuck := rfl
@[simp] theorem mAnd_ev (a b : TM) (e : Ev) (S : Store) : mAnd a b e S = (a e S).bind fun k S => if k = true then b e S else .ok false S := rfl
@[simp] theorem mOr_ev (a b : TM) (e : Ev) (S : Store) : mOr a b e S = (a e S).bind fun k S => if k = true then .ok true S else b e S := rfl
@[simp] theorem mNot_ev (a : TM) (e : Ev) (S : Store) : mNot a e S = (a e S).bind fun k S => .ok (!k) S := rfl
@[simp] theorem mAndV_ev (a b : EM) (e : Ev) (S : Store) : mAndV a b e S = (a e S).bind fun d S => match asB d with
  | some true => b e S
  | some false => .ok (.bl false) S
  | none => .stuck := rfl
@[simp] theorem mOrV_ev (a b : EM) (e : Ev) (S : Store) : mOrV a b e S = (a e S).bind fun d S => match asB d with
  | some false => b e S
  | some true => .ok (.bl true) S
  | none => .stuck := rfl
@[simp] theorem mNotV_ev (a : EM) (e : Ev) (S : Store) : mNotV a e S = (a e S).bind fun d S => match asB d with
  | some k => .ok (.bl (!k)) S
  | none => .stuck := rfl
@[simp] theorem mIf_ev (c : TM) (a b : EM) (e : Ev) (S : Store) : mIf c a b e S = (c e S).bind fun k S => if k = true then a e S else b e S := rfl
@[simp] theorem mNil_ev (z0 : Ev) (S : Store) : mNil z0 S = .ok [] S := rfl
@[simp] theorem mCons_ev (m : EM) (r : AM) (e : Ev) (S : Store) : mCons m r e S = (m e S).bind fun d S => (r e S).bind fun ds S => .ok (d :: ds) S := rfl
@[simp] theorem mTup_ev (m : AM) (e : Ev) (S : Store) : mTup m e S = (m e S).bind fun ds S => .ok (.tup ds) S := rfl
@[simp] theorem mLst_ev (new : Bool) (m : AM) (e : Ev) (S : Store) : mLst new m e S = (m e S).bind fun ds S => fin new ds S := rfl
@[simp] theorem mDct_ev (z0 : Ev) (S : Store) : mDct z0 S = .ok (.obj S.length) (S ++ [.dct []]) := rfl
@[simp] theorem oNo_ev (z0 : Ev) (S : Store) : oNo z0 S = .ok none S := rfl
@[simp] theorem oAt_ev (m : EM) (e : Ev) (S : Store) : oAt m e S = (m e S).bind fun d S => match d with
  | .int i => .ok (some i) S
  | _ => .stuck := rfl
@[simp] theorem mSl_ev (new : Bool) (a : EM) (lo hi : OM) (e : Ev) (S : Store) : mSl new a lo hi e S = (a e S).bind fun x S => (lo e S).bind fun l S => (hi e S).bind fun h S => slS new S x l h := rfl
@[simp] theorem mCall_ev (F : FM) (as : AM) (e : Ev) (S : Store) : mCall F as e S = (as e S).bind F := rfl
@[simp] theorem mMeth_ev (c : Nat) (F : FM) (o : EM) (as : AM) (e : Ev) (S : Store) : mMeth c F o as e S = (o e S).bind fun x S => if isIns c S x = true then (as e S).bind fun ds S => F (x :: ds) S else .stuck := rfl
@[simp] theorem mNew_ev (c : Nat) (F : FM) (as : AM) (e : Ev) (S : Store) : mNew c F as e S = (as e S).bind fun ds S => (F (.obj S.length :: ds) (S ++ [.ins c []])).bind fun d S' => if isNon d = true then .ok (.obj S.length) S' else .stuck := rfl
@[simp] theorem mSkip_ev (e : Ev) (S : Store) : mSkip e S = .nx e S := rfl
@[simp] theorem mSeq_ev (a b : SM) (e : Ev) (S : Store) : mSeq a b e S = (a e S).seq b := rfl
@[simp] theorem mBrk_ev (e : Ev) (S : Store) : mBrk e S = .bk e S := rfl
@[simp] theorem mCnt_ev (e : Ev) (S : Store) : mCnt e S = .ct e S := rfl
@[simp] theorem mExpr_ev (m : EM) (e : Ev) (S : Store) : mExpr m e S = (m e S).toS e fun _ S => .nx e S := rfl
@[simp] theorem mRet_ev (m : EM) (e : Ev) (S : Store) : mRet m e S = (m e S).toS e fun d S => .rt d S := rfl
@[simp] theorem mRetN_ev (z0 : Ev) (S : Store) : mRetN z0 S = .rt .non S := rfl
@[simp] theorem mIfS_ev (c : TM) (a b : SM) (e : Ev) (S : Store) : mIfS c a b e S = (c e S).toS e fun k S => if k = true then a e S else b e S := rfl
@[simp] theorem gNm_ev (i : Nat) (d : D) (e : Ev) (S : Store) : gNm i d e S = .nx (e.set i d) S := rfl
@[simp] theorem gTp_ev (n : Nat) (g : GsM) (d : D) (e : Ev) (S : Store) : gTp n g d e S = match tupOf d with
  | some ds => if ds.length = n then g ds e S else .stuck
  | none => .stuck := rfl
@[simp] theorem mAsg_ev (m : EM) (g : GM) (e : Ev) (S : Store) : mAsg m g e S = (m e S).toS e fun d S => g d e S := rfl
@[simp] theorem mPar_ev (i j : Nat) (m : AM) (e : Ev) (S : Store) : mPar i j m e S = (m e S).toS e fun ds S => match ds with
  | [a, b] => .nx ((e.set i a).set j b) S
  | _ => .stuck := rfl
@[simp] theorem mSetF_ev (cs : List Nat) (f : Nat) (o m : EM) (e : Ev) (S : Store) : mSetF cs f o m e S = (m e S).toS e fun y S => (o e S).toS e fun x S => match putF_ cs f S x y with
  | some S => .nx e S
  | none => .stuck := rfl
@[simp] theorem iLs_ev (m : EM) (e : Ev) (S : Store) : iLs m e S = (m e S).bind fun x S => wkS S x := rfl
@[simp] theorem iTp_ev (m : EM) (e : Ev) (S : Store) : iTp m e S = (m e S).bind fun x S => match tupOf x with
  | some ds => .ok ⟨ds, fun _ => True⟩ S
  | none => .stuck := rfl
@[simp] theorem iRng_ev (as : AM) (e : Ev) (S : Store) : iRng as e S = (as e S).bind fun ds S => match ds with
  | [.int j] => if rngOk j then .ok ⟨intsFrom 0 j.toNat, fun _ => True⟩ S else .stuck
  | [.int i, .int j] => if rngOk i ∧ rngOk j then .ok ⟨intsFrom i (j - i).toNat, fun _ => True⟩ S else .stuck
  | _ => .stuck := rfl
@[simp] theorem mFor_ev (it : IM) (g : GM) (b : SM) (e : Ev) (S : Store) : mFor it g b e S = (it e S).toS e fun w S => forL w.G g b w.ds e S := rfl
@[simp] theorem gSb_ev (o i : EM) (v : D) (e : Ev) (S : Store) : gSb o i v e S = (o e S).toS e fun x S => (i e S).toS e fun y S => match setS S x y v with
  | some S => .nx e S
  | none => .stuck := rfl
@[simp] theorem mAug_ev (i : Nat) (f : Store → D → D → Option D) (m : EM) (e : Ev) (S : Store) : mAug i f m e S = match e.sl[i]? with
  | some (some x) => (m e S).toS e fun y S => (lift2 f S x y).toS e fun z S => .nx (e.set i z) S
  | _ => .stuck := rfl
@[simp] theorem mAugF_ev (c : Nat) (f : Nat) (g : Store → D → D → Option D) (o m : EM) (e : Ev) (S : Store) : mAugF c f g o m e S = (o e S).toS e fun x S => match getF [c] f S x with
  | some y => (m e S).toS e fun z S => (lift2 g S y z).toS e fun w S => match putF_ [c] f S x w with
    | some S => .nx e S
    | none => .stuck
  | none => .stuck := rfl
@[simp] theorem mDel_ev (o i : EM) (e : Ev) (S : Store) : mDel o i e S = (o e S).toS e fun x S => (i e S).toS e fun y S => match delS S x y with
  | some S => .nx e S
  | none => .stuck := rfl
@[simp] theorem mRaise0_ev (c : Nat) (e : Ev) (S : Store) : mRaise0 c e S = .exc c [] e S := rfl
@[simp] theorem mNever_ev (z0 : Ev) (z1 : Store) : mNever z0 z1 = .stuck := rfl
@[simp] theorem mTry_ev (yes no : List Nat) (b s : SM) (e : Ev) (S : Store) : mTry yes no b s e S = (b e.clr S).caught yes no fun _ _ e S => (s e S).nox := rfl
@[simp] theorem mTryAs_ev (i : Nat) (yes no : List Nat) (b s : SM) (e : Ev) (S : Store) : mTryAs i yes no b s e S = (b e.clr S).caught yes no fun c fs e S => if i < e.sl.length then (s (e.exn i c fs) S).gone i else .stuck := rfl
@[simp] theorem fnInt_ev (ds : List D) (S : Store) : fnInt ds S = match ds with
  | [.int i] => .ok (.int i) S
  | [.bl b] => .ok (.int (if b = true then 1 else 0)) S
  | [.str a] => match PySem.intText? a with
    | some n => if a.length ≤ 640 then .ok (.int n) S else .stuck
    | none => .stuck
  | _ => .stuck := rfl
@[simp] theorem fnLen_ev (ds : List D) (S : Store) : fnLen ds S = match ds with
  | [d] => match lenS S d with
    | some n => .ok (.int n) S
    | none => .stuck
  | _ => .stuck := rfl
@[simp] theorem fnList_ev (new : Bool) (ds : List D) (S : Store) : fnList new ds S = match ds with
  | [d] => match seqOf S d with
    | some ds => fin new ds S
    | none => .stuck
  | _ => .stuck := rfl
@[simp] theorem fnTuple_ev (ds : List D) (S : Store) : fnTuple ds S = match ds with
  | [.tup ds] => .ok (.tup ds) S
  | [d] => match lstOf S d with
    | some ds => .ok (.tup ds) S
    | none => .stuck
  | _ => .stuck := rfl
@[simp] theorem fnAbs_ev (ds : List D) (S : Store) : fnAbs ds S = match ds with
  | [.int i] => .ok (.int (if i < 0 then -i else i)) S
  | _ => .stuck := rfl
@[simp] theorem fnStr_ev (ds : List D) (S : Store) : fnStr ds S = match ds with
  | [.int i] => if i.natAbs.log2 < 1920 then .ok (.str (Str.ofString (toString i))) S else .stuck
  | _ => .stuck := rfl
@[simp] theorem fnOrd_ev (ds : List D) (S : Store) : fnOrd ds S = match ds with
  | [.str z] => if z.length = 1 then .ok (.int (z.cps.getD 0 0 : Nat)) S else .stuck
  | _ => .stuck := rfl
@[simp] theorem mBm_ev (T : Ty) (F : FM) (o : EM) (as : AM) (e : Ev) (S : Store) : mBm T F o as e S = (o e S).bind fun x S => match tyS S x with
  | some t => if isTy t T = true then (as e S).bind fun ds S => F (x :: ds) S else .stuck
  | none => .stuck := rfl
@[simp] theorem fnAppend_ev (ds : List D) (S : Store) : fnAppend ds S = match ds with
  | [.obj n, d] => match S[n]? with
    | some (.lst ds) => if ds.length < sizeLine then .ok .non (S.set n (.lst (ds ++ [d]))) else .stuck
    | _ => .stuck
  | _ => .stuck := rfl
@[simp] theorem fnExtend_ev (ds : List D) (S : Store) : fnExtend ds S = match ds with
  | [.obj n, d] => match S[n]? with
    | some (.lst ds) => match d with
      | .scr _ => .stuck
      | _ => match lstOf S d with
        | some es => if ds.length + es.length ≤ sizeLine then .ok .non (S.set n (.lst (ds ++ es))) else .stuck
        | none => .stuck
    | _ => .stuck
  | _ => .stuck := rfl
@[simp] theorem fnPopL_ev (ds : List D) (S : Store) : fnPopL ds S = match ds with
  | [.obj n, .int i] => match S[n]? with
    | some (.lst ds) => match ixN ds.length i with
      | some k => match ds[k]? with
        | some d => if i < 2 ^ 62 then .ok d (S.set n (.lst (ds.eraseIdx k))) else .stuck
        | none => .stuck
      | none => .stuck
    | _ => .stuck
  | _ => .stuck := rfl
@[simp] theorem mXf_ev (i c f : Nat) (e : Ev) (S : Store) : mXf i c f e S = match getX e.ex i c f with
  | some d => .ok d S
  | none => .stuck := rfl
@[simp] theorem mRaise2_ev (c f1 f2 : Nat) (as : AM) (e : Ev) (S : Store) : mRaise2 c f1 f2 as e S = (as e S).toS e fun ds S => match ds with
  | [x, y] => .exc c [(f2, y), (f1, x)] e S
  | _ => .stuck := rfl
@[simp] theorem iAny_ev (m : EM) (e : Ev) (S : Store) : iAny m e S = (m e S).bind fun x S => wkA S x := rfl
@[simp] theorem fnMax2_ev (ds : List D) (S : Store) : fnMax2 ds S = match ds with
  | [.int i, .int j] => .ok (.int (if i < j then j else i)) S
  | [.str a, .str b] => .ok (.str (if ltS a b = true then b else a)) S
  | _ => .stuck := rfl
@[simp] theorem fnMin2_ev (ds : List D) (S : Store) : fnMin2 ds S = match ds with
  | [.int i, .int j] => .ok (.int (if j < i then j else i)) S
  | [.str a, .str b] => .ok (.str (if ltS b a = true then b else a)) S
  | _ => .stuck := rfl
@[simp] theorem mDisp_ev (ms : List (EM × EM)) (e : Ev) (S : Store) : mDisp ms e S = (evalPs ms e (S ++ [.dct []])).bind fun ps S2 => match keysOf ps with
  | some kvs => match S2[S.length]? with
    | some (.dct []) => if kvs.length ≤ 15 then .ok (.obj S.length) (S2.set S.length (.dct (mergeD kvs))) else .stuck
    | _ => .stuck
  | none => .stuck := rfl
@[simp] theorem fnGet2_ev (ds : List D) (S : Store) : fnGet2 ds S = match ds with
  | [x, k, d] => match dctOf S x with
    | some kvs => match keyOf k with
      | some key => .ok ((getK kvs key).getD d) S
      | none => .stuck
    | none => .stuck
  | _ => .stuck := rfl
@[simp] theorem mTru_ev (m : EM) (e : Ev) (S : Store) : mTru m e S = (m e S).bind fun d S => match truS S d with
  | some b => .ok b S
  | none => .stuck := rfl
@[simp] theorem mTabIn_ev (neg : Bool) (kvs : List (Key × D)) (m : EM) (e : Ev) (S : Store) : mTabIn neg kvs m e S = (m e S).bind fun d S => match keyOf d with
  | some k => .ok (if neg = true then !(getK kvs k).isSome else (getK kvs k).isSome) S
  | none => .stuck := rfl
@[simp] theorem mTabGet_ev (kvs : List (Key × D)) (m : EM) (e : Ev) (S : Store) : mTabGet kvs m e S = (m e S).bind fun d S => match keyOf d with
  | some k => match getK kvs k with
    | some d => .ok d S
    | none => .stuck
  | none => .stuck := rfl
@[simp] theorem mCat_ev (new : Bool) (a b : EM) (e : Ev) (S : Store) : mCat new a b e S = (a e S).bind fun x S => (b e S).bind fun y S => catS new S x y := rfl
@[simp] theorem mRep_ev (new : Bool) (a b : EM) (e : Ev) (S : Store) : mRep new a b e S = (a e S).bind fun x S => (b e S).bind fun y S => repS new S x y := rfl
@[simp] theorem mSet_ev (i : Nat) (m : EM) (e : Ev) (S : Store) : mSet i m e S = (m e S).toS e fun d S => .nx (e.set i d) S := rfl
@[simp] theorem mSetI_ev (m o i : EM) (e : Ev) (S : Store) : mSetI m o i e S = (m e S).toS e fun d S => gSb o i d e S := rfl
@[simp] theorem mIx_ev (a b : EM) (e : Ev) (S : Store) : mIx a b e S = (a e S).bind fun x S => (b e S).bind fun y S => lift2 fIx S x y := rfl
@[simp] theorem mFld_ev (cs : List Nat) (f : Nat) (o : EM) (e : Ev) (S : Store) : mFld cs f o e S = mUn (getF cs f) o e S := rfl
@[simp] theorem mIsi_ev (T : Ty) (a : EM) (e : Ev) (S : Store) : mIsi T a e S = mUn (fun S d => (tyS S d).map fun t => .bl (isTy t T)) a e S := rfl
@[simp] theorem den_app (n : Nat) (m : SM) (ds : List D) (S : Store) : den n m ds S = match m ⟨ds.map some ++ List.replicate (n - ds.length) none, []⟩ S with
  | .nx _ S => .ok .non S
  | .rt d S => .ok d S
  | .exc c fs _ S => .exc c fs S
  | _ => .stuck := rfl
end BS
namespace BS
open PySem PySem.Spec PyProof.Rows L2
@[simp] theorem eqS_str (S : Store) (a b : Str) : eqS S (.str a) (.str b) = some (decide (a = b)) := by
  simp [eqS, small, py, pyF, PyData.plain, PyData.depth, PyData.eqv]; by_cases h : a = b <;> simp [h]
@[simp] theorem eqS_int (S : Store) (a b : Int) : eqS S (.int a) (.int b) = some (decide (a = b)) := by
  simp [eqS, small, py, pyF, PyData.plain, PyData.depth, PyData.eqv]; by_cases h : a = b <;> simp [h]
@[simp] theorem eqS_bl (S : Store) (a b : Bool) : eqS S (.bl a) (.bl b) = some (decide (a = b)) := by
  cases a <;> cases b <;> simp [eqS, small, py, pyF, PyData.plain, PyData.depth, PyData.eqv]
@[simp] theorem eqS_non (S : Store) : eqS S .non .non = some true := by
  simp [eqS, small, py, pyF, PyData.plain, PyData.depth, PyData.eqv]
/-- data with no object in it, at most n deep -/
structure Fl (n : Nat) (d : D) : Prop where
  pl : ∀ f, (pyF f d).plain = true
  dp : ∀ f, (pyF f d).depth ≤ n
  eq : ∀ f g, pyF f d = pyF g d
structure FlS (n : Nat) (ds : List D) : Prop where
  pl : ∀ f, PyData.plainAll (pyFs f ds) = true
  dp : ∀ f, PyData.depthAll (pyFs f ds) ≤ n
  eq : ∀ f g, pyFs f ds = pyFs g ds
theorem Fl.non {n : Nat} : Fl n .non := ⟨fun _ => rfl, fun _ => Nat.zero_le _, fun _ _ => rfl⟩
theorem Fl.bl {n : Nat} (b : Bool) : Fl n (.bl b) := ⟨fun _ => rfl, fun _ => by simp [pyF, PyData.depth], fun _ _ => rfl⟩
theorem Fl.int {n : Nat} (b : Int) : Fl n (.int b) := ⟨fun _ => rfl, fun _ => by simp [pyF, PyData.depth], fun _ _ => rfl⟩
theorem Fl.str {n : Nat} (b : Str) : Fl n (.str b) := ⟨fun _ => rfl, fun _ => by simp [pyF, PyData.depth], fun _ _ => rfl⟩
theorem FlS.nil {n : Nat} : FlS n [] := ⟨fun _ => rfl, fun _ => by simp [pyFs, PyData.depthAll], fun _ _ => rfl⟩
theorem FlS.cons {n : Nat} {d : D} {ds : List D} (h : Fl n d) (t : FlS n ds) : FlS n (d :: ds) :=
  ⟨fun f => by simp [pyFs, PyData.plainAll, h.pl f, t.pl f], fun f => by have := h.dp f; have := t.dp f; simp [pyFs, PyData.depthAll]; omega, fun f g => by simp only [pyFs]; rw [h.eq f g, t.eq f g]⟩
theorem Fl.tup {n : Nat} {ds : List D} (h : FlS n ds) : Fl (n + 1) (.tup ds) :=
  ⟨fun f => by simp [pyF, PyData.plain, h.pl f], fun f => by have := h.dp f; simp [pyF, PyData.depth]; omega, fun f g => by simp only [pyF]; rw [h.eq f g]⟩
theorem Fl.lst {n : Nat} {ds : List D} (h : FlS n ds) : Fl (n + 1) (.lst ds) :=
  ⟨fun f => by simp [pyF, PyData.plain, h.pl f], fun f => by have := h.dp f; simp [pyF, PyData.depth]; omega, fun f g => by simp only [pyF]; rw [h.eq f g]⟩
theorem FlS.of {n : Nat} : ∀ {ds : List D}, (∀ d ∈ ds, Fl n d) → FlS n ds
  | [], _ => .nil
  | d :: ds, h => .cons (h d (by simp)) (.of fun x hx => h x (by simp [hx]))
theorem FlS.all {n : Nat} : ∀ {ds : List D}, FlS n ds → ∀ d ∈ ds, Fl n d
  | [], _, _, h => by simp at h
  | d :: ds, t, x, h => by
    have t1 : Fl n d := ⟨fun f => by have := t.pl f; simp [pyFs, PyData.plainAll] at this; exact this.1, fun f => by have := t.dp f; simp [pyFs, PyData.depthAll] at this; omega, fun f g => by have := t.eq f g; simp [pyFs] at this; exact this.1⟩
    have t2 : FlS n ds := ⟨fun f => by have := t.pl f; simp [pyFs, PyData.plainAll] at this; exact this.2, fun f => by have := t.dp f; simp [pyFs, PyData.depthAll] at this; omega, fun f g => by have := t.eq f g; simp [pyFs] at this; exact this.2⟩
    rcases List.mem_cons.mp h with rfl | h
    · exact t1
    · exact t2.all x h
theorem eqS_same {S : Store} {x y : D} (h : py S x = py S y) (p : (py S x).plain = true) (d : (py S x).depth < 100) : eqS S x y = some true := by
  unfold eqS
  rw [← h]
  simp [small, p, d, PySem.SeqAt.eqv_refl_plain]
theorem eqS_refl {n : Nat} (S : Store) {x : D} (h : Fl n x) (hn : n < 100 := by decide) : eqS S x x = some true :=
  eqS_same rfl (h.pl _) (Nat.lt_of_le_of_lt (h.dp _) hn)
/-- two lists of the store with the same items -/
theorem eqS_objs {n : Nat} {S : Store} {i j : Nat} {ds : List D} (hi : S[i]? = some (.lst ds)) (hj : S[j]? = some (.lst ds)) (h : FlS n ds) (hn : n < 99 := by decide) : eqS S (.obj i) (.obj j) = some true := by
  have e : ∀ k, S[k]? = some (.lst ds) → py S (.obj k) = .list (pyFs (pyk 2 S) ds) := fun k hk => by simp [py, pyF, pyk, hk]
  refine eqS_same (by rw [e i hi, e j hj]) ?_ ?_
  · rw [e i hi]; simp [PyData.plain, h.pl]
  · rw [e i hi]; have := h.dp (pyk 2 S); simp [PyData.depth]; omega
theorem eqS_objl {n : Nat} {S : Store} {i : Nat} {ds : List D} (hi : S[i]? = some (.lst ds)) (h : FlS n ds) (hn : n < 99 := by decide) : eqS S (.obj i) (.lst ds) = some true := by
  have e : py S (.obj i) = .list (pyFs (pyk 2 S) ds) := by simp [py, pyF, pyk, hi]
  refine eqS_same ?_ ?_ ?_
  · rw [e]; simp only [py, pyF]; rw [h.eq (pyk 2 S) (pyk 3 S)]
  · rw [e]; simp [PyData.plain, h.pl]
  · rw [e]; have := h.dp (pyk 2 S); simp [PyData.depth]; omega
theorem rng_ok {n : Nat} (h : n ≤ 1000000000) : rngOk (n : Int) := by
  unfold rngOk
  have e : (2 : Int) ^ 62 = 4611686018427387904 := by decide
  rw [e]; omega
theorem iRng1 {as : AM} {e : Ev} {S S' : Store} {j : Int} (h : as e S = .ok [.int j] S') (r : rngOk j) : iRng as e S = .ok ⟨BS.intsFrom 0 j.toNat, fun _ => True⟩ S' := by
  rw [iRng_ev, h]
  exact if_pos r
theorem iRng2 {as : AM} {e : Ev} {S S' : Store} {i j : Int} (h : as e S = .ok [.int i, .int j] S') (r1 : rngOk i) (r : rngOk j) : iRng as e S = .ok ⟨BS.intsFrom i (j - i).toNat, fun _ => True⟩ S' := by
  rw [iRng_ev, h]
  exact if_pos ⟨r1, r⟩
end BS
namespace L_k69
open PySem PySem.Spec PyProof.Rows L2 BS
def topS (i : Nat) : Stmt := PySem.Challenge.pw_boundstone_k69_histories.main.body.getD i (.Pass ⟨0, 0, 0, 0⟩)
def nm : Nms := mkNms ["Net", "History", "Sessions", "Shard", "Epochs", "Holdings", "Server", "Routes", "Directory", "Client", "World", "Disk", "Log", "TableError", "BadText", "BadOperation", "BadLetter", "BadShard", "BadRecord", "BadServer", "DiskError", "DiskCrashed", "BadSchedule"] ["line", "reason", "_rows", "_called", "_accepted"] (by decide +kernel)
def c_MOST_NUMBER : D := .int 1000000000000
def c_SIZES : List (Key × D) := [(.inr "call", .int 5), (.inr "accept", .int 5), (.inr "done", .int 4), (.inr "crash", .int 3)]
theorem bb_bool : bootBuiltins "bool" = some (.type "bool") := by decide +kernel
theorem bb_int : bootBuiltins "int" = some (.type "int") := by decide +kernel
theorem bb_isinstance : bootBuiltins "isinstance" = some (.builtin "isinstance") := by decide +kernel
theorem bb_len : bootBuiltins "len" = some (.builtin "len") := by decide +kernel
theorem bb_list : bootBuiltins "list" = some (.type "list") := by decide +kernel
theorem bb_max : bootBuiltins "max" = some (.builtin "max") := by decide +kernel
theorem bb_str : bootBuiltins "str" = some (.type "str") := by decide +kernel
theorem bb_tuple : bootBuiltins "tuple" = some (.type "tuple") := by decide +kernel
theorem cl_BadSchedule : nm.cls 22 = "BadSchedule" := by decide +kernel
theorem cl_History : nm.cls 1 = "History" := by decide +kernel
theorem fl__accepted : nm.fld 4 = "_accepted" := by decide +kernel
theorem fl__called : nm.fld 3 = "_called" := by decide +kernel
theorem fl__rows : nm.fld 2 = "_rows" := by decide +kernel
theorem fl_line : nm.fld 0 = "line" := by decide +kernel
theorem fl_reason : nm.fld 1 = "reason" := by decide +kernel
section
variable {P : Program} {w : World} {K : PySem.W.Frag} {mg : Str → Option Value} {base : Heap}
abbrev s_is_integer : Stmt := (topS 5)
theorem sc_is_integer : FnScope ["value", "least", "greatest"] ["value", "least", "greatest"] (defScope s_is_integer) := ⟨rfl, rfl, rfl, by decide +kernel, rfl, by decide +kernel, by decide +kernel⟩
theorem va_is_integer : locAll [0, 1, 2] ["value", "least", "greatest"] (defScope s_is_integer) = true := by decide +kernel
theorem ga_is_integer : glAll ["isinstance", "int", "bool"] (defScope s_is_integer) = true := by decide +kernel
noncomputable def m_is_integer : SM :=
  (mSeq (mIfS (mOr (mNot (mBl (mIsi .int (mVar 0)))) (mBl (mIsi .bool (mVar 0)))) (mRet (mC (.bl false))) mSkip)
    (mRet (mAndV (mBin fLe (mVar 1) (mVar 0)) (mBin fLe (mVar 0) (mVar 2)))))
noncomputable def V_is_integer : FM := den 3 m_is_integer
theorem ok_is_integer {f : Addr} {fd : FuncData} (F : Fun K "is_integer" "is_integer" s_is_integer f fd)
    (n_isinstance : mg "isinstance" = none)
    (n_int : mg "int" = none)
    (n_bool : mg "bool" = none) :
    FnOk P w K mg base (L2.CX P w) 1 f fd ["value", "least", "greatest"] (spD nm K mg 3 V_is_integer) :=
  den_ok (m := m_is_integer) F sc_is_integer (fun cdv A outer s H E hr => by
  have nd := sc_is_integer.nd
  have hh := L2H.roomH_of hr
  have hl : locAll [0, 1, 2] (cxOf (L2.CX P w) P w K mg base ["value", "least", "greatest"] "is_integer" (defScope s_is_integer) f cdv A outer s H E).N (cxOf (L2.CX P w) P w K mg base ["value", "least", "greatest"] "is_integer" (defScope s_is_integer) f cdv A outer s H E).env.scope = true := va_is_integer
  have hv := locVis hl
  have hg : glAll ["isinstance", "int", "bool"] (cxOf (L2.CX P w) P w K mg base ["value", "least", "greatest"] "is_integer" (defScope s_is_integer) f cdv A outer s H E).env.scope = true := ga_is_integer
  have hc : (cxOf (L2.CX P w) P w K mg base ["value", "least", "greatest"] "is_integer" (defScope s_is_integer) f cdv A outer s H E).calm = true := rfl
  have hp : PassesOwn (model P w) (cxOf (L2.CX P w) P w K mg base ["value", "least", "greatest"] "is_integer" (defScope s_is_integer) f cdv A outer s H E).A (cxOf (L2.CX P w) P w K mg base ["value", "least", "greatest"] "is_integer" (defScope s_is_integer) f cdv A outer s H E).env (cxOf (L2.CX P w) P w K mg base ["value", "least", "greatest"] "is_integer" (defScope s_is_integer) f cdv A outer s H E).xe := passes_of rfl
  exact (mb_cons (ms_if (MW.mt (mw_or (mt_not (mt_val (me_isi .int (me_var 0 hv) (gl_at hg 0) n_isinstance (gl_at hg 1) n_int bb_isinstance bb_int))) (mw_or1 (mt_val (me_isi .bool (me_var 0 hv) (gl_at hg 0) n_isinstance (gl_at hg 2) n_bool bb_isinstance bb_bool))))) (mb_one (ms_ret me_bl)) mb_nil)
    (mb_one (ms_ret (me_and (me_cmp o_le (me_var 1 hv) (me_var 0 hv) (nomark _)) (me_one (me_cmp o_le (me_var 0 hv) (me_var 2 hv) (nomark _)))))))) rfl rfl
abbrev s_is_event : Stmt := (topS 8)
theorem sc_is_event : FnScope ["value"] ["value"] (defScope s_is_event) := ⟨rfl, rfl, rfl, by decide +kernel, rfl, by decide +kernel, by decide +kernel⟩
theorem va_is_event : locAll [0] ["value"] (defScope s_is_event) = true := by decide +kernel
theorem ga_is_event : glAll ["MOST_NUMBER", "is_integer", "SIZES", "len", "isinstance", "tuple", "str"] (defScope s_is_event) = true := by decide +kernel
noncomputable def m_is_event : SM :=
  (mSeq (mIfS (mOr (mNot (mBl (mIsi .tuple (mVar 0)))) (mOr (mBl (mBin fEq (mVar 0) (mTup mNil))) (mNot (mBl (mIsi .str (mIx (mVar 0) (mC (.int 0)))))))) (mRet (mC (.bl false))) mSkip)
    (mSeq (mIfS (mOr (mTabIn true c_SIZES (mIx (mVar 0) (mC (.int 0)))) (mBl (mBin fNe (mCall fnLen (mCons (mVar 0) mNil)) (mTabGet c_SIZES (mIx (mVar 0) (mC (.int 0))))))) (mRet (mC (.bl false))) mSkip)
    (mRet (mCall V_is_integer (mCons (mIx (mVar 0) (mC (.int 1))) (mCons (mC (.int 0)) (mCons (mC c_MOST_NUMBER) mNil)))))))
noncomputable def V_is_event : FM := den 1 m_is_event
theorem ok_is_event {f : Addr} {fd : FuncData} (F : Fun K "is_event" "is_event" s_is_event f fd)
    (d_is_integer : DefOk P w K mg base nm 1 "is_integer" 3 V_is_integer)
    (g_MOST_NUMBER : GC K mg "MOST_NUMBER" c_MOST_NUMBER)
    (t_SIZES : TC P w K mg "SIZES" c_SIZES)
    (n_len : mg "len" = none)
    (n_isinstance : mg "isinstance" = none)
    (n_tuple : mg "tuple" = none)
    (n_str : mg "str" = none) :
    FnOk P w K mg base (L2.CX P w) 2 f fd ["value"] (spD nm K mg 1 V_is_event) :=
  den_ok (m := m_is_event) F sc_is_event (fun cdv A outer s H E hr => by
  have nd := sc_is_event.nd
  have hh := L2H.roomH_of hr
  have hl : locAll [0] (cxOf (L2.CX P w) P w K mg base ["value"] "is_event" (defScope s_is_event) f cdv A outer s H E).N (cxOf (L2.CX P w) P w K mg base ["value"] "is_event" (defScope s_is_event) f cdv A outer s H E).env.scope = true := va_is_event
  have hv := locVis hl
  have hg : glAll ["MOST_NUMBER", "is_integer", "SIZES", "len", "isinstance", "tuple", "str"] (cxOf (L2.CX P w) P w K mg base ["value"] "is_event" (defScope s_is_event) f cdv A outer s H E).env.scope = true := ga_is_event
  have hc : (cxOf (L2.CX P w) P w K mg base ["value"] "is_event" (defScope s_is_event) f cdv A outer s H E).calm = true := rfl
  have hp : PassesOwn (model P w) (cxOf (L2.CX P w) P w K mg base ["value"] "is_event" (defScope s_is_event) f cdv A outer s H E).A (cxOf (L2.CX P w) P w K mg base ["value"] "is_event" (defScope s_is_event) f cdv A outer s H E).env (cxOf (L2.CX P w) P w K mg base ["value"] "is_event" (defScope s_is_event) f cdv A outer s H E).xe := passes_of rfl
  exact (mb_cons (ms_if (MW.mt (mw_or (mt_not (mt_val (me_isi .tuple (me_var 0 hv) (gl_at hg 4) n_isinstance (gl_at hg 5) n_tuple bb_isinstance bb_tuple))) (mw_or (mt_cmp (o_eq hh) (me_var 0 hv) (me_tup ma_nil) (nomark _)) (mw_or1 (mt_not (mt_val (me_isi .str (me_ix hh (me_var 0 hv) me_int) (gl_at hg 4) n_isinstance (gl_at hg 6) n_str bb_isinstance bb_str))))))) (mb_one (ms_ret me_bl)) mb_nil)
    (mb_cons (ms_if (MW.mt (mw_or (mt_tabinN hh t_SIZES (gl_at hg 2) (me_ix hh (me_var 0 hv) me_int)) (mw_or1 (mt_cmp (o_ne hh) (me_callB c_len (gl_at hg 3) n_len bb_len (ma_cons (me_var 0 hv) ma_nil)) (me_tabget hh t_SIZES (gl_at hg 2) (me_ix hh (me_var 0 hv) me_int)) (nomark _))))) (mb_one (ms_ret me_bl)) mb_nil)
    (mb_one (ms_ret (me_call d_is_integer (hr.mono (by decide)) (gl_at hg 1) (ma_cons (me_ix hh (me_var 0 hv) me_int) (ma_cons me_int (ma_cons (me_gc g_MOST_NUMBER (gl_at hg 0)) ma_nil))))))))) rfl rfl
abbrev s__law_cell : Stmt := (topS 11)
theorem sc__law_cell : FnScope ["_law_script", "_law_k"] ["_law_script", "_law_k"] (defScope s__law_cell) := ⟨rfl, rfl, rfl, by decide +kernel, rfl, by decide +kernel, by decide +kernel⟩
theorem va__law_cell : locAll [0, 1] ["_law_script", "_law_k"] (defScope s__law_cell) = true := by decide +kernel
theorem ga__law_cell : glAll ["len"] (defScope s__law_cell) = true := by decide +kernel
noncomputable def m__law_cell : SM :=
  (mSeq (mIfS (mBl (mBin fLt (mVar 1) (mCall fnLen (mCons (mVar 0) mNil)))) (mRet (mIx (mVar 0) (mVar 1))) mSkip)
    (mRet (mC (.int 0))))
noncomputable def V__law_cell : FM := den 2 m__law_cell
theorem ok__law_cell {f : Addr} {fd : FuncData} (F : Fun K "_law_cell" "_law_cell" s__law_cell f fd)
    (n_len : mg "len" = none) :
    FnOk P w K mg base (L2.CX P w) 1 f fd ["_law_script", "_law_k"] (spD nm K mg 2 V__law_cell) :=
  den_ok (m := m__law_cell) F sc__law_cell (fun cdv A outer s H E hr => by
  have nd := sc__law_cell.nd
  have hh := L2H.roomH_of hr
  have hl : locAll [0, 1] (cxOf (L2.CX P w) P w K mg base ["_law_script", "_law_k"] "_law_cell" (defScope s__law_cell) f cdv A outer s H E).N (cxOf (L2.CX P w) P w K mg base ["_law_script", "_law_k"] "_law_cell" (defScope s__law_cell) f cdv A outer s H E).env.scope = true := va__law_cell
  have hv := locVis hl
  have hg : glAll ["len"] (cxOf (L2.CX P w) P w K mg base ["_law_script", "_law_k"] "_law_cell" (defScope s__law_cell) f cdv A outer s H E).env.scope = true := ga__law_cell
  have hc : (cxOf (L2.CX P w) P w K mg base ["_law_script", "_law_k"] "_law_cell" (defScope s__law_cell) f cdv A outer s H E).calm = true := rfl
  have hp : PassesOwn (model P w) (cxOf (L2.CX P w) P w K mg base ["_law_script", "_law_k"] "_law_cell" (defScope s__law_cell) f cdv A outer s H E).A (cxOf (L2.CX P w) P w K mg base ["_law_script", "_law_k"] "_law_cell" (defScope s__law_cell) f cdv A outer s H E).env (cxOf (L2.CX P w) P w K mg base ["_law_script", "_law_k"] "_law_cell" (defScope s__law_cell) f cdv A outer s H E).xe := passes_of rfl
  exact (mb_cons (ms_if (mt_cmp o_lt (me_var 1 hv) (me_callB c_len (gl_at hg 0) n_len bb_len (ma_cons (me_var 0 hv) ma_nil)) (nomark _)) (mb_one (ms_ret (me_ix hh (me_var 0 hv) (me_var 1 hv)))) mb_nil)
    (mb_one (ms_ret me_int)))) rfl rfl
abbrev s__law_offer : Stmt := (topS 12)
theorem sc__law_offer : FnScope ["_law_cell_here", "_law_time", "_law_called", "_law_client", "_law_number", "_law_kind"] ["_law_cell_here", "_law_time", "_law_called"] (defScope s__law_offer) := ⟨rfl, rfl, rfl, by decide +kernel, rfl, by decide +kernel, by decide +kernel⟩
theorem va__law_offer : locAll [0, 1, 2, 3, 4, 5] ["_law_cell_here", "_law_time", "_law_called", "_law_client", "_law_number", "_law_kind"] (defScope s__law_offer) = true := by decide +kernel
theorem ga__law_offer : glAll ["int", "max"] (defScope s__law_offer) = true := by decide +kernel
noncomputable def m__law_offer : SM :=
  (mSeq (mSet 1 (mCall fnMax2 (mCons (mC (.int 0)) (mCons (mBin fAdd (mVar 1) (mIx (mLst false (mCons (mC (.int 0)) (mCons (mC (.int 0)) (mCons (mC (.int 1)) (mCons (mC (.int 2)) (mCons (mUn fNeg (mC (.int 1))) (mCons (mBin fPow (mC (.int 10)) (mC (.int 9))) mNil))))))) (mBin fMod (mCall fnInt (mCons (mVar 0) mNil)) (mC (.int 6))))) mNil))))
    (mSeq (mSet 0 (mBin fDiv (mVar 0) (mC (.int 6))))
    (mSeq (mSet 3 (mBin fSub (mUn fNeg (mC (.int 1))) (mBin fMod (mCall fnInt (mCons (mBin fDiv (mVar 0) (mC (.int 5))) mNil)) (mC (.int 3)))))
    (mSeq (mSet 4 (mCall fnMax2 (mCons (mC (.int 1)) (mCons (mBin fAdd (mIx (mVar 2) (mVar 3)) (mIx (mLst false (mCons (mC (.int 0)) (mCons (mC (.int 1)) (mCons (mC (.int 1)) (mCons (mC (.int 2)) (mCons (mC (.int 0)) mNil)))))) (mBin fMod (mCall fnInt (mCons (mBin fDiv (mVar 0) (mC (.int 15))) mNil)) (mC (.int 5))))) mNil))))
    (mSeq (mSet 5 (mBin fMod (mCall fnInt (mCons (mVar 0) mNil)) (mC (.int 5))))
    (mSeq (mIfS (mBl (mBin fLt (mVar 5) (mC (.int 2)))) (mRet (mTup (mCons (mC (.str "call")) (mCons (mVar 1) (mCons (mVar 3) (mCons (mVar 4) (mCons (mTup (mCons (mC (.str "get")) (mCons (mC (.str "a")) mNil))) mNil))))))) mSkip)
    (mSeq (mIfS (mBl (mBin fLt (mVar 5) (mC (.int 4)))) (mRet (mTup (mCons (mC (.str "accept")) (mCons (mVar 1) (mCons (mVar 3) (mCons (mCall fnMax2 (mCons (mC (.int 1)) (mCons (mBin fAdd (mIx (mVar 2) (mVar 3)) (mIx (mLst false (mCons (mC (.int 0)) (mCons (mC (.int 0)) (mCons (mC (.int 0)) (mCons (mC (.int 1)) (mCons (mUn fNeg (mC (.int 1))) mNil)))))) (mBin fMod (mCall fnInt (mCons (mBin fDiv (mVar 0) (mC (.int 15))) mNil)) (mC (.int 5))))) mNil))) (mCons (mTup (mCons (mC (.str "none")) mNil)) mNil))))))) mSkip)
    (mSeq (mIfS (mBl (mBin fEq (mBin fMod (mCall fnInt (mCons (mBin fDiv (mVar 0) (mC (.int 15))) mNil)) (mC (.int 2))) (mC (.int 0)))) (mRet (mTup (mCons (mC (.str "crash")) (mCons (mVar 1) (mCons (mBin fMod (mCall fnInt (mCons (mBin fDiv (mVar 0) (mC (.int 30))) mNil)) (mC (.int 3))) mNil))))) mSkip)
    (mRet (mTup (mCons (mC (.str "done")) (mCons (mVar 1) (mCons (mBin fMod (mCall fnInt (mCons (mBin fDiv (mVar 0) (mC (.int 30))) mNil)) (mC (.int 3))) (mCons (mTup (mCons (mC (.str "gone")) (mCons (mC (.str "a")) (mCons (mC .non) (mCons (mC (.int 3)) mNil))))) mNil))))))))))))))
noncomputable def V__law_offer : FM := den 6 m__law_offer
theorem ok__law_offer {f : Addr} {fd : FuncData} (F : Fun K "_law_offer" "_law_offer" s__law_offer f fd)
    (n_int : mg "int" = none)
    (n_max : mg "max" = none) :
    FnOk P w K mg base (L2.CX P w) 1 f fd ["_law_cell_here", "_law_time", "_law_called"] (spD nm K mg 3 V__law_offer) :=
  den_ok (m := m__law_offer) F sc__law_offer (fun cdv A outer s H E hr => by
  have nd := sc__law_offer.nd
  have hh := L2H.roomH_of hr
  have hl : locAll [0, 1, 2, 3, 4, 5] (cxOf (L2.CX P w) P w K mg base ["_law_cell_here", "_law_time", "_law_called", "_law_client", "_law_number", "_law_kind"] "_law_offer" (defScope s__law_offer) f cdv A outer s H E).N (cxOf (L2.CX P w) P w K mg base ["_law_cell_here", "_law_time", "_law_called", "_law_client", "_law_number", "_law_kind"] "_law_offer" (defScope s__law_offer) f cdv A outer s H E).env.scope = true := va__law_offer
  have hv := locVis hl
  have hg : glAll ["int", "max"] (cxOf (L2.CX P w) P w K mg base ["_law_cell_here", "_law_time", "_law_called", "_law_client", "_law_number", "_law_kind"] "_law_offer" (defScope s__law_offer) f cdv A outer s H E).env.scope = true := ga__law_offer
  have hc : (cxOf (L2.CX P w) P w K mg base ["_law_cell_here", "_law_time", "_law_called", "_law_client", "_law_number", "_law_kind"] "_law_offer" (defScope s__law_offer) f cdv A outer s H E).calm = true := rfl
  have hp : PassesOwn (model P w) (cxOf (L2.CX P w) P w K mg base ["_law_cell_here", "_law_time", "_law_called", "_law_client", "_law_number", "_law_kind"] "_law_offer" (defScope s__law_offer) f cdv A outer s H E).A (cxOf (L2.CX P w) P w K mg base ["_law_cell_here", "_law_time", "_law_called", "_law_client", "_law_number", "_law_kind"] "_law_offer" (defScope s__law_offer) f cdv A outer s H E).env (cxOf (L2.CX P w) P w K mg base ["_law_cell_here", "_law_time", "_law_called", "_law_client", "_law_number", "_law_kind"] "_law_offer" (defScope s__law_offer) f cdv A outer s H E).xe := passes_of rfl
  exact (mb_cons (ms_set 1 nd hl (me_callB (c_max2 hc) (gl_at hg 1) n_max bb_max (ma_cons me_int (ma_cons (me_bin o_add (me_var 1 hv) (me_ix hh (me_lst false (ma_cons me_int (ma_cons me_int (ma_cons me_int (ma_cons me_int (ma_cons (me_neg me_int) (ma_cons (me_bin o_pow me_int me_int) ma_nil))))))) (me_bin o_mod (me_callT c_int (gl_at hg 0) n_int bb_int (ma_cons (me_var 0 hv) ma_nil)) me_int))) ma_nil))))
    (mb_cons (ms_set 0 nd hl (me_bin o_div (me_var 0 hv) me_int))
    (mb_cons (ms_set 3 nd hl (me_bin o_sub (me_neg me_int) (me_bin o_mod (me_callT c_int (gl_at hg 0) n_int bb_int (ma_cons (me_bin o_div (me_var 0 hv) me_int) ma_nil)) me_int)))
    (mb_cons (ms_set 4 nd hl (me_callB (c_max2 hc) (gl_at hg 1) n_max bb_max (ma_cons me_int (ma_cons (me_bin o_add (me_ix hh (me_var 2 hv) (me_var 3 hv)) (me_ix hh (me_lst false (ma_cons me_int (ma_cons me_int (ma_cons me_int (ma_cons me_int (ma_cons me_int ma_nil)))))) (me_bin o_mod (me_callT c_int (gl_at hg 0) n_int bb_int (ma_cons (me_bin o_div (me_var 0 hv) me_int) ma_nil)) me_int))) ma_nil))))
    (mb_cons (ms_set 5 nd hl (me_bin o_mod (me_callT c_int (gl_at hg 0) n_int bb_int (ma_cons (me_var 0 hv) ma_nil)) me_int))
    (mb_cons (ms_if (mt_cmp o_lt (me_var 5 hv) me_int (nomark _)) (mb_one (ms_ret (me_tup (ma_cons me_str (ma_cons (me_var 1 hv) (ma_cons (me_var 3 hv) (ma_cons (me_var 4 hv) (ma_cons (me_tup (ma_cons me_str (ma_cons me_str ma_nil))) ma_nil)))))))) mb_nil)
    (mb_cons (ms_if (mt_cmp o_lt (me_var 5 hv) me_int (nomark _)) (mb_one (ms_ret (me_tup (ma_cons me_str (ma_cons (me_var 1 hv) (ma_cons (me_var 3 hv) (ma_cons (me_callB (c_max2 hc) (gl_at hg 1) n_max bb_max (ma_cons me_int (ma_cons (me_bin o_add (me_ix hh (me_var 2 hv) (me_var 3 hv)) (me_ix hh (me_lst false (ma_cons me_int (ma_cons me_int (ma_cons me_int (ma_cons me_int (ma_cons (me_neg me_int) ma_nil)))))) (me_bin o_mod (me_callT c_int (gl_at hg 0) n_int bb_int (ma_cons (me_bin o_div (me_var 0 hv) me_int) ma_nil)) me_int))) ma_nil))) (ma_cons (me_tup (ma_cons me_str ma_nil)) ma_nil)))))))) mb_nil)
    (mb_cons (ms_if (mt_cmp (o_eq hh) (me_bin o_mod (me_callT c_int (gl_at hg 0) n_int bb_int (ma_cons (me_bin o_div (me_var 0 hv) me_int) ma_nil)) me_int) me_int (nomark _)) (mb_one (ms_ret (me_tup (ma_cons me_str (ma_cons (me_var 1 hv) (ma_cons (me_bin o_mod (me_callT c_int (gl_at hg 0) n_int bb_int (ma_cons (me_bin o_div (me_var 0 hv) me_int) ma_nil)) me_int) ma_nil)))))) mb_nil)
    (mb_one (ms_ret (me_tup (ma_cons me_str (ma_cons (me_var 1 hv) (ma_cons (me_bin o_mod (me_callT c_int (gl_at hg 0) n_int bb_int (ma_cons (me_bin o_div (me_var 0 hv) me_int) ma_nil)) me_int) (ma_cons (me_tup (ma_cons me_str (ma_cons me_str (ma_cons me_non (ma_cons me_int ma_nil))))) ma_nil)))))))))))))))) rfl rfl
abbrev s__law_odd : Stmt := (topS 13)
theorem sc__law_odd : FnScope ["_law_cell_here", "_law_time", "_law_odd_here"] ["_law_cell_here", "_law_time"] (defScope s__law_odd) := ⟨rfl, rfl, rfl, by decide +kernel, rfl, by decide +kernel, by decide +kernel⟩
theorem va__law_odd : locAll [0, 1, 2] ["_law_cell_here", "_law_time", "_law_odd_here"] (defScope s__law_odd) = true := by decide +kernel
theorem ga__law_odd : glAll ["int"] (defScope s__law_odd) = true := by decide +kernel
noncomputable def m__law_odd : SM :=
  (mSeq (mSet 2 (mLst false (mCons (mC .non) (mCons (mTup mNil) (mCons (mTup (mCons (mC (.str "crash")) (mCons (mVar 1) mNil))) (mCons (mTup (mCons (mC (.str "fall")) (mCons (mVar 1) (mCons (mC (.int 1)) mNil)))) (mCons (mLst false (mCons (mC (.str "crash")) (mCons (mVar 1) (mCons (mC (.int 0)) mNil)))) (mCons (mTup (mCons (mC (.str "crash")) (mCons (mUn fNeg (mC (.int 1))) (mCons (mC (.int 0)) mNil)))) (mCons (mTup (mCons (mC (.str "crash")) (mCons (mC (.bl true)) (mCons (mC (.int 0)) mNil)))) (mCons (mC (.int 7)) mNil))))))))))
    (mSeq (mSet 2 (mCat false (mVar 2) (mLst false (mCons (mTup (mCons (mC (.str "call")) (mCons (mVar 1) (mCons (mUn fNeg (mC (.int 1))) (mCons (mC (.int 1)) mNil))))) (mCons (mTup (mCons (mC (.str "done")) (mCons (mVar 1) (mCons (mC (.int 0)) mNil)))) (mCons (mTup (mCons (mC (.str "accept")) (mCons (mC .non) (mCons (mUn fNeg (mC (.int 1))) (mCons (mC (.int 1)) (mCons (mTup (mCons (mC (.str "none")) mNil)) mNil)))))) (mCons (mTup (mCons (mC (.str "crash")) (mCons (mBin fAdd (mBin fPow (mC (.int 10)) (mC (.int 12))) (mC (.int 1))) (mCons (mC (.int 0)) mNil)))) mNil)))))))
    (mRet (mIx (mVar 2) (mBin fMod (mCall fnInt (mCons (mVar 0) mNil)) (mC (.int 12)))))))
noncomputable def V__law_odd : FM := den 3 m__law_odd
theorem ok__law_odd {f : Addr} {fd : FuncData} (F : Fun K "_law_odd" "_law_odd" s__law_odd f fd)
    (n_int : mg "int" = none) :
    FnOk P w K mg base (L2.CX P w) 1 f fd ["_law_cell_here", "_law_time"] (spD nm K mg 2 V__law_odd) :=
  den_ok (m := m__law_odd) F sc__law_odd (fun cdv A outer s H E hr => by
  have nd := sc__law_odd.nd
  have hh := L2H.roomH_of hr
  have hl : locAll [0, 1, 2] (cxOf (L2.CX P w) P w K mg base ["_law_cell_here", "_law_time", "_law_odd_here"] "_law_odd" (defScope s__law_odd) f cdv A outer s H E).N (cxOf (L2.CX P w) P w K mg base ["_law_cell_here", "_law_time", "_law_odd_here"] "_law_odd" (defScope s__law_odd) f cdv A outer s H E).env.scope = true := va__law_odd
  have hv := locVis hl
  have hg : glAll ["int"] (cxOf (L2.CX P w) P w K mg base ["_law_cell_here", "_law_time", "_law_odd_here"] "_law_odd" (defScope s__law_odd) f cdv A outer s H E).env.scope = true := ga__law_odd
  have hc : (cxOf (L2.CX P w) P w K mg base ["_law_cell_here", "_law_time", "_law_odd_here"] "_law_odd" (defScope s__law_odd) f cdv A outer s H E).calm = true := rfl
  have hp : PassesOwn (model P w) (cxOf (L2.CX P w) P w K mg base ["_law_cell_here", "_law_time", "_law_odd_here"] "_law_odd" (defScope s__law_odd) f cdv A outer s H E).A (cxOf (L2.CX P w) P w K mg base ["_law_cell_here", "_law_time", "_law_odd_here"] "_law_odd" (defScope s__law_odd) f cdv A outer s H E).env (cxOf (L2.CX P w) P w K mg base ["_law_cell_here", "_law_time", "_law_odd_here"] "_law_odd" (defScope s__law_odd) f cdv A outer s H E).xe := passes_of rfl
  exact (mb_cons (ms_set 2 nd hl (me_lst false (ma_cons me_non (ma_cons (me_tup ma_nil) (ma_cons (me_tup (ma_cons me_str (ma_cons (me_var 1 hv) ma_nil))) (ma_cons (me_tup (ma_cons me_str (ma_cons (me_var 1 hv) (ma_cons me_int ma_nil)))) (ma_cons (me_lst false (ma_cons me_str (ma_cons (me_var 1 hv) (ma_cons me_int ma_nil)))) (ma_cons (me_tup (ma_cons me_str (ma_cons (me_neg me_int) (ma_cons me_int ma_nil)))) (ma_cons (me_tup (ma_cons me_str (ma_cons me_bl (ma_cons me_int ma_nil)))) (ma_cons me_int ma_nil))))))))))
    (mb_cons (ms_set 2 nd hl (me_cat false (me_var 2 hv) (me_lst false (ma_cons (me_tup (ma_cons me_str (ma_cons (me_var 1 hv) (ma_cons (me_neg me_int) (ma_cons me_int ma_nil))))) (ma_cons (me_tup (ma_cons me_str (ma_cons (me_var 1 hv) (ma_cons me_int ma_nil)))) (ma_cons (me_tup (ma_cons me_str (ma_cons me_non (ma_cons (me_neg me_int) (ma_cons me_int (ma_cons (me_tup (ma_cons me_str ma_nil)) ma_nil)))))) (ma_cons (me_tup (ma_cons me_str (ma_cons (me_bin o_add (me_bin o_pow me_int me_int) me_int) (ma_cons me_int ma_nil)))) ma_nil)))))))
    (mb_one (ms_ret (me_ix hh (me_var 2 hv) (me_bin o_mod (me_callT c_int (gl_at hg 0) n_int bb_int (ma_cons (me_var 0 hv) ma_nil)) me_int))))))) rfl rfl
abbrev s__law_reason : Stmt := (topS 14)
theorem sc__law_reason : FnScope ["_law_event", "_law_odd_here", "_law_time", "_law_called", "_law_accepted"] ["_law_event", "_law_odd_here", "_law_time", "_law_called", "_law_accepted"] (defScope s__law_reason) := ⟨rfl, rfl, rfl, by decide +kernel, rfl, by decide +kernel, by decide +kernel⟩
theorem va__law_reason : locAll [0, 1, 2, 3, 4] ["_law_event", "_law_odd_here", "_law_time", "_law_called", "_law_accepted"] (defScope s__law_reason) = true := by decide +kernel
theorem ga__law_reason : glAll [] (defScope s__law_reason) = true := by decide +kernel
noncomputable def m__law_reason : SM :=
  (mSeq (mIfS (mTru (mVar 1)) (mRet (mC (.str "event"))) mSkip)
    (mSeq (mIfS (mBl (mBin fLt (mIx (mVar 0) (mC (.int 1))) (mVar 2))) (mRet (mC (.str "time"))) mSkip)
    (mSeq (mIfS (mAnd (mBl (mBin fEq (mIx (mVar 0) (mC (.int 0))) (mC (.str "call")))) (mOr (mBl (mBin fNe (mIx (mVar 3) (mIx (mVar 0) (mC (.int 2)))) (mIx (mVar 4) (mIx (mVar 0) (mC (.int 2)))))) (mBl (mBin fNe (mIx (mVar 0) (mC (.int 3))) (mBin fAdd (mIx (mVar 3) (mIx (mVar 0) (mC (.int 2)))) (mC (.int 1))))))) (mRet (mC (.str "call"))) mSkip)
    (mSeq (mIfS (mAnd (mBl (mBin fEq (mIx (mVar 0) (mC (.int 0))) (mC (.str "accept")))) (mOr (mBl (mBin fEq (mIx (mVar 3) (mIx (mVar 0) (mC (.int 2)))) (mIx (mVar 4) (mIx (mVar 0) (mC (.int 2)))))) (mBl (mBin fNe (mIx (mVar 0) (mC (.int 3))) (mIx (mVar 3) (mIx (mVar 0) (mC (.int 2)))))))) (mRet (mC (.str "accept"))) mSkip)
    (mRet (mC (.str "")))))))
noncomputable def V__law_reason : FM := den 5 m__law_reason
theorem ok__law_reason {f : Addr} {fd : FuncData} (F : Fun K "_law_reason" "_law_reason" s__law_reason f fd) :
    FnOk P w K mg base (L2.CX P w) 1 f fd ["_law_event", "_law_odd_here", "_law_time", "_law_called", "_law_accepted"] (spD nm K mg 5 V__law_reason) :=
  den_ok (m := m__law_reason) F sc__law_reason (fun cdv A outer s H E hr => by
  have nd := sc__law_reason.nd
  have hh := L2H.roomH_of hr
  have hl : locAll [0, 1, 2, 3, 4] (cxOf (L2.CX P w) P w K mg base ["_law_event", "_law_odd_here", "_law_time", "_law_called", "_law_accepted"] "_law_reason" (defScope s__law_reason) f cdv A outer s H E).N (cxOf (L2.CX P w) P w K mg base ["_law_event", "_law_odd_here", "_law_time", "_law_called", "_law_accepted"] "_law_reason" (defScope s__law_reason) f cdv A outer s H E).env.scope = true := va__law_reason
  have hv := locVis hl
  have hg : glAll [] (cxOf (L2.CX P w) P w K mg base ["_law_event", "_law_odd_here", "_law_time", "_law_called", "_law_accepted"] "_law_reason" (defScope s__law_reason) f cdv A outer s H E).env.scope = true := ga__law_reason
  have hc : (cxOf (L2.CX P w) P w K mg base ["_law_event", "_law_odd_here", "_law_time", "_law_called", "_law_accepted"] "_law_reason" (defScope s__law_reason) f cdv A outer s H E).calm = true := rfl
  have hp : PassesOwn (model P w) (cxOf (L2.CX P w) P w K mg base ["_law_event", "_law_odd_here", "_law_time", "_law_called", "_law_accepted"] "_law_reason" (defScope s__law_reason) f cdv A outer s H E).A (cxOf (L2.CX P w) P w K mg base ["_law_event", "_law_odd_here", "_law_time", "_law_called", "_law_accepted"] "_law_reason" (defScope s__law_reason) f cdv A outer s H E).env (cxOf (L2.CX P w) P w K mg base ["_law_event", "_law_odd_here", "_law_time", "_law_called", "_law_accepted"] "_law_reason" (defScope s__law_reason) f cdv A outer s H E).xe := passes_of rfl
  exact (mb_cons (ms_if (mt_tru (me_var 1 hv)) (mb_one (ms_ret me_str)) mb_nil)
    (mb_cons (ms_if (mt_cmp o_lt (me_ix hh (me_var 0 hv) me_int) (me_var 2 hv) (nomark _)) (mb_one (ms_ret me_str)) mb_nil)
    (mb_cons (ms_if (MW.mt (mw_and (mt_cmp (o_eq hh) (me_ix hh (me_var 0 hv) me_int) me_str (nomark _)) (mw_and1 (MW.mt (mw_or (mt_cmp (o_ne hh) (me_ix hh (me_var 3 hv) (me_ix hh (me_var 0 hv) me_int)) (me_ix hh (me_var 4 hv) (me_ix hh (me_var 0 hv) me_int)) (nomark _)) (mw_or1 (mt_cmp (o_ne hh) (me_ix hh (me_var 0 hv) me_int) (me_bin o_add (me_ix hh (me_var 3 hv) (me_ix hh (me_var 0 hv) me_int)) me_int) (nomark _)))))))) (mb_one (ms_ret me_str)) mb_nil)
    (mb_cons (ms_if (MW.mt (mw_and (mt_cmp (o_eq hh) (me_ix hh (me_var 0 hv) me_int) me_str (nomark _)) (mw_and1 (MW.mt (mw_or (mt_cmp (o_eq hh) (me_ix hh (me_var 3 hv) (me_ix hh (me_var 0 hv) me_int)) (me_ix hh (me_var 4 hv) (me_ix hh (me_var 0 hv) me_int)) (nomark _)) (mw_or1 (mt_cmp (o_ne hh) (me_ix hh (me_var 0 hv) me_int) (me_ix hh (me_var 3 hv) (me_ix hh (me_var 0 hv) me_int)) (nomark _)))))))) (mb_one (ms_ret me_str)) mb_nil)
    (mb_one (ms_ret me_str))))))) rfl rfl
abbrev s_BadSchedule___init__ : Stmt := (inClass (topS 2) 0)
theorem sc_BadSchedule___init__ : FnScope ["self", "line", "reason"] ["self", "line", "reason"] (defScope s_BadSchedule___init__) := ⟨rfl, rfl, rfl, by decide +kernel, rfl, by decide +kernel, by decide +kernel⟩
theorem ok_BadSchedule___init__ {f : Addr} {fd : FuncData} (F : Fun K "__init__" "BadSchedule.__init__" s_BadSchedule___init__ f fd) : FnOk P w K mg base (L2.CX P w) 1 f fd ["self", "line", "reason"] (spX2 K (nm.fld 0) (nm.fld 1)) :=
  exc2_den F sc_BadSchedule___init__ fun cdv A outer s H E => pss_cons (ps_ost (pv 0) (pv 1)) (pss_one (ps_ost (pv 0) (pv 2)))
abbrev s_History__reason : Stmt := (inClass (topS 9) 3)
theorem sc_History__reason : FnScope ["self", "event", "called", "accepted"] ["self", "event"] (defScope s_History__reason) := ⟨rfl, rfl, rfl, by decide +kernel, rfl, by decide +kernel, by decide +kernel⟩
theorem va_History__reason : locAll [0, 1, 2, 3] ["self", "event", "called", "accepted"] (defScope s_History__reason) = true := by decide +kernel
theorem ga_History__reason : glAll ["is_event"] (defScope s_History__reason) = true := by decide +kernel
noncomputable def m_History__reason : SM :=
  (mSeq (mIfS (mNot (mBl (mCall V_is_event (mCons (mVar 1) mNil)))) (mRet (mC (.str "event"))) mSkip)
    (mSeq (mIfS (mAnd (mTru (mFld [1] 2 (mVar 0))) (mBl (mBin fLt (mIx (mVar 1) (mC (.int 1))) (mIx (mIx (mFld [1] 2 (mVar 0)) (mUn fNeg (mC (.int 1)))) (mC (.int 1)))))) (mRet (mC (.str "time"))) mSkip)
    (mSeq (mIfS (mBl (mBin fNotIn (mIx (mVar 1) (mC (.int 0))) (mTup (mCons (mC (.str "call")) (mCons (mC (.str "accept")) mNil))))) (mRet (mC .non)) mSkip)
    (mSeq (mSet 2 (mBm .dict fnGet2 (mFld [1] 3 (mVar 0)) (mCons (mIx (mVar 1) (mC (.int 2))) (mCons (mC (.int 0)) mNil))))
    (mSeq (mSet 3 (mBm .dict fnGet2 (mFld [1] 4 (mVar 0)) (mCons (mIx (mVar 1) (mC (.int 2))) (mCons (mC (.int 0)) mNil))))
    (mSeq (mIfS (mAnd (mBl (mBin fEq (mIx (mVar 1) (mC (.int 0))) (mC (.str "call")))) (mOr (mBl (mBin fNe (mVar 2) (mVar 3))) (mBl (mBin fNe (mIx (mVar 1) (mC (.int 3))) (mBin fAdd (mVar 2) (mC (.int 1))))))) (mRet (mC (.str "call"))) mSkip)
    (mSeq (mIfS (mAnd (mBl (mBin fEq (mIx (mVar 1) (mC (.int 0))) (mC (.str "accept")))) (mOr (mBl (mBin fEq (mVar 2) (mVar 3))) (mBl (mBin fNe (mIx (mVar 1) (mC (.int 3))) (mVar 2))))) (mRet (mC (.str "accept"))) mSkip)
    (mRet (mC .non)))))))))
noncomputable def V_History__reason : FM := den 4 m_History__reason
theorem ok_History__reason {f : Addr} {fd : FuncData} (F : Fun K "_reason" "History._reason" s_History__reason f fd)
    (f_History__accepted : FldOk K mg nm [1] 4)
    (f_History__called : FldOk K mg nm [1] 3)
    (f_History__rows : FldOk K mg nm [1] 2)
    (d_is_event : DefOk P w K mg base nm 2 "is_event" 1 V_is_event) :
    FnOk P w K mg base (L2.CX P w) 3 f fd ["self", "event"] (spD nm K mg 2 V_History__reason) :=
  den_ok (m := m_History__reason) F sc_History__reason (fun cdv A outer s H E hr => by
  have nd := sc_History__reason.nd
  have hh := L2H.roomH_of hr
  have hl : locAll [0, 1, 2, 3] (cxOf (L2.CX P w) P w K mg base ["self", "event", "called", "accepted"] "History._reason" (defScope s_History__reason) f cdv A outer s H E).N (cxOf (L2.CX P w) P w K mg base ["self", "event", "called", "accepted"] "History._reason" (defScope s_History__reason) f cdv A outer s H E).env.scope = true := va_History__reason
  have hv := locVis hl
  have hg : glAll ["is_event"] (cxOf (L2.CX P w) P w K mg base ["self", "event", "called", "accepted"] "History._reason" (defScope s_History__reason) f cdv A outer s H E).env.scope = true := ga_History__reason
  have hc : (cxOf (L2.CX P w) P w K mg base ["self", "event", "called", "accepted"] "History._reason" (defScope s_History__reason) f cdv A outer s H E).calm = true := rfl
  have hp : PassesOwn (model P w) (cxOf (L2.CX P w) P w K mg base ["self", "event", "called", "accepted"] "History._reason" (defScope s_History__reason) f cdv A outer s H E).A (cxOf (L2.CX P w) P w K mg base ["self", "event", "called", "accepted"] "History._reason" (defScope s_History__reason) f cdv A outer s H E).env (cxOf (L2.CX P w) P w K mg base ["self", "event", "called", "accepted"] "History._reason" (defScope s_History__reason) f cdv A outer s H E).xe := passes_of rfl
  exact (mb_cons (ms_if (mt_not (mt_val (me_call d_is_event (hr.mono (by decide)) (gl_at hg 0) (ma_cons (me_var 1 hv) ma_nil)))) (mb_one (ms_ret me_str)) mb_nil)
    (mb_cons (ms_if (MW.mt (mw_and (mt_tru (me_fld f_History__rows (me_var 0 hv) fl__rows)) (mw_and1 (mt_cmp o_lt (me_ix hh (me_var 1 hv) me_int) (me_ix hh (me_ix hh (me_fld f_History__rows (me_var 0 hv) fl__rows) (me_neg me_int)) me_int) (nomark _))))) (mb_one (ms_ret me_str)) mb_nil)
    (mb_cons (ms_if (mt_cmp (o_notin hh) (me_ix hh (me_var 1 hv) me_int) (me_tup (ma_cons me_str (ma_cons me_str ma_nil))) (by rfl)) (mb_one (ms_ret me_non)) mb_nil)
    (mb_cons (ms_set 2 nd hl (me_bm (T := .dict) PySem.F.plainAttrs_dict PySem.F.slot_dict_get PySem.F.type_dict_get (t_get2 hh) (me_fld f_History__called (me_var 0 hv) fl__called) (ma_cons (me_ix hh (me_var 1 hv) me_int) (ma_cons me_int ma_nil))))
    (mb_cons (ms_set 3 nd hl (me_bm (T := .dict) PySem.F.plainAttrs_dict PySem.F.slot_dict_get PySem.F.type_dict_get (t_get2 hh) (me_fld f_History__accepted (me_var 0 hv) fl__accepted) (ma_cons (me_ix hh (me_var 1 hv) me_int) (ma_cons me_int ma_nil))))
    (mb_cons (ms_if (MW.mt (mw_and (mt_cmp (o_eq hh) (me_ix hh (me_var 1 hv) me_int) me_str (nomark _)) (mw_and1 (MW.mt (mw_or (mt_cmp (o_ne hh) (me_var 2 hv) (me_var 3 hv) (nomark _)) (mw_or1 (mt_cmp (o_ne hh) (me_ix hh (me_var 1 hv) me_int) (me_bin o_add (me_var 2 hv) me_int) (nomark _)))))))) (mb_one (ms_ret me_str)) mb_nil)
    (mb_cons (ms_if (MW.mt (mw_and (mt_cmp (o_eq hh) (me_ix hh (me_var 1 hv) me_int) me_str (nomark _)) (mw_and1 (MW.mt (mw_or (mt_cmp (o_eq hh) (me_var 2 hv) (me_var 3 hv) (nomark _)) (mw_or1 (mt_cmp (o_ne hh) (me_ix hh (me_var 1 hv) me_int) (me_var 2 hv) (nomark _)))))))) (mb_one (ms_ret me_str)) mb_nil)
    (mb_one (ms_ret me_non)))))))))) rfl rfl
abbrev s_History_add : Stmt := (inClass (topS 9) 2)
theorem sc_History_add : FnScope ["self", "event", "reason"] ["self", "event"] (defScope s_History_add) := ⟨rfl, rfl, rfl, by decide +kernel, rfl, by decide +kernel, by decide +kernel⟩
theorem va_History_add : locAll [0, 1, 2] ["self", "event", "reason"] (defScope s_History_add) = true := by decide +kernel
theorem ga_History_add : glAll ["BadSchedule"] (defScope s_History_add) = true := by decide +kernel
noncomputable def m_History_add : SM :=
  (mSeq (mSet 2 (mMeth 1 V_History__reason (mVar 0) (mCons (mVar 1) mNil)))
    (mSeq (mIfS (mBl (mBin fIsNot (mVar 2) (mC .non))) (mRaise2 22 0 1 (mCons (mC (.int 0)) (mCons (mVar 2) mNil))) mSkip)
    (mSeq (mExpr (mBm .list fnAppend (mFld [1] 2 (mVar 0)) (mCons (mVar 1) mNil)))
    (mSeq (mIfS (mBl (mBin fEq (mIx (mVar 1) (mC (.int 0))) (mC (.str "call")))) (mSetI (mIx (mVar 1) (mC (.int 3))) (mFld [1] 3 (mVar 0)) (mIx (mVar 1) (mC (.int 2)))) mSkip)
    (mIfS (mBl (mBin fEq (mIx (mVar 1) (mC (.int 0))) (mC (.str "accept")))) (mSetI (mIx (mVar 1) (mC (.int 3))) (mFld [1] 4 (mVar 0)) (mIx (mVar 1) (mC (.int 2)))) mSkip)))))
noncomputable def V_History_add : FM := den 3 m_History_add
theorem ok_History_add {f : Addr} {fd : FuncData} (F : Fun K "add" "History.add" s_History_add f fd)
    (f_History__accepted : FldOk K mg nm [1] 4)
    (f_History__called : FldOk K mg nm [1] 3)
    (f_History__rows : FldOk K mg nm [1] 2)
    (e_BadSchedule : Exc2Ok P w K mg base nm 1 22 0 1)
    (m_History__reason : MethOk P w K mg base nm 3 1 "_reason" 2 V_History__reason) :
    FnOk P w K mg base (L2.CX P w) 4 f fd ["self", "event"] (spD nm K mg 2 V_History_add) :=
  den_ok (m := m_History_add) F sc_History_add (fun cdv A outer s H E hr => by
  have nd := sc_History_add.nd
  have hh := L2H.roomH_of hr
  have hl : locAll [0, 1, 2] (cxOf (L2.CX P w) P w K mg base ["self", "event", "reason"] "History.add" (defScope s_History_add) f cdv A outer s H E).N (cxOf (L2.CX P w) P w K mg base ["self", "event", "reason"] "History.add" (defScope s_History_add) f cdv A outer s H E).env.scope = true := va_History_add
  have hv := locVis hl
  have hg : glAll ["BadSchedule"] (cxOf (L2.CX P w) P w K mg base ["self", "event", "reason"] "History.add" (defScope s_History_add) f cdv A outer s H E).env.scope = true := ga_History_add
  have hc : (cxOf (L2.CX P w) P w K mg base ["self", "event", "reason"] "History.add" (defScope s_History_add) f cdv A outer s H E).calm = true := rfl
  have hp : PassesOwn (model P w) (cxOf (L2.CX P w) P w K mg base ["self", "event", "reason"] "History.add" (defScope s_History_add) f cdv A outer s H E).A (cxOf (L2.CX P w) P w K mg base ["self", "event", "reason"] "History.add" (defScope s_History_add) f cdv A outer s H E).env (cxOf (L2.CX P w) P w K mg base ["self", "event", "reason"] "History.add" (defScope s_History_add) f cdv A outer s H E).xe := passes_of rfl
  exact (mb_cons (ms_set 2 nd hl (me_meth m_History__reason (hr.mono (by decide)) (me_var 0 hv) (ma_cons (me_var 1 hv) ma_nil)))
    (mb_cons (ms_if (mt_cmp o_isnot (me_var 2 hv) me_non (nomark _)) (mb_one (ms_raise2 e_BadSchedule (hr.mono (by decide)) hc (gl_at hg 0) (ma_cons me_int (ma_cons (me_var 2 hv) ma_nil)) cl_BadSchedule)) mb_nil)
    (mb_cons (ms_expr (me_bm (T := .list) PySem.F.plainAttrs_list PySem.F.slot_list_append PySem.F.type_list_append t_append (me_fld f_History__rows (me_var 0 hv) fl__rows) (ma_cons (me_var 1 hv) ma_nil)))
    (mb_cons (ms_if (mt_cmp (o_eq hh) (me_ix hh (me_var 1 hv) me_int) me_str (nomark _)) (mb_one (ms_setI hh (me_fld f_History__called (me_var 0 hv) fl__called) (me_ix hh (me_var 1 hv) me_int) (me_ix hh (me_var 1 hv) me_int))) mb_nil)
    (mb_one (ms_if (mt_cmp (o_eq hh) (me_ix hh (me_var 1 hv) me_int) me_str (nomark _)) (mb_one (ms_setI hh (me_fld f_History__accepted (me_var 0 hv) fl__accepted) (me_ix hh (me_var 1 hv) me_int) (me_ix hh (me_var 1 hv) me_int))) mb_nil))))))) rfl rfl
abbrev s__law_added : Stmt := (topS 15)
theorem sc__law_added : FnScope ["_law_history", "_law_event", "error"] ["_law_history", "_law_event"] (defScope s__law_added) := ⟨rfl, rfl, rfl, by decide +kernel, rfl, by decide +kernel, by decide +kernel⟩
theorem va__law_added : locAll [0, 1, 2] ["_law_history", "_law_event", "error"] (defScope s__law_added) = true := by decide +kernel
theorem ga__law_added : glAll ["isinstance", "bool", "BadSchedule"] (defScope s__law_added) = true := by decide +kernel
theorem ln__law_added_2 : (defScope s__law_added).names.lookup ("error" : Str) = some NameKind.local := by decide +kernel
noncomputable def m__law_added : SM :=
  (mSeq (mTryAs 2 [22] [] (mExpr (mMeth 1 V_History_add (mVar 0) (mCons (mVar 1) mNil))) (mSeq (mIfS (mOr (mBl (mIsi .bool (mXf 2 22 0))) (mBl (mBin fNe (mXf 2 22 0) (mC (.int 0))))) (mRet (mC .non)) mSkip)
    (mRet (mXf 2 22 1))))
    (mRet (mC (.str ""))))
noncomputable def V__law_added : FM := den 3 m__law_added
theorem ok__law_added {f : Addr} {fd : FuncData} (F : Fun K "_law_added" "_law_added" s__law_added f fd)
    (m_History_add : MethOk P w K mg base nm 4 1 "add" 2 V_History_add)
    (h_BadSchedule : Catch K mg nm "BadSchedule" [22] [])
    (x_BadSchedule_reason : XcOk K mg nm 22 1)
    (n_isinstance : mg "isinstance" = none)
    (x_BadSchedule_line : XcOk K mg nm 22 0)
    (n_bool : mg "bool" = none) :
    FnOk P w K mg base (L2.CX P w) 5 f fd ["_law_history", "_law_event"] (spD nm K mg 2 V__law_added) :=
  den_ok (m := m__law_added) F sc__law_added (fun cdv A outer s H E hr => by
  have nd := sc__law_added.nd
  have hh := L2H.roomH_of hr
  have hl : locAll [0, 1, 2] (cxOf (L2.CX P w) P w K mg base ["_law_history", "_law_event", "error"] "_law_added" (defScope s__law_added) f cdv A outer s H E).N (cxOf (L2.CX P w) P w K mg base ["_law_history", "_law_event", "error"] "_law_added" (defScope s__law_added) f cdv A outer s H E).env.scope = true := va__law_added
  have hv := locVis hl
  have hg : glAll ["isinstance", "bool", "BadSchedule"] (cxOf (L2.CX P w) P w K mg base ["_law_history", "_law_event", "error"] "_law_added" (defScope s__law_added) f cdv A outer s H E).env.scope = true := ga__law_added
  have hc : (cxOf (L2.CX P w) P w K mg base ["_law_history", "_law_event", "error"] "_law_added" (defScope s__law_added) f cdv A outer s H E).calm = true := rfl
  have hp : PassesOwn (model P w) (cxOf (L2.CX P w) P w K mg base ["_law_history", "_law_event", "error"] "_law_added" (defScope s__law_added) f cdv A outer s H E).A (cxOf (L2.CX P w) P w K mg base ["_law_history", "_law_event", "error"] "_law_added" (defScope s__law_added) f cdv A outer s H E).env (cxOf (L2.CX P w) P w K mg base ["_law_history", "_law_event", "error"] "_law_added" (defScope s__law_added) f cdv A outer s H E).xe := passes_of rfl
  exact (mb_cons (ms_tryAs 2 rfl rfl nd (gl_at hg 2) h_BadSchedule (fun pn xe hp => (mb_one (ms_expr (me_meth m_History_add (hr.mono (by decide)) (me_var 0 hv) (ma_cons (me_var 1 hv) ma_nil))))) (fun a oe pn => (mb_cons (ms_if (MW.mt (mw_or (mt_val (me_isi .bool (me_xf 2 22 0 x_BadSchedule_line hv fl_line) (glS (gl_at hg 0)) n_isinstance (glS (gl_at hg 1)) n_bool bb_isinstance bb_bool)) (mw_or1 (mt_cmp (o_ne (rhS hh)) (me_xf 2 22 0 x_BadSchedule_line hv fl_line) me_int (nomark _))))) (mb_one (ms_ret me_non)) mb_nil)
    (mb_one (ms_ret (me_xf 2 22 1 x_BadSchedule_reason hv fl_reason))))) (ln__law_added_2))
    (mb_one (ms_ret me_str)))) rfl rfl
abbrev s_History___init__ : Stmt := (inClass (topS 9) 0)
theorem sc_History___init__ : FnScope ["self"] ["self"] (defScope s_History___init__) := ⟨rfl, rfl, rfl, by decide +kernel, rfl, by decide +kernel, by decide +kernel⟩
theorem va_History___init__ : locAll [0] ["self"] (defScope s_History___init__) = true := by decide +kernel
theorem ga_History___init__ : glAll [] (defScope s_History___init__) = true := by decide +kernel
noncomputable def m_History___init__ : SM :=
  (mSeq (mSetF [1] 2 (mVar 0) (mLst true mNil))
    (mSeq (mSetF [1] 3 (mVar 0) mDct)
    (mSetF [1] 4 (mVar 0) mDct)))
noncomputable def V_History___init__ : FM := den 1 m_History___init__
theorem ok_History___init__ {f : Addr} {fd : FuncData} (F : Fun K "__init__" "History.__init__" s_History___init__ f fd)
    (f_History__accepted : FldOk K mg nm [1] 4)
    (f_History__called : FldOk K mg nm [1] 3)
    (f_History__rows : FldOk K mg nm [1] 2) :
    FnOk P w K mg base (L2.CX P w) 1 f fd ["self"] (spD nm K mg 1 V_History___init__) :=
  den_ok (m := m_History___init__) F sc_History___init__ (fun cdv A outer s H E hr => by
  have nd := sc_History___init__.nd
  have hh := L2H.roomH_of hr
  have hl : locAll [0] (cxOf (L2.CX P w) P w K mg base ["self"] "History.__init__" (defScope s_History___init__) f cdv A outer s H E).N (cxOf (L2.CX P w) P w K mg base ["self"] "History.__init__" (defScope s_History___init__) f cdv A outer s H E).env.scope = true := va_History___init__
  have hv := locVis hl
  have hg : glAll [] (cxOf (L2.CX P w) P w K mg base ["self"] "History.__init__" (defScope s_History___init__) f cdv A outer s H E).env.scope = true := ga_History___init__
  have hc : (cxOf (L2.CX P w) P w K mg base ["self"] "History.__init__" (defScope s_History___init__) f cdv A outer s H E).calm = true := rfl
  have hp : PassesOwn (model P w) (cxOf (L2.CX P w) P w K mg base ["self"] "History.__init__" (defScope s_History___init__) f cdv A outer s H E).A (cxOf (L2.CX P w) P w K mg base ["self"] "History.__init__" (defScope s_History___init__) f cdv A outer s H E).env (cxOf (L2.CX P w) P w K mg base ["self"] "History.__init__" (defScope s_History___init__) f cdv A outer s H E).xe := passes_of rfl
  exact (mb_cons (ms_setF f_History__rows (me_var 0 hv) (me_lst true ma_nil) fl__rows)
    (mb_cons (ms_setF f_History__called (me_var 0 hv) me_dct fl__called)
    (mb_one (ms_setF f_History__accepted (me_var 0 hv) me_dct fl__accepted))))) rfl rfl
abbrev s_History_events : Stmt := (inClass (topS 9) 1)
theorem sc_History_events : FnScope ["self"] ["self"] (defScope s_History_events) := ⟨rfl, rfl, rfl, by decide +kernel, rfl, by decide +kernel, by decide +kernel⟩
theorem va_History_events : locAll [0] ["self"] (defScope s_History_events) = true := by decide +kernel
theorem ga_History_events : glAll ["list"] (defScope s_History_events) = true := by decide +kernel
noncomputable def m_History_events : SM :=
  (mRet (mCall (fnList true) (mCons (mFld [1] 2 (mVar 0)) mNil)))
noncomputable def V_History_events : FM := den 1 m_History_events
theorem ok_History_events {f : Addr} {fd : FuncData} (F : Fun K "events" "History.events" s_History_events f fd)
    (f_History__rows : FldOk K mg nm [1] 2)
    (n_list : mg "list" = none) :
    FnOk P w K mg base (L2.CX P w) 1 f fd ["self"] (spD nm K mg 1 V_History_events) :=
  den_ok (m := m_History_events) F sc_History_events (fun cdv A outer s H E hr => by
  have nd := sc_History_events.nd
  have hh := L2H.roomH_of hr
  have hl : locAll [0] (cxOf (L2.CX P w) P w K mg base ["self"] "History.events" (defScope s_History_events) f cdv A outer s H E).N (cxOf (L2.CX P w) P w K mg base ["self"] "History.events" (defScope s_History_events) f cdv A outer s H E).env.scope = true := va_History_events
  have hv := locVis hl
  have hg : glAll ["list"] (cxOf (L2.CX P w) P w K mg base ["self"] "History.events" (defScope s_History_events) f cdv A outer s H E).env.scope = true := ga_History_events
  have hc : (cxOf (L2.CX P w) P w K mg base ["self"] "History.events" (defScope s_History_events) f cdv A outer s H E).calm = true := rfl
  have hp : PassesOwn (model P w) (cxOf (L2.CX P w) P w K mg base ["self"] "History.events" (defScope s_History_events) f cdv A outer s H E).A (cxOf (L2.CX P w) P w K mg base ["self"] "History.events" (defScope s_History_events) f cdv A outer s H E).env (cxOf (L2.CX P w) P w K mg base ["self"] "History.events" (defScope s_History_events) f cdv A outer s H E).xe := passes_of rfl
  exact (mb_one (ms_ret (me_callT (c_list true) (gl_at hg 0) n_list bb_list (ma_cons (me_fld f_History__rows (me_var 0 hv) fl__rows) ma_nil))))) rfl rfl
abbrev s_law : Stmt := (topS 16)
theorem sc_law : FnScope ["_law_script", "_law_history", "_law_events", "_law_time", "_law_called", "_law_accepted", "_law_cell_here", "_law_event", "_law_odd_here", "_law_due", "_law_handed"] ["_law_script"] (defScope s_law) := ⟨rfl, rfl, rfl, by decide +kernel, rfl, by decide +kernel, by decide +kernel⟩
theorem va_law : locAll [0, 1, 2, 3, 4, 5, 6, 7, 8, 9, 10] ["_law_script", "_law_history", "_law_events", "_law_time", "_law_called", "_law_accepted", "_law_cell_here", "_law_event", "_law_odd_here", "_law_due", "_law_handed"] (defScope s_law) = true := by decide +kernel
theorem ga_law : glAll ["isinstance", "list", "_law_added", "_law_reason", "_law_odd", "int", "_law_offer", "History"] (defScope s_law) = true := by decide +kernel
noncomputable def lb_law_0 : SM :=
  (mSeq (mSet 7 (mCall V__law_offer (mCons (mBin fDiv (mVar 6) (mC (.int 8))) (mCons (mVar 3) (mCons (mVar 4) mNil)))))
    (mSeq (mSet 8 (mBin fEq (mBin fMod (mCall fnInt (mCons (mVar 6) mNil)) (mC (.int 8))) (mC (.int 0))))
    (mSeq (mIfS (mTru (mVar 8)) (mSet 7 (mCall V__law_odd (mCons (mBin fDiv (mVar 6) (mC (.int 8))) (mCons (mVar 3) mNil)))) mSkip)
    (mSeq (mIfS (mAnd (mBl (mBin fIsNot (mVar 7) (mC .non))) (mAnd (mNot (mTru (mVar 8))) (mBl (mBin fGt (mIx (mVar 7) (mC (.int 1))) (mBin fPow (mC (.int 10)) (mC (.int 12))))))) (mSet 8 (mC (.bl true))) mSkip)
    (mSeq (mSet 9 (mCall V__law_reason (mCons (mVar 7) (mCons (mVar 8) (mCons (mVar 3) (mCons (mVar 4) (mCons (mVar 5) mNil)))))))
    (mSeq (mIfS (mBl (mBin fNe (mCall V__law_added (mCons (mVar 1) (mCons (mVar 7) mNil))) (mVar 9))) (mRet (mC (.bl false))) mSkip)
    (mSeq (mIfS (mBl (mBin fEq (mVar 9) (mC (.str "")))) (mSeq (mExpr (mBm .list fnAppend (mVar 2) (mCons (mVar 7) mNil)))
    (mSeq (mSet 3 (mIx (mVar 7) (mC (.int 1))))
    (mSeq (mIfS (mBl (mBin fEq (mIx (mVar 7) (mC (.int 0))) (mC (.str "call")))) (mSetI (mIx (mVar 7) (mC (.int 3))) (mVar 4) (mIx (mVar 7) (mC (.int 2)))) mSkip)
    (mIfS (mBl (mBin fEq (mIx (mVar 7) (mC (.int 0))) (mC (.str "accept")))) (mSetI (mIx (mVar 7) (mC (.int 3))) (mVar 5) (mIx (mVar 7) (mC (.int 2)))) mSkip)))) mSkip)
    (mSeq (mSet 10 (mMeth 1 V_History_events (mVar 1) mNil))
    (mSeq (mIfS (mOr (mNot (mBl (mIsi .list (mVar 10)))) (mBl (mBin fNe (mVar 10) (mVar 2)))) (mRet (mC (.bl false))) mSkip)
    (mExpr (mBm .list fnAppend (mVar 10) (mCons (mC .non) mNil))))))))))))
noncomputable def m_law : SM :=
  (mSeq (mSet 1 (mNew 1 V_History___init__ mNil))
    (mSeq (mSet 2 (mLst true mNil))
    (mSeq (mSet 3 (mC (.int 0)))
    (mSeq (mSet 4 (mDisp (psCons (mUn fNeg (mC (.int 1))) (mC (.int 0)) (psCons (mUn fNeg (mC (.int 2))) (mC (.int 0)) (psCons (mUn fNeg (mC (.int 3))) (mC (.int 0)) psNil)))))
    (mSeq (mSet 5 (mDisp (psCons (mUn fNeg (mC (.int 1))) (mC (.int 0)) (psCons (mUn fNeg (mC (.int 2))) (mC (.int 0)) (psCons (mUn fNeg (mC (.int 3))) (mC (.int 0)) psNil)))))
    (mSeq (mFor (iAny (mVar 0)) (gNm 6) lb_law_0)
    (mRet (mBin fEq (mMeth 1 V_History_events (mVar 1) mNil) (mVar 2)))))))))
noncomputable def V_law : FM := den 11 m_law
theorem ok_law {f : Addr} {fd : FuncData} (F : Fun K "law" "law" s_law f fd)
    (m_History_events : MethOk P w K mg base nm 1 1 "events" 1 V_History_events)
    (n_isinstance : mg "isinstance" = none)
    (n_list : mg "list" = none)
    (d__law_added : DefOk P w K mg base nm 5 "_law_added" 2 V__law_added)
    (d__law_reason : DefOk P w K mg base nm 1 "_law_reason" 5 V__law_reason)
    (d__law_odd : DefOk P w K mg base nm 1 "_law_odd" 2 V__law_odd)
    (n_int : mg "int" = none)
    (d__law_offer : DefOk P w K mg base nm 1 "_law_offer" 3 V__law_offer)
    (k_History : MakeOk P w K mg base nm 1 1 0 V_History___init__) :
    FnOk P w K mg base (L2.CX P w) 6 f fd ["_law_script"] (spD nm K mg 1 V_law) :=
  den_ok (m := m_law) F sc_law (fun cdv A outer s H E hr => by
  have nd := sc_law.nd
  have hh := L2H.roomH_of hr
  have hl : locAll [0, 1, 2, 3, 4, 5, 6, 7, 8, 9, 10] (cxOf (L2.CX P w) P w K mg base ["_law_script", "_law_history", "_law_events", "_law_time", "_law_called", "_law_accepted", "_law_cell_here", "_law_event", "_law_odd_here", "_law_due", "_law_handed"] "law" (defScope s_law) f cdv A outer s H E).N (cxOf (L2.CX P w) P w K mg base ["_law_script", "_law_history", "_law_events", "_law_time", "_law_called", "_law_accepted", "_law_cell_here", "_law_event", "_law_odd_here", "_law_due", "_law_handed"] "law" (defScope s_law) f cdv A outer s H E).env.scope = true := va_law
  have hv := locVis hl
  have hg : glAll ["isinstance", "list", "_law_added", "_law_reason", "_law_odd", "int", "_law_offer", "History"] (cxOf (L2.CX P w) P w K mg base ["_law_script", "_law_history", "_law_events", "_law_time", "_law_called", "_law_accepted", "_law_cell_here", "_law_event", "_law_odd_here", "_law_due", "_law_handed"] "law" (defScope s_law) f cdv A outer s H E).env.scope = true := ga_law
  have hc : (cxOf (L2.CX P w) P w K mg base ["_law_script", "_law_history", "_law_events", "_law_time", "_law_called", "_law_accepted", "_law_cell_here", "_law_event", "_law_odd_here", "_law_due", "_law_handed"] "law" (defScope s_law) f cdv A outer s H E).calm = true := rfl
  have hp : PassesOwn (model P w) (cxOf (L2.CX P w) P w K mg base ["_law_script", "_law_history", "_law_events", "_law_time", "_law_called", "_law_accepted", "_law_cell_here", "_law_event", "_law_odd_here", "_law_due", "_law_handed"] "law" (defScope s_law) f cdv A outer s H E).A (cxOf (L2.CX P w) P w K mg base ["_law_script", "_law_history", "_law_events", "_law_time", "_law_called", "_law_accepted", "_law_cell_here", "_law_event", "_law_odd_here", "_law_due", "_law_handed"] "law" (defScope s_law) f cdv A outer s H E).env (cxOf (L2.CX P w) P w K mg base ["_law_script", "_law_history", "_law_events", "_law_time", "_law_called", "_law_accepted", "_law_cell_here", "_law_event", "_law_odd_here", "_law_due", "_law_handed"] "law" (defScope s_law) f cdv A outer s H E).xe := passes_of rfl
  exact (mb_cons (ms_set 1 nd hl (me_new0 k_History (hr.mono (by decide)) (gl_at hg 7) cl_History))
    (mb_cons (ms_set 2 nd hl (me_lst true ma_nil))
    (mb_cons (ms_set 3 nd hl me_int)
    (mb_cons (ms_set 4 nd hl (me_disp (mps_cons (me_neg me_int) me_int (mps_cons (me_neg me_int) me_int (mps_cons (me_neg me_int) me_int mps_nil)))))
    (mb_cons (ms_set 5 nd hl (me_disp (mps_cons (me_neg me_int) me_int (mps_cons (me_neg me_int) me_int (mps_cons (me_neg me_int) me_int mps_nil)))))
    (mb_cons (ms_for hp hc (mi_any (me_var 0 hv)) (mg_name 6 nd hl) (gok_nm 6) (mb_cons (ms_set 7 nd hl (me_call d__law_offer (hr.mono (by decide)) (gl_at hg 6) (ma_cons (me_bin o_div (me_var 6 hv) me_int) (ma_cons (me_var 3 hv) (ma_cons (me_var 4 hv) ma_nil)))))
    (mb_cons (ms_set 8 nd hl (me_cmp (o_eq hh) (me_bin o_mod (me_callT c_int (gl_at hg 5) n_int bb_int (ma_cons (me_var 6 hv) ma_nil)) me_int) me_int (nomark _)))
    (mb_cons (ms_if (mt_tru (me_var 8 hv)) (mb_one (ms_set 7 nd hl (me_call d__law_odd (hr.mono (by decide)) (gl_at hg 4) (ma_cons (me_bin o_div (me_var 6 hv) me_int) (ma_cons (me_var 3 hv) ma_nil))))) mb_nil)
    (mb_cons (ms_if (MW.mt (mw_and (mt_cmp o_isnot (me_var 7 hv) me_non (nomark _)) (mw_and (mt_not (mt_tru (me_var 8 hv))) (mw_and1 (mt_cmp o_gt (me_ix hh (me_var 7 hv) me_int) (me_bin o_pow me_int me_int) (nomark _)))))) (mb_one (ms_set 8 nd hl me_bl)) mb_nil)
    (mb_cons (ms_set 9 nd hl (me_call d__law_reason (hr.mono (by decide)) (gl_at hg 3) (ma_cons (me_var 7 hv) (ma_cons (me_var 8 hv) (ma_cons (me_var 3 hv) (ma_cons (me_var 4 hv) (ma_cons (me_var 5 hv) ma_nil)))))))
    (mb_cons (ms_if (mt_cmp (o_ne hh) (me_call d__law_added (hr.mono (by decide)) (gl_at hg 2) (ma_cons (me_var 1 hv) (ma_cons (me_var 7 hv) ma_nil))) (me_var 9 hv) (nomark _)) (mb_one (ms_ret me_bl)) mb_nil)
    (mb_cons (ms_if (mt_cmp (o_eq hh) (me_var 9 hv) me_str (nomark _)) (mb_cons (ms_expr (me_bm (T := .list) PySem.F.plainAttrs_list PySem.F.slot_list_append PySem.F.type_list_append t_append (me_var 2 hv) (ma_cons (me_var 7 hv) ma_nil)))
    (mb_cons (ms_set 3 nd hl (me_ix hh (me_var 7 hv) me_int))
    (mb_cons (ms_if (mt_cmp (o_eq hh) (me_ix hh (me_var 7 hv) me_int) me_str (nomark _)) (mb_one (ms_setI hh (me_var 4 hv) (me_ix hh (me_var 7 hv) me_int) (me_ix hh (me_var 7 hv) me_int))) mb_nil)
    (mb_one (ms_if (mt_cmp (o_eq hh) (me_ix hh (me_var 7 hv) me_int) me_str (nomark _)) (mb_one (ms_setI hh (me_var 5 hv) (me_ix hh (me_var 7 hv) me_int) (me_ix hh (me_var 7 hv) me_int))) mb_nil))))) mb_nil)
    (mb_cons (ms_set 10 nd hl (me_meth0 m_History_events (hr.mono (by decide)) (me_var 1 hv)))
    (mb_cons (ms_if (MW.mt (mw_or (mt_not (mt_val (me_isi .list (me_var 10 hv) (gl_at hg 0) n_isinstance (gl_at hg 1) n_list bb_isinstance bb_list))) (mw_or1 (mt_cmp (o_ne hh) (me_var 10 hv) (me_var 2 hv) (nomark _))))) (mb_one (ms_ret me_bl)) mb_nil)
    (mb_one (ms_expr (me_bm (T := .list) PySem.F.plainAttrs_list PySem.F.slot_list_append PySem.F.type_list_append t_append (me_var 10 hv) (ma_cons me_non ma_nil))))))))))))))
    (mb_one (ms_ret (me_cmp (o_eq hh) (me_meth0 m_History_events (hr.mono (by decide)) (me_var 1 hv)) (me_var 2 hv) (nomark _))))))))))) rfl rfl
end
end L_k69
namespace L_k69
open PySem PySem.Spec PyProof.Rows L2 BS
theorem ixN_in {n : Nat} {p : Int} (h0 : 0 ≤ p) (h1 : p < n) : ixN n p = some p.toNat := by
  simp [ixN, h0, h1]
theorem ixs {α : Type} {xs : List α} {p : Int} (h0 : 0 ≤ p) (h1 : p < xs.length) : ∃ x, x ∈ xs ∧ atI xs p = some x := by
  have h3 : p.toNat < xs.length := by omega
  exact ⟨xs[p.toNat], List.getElem_mem h3, by unfold atI; rw [ixN_in h0 h1]; simp [List.getElem?_eq_getElem h3]⟩
theorem sz : (1000000 : Nat) ≤ sizeLine := by decide
theorem ix_str (S : Store) {z : Str} {p : Int} (hz : z.length ≤ 1000000) (h0 : 0 ≤ p) (h1 : p < z.length) : ∃ c : Nat, fIx S (.str z) (.int p) = some (.str ⟨#[c]⟩) := by
  obtain ⟨c, _, e⟩ := ixs (xs := z.cps.toList) h0 (by simpa [Str.length] using h1)
  exact ⟨c, by simp [fIx, Nat.le_trans hz sz, e, BS.strAt]⟩
theorem cut_len (z : Str) (lo hi : Option Int) : (cutS z lo hi).length ≤ z.length := by
  simp [cutS, Str.length]; omega
theorem one_len (c : Nat) : (⟨#[c]⟩ : Str).length = 1 := rfl
theorem getK_put {kvs : List (Key × D)} (k : Key) (v : D) (k' : Key) : getK (putD kvs k v) k' = if k' = k then some v else getK kvs k' := by
  unfold putD
  by_cases h : (kvs.any fun kv => decide (kv.1 = k)) = true
  · rw [if_pos h]
    induction kvs with
    | nil => simp at h
    | cons p r ih =>
      by_cases hp : p.1 = k
      · by_cases hk : k' = k
        · subst hk; simp [getK, hp]
        · have h1 : ¬ k = k' := fun z => hk z.symm
          have h2 : ¬ p.1 = k' := fun z => hk (z.symm.trans hp)
          rw [if_neg hk]
          by_cases hr : (r.any fun kv => decide (kv.1 = k)) = true
          · have := ih hr
            rw [if_neg hk] at this
            simp only [getK, List.map_cons, hp, if_true, List.find?_cons, decide_eq_false h1] at this ⊢
            exact this
          · have e : r.map (fun kv => if kv.1 = k then (kv.1, v) else kv) = r := by
              conv => rhs; rw [← List.map_id r]
              apply List.map_congr_left
              intro x hx
              have : ¬ x.1 = k := fun z => hr (List.any_eq_true.mpr ⟨x, hx, by simp [z]⟩)
              rw [if_neg this]; rfl
            simp only [getK, List.map_cons, hp, if_true, List.find?_cons, decide_eq_false h1, e]
      · have hr : (r.any fun kv => decide (kv.1 = k)) = true := by simpa [hp] using h
        have := ih hr
        by_cases hq : p.1 = k'
        · have hk : ¬ k' = k := fun z => hp (hq.trans z)
          simp [getK, hp, hq, hk]
        · simp only [getK, List.map_cons, if_neg hp, List.find?_cons, decide_eq_false hq] at this ⊢
          exact this
  · rw [if_neg h]
    have hn : ∀ x ∈ kvs, ¬ x.1 = k := fun x hx z => h (List.any_eq_true.mpr ⟨x, hx, by simp [z]⟩)
    induction kvs with
    | nil =>
      by_cases hk : k' = k
      · subst hk; simp [getK]
      · have h1 : ¬ k = k' := fun z => hk z.symm
        simp [getK, hk, h1]
    | cons p r ih =>
      have := ih (by intro z; exact h (by simp [List.any_cons]; right; simpa using z)) (fun x hx => hn x (by simp [hx]))
      by_cases hq : p.1 = k'
      · have hk : ¬ k' = k := fun z => hn p (by simp) (hq.trans z)
        simp [getK, hq, hk]
      · simp only [getK, List.cons_append, List.find?_cons, decide_eq_false hq] at this ⊢
        exact this
theorem put_len (kvs : List (Key × D)) (k : Key) (v : D) : (putD kvs k v).length ≤ kvs.length + 1 := by
  unfold putD
  split
  · simp
  · simp
theorem eq_tnil {n : Nat} (S : Store) {x : D} {xs : List D} (h : Fl n (.tup (x :: xs))) (hn : n < 100 := by decide) : eqS S (.tup (x :: xs)) (.tup []) = some false := by
  have h1 := h.pl (pyk 3 S)
  have h2 := h.dp (pyk 3 S)
  have h3 : small (py S (.tup (x :: xs))) (py S (.tup [])) = true := by
    simp only [small, Bool.and_eq_true, decide_eq_true_eq]
    refine ⟨⟨h1, rfl⟩, ?_⟩
    exact Nat.lt_of_le_of_lt (Nat.min_le_left _ _) (Nat.lt_of_le_of_lt h2 hn)
  unfold eqS
  rw [if_pos h3]
  simp [py, pyF, pyFs, PyData.eqv, PyData.eqvAll]
theorem eq_tnn (S : Store) : eqS S (.tup []) (.tup []) = some true := eqS_refl S (n := 1) (.tup .nil)
theorem in_two (S : Store) (z a b : Str) : inS S (.str z) (.tup [.str a, .str b]) = some (decide (a = z) || decide (b = z)) := by
  simp [inS, dctOf, seqOf, tupOf, py, pys, pyF, pyFs, PyData.plain, PyData.plainAll, PyData.depth, PyData.depthAll, PyData.eqv]
  by_cases h1 : a = z <;> by_cases h2 : b = z <;> simp [h1, h2]
theorem ne_call_accept : (Str.ofString "call" = Str.ofString "accept") = False := by simp; decide +kernel
theorem ne_call_done : (Str.ofString "call" = Str.ofString "done") = False := by simp; decide +kernel
theorem ne_call_crash : (Str.ofString "call" = Str.ofString "crash") = False := by simp; decide +kernel
theorem ne_call_fall : (Str.ofString "call" = Str.ofString "fall") = False := by simp; decide +kernel
theorem ne_call_event : (Str.ofString "call" = Str.ofString "event") = False := by simp; decide +kernel
theorem ne_call_time : (Str.ofString "call" = Str.ofString "time") = False := by simp; decide +kernel
theorem ne_call_e : (Str.ofString "call" = Str.ofString "") = False := by simp; decide +kernel
theorem ne_accept_call : (Str.ofString "accept" = Str.ofString "call") = False := by simp; decide +kernel
theorem ne_accept_done : (Str.ofString "accept" = Str.ofString "done") = False := by simp; decide +kernel
theorem ne_accept_crash : (Str.ofString "accept" = Str.ofString "crash") = False := by simp; decide +kernel
theorem ne_accept_fall : (Str.ofString "accept" = Str.ofString "fall") = False := by simp; decide +kernel
theorem ne_accept_event : (Str.ofString "accept" = Str.ofString "event") = False := by simp; decide +kernel
theorem ne_accept_time : (Str.ofString "accept" = Str.ofString "time") = False := by simp; decide +kernel
theorem ne_accept_e : (Str.ofString "accept" = Str.ofString "") = False := by simp; decide +kernel
theorem ne_done_call : (Str.ofString "done" = Str.ofString "call") = False := by simp; decide +kernel
theorem ne_done_accept : (Str.ofString "done" = Str.ofString "accept") = False := by simp; decide +kernel
theorem ne_done_crash : (Str.ofString "done" = Str.ofString "crash") = False := by simp; decide +kernel
theorem ne_done_fall : (Str.ofString "done" = Str.ofString "fall") = False := by simp; decide +kernel
theorem ne_done_event : (Str.ofString "done" = Str.ofString "event") = False := by simp; decide +kernel
theorem ne_done_time : (Str.ofString "done" = Str.ofString "time") = False := by simp; decide +kernel
theorem ne_done_e : (Str.ofString "done" = Str.ofString "") = False := by simp; decide +kernel
theorem ne_crash_call : (Str.ofString "crash" = Str.ofString "call") = False := by simp; decide +kernel
theorem ne_crash_accept : (Str.ofString "crash" = Str.ofString "accept") = False := by simp; decide +kernel
theorem ne_crash_done : (Str.ofString "crash" = Str.ofString "done") = False := by simp; decide +kernel
theorem ne_crash_fall : (Str.ofString "crash" = Str.ofString "fall") = False := by simp; decide +kernel
theorem ne_crash_event : (Str.ofString "crash" = Str.ofString "event") = False := by simp; decide +kernel
theorem ne_crash_time : (Str.ofString "crash" = Str.ofString "time") = False := by simp; decide +kernel
theorem ne_crash_e : (Str.ofString "crash" = Str.ofString "") = False := by simp; decide +kernel
theorem ne_fall_call : (Str.ofString "fall" = Str.ofString "call") = False := by simp; decide +kernel
theorem ne_fall_accept : (Str.ofString "fall" = Str.ofString "accept") = False := by simp; decide +kernel
theorem ne_fall_done : (Str.ofString "fall" = Str.ofString "done") = False := by simp; decide +kernel
theorem ne_fall_crash : (Str.ofString "fall" = Str.ofString "crash") = False := by simp; decide +kernel
theorem ne_fall_event : (Str.ofString "fall" = Str.ofString "event") = False := by simp; decide +kernel
theorem ne_fall_time : (Str.ofString "fall" = Str.ofString "time") = False := by simp; decide +kernel
theorem ne_fall_e : (Str.ofString "fall" = Str.ofString "") = False := by simp; decide +kernel
theorem ne_event_call : (Str.ofString "event" = Str.ofString "call") = False := by simp; decide +kernel
theorem ne_event_accept : (Str.ofString "event" = Str.ofString "accept") = False := by simp; decide +kernel
theorem ne_event_done : (Str.ofString "event" = Str.ofString "done") = False := by simp; decide +kernel
theorem ne_event_crash : (Str.ofString "event" = Str.ofString "crash") = False := by simp; decide +kernel
theorem ne_event_fall : (Str.ofString "event" = Str.ofString "fall") = False := by simp; decide +kernel
theorem ne_event_time : (Str.ofString "event" = Str.ofString "time") = False := by simp; decide +kernel
theorem ne_event_e : (Str.ofString "event" = Str.ofString "") = False := by simp; decide +kernel
theorem ne_time_call : (Str.ofString "time" = Str.ofString "call") = False := by simp; decide +kernel
theorem ne_time_accept : (Str.ofString "time" = Str.ofString "accept") = False := by simp; decide +kernel
theorem ne_time_done : (Str.ofString "time" = Str.ofString "done") = False := by simp; decide +kernel
theorem ne_time_crash : (Str.ofString "time" = Str.ofString "crash") = False := by simp; decide +kernel
theorem ne_time_fall : (Str.ofString "time" = Str.ofString "fall") = False := by simp; decide +kernel
theorem ne_time_event : (Str.ofString "time" = Str.ofString "event") = False := by simp; decide +kernel
theorem ne_time_e : (Str.ofString "time" = Str.ofString "") = False := by simp; decide +kernel
theorem ne_e_call : (Str.ofString "" = Str.ofString "call") = False := by simp; decide +kernel
theorem ne_e_accept : (Str.ofString "" = Str.ofString "accept") = False := by simp; decide +kernel
theorem ne_e_done : (Str.ofString "" = Str.ofString "done") = False := by simp; decide +kernel
theorem ne_e_crash : (Str.ofString "" = Str.ofString "crash") = False := by simp; decide +kernel
theorem ne_e_fall : (Str.ofString "" = Str.ofString "fall") = False := by simp; decide +kernel
theorem ne_e_event : (Str.ofString "" = Str.ofString "event") = False := by simp; decide +kernel
theorem ne_e_time : (Str.ofString "" = Str.ofString "time") = False := by simp; decide +kernel
def Cl (k : Int) : Prop := k = -1 ∨ k = -2 ∨ k = -3
abbrev evC (t c n : Int) : D := .tup [.str "call", .int t, .int c, .int n, .tup [.str "get", .str "a"]]
abbrev evA (t c n : Int) : D := .tup [.str "accept", .int t, .int c, .int n, .tup [.str "none"]]
abbrev evX (t i : Int) : D := .tup [.str "crash", .int t, .int i]
abbrev evD (t i : Int) : D := .tup [.str "done", .int t, .int i, .tup [.str "gone", .str "a", .non, .int 3]]
inductive GE (t : Int) : D → Prop
  | call (c n : Int) : Cl c → GE t (evC t c n)
  | acc (c n : Int) : Cl c → GE t (evA t c n)
  | crash (i : Int) : GE t (evX t i)
  | done (i : Int) : GE t (evD t i)
theorem fl_int {n : Nat} (i : Int) : Fl n (.int i) := .int i
theorem GE.fl {t : Int} {d : D} (h : GE t d) : Fl 3 d := by
  cases h with
  | call c n h => exact .tup (.cons (.str _) (.cons (.int _) (.cons (.int _) (.cons (.int _) (.cons (.tup (.cons (.str _) (.cons (.str _) .nil))) .nil)))))
  | acc c n h => exact .tup (.cons (.str _) (.cons (.int _) (.cons (.int _) (.cons (.int _) (.cons (.tup (.cons (.str _) .nil)) .nil)))))
  | crash i => exact .tup (.cons (.str _) (.cons (.int _) (.cons (.int _) .nil)))
  | done i => exact .tup (.cons (.str _) (.cons (.int _) (.cons (.int _) (.cons (.tup (.cons (.str _) (.cons (.str _) (.cons .non (.cons (.int _) .nil))))) .nil))))
theorem int_eq (t : Int) (h : 0 ≤ t) (S : Store) : V_is_integer [.int t, .int 0, .int 1000000000000] S = .ok (.bl (decide (t ≤ 1000000000000))) S := by
  simp (config := { implicitDefEqProofs := false }) [V_is_integer, m_is_integer, tyS, isTy, lift2, fCmp, h]
theorem event_eq {t : Int} {d : D} (h : GE t d) (ht : 0 ≤ t) (S : Store) : V_is_event [d] S = .ok (.bl (decide (t ≤ 1000000000000))) S := by
  have e := int_eq t ht S
  cases h with
  | call c n hc =>
    have q := eq_tnil S (GE.call (t := t) c n hc).fl
    simp (config := { implicitDefEqProofs := false }) [V_is_event, m_is_event, q, e, tyS, isTy, lift2, fEq, fNe, fIx, seqOf, tupOf, lstOf, atI, ixN, keyOf, getK, c_SIZES, lenS, dctOf, fCmp, c_MOST_NUMBER, ne_call_accept, ne_call_done, ne_call_crash, ne_call_fall, ne_call_event, ne_call_time, ne_call_e, ne_accept_call, ne_accept_done, ne_accept_crash, ne_accept_fall, ne_accept_event, ne_accept_time, ne_accept_e, ne_done_call, ne_done_accept, ne_done_crash, ne_done_fall, ne_done_event, ne_done_time, ne_done_e, ne_crash_call, ne_crash_accept, ne_crash_done, ne_crash_fall, ne_crash_event, ne_crash_time, ne_crash_e, ne_fall_call, ne_fall_accept, ne_fall_done, ne_fall_crash, ne_fall_event, ne_fall_time, ne_fall_e, ne_event_call, ne_event_accept, ne_event_done, ne_event_crash, ne_event_fall, ne_event_time, ne_event_e, ne_time_call, ne_time_accept, ne_time_done, ne_time_crash, ne_time_fall, ne_time_event, ne_time_e, ne_e_call, ne_e_accept, ne_e_done, ne_e_crash, ne_e_fall, ne_e_event, ne_e_time]
  | acc c n hc =>
    have q := eq_tnil S (GE.acc (t := t) c n hc).fl
    simp (config := { implicitDefEqProofs := false }) [V_is_event, m_is_event, q, e, tyS, isTy, lift2, fEq, fNe, fIx, seqOf, tupOf, lstOf, atI, ixN, keyOf, getK, c_SIZES, lenS, dctOf, fCmp, c_MOST_NUMBER, ne_call_accept, ne_call_done, ne_call_crash, ne_call_fall, ne_call_event, ne_call_time, ne_call_e, ne_accept_call, ne_accept_done, ne_accept_crash, ne_accept_fall, ne_accept_event, ne_accept_time, ne_accept_e, ne_done_call, ne_done_accept, ne_done_crash, ne_done_fall, ne_done_event, ne_done_time, ne_done_e, ne_crash_call, ne_crash_accept, ne_crash_done, ne_crash_fall, ne_crash_event, ne_crash_time, ne_crash_e, ne_fall_call, ne_fall_accept, ne_fall_done, ne_fall_crash, ne_fall_event, ne_fall_time, ne_fall_e, ne_event_call, ne_event_accept, ne_event_done, ne_event_crash, ne_event_fall, ne_event_time, ne_event_e, ne_time_call, ne_time_accept, ne_time_done, ne_time_crash, ne_time_fall, ne_time_event, ne_time_e, ne_e_call, ne_e_accept, ne_e_done, ne_e_crash, ne_e_fall, ne_e_event, ne_e_time]
  | crash i =>
    have q := eq_tnil S (GE.crash (t := t) i).fl
    simp (config := { implicitDefEqProofs := false }) [V_is_event, m_is_event, q, e, tyS, isTy, lift2, fEq, fNe, fIx, seqOf, tupOf, lstOf, atI, ixN, keyOf, getK, c_SIZES, lenS, dctOf, fCmp, c_MOST_NUMBER, ne_call_accept, ne_call_done, ne_call_crash, ne_call_fall, ne_call_event, ne_call_time, ne_call_e, ne_accept_call, ne_accept_done, ne_accept_crash, ne_accept_fall, ne_accept_event, ne_accept_time, ne_accept_e, ne_done_call, ne_done_accept, ne_done_crash, ne_done_fall, ne_done_event, ne_done_time, ne_done_e, ne_crash_call, ne_crash_accept, ne_crash_done, ne_crash_fall, ne_crash_event, ne_crash_time, ne_crash_e, ne_fall_call, ne_fall_accept, ne_fall_done, ne_fall_crash, ne_fall_event, ne_fall_time, ne_fall_e, ne_event_call, ne_event_accept, ne_event_done, ne_event_crash, ne_event_fall, ne_event_time, ne_event_e, ne_time_call, ne_time_accept, ne_time_done, ne_time_crash, ne_time_fall, ne_time_event, ne_time_e, ne_e_call, ne_e_accept, ne_e_done, ne_e_crash, ne_e_fall, ne_e_event, ne_e_time]
  | done i =>
    have q := eq_tnil S (GE.done (t := t) i).fl
    simp (config := { implicitDefEqProofs := false }) [V_is_event, m_is_event, q, e, tyS, isTy, lift2, fEq, fNe, fIx, seqOf, tupOf, lstOf, atI, ixN, keyOf, getK, c_SIZES, lenS, dctOf, fCmp, c_MOST_NUMBER, ne_call_accept, ne_call_done, ne_call_crash, ne_call_fall, ne_call_event, ne_call_time, ne_call_e, ne_accept_call, ne_accept_done, ne_accept_crash, ne_accept_fall, ne_accept_event, ne_accept_time, ne_accept_e, ne_done_call, ne_done_accept, ne_done_crash, ne_done_fall, ne_done_event, ne_done_time, ne_done_e, ne_crash_call, ne_crash_accept, ne_crash_done, ne_crash_fall, ne_crash_event, ne_crash_time, ne_crash_e, ne_fall_call, ne_fall_accept, ne_fall_done, ne_fall_crash, ne_fall_event, ne_fall_time, ne_fall_e, ne_event_call, ne_event_accept, ne_event_done, ne_event_crash, ne_event_fall, ne_event_time, ne_event_e, ne_time_call, ne_time_accept, ne_time_done, ne_time_crash, ne_time_fall, ne_time_event, ne_time_e, ne_e_call, ne_e_accept, ne_e_done, ne_e_crash, ne_e_fall, ne_e_event, ne_e_time]
def NoEv (d : D) : Prop := ∀ S, V_is_event [d] S = .ok (.bl false) S
theorem m12 (r : Int) : r % 12 = 0 ∨ r % 12 = 1 ∨ r % 12 = 2 ∨ r % 12 = 3 ∨ r % 12 = 4 ∨ r % 12 = 5 ∨ r % 12 = 6 ∨ r % 12 = 7 ∨ r % 12 = 8 ∨ r % 12 = 9 ∨ r % 12 = 10 ∨ r % 12 = 11 := by omega
theorem no1 (d : D) (h : ∀ S, ∃ t, tyS S d = some t ∧ isTy t .tuple = false) : NoEv d := fun S => by
  obtain ⟨t, h1, h2⟩ := h S
  simp (config := { implicitDefEqProofs := false }) [V_is_event, m_is_event, h1, h2]
theorem no2 (w : Str) (xs : List D) (hf : FlS 5 xs) (hs : getK c_SIZES (.inr w) = none ∨ ∃ n : Int, getK c_SIZES (.inr w) = some (.int n) ∧ ¬ ((xs.length : Int) + 1 = n)) : NoEv (.tup (.str w :: xs)) := fun S => by
  have q := eq_tnil S (Fl.tup (.cons (.str w) hf))
  have i0 : fIx S (.tup (.str w :: xs)) (.int 0) = some (.str w) := by
    simp [fIx, seqOf, tupOf, atI, ixN]
  rcases hs with h | ⟨n, h, hn⟩
  · simp (config := { implicitDefEqProofs := false }) [V_is_event, m_is_event, tyS, isTy, lift2, fEq, q, i0, keyOf, h]
  · simp (config := { implicitDefEqProofs := false }) [V_is_event, m_is_event, tyS, isTy, lift2, fEq, fNe, q, i0, keyOf, h, lenS, seqOf, tupOf, hn]
theorem g_crash : getK c_SIZES (.inr "crash") = some (.int 3) := by simp [getK, c_SIZES, ne_call_accept, ne_call_done, ne_call_crash, ne_call_fall, ne_call_event, ne_call_time, ne_call_e, ne_accept_call, ne_accept_done, ne_accept_crash, ne_accept_fall, ne_accept_event, ne_accept_time, ne_accept_e, ne_done_call, ne_done_accept, ne_done_crash, ne_done_fall, ne_done_event, ne_done_time, ne_done_e, ne_crash_call, ne_crash_accept, ne_crash_done, ne_crash_fall, ne_crash_event, ne_crash_time, ne_crash_e, ne_fall_call, ne_fall_accept, ne_fall_done, ne_fall_crash, ne_fall_event, ne_fall_time, ne_fall_e, ne_event_call, ne_event_accept, ne_event_done, ne_event_crash, ne_event_fall, ne_event_time, ne_event_e, ne_time_call, ne_time_accept, ne_time_done, ne_time_crash, ne_time_fall, ne_time_event, ne_time_e, ne_e_call, ne_e_accept, ne_e_done, ne_e_crash, ne_e_fall, ne_e_event, ne_e_time]
theorem g_call : getK c_SIZES (.inr "call") = some (.int 5) := by simp [getK, c_SIZES, ne_call_accept, ne_call_done, ne_call_crash, ne_call_fall, ne_call_event, ne_call_time, ne_call_e, ne_accept_call, ne_accept_done, ne_accept_crash, ne_accept_fall, ne_accept_event, ne_accept_time, ne_accept_e, ne_done_call, ne_done_accept, ne_done_crash, ne_done_fall, ne_done_event, ne_done_time, ne_done_e, ne_crash_call, ne_crash_accept, ne_crash_done, ne_crash_fall, ne_crash_event, ne_crash_time, ne_crash_e, ne_fall_call, ne_fall_accept, ne_fall_done, ne_fall_crash, ne_fall_event, ne_fall_time, ne_fall_e, ne_event_call, ne_event_accept, ne_event_done, ne_event_crash, ne_event_fall, ne_event_time, ne_event_e, ne_time_call, ne_time_accept, ne_time_done, ne_time_crash, ne_time_fall, ne_time_event, ne_time_e, ne_e_call, ne_e_accept, ne_e_done, ne_e_crash, ne_e_fall, ne_e_event, ne_e_time]
theorem g_done : getK c_SIZES (.inr "done") = some (.int 4) := by simp [getK, c_SIZES, ne_call_accept, ne_call_done, ne_call_crash, ne_call_fall, ne_call_event, ne_call_time, ne_call_e, ne_accept_call, ne_accept_done, ne_accept_crash, ne_accept_fall, ne_accept_event, ne_accept_time, ne_accept_e, ne_done_call, ne_done_accept, ne_done_crash, ne_done_fall, ne_done_event, ne_done_time, ne_done_e, ne_crash_call, ne_crash_accept, ne_crash_done, ne_crash_fall, ne_crash_event, ne_crash_time, ne_crash_e, ne_fall_call, ne_fall_accept, ne_fall_done, ne_fall_crash, ne_fall_event, ne_fall_time, ne_fall_e, ne_event_call, ne_event_accept, ne_event_done, ne_event_crash, ne_event_fall, ne_event_time, ne_event_e, ne_time_call, ne_time_accept, ne_time_done, ne_time_crash, ne_time_fall, ne_time_event, ne_time_e, ne_e_call, ne_e_accept, ne_e_done, ne_e_crash, ne_e_fall, ne_e_event, ne_e_time]
theorem g_acc : getK c_SIZES (.inr "accept") = some (.int 5) := by simp [getK, c_SIZES, ne_call_accept, ne_call_done, ne_call_crash, ne_call_fall, ne_call_event, ne_call_time, ne_call_e, ne_accept_call, ne_accept_done, ne_accept_crash, ne_accept_fall, ne_accept_event, ne_accept_time, ne_accept_e, ne_done_call, ne_done_accept, ne_done_crash, ne_done_fall, ne_done_event, ne_done_time, ne_done_e, ne_crash_call, ne_crash_accept, ne_crash_done, ne_crash_fall, ne_crash_event, ne_crash_time, ne_crash_e, ne_fall_call, ne_fall_accept, ne_fall_done, ne_fall_crash, ne_fall_event, ne_fall_time, ne_fall_e, ne_event_call, ne_event_accept, ne_event_done, ne_event_crash, ne_event_fall, ne_event_time, ne_event_e, ne_time_call, ne_time_accept, ne_time_done, ne_time_crash, ne_time_fall, ne_time_event, ne_time_e, ne_e_call, ne_e_accept, ne_e_done, ne_e_crash, ne_e_fall, ne_e_event, ne_e_time]
theorem g_fall : getK c_SIZES (.inr "fall") = none := by simp [getK, c_SIZES, ne_call_accept, ne_call_done, ne_call_crash, ne_call_fall, ne_call_event, ne_call_time, ne_call_e, ne_accept_call, ne_accept_done, ne_accept_crash, ne_accept_fall, ne_accept_event, ne_accept_time, ne_accept_e, ne_done_call, ne_done_accept, ne_done_crash, ne_done_fall, ne_done_event, ne_done_time, ne_done_e, ne_crash_call, ne_crash_accept, ne_crash_done, ne_crash_fall, ne_crash_event, ne_crash_time, ne_crash_e, ne_fall_call, ne_fall_accept, ne_fall_done, ne_fall_crash, ne_fall_event, ne_fall_time, ne_fall_e, ne_event_call, ne_event_accept, ne_event_done, ne_event_crash, ne_event_fall, ne_event_time, ne_event_e, ne_time_call, ne_time_accept, ne_time_done, ne_time_crash, ne_time_fall, ne_time_event, ne_time_e, ne_e_call, ne_e_accept, ne_e_done, ne_e_crash, ne_e_fall, ne_e_event, ne_e_time]
def oddD (c tm : Int) : D := (([.non, .tup [], .tup [.str "crash", .int tm], .tup [.str "fall", .int tm, .int 1], .lst [.str "crash", .int tm, .int 0], .tup [.str "crash", .int (-1), .int 0], .tup [.str "crash", .bl true, .int 0], .int 7,
  .tup [.str "call", .int tm, .int (-1), .int 1], .tup [.str "done", .int tm, .int 0], .tup [.str "accept", .non, .int (-1), .int 1, .tup [.str "none"]], .tup [.str "crash", .int 1000000000001, .int 0]] : List D).getD (c % 12).toNat .non)
theorem odd_no (c tm : Int) : NoEv (oddD c tm) := by
  rcases m12 c with h | h | h | h | h | h | h | h | h | h | h | h <;> unfold oddD <;> rw [h]
  · exact no1 _ fun S => ⟨.none, rfl, rfl⟩
  · intro S
    have q := eq_tnn S
    show V_is_event [.tup []] S = _
    simp (config := { implicitDefEqProofs := false }) [V_is_event, m_is_event, tyS, isTy, lift2, fEq, q]
  · exact no2 _ _ (.cons (.int _) .nil) (.inr ⟨_, g_crash, by simp⟩)
  · exact no2 _ _ (.cons (.int _) (.cons (.int _) .nil)) (.inl g_fall)
  · exact no1 _ fun S => ⟨.list, rfl, rfl⟩
  · intro S
    show V_is_event [.tup [.str "crash", .int (-1), .int 0]] S = _
    have q := eq_tnil S (x := .str "crash") (xs := [.int (-1), .int 0]) (n := 3) (.tup (.cons (.str _) (.cons (.int _) (.cons (.int _) .nil))))
    simp (config := { implicitDefEqProofs := false }) [V_is_event, m_is_event, V_is_integer, m_is_integer, q, tyS, isTy, lift2, fEq, fNe, fIx, seqOf, tupOf, lstOf, atI, ixN, keyOf, getK, c_SIZES, lenS, dctOf, fCmp, c_MOST_NUMBER, ne_call_accept, ne_call_done, ne_call_crash, ne_call_fall, ne_call_event, ne_call_time, ne_call_e, ne_accept_call, ne_accept_done, ne_accept_crash, ne_accept_fall, ne_accept_event, ne_accept_time, ne_accept_e, ne_done_call, ne_done_accept, ne_done_crash, ne_done_fall, ne_done_event, ne_done_time, ne_done_e, ne_crash_call, ne_crash_accept, ne_crash_done, ne_crash_fall, ne_crash_event, ne_crash_time, ne_crash_e, ne_fall_call, ne_fall_accept, ne_fall_done, ne_fall_crash, ne_fall_event, ne_fall_time, ne_fall_e, ne_event_call, ne_event_accept, ne_event_done, ne_event_crash, ne_event_fall, ne_event_time, ne_event_e, ne_time_call, ne_time_accept, ne_time_done, ne_time_crash, ne_time_fall, ne_time_event, ne_time_e, ne_e_call, ne_e_accept, ne_e_done, ne_e_crash, ne_e_fall, ne_e_event, ne_e_time]
  · intro S
    show V_is_event [.tup [.str "crash", .bl true, .int 0]] S = _
    have q := eq_tnil S (x := .str "crash") (xs := [.bl true, .int 0]) (n := 3) (.tup (.cons (.str _) (.cons (.bl _) (.cons (.int _) .nil))))
    simp (config := { implicitDefEqProofs := false }) [V_is_event, m_is_event, V_is_integer, m_is_integer, q, tyS, isTy, lift2, fEq, fNe, fIx, seqOf, tupOf, lstOf, atI, ixN, keyOf, getK, c_SIZES, lenS, dctOf, fCmp, c_MOST_NUMBER, ne_call_accept, ne_call_done, ne_call_crash, ne_call_fall, ne_call_event, ne_call_time, ne_call_e, ne_accept_call, ne_accept_done, ne_accept_crash, ne_accept_fall, ne_accept_event, ne_accept_time, ne_accept_e, ne_done_call, ne_done_accept, ne_done_crash, ne_done_fall, ne_done_event, ne_done_time, ne_done_e, ne_crash_call, ne_crash_accept, ne_crash_done, ne_crash_fall, ne_crash_event, ne_crash_time, ne_crash_e, ne_fall_call, ne_fall_accept, ne_fall_done, ne_fall_crash, ne_fall_event, ne_fall_time, ne_fall_e, ne_event_call, ne_event_accept, ne_event_done, ne_event_crash, ne_event_fall, ne_event_time, ne_event_e, ne_time_call, ne_time_accept, ne_time_done, ne_time_crash, ne_time_fall, ne_time_event, ne_time_e, ne_e_call, ne_e_accept, ne_e_done, ne_e_crash, ne_e_fall, ne_e_event, ne_e_time]
  · exact no1 _ fun S => ⟨.int, rfl, rfl⟩
  · exact no2 _ _ (.cons (.int _) (.cons (.int _) (.cons (.int _) .nil))) (.inr ⟨_, g_call, by simp⟩)
  · exact no2 _ _ (.cons (.int _) (.cons (.int _) .nil)) (.inr ⟨_, g_done, by simp⟩)
  · intro S
    show V_is_event [.tup [.str "accept", .non, .int (-1), .int 1, .tup [.str "none"]]] S = _
    have q := eq_tnil S (x := .str "accept") (xs := [.non, .int (-1), .int 1, .tup [.str "none"]]) (n := 3) (.tup (.cons (.str _) (.cons .non (.cons (.int _) (.cons (.int _) (.cons (.tup (.cons (.str _) .nil)) .nil))))))
    simp (config := { implicitDefEqProofs := false }) [V_is_event, m_is_event, V_is_integer, m_is_integer, q, tyS, isTy, lift2, fEq, fNe, fIx, seqOf, tupOf, lstOf, atI, ixN, keyOf, getK, c_SIZES, lenS, dctOf, fCmp, c_MOST_NUMBER, ne_call_accept, ne_call_done, ne_call_crash, ne_call_fall, ne_call_event, ne_call_time, ne_call_e, ne_accept_call, ne_accept_done, ne_accept_crash, ne_accept_fall, ne_accept_event, ne_accept_time, ne_accept_e, ne_done_call, ne_done_accept, ne_done_crash, ne_done_fall, ne_done_event, ne_done_time, ne_done_e, ne_crash_call, ne_crash_accept, ne_crash_done, ne_crash_fall, ne_crash_event, ne_crash_time, ne_crash_e, ne_fall_call, ne_fall_accept, ne_fall_done, ne_fall_crash, ne_fall_event, ne_fall_time, ne_fall_e, ne_event_call, ne_event_accept, ne_event_done, ne_event_crash, ne_event_fall, ne_event_time, ne_event_e, ne_time_call, ne_time_accept, ne_time_done, ne_time_crash, ne_time_fall, ne_time_event, ne_time_e, ne_e_call, ne_e_accept, ne_e_done, ne_e_crash, ne_e_fall, ne_e_event, ne_e_time]
  · intro S
    show V_is_event [.tup [.str "crash", .int 1000000000001, .int 0]] S = _
    have q := eq_tnil S (x := .str "crash") (xs := [.int 1000000000001, .int 0]) (n := 3) (.tup (.cons (.str _) (.cons (.int _) (.cons (.int _) .nil))))
    simp (config := { implicitDefEqProofs := false }) [V_is_event, m_is_event, V_is_integer, m_is_integer, q, tyS, isTy, lift2, fEq, fNe, fIx, seqOf, tupOf, lstOf, atI, ixN, keyOf, getK, c_SIZES, lenS, dctOf, fCmp, c_MOST_NUMBER, ne_call_accept, ne_call_done, ne_call_crash, ne_call_fall, ne_call_event, ne_call_time, ne_call_e, ne_accept_call, ne_accept_done, ne_accept_crash, ne_accept_fall, ne_accept_event, ne_accept_time, ne_accept_e, ne_done_call, ne_done_accept, ne_done_crash, ne_done_fall, ne_done_event, ne_done_time, ne_done_e, ne_crash_call, ne_crash_accept, ne_crash_done, ne_crash_fall, ne_crash_event, ne_crash_time, ne_crash_e, ne_fall_call, ne_fall_accept, ne_fall_done, ne_fall_crash, ne_fall_event, ne_fall_time, ne_fall_e, ne_event_call, ne_event_accept, ne_event_done, ne_event_crash, ne_event_fall, ne_event_time, ne_event_e, ne_time_call, ne_time_accept, ne_time_done, ne_time_crash, ne_time_fall, ne_time_event, ne_time_e, ne_e_call, ne_e_accept, ne_e_done, ne_e_crash, ne_e_fall, ne_e_event, ne_e_time]
theorem odd_eq (c tm : Int) (S : Store) : V__law_odd [.int c, .int tm] S = .ok (oddD c tm) S := by
  have hs : (12 : Nat) ≤ sizeLine := by decide
  rcases m12 c with h | h | h | h | h | h | h | h | h | h | h | h <;>
  simp (config := { implicitDefEqProofs := false }) [V__law_odd, m__law_odd, lift2, fI, fAdd, fNeg, catS, lvOf, hs, fIx, seqOf, tupOf, lstOf, atI, ixN, oddD, h, List.replicate]
theorem offer_ok (c tm : Int) (S : Store) (lc : List (Key × D)) (cc : Int → Int) (hS : S[5]? = some (.dct lc)) (hc : ∀ k, Cl k → getK lc (.inl k) = some (.int (cc k))) : ∃ t d, 0 ≤ t ∧ GE t d ∧ V__law_offer [.int c, .int tm, .obj 5] S = .ok d S := by
  obtain ⟨x, hx⟩ : ∃ x : Int, fIx S (.lst [.int 0, .int 0, .int 1, .int 2, .int (-1), .int 1000000000]) (.int (c % 6)) = some (.int x) := by
    have : c % 6 = 0 ∨ c % 6 = 1 ∨ c % 6 = 2 ∨ c % 6 = 3 ∨ c % 6 = 4 ∨ c % 6 = 5 := by omega
    rcases this with h | h | h | h | h | h <;> rw [h] <;> exact ⟨_, by simp [fIx, seqOf, tupOf, lstOf, atI, ixN]; rfl⟩
  have five : ∀ q : Int, q % 5 = 0 ∨ q % 5 = 1 ∨ q % 5 = 2 ∨ q % 5 = 3 ∨ q % 5 = 4 := fun q => by omega
  obtain ⟨y, hy⟩ : ∃ y : Int, fIx S (.lst [.int 0, .int 1, .int 1, .int 2, .int 0]) (.int (c / 6 / 15 % 5)) = some (.int y) := by
    rcases five (c / 6 / 15) with h | h | h | h | h <;> rw [h] <;> exact ⟨_, by simp [fIx, seqOf, tupOf, lstOf, atI, ixN]; rfl⟩
  obtain ⟨z, hz⟩ : ∃ y : Int, fIx S (.lst [.int 0, .int 0, .int 0, .int 1, .int (-1)]) (.int (c / 6 / 15 % 5)) = some (.int y) := by
    rcases five (c / 6 / 15) with h | h | h | h | h <;> rw [h] <;> exact ⟨_, by simp [fIx, seqOf, tupOf, lstOf, atI, ixN]; rfl⟩
  have hcl : Cl (-1 - c / 6 / 5 % 3) := by unfold Cl; omega
  have i5 : fIx S (.obj 5) (.int (-1 - c / 6 / 5 % 3)) = some (.int (cc (-1 - c / 6 / 5 % 3))) := by
    simp [fIx, seqOf, tupOf, lstOf, dctOf, hS, hc _ hcl]
  have t0 : 0 ≤ (if 0 < tm + x then tm + x else 0) := by split <;> omega
  generalize hcl' : -1 - c / 6 / 5 % 3 = cl at *
  generalize ht : (if 0 < tm + x then tm + x else 0) = t at *
  by_cases k1 : c / 6 % 5 < 2
  · refine ⟨t, evC t cl (if 1 < cc cl + y then cc cl + y else 1), t0, .call _ _ hcl, ?_⟩
    simp (config := { implicitDefEqProofs := false }) [V__law_offer, m__law_offer, lift2, fI, fAdd, fNeg, fCmp, fEq, hx, hy, hz, i5, hcl', ht, k1, List.replicate]
  · by_cases k2 : c / 6 % 5 < 4
    · refine ⟨t, evA t cl (if 1 < cc cl + z then cc cl + z else 1), t0, .acc _ _ hcl, ?_⟩
      simp (config := { implicitDefEqProofs := false }) [V__law_offer, m__law_offer, lift2, fI, fAdd, fNeg, fCmp, fEq, hx, hy, hz, i5, hcl', ht, k1, k2, List.replicate]
    · by_cases k3 : c / 6 / 15 % 2 = 0
      · refine ⟨t, evX t (c / 6 / 30 % 3), t0, .crash _, ?_⟩
        simp (config := { implicitDefEqProofs := false }) [V__law_offer, m__law_offer, lift2, fI, fAdd, fNeg, fCmp, fEq, hx, hy, hz, i5, hcl', ht, k1, k2, k3, List.replicate]
      · refine ⟨t, evD t (c / 6 / 30 % 3), t0, .done _, ?_⟩
        simp (config := { implicitDefEqProofs := false }) [V__law_offer, m__law_offer, lift2, fI, fAdd, fNeg, fCmp, fEq, hx, hy, hz, i5, hcl', ht, k1, k2, k3, List.replicate]
abbrev St (es : List D) (hc ha lc la : List (Key × D)) (T : Store) : Store := .ins 1 [(2, .obj 1), (3, .obj 2), (4, .obj 3)] :: .lst es :: .dct hc :: .dct ha :: .lst es :: .dct lc :: .dct la :: T
/-- the two dicts of one kind tell the same -/
def Same (h l : List (Key × D)) (c : Int → Int) : Prop := ∀ k, Cl k → getK l (.inl k) = some (.int (c k)) ∧ (getK h (.inl k)).getD (.int 0) = .int (c k)
theorem Same.put {h l : List (Key × D)} {c : Int → Int} (s : Same h l c) (k n : Int) : Same (putD h (.inl k) (.int n)) (putD l (.inl k) (.int n)) (fun x => if x = k then n else c x) := by
  intro x hx
  obtain ⟨h1, h2⟩ := s x hx
  rw [getK_put, getK_put]
  by_cases e : x = k
  · subst e; simp
  · have e' : ¬ (Sum.inl x : Key) = Sum.inl k := fun z => e (Sum.inl.inj z)
    rw [if_neg e', if_neg e']
    simp only [if_neg e]
    exact ⟨h1, h2⟩
/-- the last event's time -/
def Last (es : List D) (tm : Int) : Prop := (es = [] ∧ tm = 0) ∨ ∃ ds d, es = ds ++ [d] ∧ GE tm d
theorem GE.at1 {t : Int} {d : D} (h : GE t d) (S : Store) : fIx S d (.int 1) = some (.int t) := by
  cases h <;> simp [fIx, seqOf, tupOf, atI, ixN]
def why (d : D) (t tm : Int) (cc aa : Int → Int) : Str := if t < tm then "time" else match d with
  | .tup [.str w, _, .int c, .int n, _] => if w = "call" then (if ¬ cc c = aa c ∨ ¬ n = cc c + 1 then "call" else "") else if cc c = aa c ∨ ¬ n = cc c then "accept" else ""
  | _ => ""
theorem lreason_odd (d : D) (tm : Int) (S : Store) : V__law_reason [d, .bl true, .int tm, .obj 5, .obj 6] S = .ok (.str "event") S := by
  simp (config := { implicitDefEqProofs := false }) [V__law_reason, m__law_reason, truS]
theorem lreason_eq {t tm : Int} {d : D} {es : List D} {hc ha lc la : List (Key × D)} {T : Store} {cc aa : Int → Int} (h : GE t d) (s1 : Same hc lc cc) (s2 : Same ha la aa) : V__law_reason [d, .bl false, .int tm, .obj 5, .obj 6] (St es hc ha lc la T) = .ok (.str (why d t tm cc aa)) (St es hc ha lc la T) := by
  by_cases q : t < tm
  · cases h <;> simp (config := { implicitDefEqProofs := false }) [V__law_reason, m__law_reason, truS, why, q, tyS, isTy, lift2, fEq, fNe, fIx, seqOf, tupOf, lstOf, atI, ixN, keyOf, lenS, dctOf, fCmp]
  · cases h with
    | call c n hk =>
      have a1 := (s1 c hk).1
      have a2 := (s2 c hk).1
      by_cases q1 : cc c = aa c
      · by_cases q2 : n = aa c + 1 <;>
        simp (config := { implicitDefEqProofs := false }) [V__law_reason, m__law_reason, truS, why, q, a1, a2, q1, q2, fAdd, tyS, isTy, lift2, fEq, fNe, fIx, seqOf, tupOf, lstOf, atI, ixN, keyOf, lenS, dctOf, fCmp, ne_call_accept, ne_call_done, ne_call_crash, ne_call_fall, ne_call_event, ne_call_time, ne_call_e, ne_accept_call, ne_accept_done, ne_accept_crash, ne_accept_fall, ne_accept_event, ne_accept_time, ne_accept_e, ne_done_call, ne_done_accept, ne_done_crash, ne_done_fall, ne_done_event, ne_done_time, ne_done_e, ne_crash_call, ne_crash_accept, ne_crash_done, ne_crash_fall, ne_crash_event, ne_crash_time, ne_crash_e, ne_fall_call, ne_fall_accept, ne_fall_done, ne_fall_crash, ne_fall_event, ne_fall_time, ne_fall_e, ne_event_call, ne_event_accept, ne_event_done, ne_event_crash, ne_event_fall, ne_event_time, ne_event_e, ne_time_call, ne_time_accept, ne_time_done, ne_time_crash, ne_time_fall, ne_time_event, ne_time_e, ne_e_call, ne_e_accept, ne_e_done, ne_e_crash, ne_e_fall, ne_e_event, ne_e_time]
      · by_cases q2 : n = cc c + 1 <;>
        simp (config := { implicitDefEqProofs := false }) [V__law_reason, m__law_reason, truS, why, q, a1, a2, q1, q2, fAdd, tyS, isTy, lift2, fEq, fNe, fIx, seqOf, tupOf, lstOf, atI, ixN, keyOf, lenS, dctOf, fCmp, ne_call_accept, ne_call_done, ne_call_crash, ne_call_fall, ne_call_event, ne_call_time, ne_call_e, ne_accept_call, ne_accept_done, ne_accept_crash, ne_accept_fall, ne_accept_event, ne_accept_time, ne_accept_e, ne_done_call, ne_done_accept, ne_done_crash, ne_done_fall, ne_done_event, ne_done_time, ne_done_e, ne_crash_call, ne_crash_accept, ne_crash_done, ne_crash_fall, ne_crash_event, ne_crash_time, ne_crash_e, ne_fall_call, ne_fall_accept, ne_fall_done, ne_fall_crash, ne_fall_event, ne_fall_time, ne_fall_e, ne_event_call, ne_event_accept, ne_event_done, ne_event_crash, ne_event_fall, ne_event_time, ne_event_e, ne_time_call, ne_time_accept, ne_time_done, ne_time_crash, ne_time_fall, ne_time_event, ne_time_e, ne_e_call, ne_e_accept, ne_e_done, ne_e_crash, ne_e_fall, ne_e_event, ne_e_time]
    | acc c n hk =>
      have a1 := (s1 c hk).1
      have a2 := (s2 c hk).1
      by_cases q1 : cc c = aa c <;> by_cases q2 : n = cc c <;>
      simp (config := { implicitDefEqProofs := false }) [V__law_reason, m__law_reason, truS, why, q, a1, a2, q1, q2, fAdd, tyS, isTy, lift2, fEq, fNe, fIx, seqOf, tupOf, lstOf, atI, ixN, keyOf, lenS, dctOf, fCmp, ne_call_accept, ne_call_done, ne_call_crash, ne_call_fall, ne_call_event, ne_call_time, ne_call_e, ne_accept_call, ne_accept_done, ne_accept_crash, ne_accept_fall, ne_accept_event, ne_accept_time, ne_accept_e, ne_done_call, ne_done_accept, ne_done_crash, ne_done_fall, ne_done_event, ne_done_time, ne_done_e, ne_crash_call, ne_crash_accept, ne_crash_done, ne_crash_fall, ne_crash_event, ne_crash_time, ne_crash_e, ne_fall_call, ne_fall_accept, ne_fall_done, ne_fall_crash, ne_fall_event, ne_fall_time, ne_fall_e, ne_event_call, ne_event_accept, ne_event_done, ne_event_crash, ne_event_fall, ne_event_time, ne_event_e, ne_time_call, ne_time_accept, ne_time_done, ne_time_crash, ne_time_fall, ne_time_event, ne_time_e, ne_e_call, ne_e_accept, ne_e_done, ne_e_crash, ne_e_fall, ne_e_event, ne_e_time]
    | crash i => simp (config := { implicitDefEqProofs := false }) [V__law_reason, m__law_reason, truS, why, q, tyS, isTy, lift2, fEq, fNe, fIx, seqOf, tupOf, lstOf, atI, ixN, keyOf, lenS, dctOf, fCmp, ne_call_accept, ne_call_done, ne_call_crash, ne_call_fall, ne_call_event, ne_call_time, ne_call_e, ne_accept_call, ne_accept_done, ne_accept_crash, ne_accept_fall, ne_accept_event, ne_accept_time, ne_accept_e, ne_done_call, ne_done_accept, ne_done_crash, ne_done_fall, ne_done_event, ne_done_time, ne_done_e, ne_crash_call, ne_crash_accept, ne_crash_done, ne_crash_fall, ne_crash_event, ne_crash_time, ne_crash_e, ne_fall_call, ne_fall_accept, ne_fall_done, ne_fall_crash, ne_fall_event, ne_fall_time, ne_fall_e, ne_event_call, ne_event_accept, ne_event_done, ne_event_crash, ne_event_fall, ne_event_time, ne_event_e, ne_time_call, ne_time_accept, ne_time_done, ne_time_crash, ne_time_fall, ne_time_event, ne_time_e, ne_e_call, ne_e_accept, ne_e_done, ne_e_crash, ne_e_fall, ne_e_event, ne_e_time]
    | done i => simp (config := { implicitDefEqProofs := false }) [V__law_reason, m__law_reason, truS, why, q, tyS, isTy, lift2, fEq, fNe, fIx, seqOf, tupOf, lstOf, atI, ixN, keyOf, lenS, dctOf, fCmp, ne_call_accept, ne_call_done, ne_call_crash, ne_call_fall, ne_call_event, ne_call_time, ne_call_e, ne_accept_call, ne_accept_done, ne_accept_crash, ne_accept_fall, ne_accept_event, ne_accept_time, ne_accept_e, ne_done_call, ne_done_accept, ne_done_crash, ne_done_fall, ne_done_event, ne_done_time, ne_done_e, ne_crash_call, ne_crash_accept, ne_crash_done, ne_crash_fall, ne_crash_event, ne_crash_time, ne_crash_e, ne_fall_call, ne_fall_accept, ne_fall_done, ne_fall_crash, ne_fall_event, ne_fall_time, ne_fall_e, ne_event_call, ne_event_accept, ne_event_done, ne_event_crash, ne_event_fall, ne_event_time, ne_event_e, ne_time_call, ne_time_accept, ne_time_done, ne_time_crash, ne_time_fall, ne_time_event, ne_time_e, ne_e_call, ne_e_accept, ne_e_done, ne_e_crash, ne_e_fall, ne_e_event, ne_e_time]
theorem atI_last {α : Type} (ds : List α) (d : α) : atI (ds ++ [d]) (-1) = some d := by
  have : ixN (ds ++ [d]).length (-1) = some ds.length := by
    unfold ixN
    rw [if_neg (by omega), if_pos (by simp; omega)]
    simp
    omega
  unfold atI
  rw [this]; simp
theorem hreason_no {d : D} {es : List D} {hc ha lc la : List (Key × D)} {T : Store} (h : V_is_event [d] (St es hc ha lc la T) = .ok (.bl false) (St es hc ha lc la T)) : V_History__reason [.obj 0, d] (St es hc ha lc la T) = .ok (.str "event") (St es hc ha lc la T) := by
  simp (config := { implicitDefEqProofs := false }) [V_History__reason, m_History__reason, h, List.replicate]
def toD (w : Str) : D := if w = "" then .non else .str w
theorem hreason_eq {t tm : Int} {d : D} {es : List D} {hc ha lc la : List (Key × D)} {T : Store} {cc aa : Int → Int} (h : GE t d) (h0 : 0 ≤ t) (h1 : t ≤ 1000000000000) (s1 : Same hc lc cc) (s2 : Same ha la aa) (hl : Last es tm) :
    V_History__reason [.obj 0, d] (St es hc ha lc la T) = .ok (toD (why d t tm cc aa)) (St es hc ha lc la T) := by
  have ev := event_eq h h0 (St es hc ha lc la T)
  rw [decide_eq_true h1] at ev
  have tt := h.at1 (St es hc ha lc la T)
  -- the test of the time
  have key : mAnd (mTru (mFld [1] 2 (mVar 0))) (mBl (mBin fLt (mIx (mVar 1) (mC (.int 1))) (mIx (mIx (mFld [1] 2 (mVar 0)) (mUn fNeg (mC (.int 1)))) (mC (.int 1))))) ⟨[some (.obj 0), some d, none, none], []⟩ (St es hc ha lc la T) = .ok (decide (t < tm)) (St es hc ha lc la T) := by
    rcases hl with ⟨e, rfl⟩ | ⟨ds, d0, e, g⟩
    · have : ¬ t < 0 := by omega
      subst e
      simp (config := { implicitDefEqProofs := false }) [truS, getF, insOf, getN, seqOf, tupOf, lstOf, this]
    · have e1 := g.at1 (St es hc ha lc la T)
      have e2 : fIx (St es hc ha lc la T) (.obj 1) (.int (-1)) = some d0 := by
        simp [fIx, seqOf, tupOf, lstOf, e, atI_last]
      have e3 : es.isEmpty = false := by rw [e]; simp
      simp (config := { implicitDefEqProofs := false }) [truS, getF, insOf, getN, seqOf, tupOf, lstOf, e3, lift2, fI, fNeg, e2, e1, tt, fCmp]
  have rest : ¬ t < tm → (mSeq (mIfS (mBl (mBin fNotIn (mIx (mVar 1) (mC (.int 0))) (mTup (mCons (mC (.str "call")) (mCons (mC (.str "accept")) mNil))))) (mRet (mC .non)) mSkip)
    (mSeq (mSet 2 (mBm .dict fnGet2 (mFld [1] 3 (mVar 0)) (mCons (mIx (mVar 1) (mC (.int 2))) (mCons (mC (.int 0)) mNil))))
    (mSeq (mSet 3 (mBm .dict fnGet2 (mFld [1] 4 (mVar 0)) (mCons (mIx (mVar 1) (mC (.int 2))) (mCons (mC (.int 0)) mNil))))
    (mSeq (mIfS (mAnd (mBl (mBin fEq (mIx (mVar 1) (mC (.int 0))) (mC (.str "call")))) (mOr (mBl (mBin fNe (mVar 2) (mVar 3))) (mBl (mBin fNe (mIx (mVar 1) (mC (.int 3))) (mBin fAdd (mVar 2) (mC (.int 1))))))) (mRet (mC (.str "call"))) mSkip)
    (mSeq (mIfS (mAnd (mBl (mBin fEq (mIx (mVar 1) (mC (.int 0))) (mC (.str "accept")))) (mOr (mBl (mBin fEq (mVar 2) (mVar 3))) (mBl (mBin fNe (mIx (mVar 1) (mC (.int 3))) (mVar 2))))) (mRet (mC (.str "accept"))) mSkip)
    (mRet (mC .non)))))) ) ⟨[some (.obj 0), some d, none, none], []⟩ (St es hc ha lc la T) = .rt (toD (why d t tm cc aa)) (St es hc ha lc la T) := by
    intro q
    cases h with
    | call c n hk =>
      have a1 := (s1 c hk).2
      have a2 := (s2 c hk).2
      by_cases q1 : cc c = aa c
      · by_cases q2 : n = aa c + 1 <;>
        simp (config := { implicitDefEqProofs := false }) [toD, why, q, a1, a2, q1, q2, fAdd, isIns, getF, insOf, getN, fI, fNeg, fIsNot, fNotIn, in_two, tyS, isTy, lift2, fEq, fNe, fIx, seqOf, tupOf, lstOf, atI, ixN, keyOf, lenS, dctOf, fCmp, ne_call_accept, ne_call_done, ne_call_crash, ne_call_fall, ne_call_event, ne_call_time, ne_call_e, ne_accept_call, ne_accept_done, ne_accept_crash, ne_accept_fall, ne_accept_event, ne_accept_time, ne_accept_e, ne_done_call, ne_done_accept, ne_done_crash, ne_done_fall, ne_done_event, ne_done_time, ne_done_e, ne_crash_call, ne_crash_accept, ne_crash_done, ne_crash_fall, ne_crash_event, ne_crash_time, ne_crash_e, ne_fall_call, ne_fall_accept, ne_fall_done, ne_fall_crash, ne_fall_event, ne_fall_time, ne_fall_e, ne_event_call, ne_event_accept, ne_event_done, ne_event_crash, ne_event_fall, ne_event_time, ne_event_e, ne_time_call, ne_time_accept, ne_time_done, ne_time_crash, ne_time_fall, ne_time_event, ne_time_e, ne_e_call, ne_e_accept, ne_e_done, ne_e_crash, ne_e_fall, ne_e_event, ne_e_time]
      · by_cases q2 : n = cc c + 1 <;>
        simp (config := { implicitDefEqProofs := false }) [toD, why, q, a1, a2, q1, q2, fAdd, isIns, getF, insOf, getN, fI, fNeg, fIsNot, fNotIn, in_two, tyS, isTy, lift2, fEq, fNe, fIx, seqOf, tupOf, lstOf, atI, ixN, keyOf, lenS, dctOf, fCmp, ne_call_accept, ne_call_done, ne_call_crash, ne_call_fall, ne_call_event, ne_call_time, ne_call_e, ne_accept_call, ne_accept_done, ne_accept_crash, ne_accept_fall, ne_accept_event, ne_accept_time, ne_accept_e, ne_done_call, ne_done_accept, ne_done_crash, ne_done_fall, ne_done_event, ne_done_time, ne_done_e, ne_crash_call, ne_crash_accept, ne_crash_done, ne_crash_fall, ne_crash_event, ne_crash_time, ne_crash_e, ne_fall_call, ne_fall_accept, ne_fall_done, ne_fall_crash, ne_fall_event, ne_fall_time, ne_fall_e, ne_event_call, ne_event_accept, ne_event_done, ne_event_crash, ne_event_fall, ne_event_time, ne_event_e, ne_time_call, ne_time_accept, ne_time_done, ne_time_crash, ne_time_fall, ne_time_event, ne_time_e, ne_e_call, ne_e_accept, ne_e_done, ne_e_crash, ne_e_fall, ne_e_event, ne_e_time]
    | acc c n hk =>
      have a1 := (s1 c hk).2
      have a2 := (s2 c hk).2
      by_cases q1 : cc c = aa c
      · by_cases q2 : n = aa c <;>
        simp (config := { implicitDefEqProofs := false }) [toD, why, q, a1, a2, q1, q2, fAdd, isIns, getF, insOf, getN, fI, fNeg, fIsNot, fNotIn, in_two, tyS, isTy, lift2, fEq, fNe, fIx, seqOf, tupOf, lstOf, atI, ixN, keyOf, lenS, dctOf, fCmp, ne_call_accept, ne_call_done, ne_call_crash, ne_call_fall, ne_call_event, ne_call_time, ne_call_e, ne_accept_call, ne_accept_done, ne_accept_crash, ne_accept_fall, ne_accept_event, ne_accept_time, ne_accept_e, ne_done_call, ne_done_accept, ne_done_crash, ne_done_fall, ne_done_event, ne_done_time, ne_done_e, ne_crash_call, ne_crash_accept, ne_crash_done, ne_crash_fall, ne_crash_event, ne_crash_time, ne_crash_e, ne_fall_call, ne_fall_accept, ne_fall_done, ne_fall_crash, ne_fall_event, ne_fall_time, ne_fall_e, ne_event_call, ne_event_accept, ne_event_done, ne_event_crash, ne_event_fall, ne_event_time, ne_event_e, ne_time_call, ne_time_accept, ne_time_done, ne_time_crash, ne_time_fall, ne_time_event, ne_time_e, ne_e_call, ne_e_accept, ne_e_done, ne_e_crash, ne_e_fall, ne_e_event, ne_e_time]
      · by_cases q2 : n = cc c <;>
        simp (config := { implicitDefEqProofs := false }) [toD, why, q, a1, a2, q1, q2, fAdd, isIns, getF, insOf, getN, fI, fNeg, fIsNot, fNotIn, in_two, tyS, isTy, lift2, fEq, fNe, fIx, seqOf, tupOf, lstOf, atI, ixN, keyOf, lenS, dctOf, fCmp, ne_call_accept, ne_call_done, ne_call_crash, ne_call_fall, ne_call_event, ne_call_time, ne_call_e, ne_accept_call, ne_accept_done, ne_accept_crash, ne_accept_fall, ne_accept_event, ne_accept_time, ne_accept_e, ne_done_call, ne_done_accept, ne_done_crash, ne_done_fall, ne_done_event, ne_done_time, ne_done_e, ne_crash_call, ne_crash_accept, ne_crash_done, ne_crash_fall, ne_crash_event, ne_crash_time, ne_crash_e, ne_fall_call, ne_fall_accept, ne_fall_done, ne_fall_crash, ne_fall_event, ne_fall_time, ne_fall_e, ne_event_call, ne_event_accept, ne_event_done, ne_event_crash, ne_event_fall, ne_event_time, ne_event_e, ne_time_call, ne_time_accept, ne_time_done, ne_time_crash, ne_time_fall, ne_time_event, ne_time_e, ne_e_call, ne_e_accept, ne_e_done, ne_e_crash, ne_e_fall, ne_e_event, ne_e_time]
    | crash i => simp (config := { implicitDefEqProofs := false }) [toD, why, q, isIns, getF, insOf, getN, fI, fNeg, fIsNot, fNotIn, in_two, tyS, isTy, lift2, fEq, fNe, fIx, seqOf, tupOf, lstOf, atI, ixN, keyOf, lenS, dctOf, fCmp, ne_call_accept, ne_call_done, ne_call_crash, ne_call_fall, ne_call_event, ne_call_time, ne_call_e, ne_accept_call, ne_accept_done, ne_accept_crash, ne_accept_fall, ne_accept_event, ne_accept_time, ne_accept_e, ne_done_call, ne_done_accept, ne_done_crash, ne_done_fall, ne_done_event, ne_done_time, ne_done_e, ne_crash_call, ne_crash_accept, ne_crash_done, ne_crash_fall, ne_crash_event, ne_crash_time, ne_crash_e, ne_fall_call, ne_fall_accept, ne_fall_done, ne_fall_crash, ne_fall_event, ne_fall_time, ne_fall_e, ne_event_call, ne_event_accept, ne_event_done, ne_event_crash, ne_event_fall, ne_event_time, ne_event_e, ne_time_call, ne_time_accept, ne_time_done, ne_time_crash, ne_time_fall, ne_time_event, ne_time_e, ne_e_call, ne_e_accept, ne_e_done, ne_e_crash, ne_e_fall, ne_e_event, ne_e_time]
    | done i => simp (config := { implicitDefEqProofs := false }) [toD, why, q, isIns, getF, insOf, getN, fI, fNeg, fIsNot, fNotIn, in_two, tyS, isTy, lift2, fEq, fNe, fIx, seqOf, tupOf, lstOf, atI, ixN, keyOf, lenS, dctOf, fCmp, ne_call_accept, ne_call_done, ne_call_crash, ne_call_fall, ne_call_event, ne_call_time, ne_call_e, ne_accept_call, ne_accept_done, ne_accept_crash, ne_accept_fall, ne_accept_event, ne_accept_time, ne_accept_e, ne_done_call, ne_done_accept, ne_done_crash, ne_done_fall, ne_done_event, ne_done_time, ne_done_e, ne_crash_call, ne_crash_accept, ne_crash_done, ne_crash_fall, ne_crash_event, ne_crash_time, ne_crash_e, ne_fall_call, ne_fall_accept, ne_fall_done, ne_fall_crash, ne_fall_event, ne_fall_time, ne_fall_e, ne_event_call, ne_event_accept, ne_event_done, ne_event_crash, ne_event_fall, ne_event_time, ne_event_e, ne_time_call, ne_time_accept, ne_time_done, ne_time_crash, ne_time_fall, ne_time_event, ne_time_e, ne_e_call, ne_e_accept, ne_e_done, ne_e_crash, ne_e_fall, ne_e_event, ne_e_time]
  have c0 : mCall V_is_event (mCons (mVar 1) mNil) ⟨[some (.obj 0), some d, none, none], []⟩ (St es hc ha lc la T) = .ok (.bl true) (St es hc ha lc la T) := by
    simp [ev]
  by_cases q : t < tm
  · have hw : why d t tm cc aa = "time" := by unfold why; rw [if_pos q]
    rw [decide_eq_true q] at key
    have b : m_History__reason ⟨[some (.obj 0), some d, none, none], []⟩ (St es hc ha lc la T) = .rt (.str "time") (St es hc ha lc la T) := by
      unfold m_History__reason
      rw [mSeq_ev, mIfS_ev, mNot_ev, mBl_ev, c0]
      simp (config := { implicitDefEqProofs := false }) only [R.bind_ok, asB_bl, Bool.not_true, R.toS_ok, if_false, Bool.false_eq_true, mSkip_ev, RS.seq_nx, mSeq_ev, mIfS_ev, key, if_true, mRet_ev, mC_ev, RS.seq_rt]
    rw [V_History__reason, den_app]
    show (match m_History__reason ⟨[some (.obj 0), some d, none, none], []⟩ (St es hc ha lc la T) with | .nx _ S => R.ok D.non S | .rt d S => R.ok d S | .exc c fs _ S => R.exc c fs S | _ => R.stuck) = _
    rw [b, hw]
    simp [toD, ne_time_e]
  · have r := rest q
    rw [decide_eq_false q] at key
    have b : m_History__reason ⟨[some (.obj 0), some d, none, none], []⟩ (St es hc ha lc la T) = .rt (toD (why d t tm cc aa)) (St es hc ha lc la T) := by
      unfold m_History__reason
      rw [mSeq_ev, mIfS_ev, mNot_ev, mBl_ev, c0]
      rw [R.bind_ok, asB_bl]
      show RS.seq (RS.nx _ _) _ = _
      rw [RS.seq_nx, mSeq_ev, mIfS_ev, key]
      show RS.seq (RS.nx _ _) _ = _
      rw [RS.seq_nx]
      exact r
    rw [V_History__reason, den_app]
    show (match m_History__reason ⟨[some (.obj 0), some d, none, none], []⟩ (St es hc ha lc la T) with | .nx _ S => R.ok D.non S | .rt d S => R.ok d S | .exc c fs _ S => R.exc c fs S | _ => R.stuck) = _
    rw [b]
end L_k69
namespace L_k69
open PySem PySem.Spec PyProof.Rows L2 BS
abbrev St2 (rows es : List D) (hc ha lc la : List (Key × D)) (T : Store) : Store := .ins 1 [(2, .obj 1), (3, .obj 2), (4, .obj 3)] :: .lst rows :: .dct hc :: .dct ha :: .lst es :: .dct lc :: .dct la :: T
theorem added_bad {d : D} {w : Str} {rows es : List D} {hc ha lc la : List (Key × D)} {T : Store} (r : V_History__reason [.obj 0, d] (St2 rows es hc ha lc la T) = .ok (.str w) (St2 rows es hc ha lc la T)) : V__law_added [.obj 0, d] (St2 rows es hc ha lc la T) = .ok (.str w) (St2 rows es hc ha lc la T) := by
  simp (config := { implicitDefEqProofs := false }) [V__law_added, m__law_added, V_History_add, m_History_add, r, isIns, insOf, lift2, fIsNot, RS.caught, RS.clr, RS.gone, getX, Ev.exn, getN, tyS, isTy, fNe, List.replicate]
def isW (w : Str) (d : D) : Option (Int × Int) := match d with
  | .tup [.str v, _, .int c, .int n, _] => if v = w then some (c, n) else none
  | _ => none
def upd1 (w : Str) (d : D) (kvs : List (Key × D)) : List (Key × D) := match isW w d with
  | some (c, n) => putD kvs (.inl c) (.int n)
  | none => kvs
theorem added_ok {t : Int} {d : D} {es : List D} {hc ha lc la : List (Key × D)} {T : Store} (h : GE t d) (r : V_History__reason [.obj 0, d] (St2 es es hc ha lc la T) = .ok .non (St2 es es hc ha lc la T)) (l1 : es.length < sizeLine) (l2 : hc.length < sizeLine) (l3 : ha.length < sizeLine) :
    V__law_added [.obj 0, d] (St2 es es hc ha lc la T) = .ok (.str "") (St2 (es ++ [d]) es (upd1 "call" d hc) (upd1 "accept" d ha) lc la T) := by
  cases h <;>
  simp (config := { implicitDefEqProofs := false }) [V__law_added, m__law_added, V_History_add, m_History_add, r, RS.caught, RS.clr, RS.gone, getX, Ev.exn, isIns, getF, insOf, getN, fI, fNeg, fIsNot, fNotIn, in_two, tyS, isTy, lift2, fEq, fNe, fIx, seqOf, tupOf, lstOf, atI, ixN, keyOf, lenS, dctOf, fCmp, ne_call_accept, ne_call_done, ne_call_crash, ne_call_fall, ne_call_event, ne_call_time, ne_call_e, ne_accept_call, ne_accept_done, ne_accept_crash, ne_accept_fall, ne_accept_event, ne_accept_time, ne_accept_e, ne_done_call, ne_done_accept, ne_done_crash, ne_done_fall, ne_done_event, ne_done_time, ne_done_e, ne_crash_call, ne_crash_accept, ne_crash_done, ne_crash_fall, ne_crash_event, ne_crash_time, ne_crash_e, ne_fall_call, ne_fall_accept, ne_fall_done, ne_fall_crash, ne_fall_event, ne_fall_time, ne_fall_e, ne_event_call, ne_event_accept, ne_event_done, ne_event_crash, ne_event_fall, ne_event_time, ne_event_e, ne_time_call, ne_time_accept, ne_time_done, ne_time_crash, ne_time_fall, ne_time_event, ne_time_e, ne_e_call, ne_e_accept, ne_e_done, ne_e_crash, ne_e_fall, ne_e_event, ne_e_time, upd1, isW, setS, l1, l2, l3, List.replicate]
theorem events_eq (rows es : List D) (hc ha lc la : List (Key × D)) (T : Store) : V_History_events [.obj 0] (St2 rows es hc ha lc la T) = .ok (.obj (T.length + 7)) (St2 rows es hc ha lc la (T ++ [.lst rows])) := by
  simp (config := { implicitDefEqProofs := false }) [V_History_events, m_History_events, getF, insOf, getN, seqOf, tupOf, lstOf]
theorem eqT {es : List D} (hd : ∀ d ∈ es, Fl 3 d) (hc ha lc la : List (Key × D)) (T : Store) : eqS (St2 es es hc ha lc la (T ++ [.lst es])) (.obj (T.length + 7)) (.obj 4) = some true :=
  eqS_objs (ds := es) (by simp) (by simp) (FlS.of hd)
inductive Fr (xs : List D) (tm : Int) : Ev → Prop
  | mk (x6 x7 x8 x9 x10 : Option D) : Fr xs tm ⟨[some (.scr xs), some (.obj 0), some (.obj 4), some (.int tm), some (.obj 5), some (.obj 6), x6, x7, x8, x9, x10], []⟩
structure Good (j : Nat) (tm : Int) (es : List D) (hc ha lc la : List (Key × D)) (cc aa : Int → Int) : Prop where
  s1 : Same hc lc cc
  s2 : Same ha la aa
  last : Last es tm
  fl : ∀ d ∈ es, Fl 3 d
  n1 : es.length ≤ j
  n2 : hc.length ≤ j
  n3 : ha.length ≤ j
  n4 : lc.length ≤ j + 3
  n5 : la.length ≤ j + 3
theorem Good.up {j : Nat} {tm : Int} {es : List D} {hc ha lc la : List (Key × D)} {cc aa : Int → Int} (g : Good j tm es hc ha lc la cc aa) : Good (j + 1) tm es hc ha lc la cc aa :=
  ⟨g.s1, g.s2, g.last, g.fl, by have := g.n1; omega, by have := g.n2; omega, by have := g.n3; omega, by have := g.n4; omega, by have := g.n5; omega⟩
theorem upd1_len (w : Str) (d : D) (kvs : List (Key × D)) : (upd1 w d kvs).length ≤ kvs.length + 1 := by
  unfold upd1
  split
  · exact put_len _ _ _
  · omega
theorem Same.up {h l : List (Key × D)} {c : Int → Int} (s : Same h l c) (w : Str) (d : D) : ∃ c', Same (upd1 w d h) (upd1 w d l) c' := by
  unfold upd1
  split
  · exact ⟨_, s.put _ _⟩
  · exact ⟨c, s⟩
theorem Good.step {j : Nat} {tm t : Int} {d : D} {es : List D} {hc ha lc la : List (Key × D)} {cc aa : Int → Int} (g : Good j tm es hc ha lc la cc aa) (h : GE t d) :
    ∃ cc' aa', Good (j + 1) t (es ++ [d]) (upd1 "call" d hc) (upd1 "accept" d ha) (upd1 "call" d lc) (upd1 "accept" d la) cc' aa' := by
  obtain ⟨c1, q1⟩ := g.s1.up "call" d
  obtain ⟨c2, q2⟩ := g.s2.up "accept" d
  have e1 := upd1_len "call" d hc
  have e2 := upd1_len "accept" d ha
  have e3 := upd1_len "call" d lc
  have e4 := upd1_len "accept" d la
  refine ⟨c1, c2, q1, q2, .inr ⟨es, d, rfl, h⟩, fun x hx => ?_, by have := g.n1; simp; omega, by have := g.n2; omega, by have := g.n3; omega, by have := g.n4; omega, by have := g.n5; omega⟩
  rcases List.mem_append.mp hx with hx | hx
  · exact g.fl x hx
  · rw [List.mem_singleton.mp hx]; exact h.fl
end L_k69
namespace L_k69
open PySem PySem.Spec PyProof.Rows L2 BS
theorem GE.nn {t : Int} {d : D} (h : GE t d) : isNon d = false := by cases h <;> rfl
theorem turn (xs : List D) (c : Int) (j : Nat) (hj : j ≤ 1000) (tm : Int) (es : List D) (hc ha lc la : List (Key × D)) (cc aa : Int → Int) (T : Store) (e : Ev) (hf : Fr xs tm e) (g : Good j tm es hc ha lc la cc aa) :
    ∃ e' tm' es' hc' ha' lc' la' cc' aa' T', ((gNm 6 (.int c) e (St2 es es hc ha lc la T)).seq lb_law_0) = .nx e' (St2 es' es' hc' ha' lc' la' T') ∧ Fr xs tm' e' ∧ Good (j + 1) tm' es' hc' ha' lc' la' cc' aa' := by
  obtain ⟨x6, x7, x8, x9, x10⟩ := hf
  have hs : (2000 : Nat) ≤ sizeLine := by decide
  have l1 : es.length < sizeLine := by have := g.n1; omega
  have l1' : es.length + 1 < sizeLine := by have := g.n1; omega
  have l2 : hc.length < sizeLine := by have := g.n2; omega
  have l3 : ha.length < sizeLine := by have := g.n3; omega
  have l4 : lc.length < sizeLine := by have := g.n4; omega
  have l5 : la.length < sizeLine := by have := g.n5; omega
  obtain ⟨t, d, ht, h, ho⟩ := offer_ok (c / 8) tm (St2 es es hc ha lc la T) lc cc rfl fun k hk => (g.s1 k hk).1
  have e2 := fun hc ha lc la => eqT g.fl hc ha lc la T
  by_cases q : c % 8 = 0
  · have o1 := odd_eq (c / 8) tm (St2 es es hc ha lc la T)
    have o2 := odd_no (c / 8) tm
    generalize oddD (c / 8) tm = d0 at o1 o2
    have o3 := added_bad (hreason_no (o2 (St2 es es hc ha lc la T)))
    have o4 := lreason_odd d0 tm (St2 es es hc ha lc la T)
    refine ⟨⟨[some (.scr xs), some (.obj 0), some (.obj 4), some (.int tm), some (.obj 5), some (.obj 6), some (.int c), some d0, some (.bl true), some (.str "event"), some (.obj (T.length + 7))], []⟩, tm, es, hc, ha, lc, la, cc, aa, T ++ [.lst (es ++ [.non])], ?_, .mk .., g.up⟩
    cases hn : isNon d0 <;>
    simp (config := { implicitDefEqProofs := false }) [lb_law_0, ho, q, o1, o3, o4, hn, truS, lift2, fI, fEq, fNe, fIsNot, ne_call_accept, ne_call_done, ne_call_crash, ne_call_fall, ne_call_event, ne_call_time, ne_call_e, ne_accept_call, ne_accept_done, ne_accept_crash, ne_accept_fall, ne_accept_event, ne_accept_time, ne_accept_e, ne_done_call, ne_done_accept, ne_done_crash, ne_done_fall, ne_done_event, ne_done_time, ne_done_e, ne_crash_call, ne_crash_accept, ne_crash_done, ne_crash_fall, ne_crash_event, ne_crash_time, ne_crash_e, ne_fall_call, ne_fall_accept, ne_fall_done, ne_fall_crash, ne_fall_event, ne_fall_time, ne_fall_e, ne_event_call, ne_event_accept, ne_event_done, ne_event_crash, ne_event_fall, ne_event_time, ne_event_e, ne_time_call, ne_time_accept, ne_time_done, ne_time_crash, ne_time_fall, ne_time_event, ne_time_e, ne_e_call, ne_e_accept, ne_e_done, ne_e_crash, ne_e_fall, ne_e_event, ne_e_time, isIns, insOf, events_eq, e2, tyS, isTy, l1]
  · have dt := h.at1 (St2 es es hc ha lc la T)
    have nn := h.nn
    by_cases q1 : t ≤ 1000000000000
    · have q1' : ¬ (1000000000000 : Int) < t := by omega
      have r1 := lreason_eq (t := t) (tm := tm) (es := es) (T := T) h g.s1 g.s2
      have r2 := hreason_eq (t := t) (tm := tm) (es := es) (T := T) h ht q1 g.s1 g.s2 g.last
      by_cases qw : why d t tm cc aa = Str.ofString ""
      · rw [qw] at r1 r2
        have r3 : toD "" = .non := by simp [toD]
        rw [r3] at r2
        have o3 := added_ok h r2 l1 l2 l3
        obtain ⟨cc', aa', g'⟩ := g.step h
        have e3 := fun hc ha lc la => eqT g'.fl hc ha lc la T
        refine ⟨⟨[some (.scr xs), some (.obj 0), some (.obj 4), some (.int t), some (.obj 5), some (.obj 6), some (.int c), some d, some (.bl false), some (.str ""), some (.obj (T.length + 7))], []⟩, t, es ++ [d], _, _, _, _, cc', aa', T ++ [.lst (es ++ [d] ++ [.non])], ?_, .mk .., g'⟩
        clear g' qw
        cases h <;>
        simp (config := { implicitDefEqProofs := false }) [lb_law_0, ho, q, q1', r1, o3, truS, isIns, insOf, fI, fIsNot, tyS, isTy, lift2, fEq, fNe, fIx, seqOf, tupOf, lstOf, atI, ixN, keyOf, lenS, dctOf, fCmp, ne_call_accept, ne_call_done, ne_call_crash, ne_call_fall, ne_call_event, ne_call_time, ne_call_e, ne_accept_call, ne_accept_done, ne_accept_crash, ne_accept_fall, ne_accept_event, ne_accept_time, ne_accept_e, ne_done_call, ne_done_accept, ne_done_crash, ne_done_fall, ne_done_event, ne_done_time, ne_done_e, ne_crash_call, ne_crash_accept, ne_crash_done, ne_crash_fall, ne_crash_event, ne_crash_time, ne_crash_e, ne_fall_call, ne_fall_accept, ne_fall_done, ne_fall_crash, ne_fall_event, ne_fall_time, ne_fall_e, ne_event_call, ne_event_accept, ne_event_done, ne_event_crash, ne_event_fall, ne_event_time, ne_event_e, ne_time_call, ne_time_accept, ne_time_done, ne_time_crash, ne_time_fall, ne_time_event, ne_time_e, ne_e_call, ne_e_accept, ne_e_done, ne_e_crash, ne_e_fall, ne_e_event, ne_e_time, events_eq, e3, l1, l1', l4, l5, upd1, isW, setS]
      · have r3 : toD (why d t tm cc aa) = .str (why d t tm cc aa) := by simp [toD, qw]
        rw [r3] at r2
        have o3 := added_bad r2
        generalize why d t tm cc aa = w at *
        refine ⟨⟨[some (.scr xs), some (.obj 0), some (.obj 4), some (.int tm), some (.obj 5), some (.obj 6), some (.int c), some d, some (.bl false), some (.str w), some (.obj (T.length + 7))], []⟩, tm, es, hc, ha, lc, la, cc, aa, T ++ [.lst (es ++ [.non])], ?_, .mk .., g.up⟩
        simp (config := { implicitDefEqProofs := false }) [lb_law_0, ho, q, q1', dt, nn, r1, o3, qw, truS, lift2, fI, fEq, fNe, fIsNot, fCmp, isIns, insOf, events_eq, e2, tyS, isTy, l1]
    · have q1' : (1000000000000 : Int) < t := by omega
      have ev := event_eq h ht (St2 es es hc ha lc la T)
      rw [decide_eq_false q1] at ev
      have o3 := added_bad (hreason_no ev)
      have o4 := lreason_odd d tm (St2 es es hc ha lc la T)
      refine ⟨⟨[some (.scr xs), some (.obj 0), some (.obj 4), some (.int tm), some (.obj 5), some (.obj 6), some (.int c), some d, some (.bl true), some (.str "event"), some (.obj (T.length + 7))], []⟩, tm, es, hc, ha, lc, la, cc, aa, T ++ [.lst (es ++ [.non])], ?_, .mk .., g.up⟩
      simp (config := { implicitDefEqProofs := false }) [lb_law_0, ho, q, q1', dt, nn, o3, o4, truS, lift2, fI, fEq, fNe, fIsNot, fCmp, ne_call_accept, ne_call_done, ne_call_crash, ne_call_fall, ne_call_event, ne_call_time, ne_call_e, ne_accept_call, ne_accept_done, ne_accept_crash, ne_accept_fall, ne_accept_event, ne_accept_time, ne_accept_e, ne_done_call, ne_done_accept, ne_done_crash, ne_done_fall, ne_done_event, ne_done_time, ne_done_e, ne_crash_call, ne_crash_accept, ne_crash_done, ne_crash_fall, ne_crash_event, ne_crash_time, ne_crash_e, ne_fall_call, ne_fall_accept, ne_fall_done, ne_fall_crash, ne_fall_event, ne_fall_time, ne_fall_e, ne_event_call, ne_event_accept, ne_event_done, ne_event_crash, ne_event_fall, ne_event_time, ne_event_e, ne_time_call, ne_time_accept, ne_time_done, ne_time_crash, ne_time_fall, ne_time_event, ne_time_e, ne_e_call, ne_e_accept, ne_e_done, ne_e_crash, ne_e_fall, ne_e_event, ne_e_time, isIns, insOf, events_eq, e2, tyS, isTy, l1]
end L_k69
namespace L_k69
open PySem PySem.Spec PyProof.Rows L2 BS
theorem loop (xs : List D) : ∀ (cs : List Int) (j : Nat), j + cs.length ≤ 1000 → ∀ (tm : Int) (es : List D) (hc ha lc la : List (Key × D)) (cc aa : Int → Int) (T : Store) (e : Ev), Fr xs tm e → Good j tm es hc ha lc la cc aa →
    ∃ e' tm' es' hc' ha' lc' la' T', forL (fun _ => True) (gNm 6) lb_law_0 (cs.map .int) e (St2 es es hc ha lc la T) = .nx e' (St2 es' es' hc' ha' lc' la' T') ∧ Fr xs tm' e' ∧ ∀ d ∈ es', Fl 3 d
  | [], j, h, tm, es, hc, ha, lc, la, cc, aa, T, e, hf, g => ⟨e, tm, es, hc, ha, lc, la, T, by rw [List.map_nil, forL_nil], hf, g.fl⟩
  | c :: cs, j, h, tm, es, hc, ha, lc, la, cc, aa, T, e, hf, g => by
    rw [List.length_cons] at h
    obtain ⟨e1, tm1, es1, hc1, ha1, lc1, la1, cc1, aa1, T1, q, hf1, g1⟩ := turn xs c j (by omega) tm es hc ha lc la cc aa T e hf g
    obtain ⟨e2, tm2, es2, hc2, ha2, lc2, la2, T2, q2, hf2, g2⟩ := loop xs cs (j + 1) (by omega) tm1 es1 hc1 ha1 lc1 la1 cc1 aa1 T1 e1 hf1 g1
    refine ⟨e2, tm2, es2, hc2, ha2, lc2, la2, T2, ?_, hf2, g2⟩
    rw [List.map_cons, forL_cons, q, RS.loop_nx]
    exact q2
def d0 : List (Key × D) := [(.inl (-1), .int 0), (.inl (-2), .int 0), (.inl (-3), .int 0)]
theorem good0 : Good 0 0 [] [] [] d0 d0 (fun _ => 0) (fun _ => 0) := by
  have s : Same [] d0 (fun _ => 0) := by
    intro k hk
    rcases hk with rfl | rfl | rfl <;> simp [getK, d0]
  exact ⟨s, s, .inl ⟨rfl, rfl⟩, by simp, by simp, by simp, by simp, by simp [d0], by simp [d0]⟩
theorem init_eq : V_History___init__ [.obj 0] [.ins 1 []] = .ok .non [.ins 1 [(2, .obj 1), (3, .obj 2), (4, .obj 3)], .lst [], .dct [], .dct []] := by
  simp [V_History___init__, m_History___init__, putF_, setN]
abbrev dsp : EM := mDisp (psCons (mUn fNeg (mC (.int 1))) (mC (.int 0)) (psCons (mUn fNeg (mC (.int 2))) (mC (.int 0)) (psCons (mUn fNeg (mC (.int 3))) (mC (.int 0)) psNil)))
theorem disp_eq (e : Ev) (S : Store) : dsp e S = .ok (.obj S.length) (S ++ [.dct d0]) := by
  simp [dsp, mDisp, psCons, psNil, evalPs, fNeg, keysOf, keyOf, mergeD, putD, d0]
theorem law_true : ∀ ns : List Int, ns.length ≤ 63 → ∃ S, V_law [.scr (ns.map .int)] [] = .ok (.bl true) S := by
  intro ns hn
  generalize hxs : ns.map D.int = xs
  obtain ⟨e', tm', es', hc', ha', lc', la', T', q, hf, hd⟩ := loop xs ns 0 (by omega) 0 [] [] [] d0 d0 (fun _ => 0) (fun _ => 0) [] ⟨[some (.scr xs), some (.obj 0), some (.obj 4), some (.int 0), some (.obj 5), some (.obj 6), none, none, none, none, none], []⟩ (.mk ..) good0
  rw [hxs] at q
  obtain ⟨x6, x7, x8, x9, x10⟩ := hf
  have e2 := eqT hd hc' ha' lc' la' T'
  refine ⟨St2 es' es' hc' ha' lc' la' (T' ++ [.lst es']), ?_⟩
  have b1 : mRet (mBin fEq (mMeth 1 V_History_events (mVar 1) mNil) (mVar 2)) ⟨[some (.scr xs), some (.obj 0), some (.obj 4), some (.int tm'), some (.obj 5), some (.obj 6), x6, x7, x8, x9, x10], []⟩ (St2 es' es' hc' ha' lc' la' T') = .rt (.bl true) (St2 es' es' hc' ha' lc' la' (T' ++ [.lst es'])) := by
    simp (config := { implicitDefEqProofs := false }) [lift2, fEq, e2, events_eq, isIns, insOf]
  have b2 : m_law ⟨[some (.scr xs), none, none, none, none, none, none, none, none, none, none], []⟩ [] = .rt (.bl true) (St2 es' es' hc' ha' lc' la' (T' ++ [.lst es'])) := by
    unfold m_law
    have dd := disp_eq
    unfold dsp at dd
    simp (config := { implicitDefEqProofs := false }) only [mSeq_ev, mSet_ev, mNew_ev, mNil_ev, R.bind_ok, List.length_nil, List.nil_append, init_eq, isNon_non, if_true, R.toS_ok, Ev.set_sl, List.set_cons_zero, List.set_cons_succ, RS.seq_nx, mLst_ev, fin_t, List.length_cons, List.cons_append, mC_ev, dd, mFor_ev, iAny_ev, mVar_ev, List.getElem?_cons_zero, wkA, q, b1, Nat.reduceAdd]
  have e0 : (List.map some [D.scr xs] ++ List.replicate (11 - [D.scr xs].length) none) = [some (.scr xs), none, none, none, none, none, none, none, none, none, none] := rfl
  rw [V_law, den_app, e0, b2]
end L_k69
namespace L_k69
open PySem PySem.Spec PyProof.Rows L2 BS
theorem all_mk {P : Program} {w : World} {K : PySem.W.Frag} {h : Heap} {mg : Str → Option Value} {fa : Addr} (hF : ∀ ns : List Int, ns.length ≤ 63 → ∃ S, V_law [.scr (ns.map .int)] [] = .ok (.bl true) S) (X : K.In h) (G : h.Ns mainGlobals mg) (hfa : mg "law" = some (.ref fa))
    {C_History : Addr}
    {C_BadSchedule : Addr}
    {B0_BadSchedule : Addr}
    {nm_BadSchedule q_BadSchedule : Str} {N_BadSchedule : Addr} {bs_BadSchedule : List Value} {sn_BadSchedule : List Str} {sub_BadSchedule : List Value} {ab_BadSchedule : Bool} {col_BadSchedule : Option Bool} {dd_BadSchedule : Option Addr} {m0_BadSchedule m1_BadSchedule m2_BadSchedule m3_BadSchedule m5_BadSchedule : Option Value}
    {tk_MOST_NUMBER : Tok}
    {T_SIZES : Addr} {ep_SIZES : Nat} {tk0_SIZES tv0_SIZES tk1_SIZES tv1_SIZES tk2_SIZES tv2_SIZES tk3_SIZES tv3_SIZES : Tok}
    {f_is_integer : Addr} {od_is_integer an_is_integer : Option Addr} {sl_is_integer : Array (Option Value)} {oc_is_integer kV_is_integer dc_is_integer pm_is_integer cd_is_integer ct_is_integer : Value}
    {f_is_event : Addr} {od_is_event an_is_event : Option Addr} {sl_is_event : Array (Option Value)} {oc_is_event kV_is_event dc_is_event pm_is_event cd_is_event ct_is_event : Value}
    {f__law_cell : Addr} {od__law_cell an__law_cell : Option Addr} {sl__law_cell : Array (Option Value)} {oc__law_cell kV__law_cell dc__law_cell pm__law_cell cd__law_cell ct__law_cell : Value}
    {f__law_offer : Addr} {od__law_offer an__law_offer : Option Addr} {sl__law_offer : Array (Option Value)} {oc__law_offer kV__law_offer dc__law_offer pm__law_offer cd__law_offer ct__law_offer : Value}
    {f__law_odd : Addr} {od__law_odd an__law_odd : Option Addr} {sl__law_odd : Array (Option Value)} {oc__law_odd kV__law_odd dc__law_odd pm__law_odd cd__law_odd ct__law_odd : Value}
    {f__law_reason : Addr} {od__law_reason an__law_reason : Option Addr} {sl__law_reason : Array (Option Value)} {oc__law_reason kV__law_reason dc__law_reason pm__law_reason cd__law_reason ct__law_reason : Value}
    {f_BadSchedule___init__ : Addr} {od_BadSchedule___init__ an_BadSchedule___init__ : Option Addr} {sl_BadSchedule___init__ : Array (Option Value)} {oc_BadSchedule___init__ kV_BadSchedule___init__ dc_BadSchedule___init__ pm_BadSchedule___init__ cd_BadSchedule___init__ ct_BadSchedule___init__ : Value}
    {f_History__reason : Addr} {od_History__reason an_History__reason : Option Addr} {sl_History__reason : Array (Option Value)} {oc_History__reason kV_History__reason dc_History__reason pm_History__reason cd_History__reason ct_History__reason : Value}
    {f_History_add : Addr} {od_History_add an_History_add : Option Addr} {sl_History_add : Array (Option Value)} {oc_History_add kV_History_add dc_History_add pm_History_add cd_History_add ct_History_add : Value}
    {f__law_added : Addr} {od__law_added an__law_added : Option Addr} {sl__law_added : Array (Option Value)} {oc__law_added kV__law_added dc__law_added pm__law_added cd__law_added ct__law_added : Value}
    {f_History___init__ : Addr} {od_History___init__ an_History___init__ : Option Addr} {sl_History___init__ : Array (Option Value)} {oc_History___init__ kV_History___init__ dc_History___init__ pm_History___init__ cd_History___init__ ct_History___init__ : Value}
    {f_History_events : Addr} {od_History_events an_History_events : Option Addr} {sl_History_events : Array (Option Value)} {oc_History_events kV_History_events dc_History_events pm_History_events cd_History_events ct_History_events : Value}
    {f_law : Addr} {od_law an_law : Option Addr} {sl_law : Array (Option Value)} {oc_law kV_law dc_law pm_law cd_law ct_law : Value}
    (aC_History : PySem.W.nsIn K mainGlobals "History" = some (some (.ref C_History)))
    (aC_BadSchedule : PySem.W.nsIn K mainGlobals "BadSchedule" = some (some (.ref C_BadSchedule)))
    (pg_History : PySem.W.plainGet K C_History Str.empty = true)
    (hd_History : PySem.W.hasDictIn K C_History = true)
    (po_History : PySem.W.plainOver K C_History = true)
    (sa_History : PySem.W.findIn K (.ref C_History) "__setattr__" = some (some (.builtin "object.__setattr__")))
    (mk_History : PySem.W.makesIn K C_History = true)
    (kc_History : PySem.W.keepIn K (.ref C_History) = true)
    (nf_History__accepted : PySem.W.findIn K (.ref C_History) "_accepted" = some none)
    (nf_History__called : PySem.W.findIn K (.ref C_History) "_called" = some none)
    (nf_History__rows : PySem.W.findIn K (.ref C_History) "_rows" = some none)
    (kc_BadSchedule : PySem.W.keepIn K (.ref C_BadSchedule) = true)
    (eC_BadSchedule : PySem.W.subIn K (.ref C_BadSchedule) (.type "BaseException") = some true)
    (tC_BadSchedule : PySem.W.typeIn K (.ref C_BadSchedule) = some (.type "type"))
    (xL_BadSchedule : K.lookup C_BadSchedule = some (PySem.excClassObj nm_BadSchedule q_BadSchedule C_BadSchedule N_BadSchedule bs_BadSchedule [.ref B0_BadSchedule, .type "ValueError", .type "Exception", .type "BaseException", .type "object"] true sn_BadSchedule sub_BadSchedule ab_BadSchedule col_BadSchedule dd_BadSchedule m0_BadSchedule m1_BadSchedule m2_BadSchedule m3_BadSchedule m5_BadSchedule "ValueError.__new__"))
    (sa_BadSchedule : PySem.W.findIn K (.ref C_BadSchedule) "__setattr__" = some (some (.builtin "object.__setattr__")))
    (nf_BadSchedule_line : PySem.W.findIn K (.ref C_BadSchedule) "line" = some none)
    (nf_BadSchedule_reason : PySem.W.findIn K (.ref C_BadSchedule) "reason" = some none)
    (ga_BadSchedule : PySem.W.findIn K (.ref C_BadSchedule) "__getattribute__" = some (some (.builtin "BaseException.__getattribute__")))
    (gg_BadSchedule : PySem.W.findIn K (.ref C_BadSchedule) "__getattr__" = some none)
    (hd_BadSchedule : PySem.W.hasDictIn K C_BadSchedule = true)
    (iC_BadSchedule : PySem.W.isClsIn K C_BadSchedule = true)
    (sC_BadSchedule_BadSchedule : PySem.W.subIn K (.ref C_BadSchedule) (.ref C_BadSchedule) = some true)
    (z_isinstance : PySem.W.nsIn K mainGlobals "isinstance" = some none)
    (z_int : PySem.W.nsIn K mainGlobals "int" = some none)
    (z_bool : PySem.W.nsIn K mainGlobals "bool" = some none)
    (gc_MOST_NUMBER : PySem.W.nsIn K mainGlobals "MOST_NUMBER" = some (some (.int 1000000000000 tk_MOST_NUMBER)))
    (z_len : PySem.W.nsIn K mainGlobals "len" = some none)
    (z_tuple : PySem.W.nsIn K mainGlobals "tuple" = some none)
    (z_str : PySem.W.nsIn K mainGlobals "str" = some none)
    (z_max : PySem.W.nsIn K mainGlobals "max" = some none)
    (z_list : PySem.W.nsIn K mainGlobals "list" = some none)
    (aT_SIZES : PySem.W.nsIn K mainGlobals "SIZES" = some (some (.ref T_SIZES)))
    (lT_SIZES : K.lookup T_SIZES = some ⟨.type "dict", none, .dict #[⟨keyH w (.inr "call"), .str "call" tk0_SIZES, .int 5 tv0_SIZES⟩, ⟨keyH w (.inr "accept"), .str "accept" tk1_SIZES, .int 5 tv1_SIZES⟩, ⟨keyH w (.inr "done"), .str "done" tk2_SIZES, .int 4 tv2_SIZES⟩, ⟨keyH w (.inr "crash"), .str "crash" tk3_SIZES, .int 3 tv3_SIZES⟩] ep_SIZES, #[]⟩)
    (zT_SIZES : (T_SIZES == sysModules) = false)
    (a_is_integer : PySem.W.nsIn K mainGlobals "is_integer" = some (some (.ref f_is_integer)))
    (l_is_integer : K.lookup f_is_integer = some ⟨oc_is_integer, od_is_integer, .func (PySem.W.fnOf "is_integer" "is_integer" (defArgs s_is_integer) (defBody s_is_integer) (defScope s_is_integer) .none kV_is_integer dc_is_integer pm_is_integer an_is_integer cd_is_integer ct_is_integer), sl_is_integer⟩)
    (c_is_integer : PySem.W.codeIn K cd_is_integer "is_integer" = true)
    (k_is_integer : PySem.W.keepIn K (.ref f_is_integer) = true)
    (a_is_event : PySem.W.nsIn K mainGlobals "is_event" = some (some (.ref f_is_event)))
    (l_is_event : K.lookup f_is_event = some ⟨oc_is_event, od_is_event, .func (PySem.W.fnOf "is_event" "is_event" (defArgs s_is_event) (defBody s_is_event) (defScope s_is_event) .none kV_is_event dc_is_event pm_is_event an_is_event cd_is_event ct_is_event), sl_is_event⟩)
    (c_is_event : PySem.W.codeIn K cd_is_event "is_event" = true)
    (k_is_event : PySem.W.keepIn K (.ref f_is_event) = true)
    (a__law_cell : PySem.W.nsIn K mainGlobals "_law_cell" = some (some (.ref f__law_cell)))
    (l__law_cell : K.lookup f__law_cell = some ⟨oc__law_cell, od__law_cell, .func (PySem.W.fnOf "_law_cell" "_law_cell" (defArgs s__law_cell) (defBody s__law_cell) (defScope s__law_cell) .none kV__law_cell dc__law_cell pm__law_cell an__law_cell cd__law_cell ct__law_cell), sl__law_cell⟩)
    (c__law_cell : PySem.W.codeIn K cd__law_cell "_law_cell" = true)
    (k__law_cell : PySem.W.keepIn K (.ref f__law_cell) = true)
    (a__law_offer : PySem.W.nsIn K mainGlobals "_law_offer" = some (some (.ref f__law_offer)))
    (l__law_offer : K.lookup f__law_offer = some ⟨oc__law_offer, od__law_offer, .func (PySem.W.fnOf "_law_offer" "_law_offer" (defArgs s__law_offer) (defBody s__law_offer) (defScope s__law_offer) .none kV__law_offer dc__law_offer pm__law_offer an__law_offer cd__law_offer ct__law_offer), sl__law_offer⟩)
    (c__law_offer : PySem.W.codeIn K cd__law_offer "_law_offer" = true)
    (k__law_offer : PySem.W.keepIn K (.ref f__law_offer) = true)
    (a__law_odd : PySem.W.nsIn K mainGlobals "_law_odd" = some (some (.ref f__law_odd)))
    (l__law_odd : K.lookup f__law_odd = some ⟨oc__law_odd, od__law_odd, .func (PySem.W.fnOf "_law_odd" "_law_odd" (defArgs s__law_odd) (defBody s__law_odd) (defScope s__law_odd) .none kV__law_odd dc__law_odd pm__law_odd an__law_odd cd__law_odd ct__law_odd), sl__law_odd⟩)
    (c__law_odd : PySem.W.codeIn K cd__law_odd "_law_odd" = true)
    (k__law_odd : PySem.W.keepIn K (.ref f__law_odd) = true)
    (a__law_reason : PySem.W.nsIn K mainGlobals "_law_reason" = some (some (.ref f__law_reason)))
    (l__law_reason : K.lookup f__law_reason = some ⟨oc__law_reason, od__law_reason, .func (PySem.W.fnOf "_law_reason" "_law_reason" (defArgs s__law_reason) (defBody s__law_reason) (defScope s__law_reason) .none kV__law_reason dc__law_reason pm__law_reason an__law_reason cd__law_reason ct__law_reason), sl__law_reason⟩)
    (c__law_reason : PySem.W.codeIn K cd__law_reason "_law_reason" = true)
    (k__law_reason : PySem.W.keepIn K (.ref f__law_reason) = true)
    (a_BadSchedule___init__ : PySem.W.findIn K (.ref C_BadSchedule) "__init__" = some (some (.ref f_BadSchedule___init__)))
    (t_BadSchedule___init__ : PySem.W.typeIn K (.ref f_BadSchedule___init__) = some (.type "function"))
    (l_BadSchedule___init__ : K.lookup f_BadSchedule___init__ = some ⟨oc_BadSchedule___init__, od_BadSchedule___init__, .func (PySem.W.fnOf "__init__" "BadSchedule.__init__" (defArgs s_BadSchedule___init__) (defBody s_BadSchedule___init__) (defScope s_BadSchedule___init__) .none kV_BadSchedule___init__ dc_BadSchedule___init__ pm_BadSchedule___init__ an_BadSchedule___init__ cd_BadSchedule___init__ ct_BadSchedule___init__), sl_BadSchedule___init__⟩)
    (c_BadSchedule___init__ : PySem.W.codeIn K cd_BadSchedule___init__ "BadSchedule.__init__" = true)
    (k_BadSchedule___init__ : PySem.W.keepIn K (.ref f_BadSchedule___init__) = true)
    (a_History__reason : PySem.W.findIn K (.ref C_History) "_reason" = some (some (.ref f_History__reason)))
    (i_History__reason : PySem.W.isFn K (.ref f_History__reason) = true)
    (l_History__reason : K.lookup f_History__reason = some ⟨oc_History__reason, od_History__reason, .func (PySem.W.fnOf "_reason" "History._reason" (defArgs s_History__reason) (defBody s_History__reason) (defScope s_History__reason) .none kV_History__reason dc_History__reason pm_History__reason an_History__reason cd_History__reason ct_History__reason), sl_History__reason⟩)
    (c_History__reason : PySem.W.codeIn K cd_History__reason "History._reason" = true)
    (k_History__reason : PySem.W.keepIn K (.ref f_History__reason) = true)
    (a_History_add : PySem.W.findIn K (.ref C_History) "add" = some (some (.ref f_History_add)))
    (i_History_add : PySem.W.isFn K (.ref f_History_add) = true)
    (l_History_add : K.lookup f_History_add = some ⟨oc_History_add, od_History_add, .func (PySem.W.fnOf "add" "History.add" (defArgs s_History_add) (defBody s_History_add) (defScope s_History_add) .none kV_History_add dc_History_add pm_History_add an_History_add cd_History_add ct_History_add), sl_History_add⟩)
    (c_History_add : PySem.W.codeIn K cd_History_add "History.add" = true)
    (k_History_add : PySem.W.keepIn K (.ref f_History_add) = true)
    (a__law_added : PySem.W.nsIn K mainGlobals "_law_added" = some (some (.ref f__law_added)))
    (l__law_added : K.lookup f__law_added = some ⟨oc__law_added, od__law_added, .func (PySem.W.fnOf "_law_added" "_law_added" (defArgs s__law_added) (defBody s__law_added) (defScope s__law_added) .none kV__law_added dc__law_added pm__law_added an__law_added cd__law_added ct__law_added), sl__law_added⟩)
    (c__law_added : PySem.W.codeIn K cd__law_added "_law_added" = true)
    (k__law_added : PySem.W.keepIn K (.ref f__law_added) = true)
    (a_History___init__ : PySem.W.findIn K (.ref C_History) "__init__" = some (some (.ref f_History___init__)))
    (i_History___init__ : PySem.W.isFn K (.ref f_History___init__) = true)
    (l_History___init__ : K.lookup f_History___init__ = some ⟨oc_History___init__, od_History___init__, .func (PySem.W.fnOf "__init__" "History.__init__" (defArgs s_History___init__) (defBody s_History___init__) (defScope s_History___init__) .none kV_History___init__ dc_History___init__ pm_History___init__ an_History___init__ cd_History___init__ ct_History___init__), sl_History___init__⟩)
    (c_History___init__ : PySem.W.codeIn K cd_History___init__ "History.__init__" = true)
    (k_History___init__ : PySem.W.keepIn K (.ref f_History___init__) = true)
    (a_History_events : PySem.W.findIn K (.ref C_History) "events" = some (some (.ref f_History_events)))
    (i_History_events : PySem.W.isFn K (.ref f_History_events) = true)
    (l_History_events : K.lookup f_History_events = some ⟨oc_History_events, od_History_events, .func (PySem.W.fnOf "events" "History.events" (defArgs s_History_events) (defBody s_History_events) (defScope s_History_events) .none kV_History_events dc_History_events pm_History_events an_History_events cd_History_events ct_History_events), sl_History_events⟩)
    (c_History_events : PySem.W.codeIn K cd_History_events "History.events" = true)
    (k_History_events : PySem.W.keepIn K (.ref f_History_events) = true)
    (a_law : PySem.W.nsIn K mainGlobals "law" = some (some (.ref f_law)))
    (l_law : K.lookup f_law = some ⟨oc_law, od_law, .func (PySem.W.fnOf "law" "law" (defArgs s_law) (defBody s_law) (defScope s_law) .none kV_law dc_law pm_law an_law cd_law ct_law), sl_law⟩)
    (c_law : PySem.W.codeIn K cd_law "law" = true)
    (k_law : PySem.W.keepIn K (.ref f_law) = true)
    : ∃ fd : FuncData, (∀ (s : Shared) (u : Value), BindsTo s fd ⟨[u], []⟩ [("_law_script", u)]) ∧ ∀ base : Heap, K.In base → base.Ns mainGlobals mg → FnOk P w K mg base (L2.CX P w) 6 fa fd ["_law_script"] (spLaw K) := by
  have e := hfa.symm.trans (PySem.W.mg_of X G a_law)
  cases e
  refine ⟨PySem.W.fnOf "law" "law" (defArgs s_law) (defBody s_law) (defScope s_law) .none kV_law dc_law pm_law an_law cd_law ct_law, fun s u => .of_eq rfl, fun base _ _ => ?_⟩
  have gC_History : mg "History" = some (.ref C_History) := PySem.W.mg_of X G aC_History
  have gC_BadSchedule : mg "BadSchedule" = some (.ref C_BadSchedule) := PySem.W.mg_of X G aC_BadSchedule
  have cls_History : Cls K C_History := ⟨pg_History, hd_History, po_History, sa_History⟩
  have ox_BadSchedule : OexC K C_BadSchedule := ⟨⟨nm_BadSchedule, q_BadSchedule, N_BadSchedule, bs_BadSchedule, _, sn_BadSchedule, sub_BadSchedule, ab_BadSchedule, col_BadSchedule, dd_BadSchedule, m0_BadSchedule, m1_BadSchedule, m2_BadSchedule, m3_BadSchedule, m5_BadSchedule, xL_BadSchedule, (refs_own refs_end)⟩, sa_BadSchedule, eC_BadSchedule, tC_BadSchedule, kc_BadSchedule⟩
  have F_is_integer := fun_mk (st := s_is_integer) l_is_integer c_is_integer k_is_integer
  have b_is_integer := F_is_integer.binds (ps := ["value", "least", "greatest"]) fun _ _ _ _ _ _ us hl => match us, hl with | [_, _, _], _ => rfl
  have F_is_event := fun_mk (st := s_is_event) l_is_event c_is_event k_is_event
  have b_is_event := F_is_event.binds (ps := ["value"]) fun _ _ _ _ _ _ us hl => match us, hl with | [_], _ => rfl
  have F__law_cell := fun_mk (st := s__law_cell) l__law_cell c__law_cell k__law_cell
  have b__law_cell := F__law_cell.binds (ps := ["_law_script", "_law_k"]) fun _ _ _ _ _ _ us hl => match us, hl with | [_, _], _ => rfl
  have F__law_offer := fun_mk (st := s__law_offer) l__law_offer c__law_offer k__law_offer
  have b__law_offer := F__law_offer.binds (ps := ["_law_cell_here", "_law_time", "_law_called"]) fun _ _ _ _ _ _ us hl => match us, hl with | [_, _, _], _ => rfl
  have F__law_odd := fun_mk (st := s__law_odd) l__law_odd c__law_odd k__law_odd
  have b__law_odd := F__law_odd.binds (ps := ["_law_cell_here", "_law_time"]) fun _ _ _ _ _ _ us hl => match us, hl with | [_, _], _ => rfl
  have F__law_reason := fun_mk (st := s__law_reason) l__law_reason c__law_reason k__law_reason
  have b__law_reason := F__law_reason.binds (ps := ["_law_event", "_law_odd_here", "_law_time", "_law_called", "_law_accepted"]) fun _ _ _ _ _ _ us hl => match us, hl with | [_, _, _, _, _], _ => rfl
  have F_BadSchedule___init__ := fun_mk (st := s_BadSchedule___init__) l_BadSchedule___init__ c_BadSchedule___init__ k_BadSchedule___init__
  have b_BadSchedule___init__ := F_BadSchedule___init__.binds (ps := ["self", "line", "reason"]) fun _ _ _ _ _ _ us hl => match us, hl with | [_, _, _], _ => rfl
  have F_History__reason := fun_mk (st := s_History__reason) l_History__reason c_History__reason k_History__reason
  have b_History__reason := F_History__reason.binds (ps := ["self", "event"]) fun _ _ _ _ _ _ us hl => match us, hl with | [_, _], _ => rfl
  have F_History_add := fun_mk (st := s_History_add) l_History_add c_History_add k_History_add
  have b_History_add := F_History_add.binds (ps := ["self", "event"]) fun _ _ _ _ _ _ us hl => match us, hl with | [_, _], _ => rfl
  have F__law_added := fun_mk (st := s__law_added) l__law_added c__law_added k__law_added
  have b__law_added := F__law_added.binds (ps := ["_law_history", "_law_event"]) fun _ _ _ _ _ _ us hl => match us, hl with | [_, _], _ => rfl
  have F_History___init__ := fun_mk (st := s_History___init__) l_History___init__ c_History___init__ k_History___init__
  have b_History___init__ := F_History___init__.binds (ps := ["self"]) fun _ _ _ _ _ _ us hl => match us, hl with | [_], _ => rfl
  have F_History_events := fun_mk (st := s_History_events) l_History_events c_History_events k_History_events
  have b_History_events := F_History_events.binds (ps := ["self"]) fun _ _ _ _ _ _ us hl => match us, hl with | [_], _ => rfl
  have F_law := fun_mk (st := s_law) l_law c_law k_law
  have q0 : mg "isinstance" = none := PySem.W.mg_none_of X G z_isinstance
  have q1 : mg "int" = none := PySem.W.mg_none_of X G z_int
  have q2 : mg "bool" = none := PySem.W.mg_none_of X G z_bool
  have o_is_integer : FnOk P w K mg base (L2.CX P w) 1 f_is_integer _ ["value", "least", "greatest"] (spD nm K mg 3 V_is_integer) := ok_is_integer F_is_integer q0 q1 q2
  have q3 : DefOk P w K mg base nm 1 "is_integer" 3 V_is_integer := def_mk (PySem.W.mg_of X G a_is_integer) k_is_integer rfl b_is_integer o_is_integer
  have q4 : GC K mg "MOST_NUMBER" c_MOST_NUMBER := gc_int X G gc_MOST_NUMBER
  have q5 : TC P w K mg "SIZES" c_SIZES := tc_mk (L := [(.inr "call", .str "call" tk0_SIZES, .int 5 tv0_SIZES), (.inr "accept", .str "accept" tk1_SIZES, .int 5 tv1_SIZES), (.inr "done", .str "done" tk2_SIZES, .int 4 tv2_SIZES), (.inr "crash", .str "crash" tk3_SIZES, .int 3 tv3_SIZES)]) (PySem.W.mg_of X G aT_SIZES) lT_SIZES rfl zT_SIZES (by simp [keyIs_str, keyIs_int]) (by decide +kernel : ([.inr "call", .inr "accept", .inr "done", .inr "crash"] : List Key).Nodup) (.cons tv_int (.cons tv_int (.cons tv_int (.cons tv_int .nil))))
  have q6 : mg "len" = none := PySem.W.mg_none_of X G z_len
  have q7 : mg "tuple" = none := PySem.W.mg_none_of X G z_tuple
  have q8 : mg "str" = none := PySem.W.mg_none_of X G z_str
  have o_is_event : FnOk P w K mg base (L2.CX P w) 2 f_is_event _ ["value"] (spD nm K mg 1 V_is_event) := ok_is_event F_is_event q3 q4 q5 q6 q0 q7 q8
  have o__law_cell : FnOk P w K mg base (L2.CX P w) 1 f__law_cell _ ["_law_script", "_law_k"] (spD nm K mg 2 V__law_cell) := ok__law_cell F__law_cell q6
  have q9 : mg "max" = none := PySem.W.mg_none_of X G z_max
  have o__law_offer : FnOk P w K mg base (L2.CX P w) 1 f__law_offer _ ["_law_cell_here", "_law_time", "_law_called"] (spD nm K mg 3 V__law_offer) := ok__law_offer F__law_offer q1 q9
  have o__law_odd : FnOk P w K mg base (L2.CX P w) 1 f__law_odd _ ["_law_cell_here", "_law_time"] (spD nm K mg 2 V__law_odd) := ok__law_odd F__law_odd q1
  have o__law_reason : FnOk P w K mg base (L2.CX P w) 1 f__law_reason _ ["_law_event", "_law_odd_here", "_law_time", "_law_called", "_law_accepted"] (spD nm K mg 5 V__law_reason) := ok__law_reason F__law_reason 
  have o_BadSchedule___init__ : FnOk P w K mg base (L2.CX P w) 1 f_BadSchedule___init__ _ ["self", "line", "reason"] (spX2 K (nm.fld 0) (nm.fld 1)) := ok_BadSchedule___init__ F_BadSchedule___init__ 
  have q10 : FldOk K mg nm [1] 4 := (fld_one (x := "History") (fx := "_accepted") (by decide +kernel) cl_History fl__accepted gC_History cls_History nf_History__accepted)
  have q11 : FldOk K mg nm [1] 3 := (fld_one (x := "History") (fx := "_called") (by decide +kernel) cl_History fl__called gC_History cls_History nf_History__called)
  have q12 : FldOk K mg nm [1] 2 := (fld_one (x := "History") (fx := "_rows") (by decide +kernel) cl_History fl__rows gC_History cls_History nf_History__rows)
  have q13 : DefOk P w K mg base nm 2 "is_event" 1 V_is_event := def_mk (PySem.W.mg_of X G a_is_event) k_is_event rfl b_is_event o_is_event
  have o_History__reason : FnOk P w K mg base (L2.CX P w) 3 f_History__reason _ ["self", "event"] (spD nm K mg 2 V_History__reason) := ok_History__reason F_History__reason q10 q11 q12 q13
  have q14 : Exc2Ok P w K mg base nm 1 22 0 1 := exc2_mk cl_BadSchedule gC_BadSchedule ox_BadSchedule a_BadSchedule___init__ t_BadSchedule___init__ rfl b_BadSchedule___init__ o_BadSchedule___init__ fl_line fl_reason nf_BadSchedule_line nf_BadSchedule_reason (by decide +kernel) (by decide +kernel)
  have q15 : MethOk P w K mg base nm 3 1 "_reason" 2 V_History__reason := meth_mk cl_History gC_History cls_History a_History__reason i_History__reason k_History__reason rfl b_History__reason o_History__reason (by decide +kernel)
  have o_History_add : FnOk P w K mg base (L2.CX P w) 4 f_History_add _ ["self", "event"] (spD nm K mg 2 V_History_add) := ok_History_add F_History_add q10 q11 q12 q14 q15
  have q16 : MethOk P w K mg base nm 4 1 "add" 2 V_History_add := meth_mk cl_History gC_History cls_History a_History_add i_History_add k_History_add rfl b_History_add o_History_add (by decide +kernel)
  have q17 : Catch K mg nm "BadSchedule" [22] [] := catch_of gC_BadSchedule (catch_cons cl_BadSchedule gC_BadSchedule (exm_of eC_BadSchedule iC_BadSchedule tC_BadSchedule sC_BadSchedule_BadSchedule) catch_nil) catch_nil
  have q18 : XcOk K mg nm 22 1 := xc_mk cl_BadSchedule gC_BadSchedule ga_BadSchedule gg_BadSchedule eC_BadSchedule fl_reason nf_BadSchedule_reason hd_BadSchedule (by decide +kernel)
  have q19 : XcOk K mg nm 22 0 := xc_mk cl_BadSchedule gC_BadSchedule ga_BadSchedule gg_BadSchedule eC_BadSchedule fl_line nf_BadSchedule_line hd_BadSchedule (by decide +kernel)
  have o__law_added : FnOk P w K mg base (L2.CX P w) 5 f__law_added _ ["_law_history", "_law_event"] (spD nm K mg 2 V__law_added) := ok__law_added F__law_added q16 q17 q18 q0 q19 q2
  have o_History___init__ : FnOk P w K mg base (L2.CX P w) 1 f_History___init__ _ ["self"] (spD nm K mg 1 V_History___init__) := ok_History___init__ F_History___init__ q10 q11 q12
  have q20 : mg "list" = none := PySem.W.mg_none_of X G z_list
  have o_History_events : FnOk P w K mg base (L2.CX P w) 1 f_History_events _ ["self"] (spD nm K mg 1 V_History_events) := ok_History_events F_History_events q12 q20
  have q21 : MethOk P w K mg base nm 1 1 "events" 1 V_History_events := meth_mk cl_History gC_History cls_History a_History_events i_History_events k_History_events rfl b_History_events o_History_events (by decide +kernel)
  have q22 : DefOk P w K mg base nm 5 "_law_added" 2 V__law_added := def_mk (PySem.W.mg_of X G a__law_added) k__law_added rfl b__law_added o__law_added
  have q23 : DefOk P w K mg base nm 1 "_law_reason" 5 V__law_reason := def_mk (PySem.W.mg_of X G a__law_reason) k__law_reason rfl b__law_reason o__law_reason
  have q24 : DefOk P w K mg base nm 1 "_law_odd" 2 V__law_odd := def_mk (PySem.W.mg_of X G a__law_odd) k__law_odd rfl b__law_odd o__law_odd
  have q25 : DefOk P w K mg base nm 1 "_law_offer" 3 V__law_offer := def_mk (PySem.W.mg_of X G a__law_offer) k__law_offer rfl b__law_offer o__law_offer
  have q26 : MakeOk P w K mg base nm 1 1 0 V_History___init__ := make_mk cl_History gC_History mk_History a_History___init__ i_History___init__ kc_History rfl b_History___init__ o_History___init__
  exact law_end (ok_law F_law q21 q0 q20 q22 q23 q24 q1 q25 q26) hF
end L_k69
open PySem PySem.W PyProof.Rows
set_option maxRecDepth 100000 in
set_option maxHeartbeats 0 in
theorem PySem.Challenge.cw_boundstone_k69_histories_holds : PySem.Challenge.rw_boundstone_k69_histories.Holds := by
  w_on; o_law; k_head; (case hw => w_witness2)
  k_fill
  refine BS.walk (l := PySem.Challenge.rw_boundstone_k69_histories) (k := 6) (x := "_law_script") rfl rfl ⟨rfl, by decide, by decide⟩ (fun w h Y => PySem.W.kIn_of Y) ?F
  case F =>
    intro w mg fa h KX G hmg
    refine' L_k69.all_mk L_k69.law_true KX G hmg ?aC_History ?aC_BadSchedule ?pg_History ?hd_History ?po_History ?sa_History ?mk_History ?kc_History ?nf_History__accepted ?nf_History__called ?nf_History__rows ?kc_BadSchedule ?eC_BadSchedule ?tC_BadSchedule ?xL_BadSchedule ?sa_BadSchedule ?nf_BadSchedule_line ?nf_BadSchedule_reason ?ga_BadSchedule ?gg_BadSchedule ?hd_BadSchedule ?iC_BadSchedule ?sC_BadSchedule_BadSchedule ?z_isinstance ?z_int ?z_bool ?gc_MOST_NUMBER ?z_len ?z_tuple ?z_str ?z_max ?z_list ?aT_SIZES ?lT_SIZES ?zT_SIZES ?a_is_integer ?l_is_integer ?c_is_integer ?k_is_integer ?a_is_event ?l_is_event ?c_is_event ?k_is_event ?a__law_cell ?l__law_cell ?c__law_cell ?k__law_cell ?a__law_offer ?l__law_offer ?c__law_offer ?k__law_offer ?a__law_odd ?l__law_odd ?c__law_odd ?k__law_odd ?a__law_reason ?l__law_reason ?c__law_reason ?k__law_reason ?a_BadSchedule___init__ ?t_BadSchedule___init__ ?l_BadSchedule___init__ ?c_BadSchedule___init__ ?k_BadSchedule___init__ ?a_History__reason ?i_History__reason ?l_History__reason ?c_History__reason ?k_History__reason ?a_History_add ?i_History_add ?l_History_add ?c_History_add ?k_History_add ?a__law_added ?l__law_added ?c__law_added ?k__law_added ?a_History___init__ ?i_History___init__ ?l_History___init__ ?c_History___init__ ?k_History___init__ ?a_History_events ?i_History_events ?l_History_events ?c_History_events ?k_History_events ?a_law ?l_law ?c_law ?k_law
    (case aC_History => k_is)
    (case aC_BadSchedule => k_is)
    (case pg_History => k_is)
    (case hd_History => k_is)
    (case po_History => k_is)
    (case sa_History => k_is)
    (case mk_History => k_is)
    (case kc_History => k_is)
    (case nf_History__accepted => k_is)
    (case nf_History__called => k_is)
    (case nf_History__rows => k_is)
    (case kc_BadSchedule => k_is)
    (case eC_BadSchedule => k_is)
    (case tC_BadSchedule => k_is)
    (case xL_BadSchedule => k_is)
    (case sa_BadSchedule => k_is)
    (case nf_BadSchedule_line => k_is)
    (case nf_BadSchedule_reason => k_is)
    (case ga_BadSchedule => k_is)
    (case gg_BadSchedule => k_is)
    (case hd_BadSchedule => k_is)
    (case iC_BadSchedule => k_is)
    (case sC_BadSchedule_BadSchedule => k_is)
    (case z_isinstance => k_is)
    (case z_int => k_is)
    (case z_bool => k_is)
    (case gc_MOST_NUMBER => k_is)
    (case z_len => k_is)
    (case z_tuple => k_is)
    (case z_str => k_is)
    (case z_max => k_is)
    (case z_list => k_is)
    (case aT_SIZES => k_is)
    (case lT_SIZES => k_is)
    (case zT_SIZES => first | rfl | decide +kernel)
    (case a_is_integer => k_is)
    (case l_is_integer => k_is)
    (case c_is_integer => k_is)
    (case k_is_integer => k_is)
    (case a_is_event => k_is)
    (case l_is_event => k_is)
    (case c_is_event => k_is)
    (case k_is_event => k_is)
    (case a__law_cell => k_is)
    (case l__law_cell => k_is)
    (case c__law_cell => k_is)
    (case k__law_cell => k_is)
    (case a__law_offer => k_is)
    (case l__law_offer => k_is)
    (case c__law_offer => k_is)
    (case k__law_offer => k_is)
    (case a__law_odd => k_is)
    (case l__law_odd => k_is)
    (case c__law_odd => k_is)
    (case k__law_odd => k_is)
    (case a__law_reason => k_is)
    (case l__law_reason => k_is)
    (case c__law_reason => k_is)
    (case k__law_reason => k_is)
    (case a_BadSchedule___init__ => k_is)
    (case t_BadSchedule___init__ => k_is)
    (case l_BadSchedule___init__ => k_is)
    (case c_BadSchedule___init__ => k_is)
    (case k_BadSchedule___init__ => k_is)
    (case a_History__reason => k_is)
    (case i_History__reason => k_is)
    (case l_History__reason => k_is)
    (case c_History__reason => k_is)
    (case k_History__reason => k_is)
    (case a_History_add => k_is)
    (case i_History_add => k_is)
    (case l_History_add => k_is)
    (case c_History_add => k_is)
    (case k_History_add => k_is)
    (case a__law_added => k_is)
    (case l__law_added => k_is)
    (case c__law_added => k_is)
    (case k__law_added => k_is)
    (case a_History___init__ => k_is)
    (case i_History___init__ => k_is)
    (case l_History___init__ => k_is)
    (case c_History___init__ => k_is)
    (case k_History___init__ => k_is)
    (case a_History_events => k_is)
    (case i_History_events => k_is)
    (case l_History_events => k_is)
    (case c_History_events => k_is)
    (case k_History_events => k_is)
    (case a_law => k_is)
    (case l_law => k_is)
    (case c_law => k_is)
    (case k_law => k_is)
