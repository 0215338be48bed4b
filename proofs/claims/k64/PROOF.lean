import PyProof.Rows.All
import HandS.Head2
import HandS.Lambda
import HandS.EndTab
import KE.SortKeyHeap
import Wide.All
import OpenK.AllK
import Wide.FinOn
import HandS.ForMost
import HandS.ForExc
import HandS.Wide
import HandS.CallSlots
import HandS.HotCalls
import KE.DataEq
import KE.DataCmp
import HandS.IsInst
import HandS.TupAny
import HandS.ExcInit
import KE.KxIndex
import HandS.ExcIs
import HandS.SortInts
import HandS.More
import HandS.DictComp
import HandS.Style
import HandS.SortKw
import HandS.Text
import HandS.StrMore
import HandS.StrSplit
import HandS.FStr
import HandS.ReplaceLit
import HandS.Set
import HandS.Strs
import HandS.SetFor
import KE.KLam
import KE.KNestM
import HandS.TryOnly
import KE.KDictKeyed
import KE.KDictCopyH
import HandS.Conv
import HandS.Deep
import KE.DataFind
import HandS.Zip
import KE.GoesMore
import KE.GoesZip
import KE.GoesEnum
import PyProof.StrLawsOcc
import PyProof.StrLawsFirst
import PySem.Challenge.RW_boundstone_k64_schedules_read_back
set_option Elab.async false
set_option linter.all false
set_option maxRecDepth 100000
set_option maxHeartbeats 4000000
section
open PySem PySem.W PyProof.Rows
namespace HK
open PySem PySem.W PySem.Calls PyProof.Rows
/-- the top's run at a world -/
def RunK (r : OpenRow) (q : Program) (K : Params → Frag) (as ts : List Addr) (M : Nat) (loose : List PySem.Str) (w : World) : Prop :=
  ∀ os : OsState, (HandSHeadRun.endF (HandSHeadRun.stepQ (HandSHeadRun.denQ HandSHeadRun.tabQ) r.prog w) M r.prog w os).map (fun s => (HandSHeadRun.looksF r.prog (boot_heap w.params) s.abs, HandSHeadRun.seenQ q loose (importedModules r.prog.main.body) (fun s => xlAt q [] s && recOk r.toRowW.records s) s.abs, (as.map (HandSHeadRun.getT s), ts.map (HandSHeadRun.getT s)))) = some (true, openGood q loose, ((K w.params).map (fun p => some p.2), ts.map fun _ => some (tabObj #[])))
/-- the head of a law by one run for each answer of the row that the text's classes ask -/
theorem head_km {r : OpenRow} {q : Program} {H : Hook} {K : Params → Frag} {as ts : List Addr} {ek : ∀ P, as = (K P).map (·.1)} {M : Nat} {loose : List PySem.Str} {d : DefRec} {kwd : List (PySem.Str × PySem.Expr)}
    (hH : H = kmHook K as ek ts) (e : opening r.prog = plainProg r.prog.main.scope.names) (f : ∀ s, fenceModules? r.prog s = some s)
    (hdef : defOf q r.name = some (d, kwd)) (hp : r.prog.theDef r.name = some (d.params, d.body, d.scope)) (hk : kwWritten? d.params.kwonlyargs d.params.kw_defaults = some kwd)
    (hwr : (!r.writes || r.records.isEmpty) = true) (k1 : r.wellSaid = true) (ok : (chainsOk q && opensWell r.prog && (frees r.toRowW && r.within.isEmpty)) = true) (hb : r.prog.bare) (hw : r.toRowW.promised)
    (all : (∀ w : World, RunK r q K as ts M loose (w.withFollow "special-get-raises" false)) ∧ (∀ w : World, RunK r q K as ts M loose (w.withFollow "special-get-raises" true)) ∧ WalkO q loose (XL q []) H.says r.toRowW d kwd fun f vs => PySem.call f vs) : r.Holds := by
  subst hH
  obtain ⟨runF, runT, call⟩ := all
  exact HandSHeadRun.head_any (H := kmHook K as ek ts) (ob := fun s => (as.map (HandSHeadRun.getT s), ts.map (HandSHeadRun.getT s)))
    (fun s => Prod.ext (List.map_congr_left fun a _ => HandSHeadRun.getT_eq s a) (List.map_congr_left fun a _ => HandSHeadRun.getT_eq s a)) e f
    (fun w => byRow2 "special-get-raises" (P := RunK r q K as ts M loose) runF runT w) hdef hp hk hwr k1 ok hb hw call
/-- the same where no table of code is asked -/
def RunJ (r : OpenRow) (q : Program) (K : Params → Frag) (as : List Addr) (M : Nat) (loose : List PySem.Str) (w : World) : Prop :=
  ∀ os : OsState, (HandSHeadRun.endF (HandSHeadRun.stepQ (HandSHeadRun.denQ HandSHeadRun.tabQ) r.prog w) M r.prog w os).map (fun s => (HandSHeadRun.looksF r.prog (boot_heap w.params) s.abs, HandSHeadRun.seenQ q loose (importedModules r.prog.main.body) (fun s => xlAt q [] s && recOk r.toRowW.records s) s.abs, as.map (HandSHeadRun.getT s))) = some (true, openGood q loose, (K w.params).map (fun p => some p.2))
theorem head_k {r : OpenRow} {q : Program} {H : Hook} {K : Params → Frag} {as : List Addr} {ek : ∀ P, as = (K P).map (·.1)} {M : Nat} {loose : List PySem.Str} {d : DefRec} {kwd : List (PySem.Str × PySem.Expr)}
    (hH : H = kHook K as ek) (e : opening r.prog = plainProg r.prog.main.scope.names) (f : ∀ s, fenceModules? r.prog s = some s)
    (hdef : defOf q r.name = some (d, kwd)) (hp : r.prog.theDef r.name = some (d.params, d.body, d.scope)) (hk : kwWritten? d.params.kwonlyargs d.params.kw_defaults = some kwd)
    (hwr : (!r.writes || r.records.isEmpty) = true) (k1 : r.wellSaid = true) (ok : (chainsOk q && opensWell r.prog && (frees r.toRowW && r.within.isEmpty)) = true) (hb : r.prog.bare) (hw : r.toRowW.promised)
    (all : (∀ w : World, RunJ r q K as M loose (w.withFollow "special-get-raises" false)) ∧ (∀ w : World, RunJ r q K as M loose (w.withFollow "special-get-raises" true)) ∧ WalkO q loose (XL q []) H.says r.toRowW d kwd fun f vs => PySem.call f vs) : r.Holds := by
  subst hH
  obtain ⟨runF, runT, call⟩ := all
  exact HandSHeadRun.head_any (H := kHook K as ek) (ob := fun s => as.map (HandSHeadRun.getT s))
    (fun s => List.map_congr_left fun a _ => HandSHeadRun.getT_eq s a) e f
    (fun w => byRow2 "special-get-raises" (P := RunJ r q K as M loose) runF runT w) hdef hp hk hwr k1 ok hb hw call
def n0 : List PySem.Str := ["TableError", "BadText", "BadSchedule", "MOST_KEY", "MOST_VALUE", "MOST_PAGE", "MOST_NUMBER", "MOST_DIGITS", "MOST_DEPTH", "MOST_LENGTH", "DIGITS", "PERCENT", "GREATEST", "is_printable", "is_integer", "_written", "encode", "_read_string", "_read_integer", "_read_tuple", "_read", "decode", "MOST_TICKS", "ACTS", "check_act", "LETTERS", "is_bound", "is_key", "SIZES", "is_value"]
def n1 : List PySem.Str := ["is_operation", "MOST_FIGURES", "number_of", "_client_of", "_value_of", "_item_of", "_act_of", "_world_of", "parse_schedule", "_line_of", "act_line", "_law_cell", "_law_rich", "_law_word", "_law_key", "_law_bound", "_law_value", "_law_range", "_law_operation", "_law_answer", "_law_rows", "_law_pairs", "_law_letter", "_law_act", "_law_line", "_law_skipped"]
def nn : List PySem.Str := n0 ++ n1
abbrev R : OpenRow := OpenLaw.row PySem.Challenge.rw_boundstone_k64_schedules_read_back
/-- what a head asks of the two runs -/
def askF {A B C D : Prop} (_ : A ∧ B ∧ C → D) : Prop := A
def askT {A B C D : Prop} (_ : A ∧ B ∧ C → D) : Prop := B
end HK
local macro_rules | `(tactic| o_head $H) => do
  let hw := Lean.mkIdent `hw
  let hc := Lean.mkIdent `hc
  `(tactic| (first | refine HK.head_km (r := HK.R) (H := $H) rfl (q := view HK.R.prog [63]) (M := 40000) (loose := HK.nn) (d := HandSHeadRun.topDef HK.R.prog 63) (kwd := []) (by kernel_rfl) (fun s => by kernel_rfl) (by kernel_rfl) (by kernel_rfl) (by kernel_rfl) (by rfl) (by first | assumption | decide +kernel) (by decide +kernel) ⟨rfl, rfl, rfl, rfl, rfl, by decide +kernel⟩ ?$hw ?$hc | refine HK.head_k (r := HK.R) (H := $H) rfl (q := view HK.R.prog [63]) (M := 40000) (loose := HK.nn) (d := HandSHeadRun.topDef HK.R.prog 63) (kwd := []) (by kernel_rfl) (fun s => by kernel_rfl) (by kernel_rfl) (by kernel_rfl) (by kernel_rfl) (by rfl) (by first | assumption | decide +kernel) (by decide +kernel) ⟨rfl, rfl, rfl, rfl, rfl, by decide +kernel⟩ ?$hw ?$hc))
set_option maxRecDepth 100000 in
set_option maxHeartbeats 0 in
open_top T_k64 for PySem.Challenge.rw_boundstone_k64_schedules_read_back
set_option maxRecDepth 100000 in
theorem runF_k64 : HK.askF T_k64 := by
  unfold HK.askF
  intro w os
  kernel_rfl
set_option maxRecDepth 100000 in
theorem runT_k64 : HK.askT T_k64 := by
  unfold HK.askT
  intro w os
  kernel_rfl
end
namespace BS
open PySem PySem.Spec PyProof.Rows L2
/-- plain data by value (lst: a list that nobody changes any more; scr: the script); obj n: the n-th object of the store -/
inductive D where
  | non | bl (b : Bool) | int (i : Int) | str (x : Str) | tup (ds : List D) | lst (ds : List D) | scr (ds : List D) | obj (n : Nat)
/-- a key that is a tuple: of None, ints, texts -/
abbrev TKey := List (Option Key)
/-- objects that may change; classes and fields by numbers; lck: a dict over which a loop runs -/
inductive O where
  | lst (ds : List D) | dct (kvs : List (Key × D)) | ins (c : Nat) (fs : List (Nat × D)) | lck (kvs : List (Key × D)) | tab (k : Nat)
  /-- a dict whose keys are tuples; .. while a loop runs over it -/
  | dkt (kvs : List (TKey × D)) | lkt (kvs : List (TKey × D))
abbrev Store := List O
inductive R (α : Type) where
  | ok (a : α) (S : Store) | exc (c : Nat) (fs : List (Nat × D)) (S : Store) | stuck
def R.bind {α β : Type} (r : R α) (k : α → Store → R β) : R β := match r with
  | .ok a S => k a S
  | .exc c fs S => .exc c fs S
  | .stuck => .stuck
@[simp] theorem R.bind_ok {α β : Type} (a : α) (S : Store) (k : α → Store → R β) : (R.ok a S).bind k = k a S := rfl
@[simp] theorem R.bind_exc {α β : Type} (c : Nat) (fs : List (Nat × D)) (S : Store) (k : α → Store → R β) : (R.exc c fs S).bind k = .exc c fs S := rfl
@[simp] theorem R.bind_stuck {α β : Type} (k : α → Store → R β) : (R.stuck : R α).bind k = .stuck := rfl
/-- the names' values; ex: the caught exceptions that names stand for -/
structure Ev where
  sl : List (Option D)
  ex : List (Nat × Nat × List (Nat × D)) := []
inductive RS where
  | nx (e : Ev) (S : Store) | rt (d : D) (S : Store) | bk (e : Ev) (S : Store) | ct (e : Ev) (S : Store) | exc (c : Nat) (fs : List (Nat × D)) (e : Ev) (S : Store) | stuck
abbrev EM := Ev → Store → R D
abbrev TM := Ev → Store → R Bool
abbrev AM := Ev → Store → R (List D)
abbrev SM := Ev → Store → RS
abbrev GM := D → Ev → Store → RS
/-- a def -/
abbrev FM := List D → Store → R D
/-- how classes and fields are named -/
structure Nms where
  cls : Nat → Str
  fld : Nat → Str
  most : Nat
  inj : ∀ i j, i < most → j < most → fld i = fld j → i = j
  /-- tables of code objects that make lambdas: where, and the lambda's name -/
  tb : Nat → Addr × Str := fun _ => (0, "")
  /-- the hashes of keys that are tuples -/
  hs : TKey → Int := fun _ => 0
def KTup (K : PySem.W.Frag) (a : Addr) (xs : List V) : Prop :=
  ∃ (o : Obj) (its : Array Value) (n : Nat), K.lookup a = some o ∧ o.cls = .type "tuple" ∧ o.data = .seq its n ∧ its.size ≤ sizeLine ∧ Vals xs its.toList
def KLst (K : PySem.W.Frag) (a : Addr) (xs : List V) : Prop :=
  ∃ (o : Obj) (its : Array Value) (n : Nat), K.lookup a = some o ∧ o.cls = .type "list" ∧ o.dict = none ∧ o.data = .seq its n ∧ its.size ≤ sizeLine ∧ Vals xs its.toList
def TupAt (K : PySem.W.Frag) (H : Hp) (μ : List Addr) (a : Addr) (xs : List V) : Prop := (a ∉ μ ∧ Rd H a (.tup xs)) ∨ KTup K a xs
def LstAt (H : Hp) (μ : List Addr) (a : Addr) (xs : List V) : Prop := a ∉ μ ∧ H a = some (.lst xs)
def ScrAt (K : PySem.W.Frag) (H : Hp) (μ : List Addr) (a : Addr) (xs : List V) : Prop := (a ∉ μ ∧ Rd H a (.lst xs)) ∨ KLst K a xs
theorem TupAt.sq {K : PySem.W.Frag} {H : Hp} {μ : List Addr} {a : Addr} {xs : List V} (h : TupAt K H μ a xs) : SqT K H a xs := h.elim (fun h => .inl h.2) .inr
theorem ScrAt.sq {K : PySem.W.Frag} {H : Hp} {μ : List Addr} {a : Addr} {xs : List V} (h : ScrAt K H μ a xs) : SqL K H a xs := h.elim (fun h => .inl h.2) .inr
mutual
inductive RV (K : PySem.W.Frag) (H : Hp) (μ : List Addr) : V → D → Prop
  | non : RV K H μ .non .non
  | bl (b : Bool) : RV K H μ (.bl b) (.bl b)
  | int (i : Int) : RV K H μ (.int i) (.int i)
  | str (x : Str) : RV K H μ (.str x) (.str x)
  | tup {a : Addr} {xs : List V} {ds : List D} : TupAt K H μ a xs → RVs K H μ xs ds → RV K H μ (.ref a) (.tup ds)
  | lst {a : Addr} {xs : List V} {ds : List D} : LstAt H μ a xs → RVs K H μ xs ds → RV K H μ (.ref a) (.lst ds)
  | scr {a : Addr} {xs : List V} {ds : List D} : ScrAt K H μ a xs → RVs K H μ xs ds → RV K H μ (.ref a) (.scr ds)
  | obj {a : Addr} {n : Nat} : μ[n]? = some a → RV K H μ (.ref a) (.obj n)
inductive RVs (K : PySem.W.Frag) (H : Hp) (μ : List Addr) : List V → List D → Prop
  | nil : RVs K H μ [] []
  | cons {v : V} {vs : List V} {d : D} {ds : List D} : RV K H μ v d → RVs K H μ vs ds → RVs K H μ (v :: vs) (d :: ds)
end
section
variable {K : PySem.W.Frag} {H H' : Hp} {μ μ' : List Addr}
theorem RVs.length : ∀ {vs : List V} {ds : List D}, RVs K H μ vs ds → vs.length = ds.length
  | [], _, h => by cases h; rfl
  | _ :: vs, _, h => by
    cases h with
    | cons _ t => simp only [List.length_cons, RVs.length t]
theorem RVs.get : ∀ {vs : List V} {ds : List D} {i : Nat} {d : D}, RVs K H μ vs ds → ds[i]? = some d → ∃ v, vs[i]? = some v ∧ RV K H μ v d
  | [], _, _, _, h, e => by cases h; simp at e
  | v :: vs, _, 0, d, h, e => by
    cases h with
    | cons r _ => simp at e; subst e; exact ⟨v, rfl, r⟩
  | v :: vs, _, i + 1, d, h, e => by
    cases h with
    | cons _ t => exact RVs.get (vs := vs) t (by simpa using e)
theorem RVs.append : ∀ {vs ws : List V} {ds es : List D}, RVs K H μ vs ds → RVs K H μ ws es → RVs K H μ (vs ++ ws) (ds ++ es)
  | [], _, _, _, h, t => by cases h; exact t
  | _ :: _, _, _, _, h, t => by
    cases h with
    | cons r h => exact .cons r (RVs.append h t)
theorem RVs.take : ∀ {vs : List V} {ds : List D} (n : Nat), RVs K H μ vs ds → RVs K H μ (vs.take n) (ds.take n)
  | _, _, 0, _ => .nil
  | [], _, _ + 1, h => by cases h; exact .nil
  | _ :: _, _, n + 1, h => by
    cases h with
    | cons r h => exact .cons r (RVs.take n h)
theorem RVs.drop : ∀ {vs : List V} {ds : List D} (n : Nat), RVs K H μ vs ds → RVs K H μ (vs.drop n) (ds.drop n)
  | _, _, 0, h => h
  | [], _, _ + 1, h => by cases h; exact .nil
  | _ :: _, _, n + 1, h => by
    cases h with
    | cons r h => exact RVs.drop n h
theorem RVs.set : ∀ {vs : List V} {ds : List D} (n : Nat) {v : V} {d : D}, RVs K H μ vs ds → RV K H μ v d → RVs K H μ (vs.set n v) (ds.set n d)
  | [], _, _, _, _, h, _ => by cases h; exact .nil
  | _ :: _, _, 0, _, _, h, r => by
    cases h with
    | cons _ h => exact .cons r h
  | _ :: _, _, n + 1, _, _, h, r => by
    cases h with
    | cons q h => exact .cons q (RVs.set n h r)
theorem rvs_ints : ∀ ns : List Int, RVs K H μ (ns.map V.int) (ns.map D.int)
  | [] => .nil
  | n :: r => .cons (.int n) (rvs_ints r)
/-- what an evaluation leaves as it was: all that is tracked and no object of the store; new objects of the store were free -/
structure ExtW (μ : List Addr) (H : Hp) (μ' : List Addr) (H' : Hp) : Prop where
  pre : ∃ ν, μ' = μ ++ ν
  fr : ∀ a, a ∈ μ' → a ∉ μ → H a = none
  keep : ∀ a o, a ∉ μ → H a = some o → H' a = some o
theorem ExtW.refl : ExtW μ H μ H := ⟨⟨[], by simp⟩, fun a h n => absurd h n, fun _ _ _ h => h⟩
theorem ExtW.trans {μ1 μ2 : List Addr} {H1 H2 : Hp} (a : ExtW μ H μ1 H1) (b : ExtW μ1 H1 μ2 H2) : ExtW μ H μ2 H2 := by
  obtain ⟨ν, e⟩ := a.pre
  obtain ⟨ν', e'⟩ := b.pre
  refine ⟨⟨ν ++ ν', by rw [e', e, List.append_assoc]⟩, fun x h n => ?_, fun x o n h => ?_⟩
  · by_cases q : x ∈ μ1
    · exact a.fr x q n
    · have z := b.fr x h q
      cases w : H x with
      | none => rfl
      | some o => rw [a.keep x o n w] at z; cases z
  · refine b.keep x o (fun q => ?_) (a.keep x o n h)
    have z := a.fr x q n
    rw [h] at z; cases z
theorem ExtW.rd {u : HO} {a : Addr} (x : ExtW μ H μ' H') (n : a ∉ μ) (h : Rd H a u) : Rd H' a u := by
  rcases h with h | ⟨o, h⟩
  · exact .inl (x.keep a _ n h)
  · exact .inr ⟨o, x.keep a _ n h⟩
theorem ExtW.out {u : HO} {a : Addr} (x : ExtW μ H μ' H') (n : a ∉ μ) (h : Rd H a u) : a ∉ μ' := fun q => by
  have z := x.fr a q n
  rcases h with h | ⟨o, h⟩ <;> (rw [h] at z; cases z)
theorem ExtW.at (x : ExtW μ H μ' H') {n : Nat} {a : Addr} (h : μ[n]? = some a) : μ'[n]? = some a := by
  obtain ⟨ν, e⟩ := x.pre
  rw [e, List.getElem?_append_left (List.getElem?_eq_some_iff.mp h).1, h]
theorem TupAt.extW {a : Addr} {xs : List V} (x : ExtW μ H μ' H') (h : TupAt K H μ a xs) : TupAt K H' μ' a xs :=
  h.elim (fun h => .inl ⟨x.out h.1 h.2, x.rd h.1 h.2⟩) .inr
theorem LstAt.extW {a : Addr} {xs : List V} (x : ExtW μ H μ' H') (h : LstAt H μ a xs) : LstAt H' μ' a xs :=
  ⟨x.out h.1 (.inl h.2), x.keep _ _ h.1 h.2⟩
theorem ScrAt.extW {a : Addr} {xs : List V} (x : ExtW μ H μ' H') (h : ScrAt K H μ a xs) : ScrAt K H' μ' a xs :=
  h.elim (fun h => .inl ⟨x.out h.1 h.2, x.rd h.1 h.2⟩) .inr
mutual
theorem RV.extW (x : ExtW μ H μ' H') : ∀ {v : V} (d : D), RV K H μ v d → RV K H' μ' v d
  | _, .non, h => by cases h; exact .non
  | _, .bl b, h => by cases h; exact .bl b
  | _, .int i, h => by cases h; exact .int i
  | _, .str y, h => by cases h; exact .str y
  | _, .tup ds, h => by
    cases h with
    | tup t r => exact .tup (t.extW x) (RVs.extW x ds r)
  | _, .lst ds, h => by
    cases h with
    | lst t r => exact .lst (t.extW x) (RVs.extW x ds r)
  | _, .scr ds, h => by
    cases h with
    | scr t r => exact .scr (t.extW x) (RVs.extW x ds r)
  | _, .obj n, h => by
    cases h with
    | obj e => exact .obj (x.at e)
theorem RVs.extW (x : ExtW μ H μ' H') : ∀ {vs : List V} (ds : List D), RVs K H μ vs ds → RVs K H' μ' vs ds
  | _, [], h => by cases h; exact .nil
  | _, d :: ds, h => by
    cases h with
    | cons r t => exact .cons (RV.extW x d r) (RVs.extW x ds t)
end
/-- .. and no object that is locked -/
structure Ext (μ : List Addr) (H : Hp) (μ' : List Addr) (H' : Hp) : Prop extends ExtW μ H μ' H' where
  fz : ∀ a o u, H a = some (.frz o u) → H' a = some (.frz o u)
theorem Ext.refl : Ext μ H μ H := ⟨.refl, fun _ _ _ h => h⟩
theorem Ext.trans {μ1 μ2 : List Addr} {H1 H2 : Hp} (a : Ext μ H μ1 H1) (b : Ext μ1 H1 μ2 H2) : Ext μ H μ2 H2 := ⟨a.toExtW.trans b.toExtW, fun x o u h => b.fz _ _ _ (a.fz _ _ _ h)⟩
theorem Ext.rd {u : HO} {a : Addr} (x : Ext μ H μ' H') (n : a ∉ μ) (h : Rd H a u) : Rd H' a u := x.toExtW.rd n h
theorem Ext.out {u : HO} {a : Addr} (x : Ext μ H μ' H') (n : a ∉ μ) (h : Rd H a u) : a ∉ μ' := x.toExtW.out n h
theorem Ext.at (x : Ext μ H μ' H') {n : Nat} {a : Addr} (h : μ[n]? = some a) : μ'[n]? = some a := x.toExtW.at h
theorem TupAt.ext {a : Addr} {xs : List V} (x : Ext μ H μ' H') (h : TupAt K H μ a xs) : TupAt K H' μ' a xs := h.extW x.toExtW
theorem LstAt.ext {a : Addr} {xs : List V} (x : Ext μ H μ' H') (h : LstAt H μ a xs) : LstAt H' μ' a xs := h.extW x.toExtW
theorem ScrAt.ext {a : Addr} {xs : List V} (x : Ext μ H μ' H') (h : ScrAt K H μ a xs) : ScrAt K H' μ' a xs := h.extW x.toExtW
theorem RV.ext (x : Ext μ H μ' H') {v : V} (d : D) (h : RV K H μ v d) : RV K H' μ' v d := RV.extW x.toExtW d h
theorem RVs.ext (x : Ext μ H μ' H') {vs : List V} (ds : List D) (h : RVs K H μ vs ds) : RVs K H' μ' vs ds := RVs.extW x.toExtW ds h
/-- named fields -/
abbrev RF (nm : Nms) (K : PySem.W.Frag) (H : Hp) (μ : List Addr) : List (Str × V) → List (Nat × D) → Prop :=
  Paired fun (p : Str × V) (q : Nat × D) => p.1 = nm.fld q.1 ∧ q.1 < nm.most ∧ RV K H μ p.2 q.2
abbrev RK (K : PySem.W.Frag) (H : Hp) (μ : List Addr) : List (Key × V) → List (Key × D) → Prop :=
  Paired fun (p : Key × V) (q : Key × D) => p.1 = q.1 ∧ RV K H μ p.2 q.2
theorem RF.extW {nm : Nms} (x : ExtW μ H μ' H') {gs : List (Str × V)} {fs : List (Nat × D)} (h : RF nm K H μ gs fs) : RF nm K H' μ' gs fs :=
  Paired.mapP h fun _ q z => ⟨z.1, z.2.1, RV.extW x q.2 z.2.2⟩
theorem RK.extW (x : ExtW μ H μ' H') {gs : List (Key × V)} {fs : List (Key × D)} (h : RK K H μ gs fs) : RK K H' μ' gs fs :=
  Paired.mapP h fun _ q z => ⟨z.1, RV.extW x q.2 z.2⟩
theorem RF.ext {nm : Nms} (x : Ext μ H μ' H') {gs : List (Str × V)} {fs : List (Nat × D)} (h : RF nm K H μ gs fs) : RF nm K H' μ' gs fs := RF.extW x.toExtW h
theorem RK.ext (x : Ext μ H μ' H') {gs : List (Key × V)} {fs : List (Key × D)} (h : RK K H μ gs fs) : RK K H' μ' gs fs := RK.extW x.toExtW h
/-- a table of code objects: each that it tells is no object of the store and bears the name q -/
def TabO (H : Hp) (μ : List Addr) (a : Addr) (q : Str) : Prop := ∃ ps : Array Value, H a = some (.tbl ps) ∧ TriplesOk ps.toList ∧ ∀ (pos : Pos) (cv : Value), codeAmong pos ps.toList = some cv → ∃ c, cv = .ref c ∧ c ∉ μ ∧ H c = some (LamX.CodeO c q)
theorem TabO.extW {a : Addr} {q : Str} (x : ExtW μ H μ' H') (e : H' a = H a) (h : TabO H μ a q) : TabO H' μ' a q := by
  obtain ⟨ps, h1, h2, h3⟩ := h
  refine ⟨ps, e.trans h1, h2, fun pos cv hc => ?_⟩
  obtain ⟨c, e1, e2, e3⟩ := h3 pos cv hc
  exact ⟨c, e1, x.out e2 (.inl e3), x.keep _ _ e2 e3⟩
def lfD : Option Key → D
  | none => .non
  | some (.inl i) => .int i
  | some (.inr x) => .str x
def KeyAt (K : PySem.W.Frag) (H : Hp) (μ : List Addr) (k : TKey) (b : Addr) : Prop := ∃ xs, TupAt K H μ b xs ∧ RVs K H μ xs (k.map lfD)
abbrev RT (K : PySem.W.Frag) (H : Hp) (μ : List Addr) : List (TKey × Addr × V) → List (TKey × D) → Prop :=
  Paired fun (p : TKey × Addr × V) (q : TKey × D) => p.1 = q.1 ∧ KeyAt K H μ p.1 p.2.1 ∧ RV K H μ p.2.2 q.2
theorem KeyAt.extW {k : TKey} {b : Addr} (x : ExtW μ H μ' H') (h : KeyAt K H μ k b) : KeyAt K H' μ' k b := let ⟨xs, a, r⟩ := h; ⟨xs, a.extW x, RVs.extW x _ r⟩
theorem RT.extW (x : ExtW μ H μ' H') {gs : List (TKey × Addr × V)} {fs : List (TKey × D)} (h : RT K H μ gs fs) : RT K H' μ' gs fs :=
  Paired.mapP h fun _ q z => ⟨z.1, z.2.1.extW x, RV.extW x q.2 z.2.2⟩
theorem RT.ext (x : Ext μ H μ' H') {gs : List (TKey × Addr × V)} {fs : List (TKey × D)} (h : RT K H μ gs fs) : RT K H' μ' gs fs := RT.extW x.toExtW h
abbrev ValP : List (TKey × Addr × V) → List (TKey × Addr × Value) → Prop := Paired fun (p : TKey × Addr × V) (q : TKey × Addr × Value) => p.1 = q.1 ∧ p.2.1 = q.2.1 ∧ RelV p.2.2 q.2.2
def DtE (hs : TKey → Int) (a : Addr) (ys : List (TKey × Addr × V)) (h : Heap) : Prop :=
  ys.length ≤ sizeLine ∧ (a == sysModules) = false ∧ ∃ (xs : List (TKey × Addr × Value)) (o : Obj) (es : Array DictEntry) (ep : Nat), ValP ys xs ∧
    h.get? a = some o ∧ o.ExactDict ∧ o.data = .dict es ep ∧ es.toList = xs.map (fun x => (⟨hs x.1, .ref x.2.1, x.2.2⟩ : DictEntry)) ∧ (xs.map (·.1)).Nodup
def DtO (hs : TKey → Int) (a : Addr) (ys : List (TKey × Addr × V)) : HO := .ext (DtE hs a ys)
def OK (nm : Nms) (K : PySem.W.Frag) (mg : Str → Option Value) (H : Hp) (μ : List Addr) (a : Addr) : O → Prop
  | .lst ds => ∃ xs, H a = some (.lst xs) ∧ RVs K H μ xs ds
  | .dct kvs => ∃ ys, H a = some (.dK ys) ∧ RK K H μ ys kvs
  | .ins c fs => ∃ C dx gs, mg (nm.cls c) = some (.ref C) ∧ H a = some (.ins C dx gs) ∧ RF nm K H μ gs fs
  | .lck kvs => ∃ od ys, H a = some (.frz od (.dK ys)) ∧ RK K H μ ys kvs
  | .tab k => a = (nm.tb k).1 ∧ TabO H μ a (nm.tb k).2
  | .dkt kvs => ∃ ys, H a = some (DtO nm.hs a ys) ∧ RT K H μ ys kvs
  | .lkt kvs => ∃ od ys, H a = some (.frz od (DtO nm.hs a ys)) ∧ RT K H μ ys kvs
theorem OK.some {nm : Nms} {mg : Str → Option Value} {a : Addr} {o : O} (h : OK nm K mg H μ a o) : ∃ u, H a = some u := by
  cases o with
  | lst ds => obtain ⟨xs, e, _⟩ := h; exact ⟨_, e⟩
  | dct ds => obtain ⟨xs, e, _⟩ := h; exact ⟨_, e⟩
  | ins c fs => obtain ⟨C, dx, gs, _, e, _⟩ := h; exact ⟨_, e⟩
  | lck kvs => obtain ⟨od, ys, e, _⟩ := h; exact ⟨_, e⟩
  | tab k => obtain ⟨_, ps, e, _⟩ := h; exact ⟨_, e⟩
  | dkt kvs => obtain ⟨ys, e, _⟩ := h; exact ⟨_, e⟩
  | lkt kvs => obtain ⟨od, ys, e, _⟩ := h; exact ⟨_, e⟩
/-- .. where the object itself stays -/
theorem OK.extW {nm : Nms} {mg : Str → Option Value} {a : Addr} {o : O} (x : ExtW μ H μ' H') (e : H' a = H a) (h : OK nm K mg H μ a o) : OK nm K mg H' μ' a o := by
  cases o with
  | lst ds => obtain ⟨xs, e1, r⟩ := h; exact ⟨xs, e.trans e1, RVs.extW x _ r⟩
  | dct kvs => obtain ⟨ys, e1, r⟩ := h; exact ⟨ys, e.trans e1, RK.extW x r⟩
  | ins c fs => obtain ⟨C, dx, gs, g, e1, r⟩ := h; exact ⟨C, dx, gs, g, e.trans e1, RF.extW x r⟩
  | lck kvs => obtain ⟨od, ys, e1, r⟩ := h; exact ⟨od, ys, e.trans e1, RK.extW x r⟩
  | tab k => exact ⟨h.1, h.2.extW x e⟩
  | dkt kvs => obtain ⟨ys, e1, r⟩ := h; exact ⟨ys, e.trans e1, RT.extW x r⟩
  | lkt kvs => obtain ⟨od, ys, e1, r⟩ := h; exact ⟨od, ys, e.trans e1, RT.extW x r⟩
theorem OK.ext {nm : Nms} {mg : Str → Option Value} {a : Addr} {o : O} (x : Ext μ H μ' H') (e : H' a = H a) (h : OK nm K mg H μ a o) : OK nm K mg H' μ' a o := h.extW x.toExtW e
structure Sim (nm : Nms) (K : PySem.W.Frag) (mg : Str → Option Value) (μ : List Addr) (S : Store) (H : Hp) : Prop where
  len : μ.length = S.length
  nd : μ.Nodup
  ob : ∀ (n : Nat) (a : Addr) (o : O), μ[n]? = some a → S[n]? = some o → OK nm K mg H μ a o
section
variable {nm : Nms} {mg : Str → Option Value} {S : Store}
theorem Sim.there (s : Sim nm K mg μ S H) {a : Addr} (h : a ∈ μ) : ∃ u, H a = Option.some u := by
  obtain ⟨n, hn, e⟩ := List.mem_iff_getElem.mp h
  have hn' : n < S.length := by rw [← s.len]; exact hn
  exact (s.ob n a S[n] (by rw [List.getElem?_eq_getElem hn, e]) (List.getElem?_eq_getElem hn')).some
theorem Sim.fresh (s : Sim nm K mg μ S H) {a : Addr} (h : H a = none) : a ∉ μ := fun q => by
  obtain ⟨u, e⟩ := s.there q
  rw [h] at e; cases e
/-- something new that is no object of the store -/
theorem Ext.laid (s : Sim nm K mg μ S H) {p : Addr} {u : HO} (h : H p = none) : Ext μ H μ (upd H p u) :=
  ⟨⟨⟨[], by simp⟩, fun a q n => absurd q n, fun a o _ e => by rw [upd_ne (ne_of_none e h)]; exact e⟩, fun a o u e => by rw [upd_ne (ne_of_none e h)]; exact e⟩
theorem Sim.keep (s : Sim nm K mg μ S H) (x : Ext μ H μ H') (h : ∀ a, a ∈ μ → H' a = H a) : Sim nm K mg μ S H' :=
  ⟨s.len, s.nd, fun n a o h1 h2 => (s.ob n a o h1 h2).ext x (h a (List.mem_of_getElem? h1))⟩
theorem Sim.laid (s : Sim nm K mg μ S H) {p : Addr} {u : HO} (h : H p = none) : Sim nm K mg μ S (upd H p u) :=
  s.keep (Ext.laid s h) fun a q => by
    obtain ⟨v, e⟩ := s.there q
    rw [upd_ne (ne_of_none e h)]
/-- a new object of the store at p -/
theorem Ext.made (s : Sim nm K mg μ S H) {p : Addr} {u : HO} (h : H p = none) : Ext μ H (μ ++ [p]) (upd H p u) :=
  ⟨⟨⟨[p], rfl⟩, fun a q n => by
    rcases List.mem_append.mp q with q | q
    · exact absurd q n
    · rw [List.mem_singleton] at q; rw [q]; exact h, fun a o _ e => by rw [upd_ne (ne_of_none e h)]; exact e⟩, fun a o u e => by rw [upd_ne (ne_of_none e h)]; exact e⟩
theorem Sim.made (s : Sim nm K mg μ S H) {p : Addr} {u : HO} {o : O} (h : H p = none) (ho : OK nm K mg (upd H p u) (μ ++ [p]) p o) : Sim nm K mg (μ ++ [p]) (S ++ [o]) (upd H p u) := by
  have hp : p ∉ μ := s.fresh h
  refine ⟨by simp [s.len], List.nodup_append.mpr ⟨s.nd, by simp, fun a ha b hb e => ?_⟩, fun n a ob h1 h2 => ?_⟩
  · rw [List.mem_singleton] at hb
    exact hp (hb ▸ e ▸ ha)
  · by_cases hn : n < μ.length
    · have hn' : n < S.length := by rw [← s.len]; exact hn
      rw [List.getElem?_append_left hn] at h1
      rw [List.getElem?_append_left hn'] at h2
      refine (s.ob n a ob h1 h2).ext (Ext.made s h) ?_
      obtain ⟨v, e⟩ := s.there (List.mem_of_getElem? h1)
      rw [upd_ne (ne_of_none e h)]
    · rw [List.getElem?_append_right (Nat.le_of_not_lt hn)] at h1
      rw [List.getElem?_append_right (by rw [← s.len]; exact Nat.le_of_not_lt hn)] at h2
      have hz : n - μ.length = 0 := by
        rcases Nat.eq_zero_or_pos (n - μ.length) with z | z
        · exact z
        · rw [List.getElem?_eq_none (by rw [List.length_singleton]; exact z)] at h1; cases h1
      rw [hz] at h1
      rw [← s.len, hz] at h2
      simp at h1 h2
      subst h1 h2
      exact ho
/-- an object of the store is written -/
theorem ExtW.wrote {p : Addr} {u : HO} (h : p ∈ μ) : ExtW μ H μ (upd H p u) :=
  ⟨⟨[], by simp⟩, fun a q n => absurd q n, fun a o n e => by rw [upd_ne (fun z => n (by rw [z]; exact h))]; exact e⟩
def NF (H : Hp) (p : Addr) : Prop := ∀ o u, H p ≠ Option.some (.frz o u)
theorem NF.of {p : Addr} {w : HO} (h : H p = Option.some w) (n : ∀ o u, w ≠ .frz o u := by intro _ _ h; cases h) : NF H p := fun o u e => by rw [h] at e; cases e; exact n _ _ rfl
theorem Ext.wrote {p : Addr} {u : HO} (h : p ∈ μ) (nf : NF H p) : Ext μ H μ (upd H p u) :=
  ⟨.wrote h, fun a o w e => by rw [upd_ne (fun z => by subst z; exact nf _ _ e)]; exact e⟩
theorem Sim.wrote (s : Sim nm K mg μ S H) {p : Addr} {u : HO} {n : Nat} {o : O} (hp : μ[n]? = Option.some p) (ho : OK nm K mg (upd H p u) μ p o) : Sim nm K mg μ (S.set n o) (upd H p u) := by
  have hm := List.mem_of_getElem? hp
  refine ⟨by simp [s.len], s.nd, fun i a ob h1 h2 => ?_⟩
  by_cases hi : i = n
  · subst hi
    rw [hp] at h1; cases h1
    have hl : i < S.length := by rw [← s.len]; exact (List.getElem?_eq_some_iff.mp hp).1
    rw [List.getElem?_set_self hl] at h2
    cases h2
    exact ho
  · rw [List.getElem?_set_ne (Ne.symm hi)] at h2
    refine (s.ob i a ob h1 h2).extW (ExtW.wrote hm) ?_
    rw [upd_ne]
    intro e
    subst e
    exact hi (nd_ix s.nd h1 hp)
end
end
end BS
namespace BS
open PySem
/-- names from two tables -/
def mkNms (cls fld : List String) (h : (fld.map Str.ofString).Nodup) : Nms where
  cls := fun i => (cls.map Str.ofString).getD i ""
  fld := fun i => (fld.map Str.ofString).getD i ""
  most := fld.length
  inj := fun i j hi hj e => by
    have hi' : i < (fld.map Str.ofString).length := by rw [List.length_map]; exact hi
    have hj' : j < (fld.map Str.ofString).length := by rw [List.length_map]; exact hj
    rw [List.getD_eq_getElem?_getD, List.getD_eq_getElem?_getD, List.getElem?_eq_getElem hi', List.getElem?_eq_getElem hj'] at e
    exact (List.getElem_inj h).mp e
end BS
namespace BS
open PySem PySem.Spec PyProof.Rows L2
def ExcAt (nm : Nms) (K : PySem.W.Frag) (mg : Str → Option Value) (H : Hp) (μ : List Addr) (c : Nat) (fs : List (Nat × D)) (C : Addr) (d : Option Addr) : Prop :=
  mg (nm.cls c) = some (.ref C) ∧ match d with
    | none => fs = []
    | some dd => ∃ gs, dd ∉ μ ∧ H dd = some (.xd gs) ∧ RF nm K H μ gs fs ∧ fs ≠ []
theorem ExcAt.ext {nm : Nms} {K : PySem.W.Frag} {mg : Str → Option Value} {H H' : Hp} {μ μ' : List Addr} {c : Nat} {fs : List (Nat × D)} {C : Addr} {d : Option Addr} (x : Ext μ H μ' H') (h : ExcAt nm K mg H μ c fs C d) : ExcAt nm K mg H' μ' c fs C d := by
  refine ⟨h.1, ?_⟩
  cases d with
  | none => exact h.2
  | some dd =>
    obtain ⟨gs, n, e, r, ne⟩ := h.2
    exact ⟨gs, x.out n (.inl e), x.keep dd _ n e, RF.ext x r, ne⟩
abbrev St := L2.St
abbrev PA (α : Type) := α → Store → List Addr → Hp → Prop
abbrev PX := Value → Option Addr → Hp → Prop
section
variable {nm : Nms} {K : PySem.W.Frag} {mg : Str → Option Value} {H H' : Hp} {μ μ' : List Addr} {α β : Type}
def Post (nm : Nms) (K : PySem.W.Frag) (mg : Str → Option Value) (μ : List Addr) (H : Hp) (r : R α) (P : PA α) (E : PX) : Prop := match r with
  | .ok a S => ∀ μ' H', Ext μ H μ' H' → Sim nm K mg μ' S H' → P a S μ' H'
  | .exc c fs S => ∀ μ' H' C d, Ext μ H μ' H' → Sim nm K mg μ' S H' → ExcAt nm K mg H' μ' c fs C d → E (.ref C) d H'
  | .stuck => False
theorem Post.ext {r : R α} {P : PA α} {E : PX} (x : Ext μ H μ' H') (h : Post nm K mg μ H r P E) : Post nm K mg μ' H' r P E := by
  cases r with
  | ok a S => exact fun μ2 H2 x2 s2 => h μ2 H2 (x.trans x2) s2
  | exc c fs S => exact fun μ2 H2 C d x2 s2 => h μ2 H2 C d (x.trans x2) s2
  | stuck => exact h
theorem Post.mono {r : R α} {P P' : PA α} {E : PX} (h : Post nm K mg μ H r P E) (f : ∀ a S μ' H', Ext μ H μ' H' → Sim nm K mg μ' S H' → P a S μ' H' → P' a S μ' H') : Post nm K mg μ H r P' E := by
  cases r with
  | ok a S => exact fun μ2 H2 x2 s2 => f _ _ _ _ x2 s2 (h μ2 H2 x2 s2)
  | exc c fs S => exact h
  | stuck => exact h
theorem Post.bind {r : R α} {k : α → Store → R β} {P : PA β} {E : PX} (h : Post nm K mg μ H (r.bind k) P E) : Post nm K mg μ H r (fun a S μ1 H1 => Post nm K mg μ1 H1 (k a S) P E) E := by
  cases r with
  | ok a S => exact fun μ2 H2 x2 _ => Post.ext (r := k a S) x2 h
  | exc c fs S => exact h
  | stuck => exact h
end
/-- the names' values as the interpretation has them -/
structure EvR (nm : Nms) (X : Cx) (H : Hp) (μ : List Addr) (e : Ev) (σ : St) : Prop where
  len : e.sl.length = σ.length
  at_ : ∀ (i : Nat) (d : D), e.sl[i]? = some (some d) → ∃ v, σ[i]? = some (some v) ∧ RV X.K H μ v d
  ex : ∀ p ∈ e.ex, ∃ (a : Addr) (oe : Obj) (C : Addr) (d : Option Addr), σ[p.1]? = some (some (.ref a)) ∧ (a, oe) ∈ X.pn ∧ (Zc (.ref C) d oe ∧ ∃ vs, oe.data = .fields vs) ∧ ExcAt nm X.K X.mg H μ p.2.1 p.2.2 C d
theorem EvR.ext {nm : Nms} {X : Cx} {H H' : Hp} {μ μ' : List Addr} {e : Ev} {σ : St} (x : Ext μ H μ' H') (h : EvR nm X H μ e σ) : EvR nm X H' μ' e σ :=
  ⟨h.len, fun i d e => let ⟨v, a, b⟩ := h.at_ i d e; ⟨v, a, b.ext x⟩, fun p hp => let ⟨a, oe, C, d, h1, h2, h3, h4⟩ := h.ex p hp; ⟨a, oe, C, d, h1, h2, h3, h4.ext x⟩⟩
section
variable (nm : Nms) (X : Cx) (W : WX)
abbrev PostX {α : Type} (μ : List Addr) (H : Hp) (σ : St) (r : R α) (P : PA α) : Prop := Post nm X.K X.mg μ H r P fun c d H' => W c d σ H'
def rdE (m : EM) : TE := fun σ H Q => ∃ e S μ, EvR nm X H μ e σ ∧ Sim nm X.K X.mg μ S H ∧ PostX nm X W μ H σ (m e S) fun d _ μ' H' => ∀ v, RV X.K H' μ' v d → Q v H'
def rdT (m : TM) : TT := fun σ H Q => ∃ e S μ, EvR nm X H μ e σ ∧ Sim nm X.K X.mg μ S H ∧ PostX nm X W μ H σ (m e S) fun b _ _ H' => Q b H'
def rdA (m : AM) : TA := fun σ H Q => ∃ e S μ, EvR nm X H μ e σ ∧ Sim nm X.K X.mg μ S H ∧ PostX nm X W μ H σ (m e S) fun ds _ μ' H' => ∀ vs, RVs X.K H' μ' vs ds → Q vs H'
end
/-- the expression does what m says -/
structure ME (nm : Nms) (X : Cx) (e : Expr) (m : EM) : Prop where
  run : ∀ W, Takes X W → PE X e (rdE nm X W m)
structure MT (nm : Nms) (X : Cx) (e : Expr) (m : TM) : Prop where
  run : ∀ W, Takes X W → PT X e (rdT nm X W m)
structure MW (nm : Nms) (X : Cx) (e : Expr) (m : TM) : Prop where
  run : ∀ W, Takes X W → PW X e (rdT nm X W m)
structure MA (nm : Nms) (X : Cx) (es : List Expr) (m : AM) : Prop where
  run : ∀ W, Takes X W → L2.PA X es (rdA nm X W m)
  len : ∀ e S ds S', m e S = .ok ds S' → ds.length = es.length
theorem _root_.L2.PE.imp {X : Cx} {e : Expr} {t t' : TE} (h : PE X e t) (f : ∀ σ H Q, t' σ H Q → t σ H Q) : PE X e t' := ⟨fun pins s σ H Q I q => h.run pins s σ H Q I (f _ _ _ q)⟩
theorem _root_.L2.PT.imp {X : Cx} {e : Expr} {t t' : TT} (h : PT X e t) (f : ∀ σ H Q, t' σ H Q → t σ H Q) : PT X e t' := ⟨fun pins s σ H Q I q => h.run pins s σ H Q I (f _ _ _ q)⟩
theorem _root_.L2.PW.imp {X : Cx} {e : Expr} {t t' : TT} (h : PW X e t) (f : ∀ σ H Q, t' σ H Q → t σ H Q) : PW X e t' := ⟨fun wh pins s σ H Q I q => h.run wh pins s σ H Q I (f _ _ _ q)⟩
theorem _root_.L2.PA.imp {X : Cx} {e : List Expr} {t t' : TA} (h : L2.PA X e t) (f : ∀ σ H Q, t' σ H Q → t σ H Q) : L2.PA X e t' := ⟨fun p pins s σ H Q I q => h.run p pins s σ H Q I (f _ _ _ q)⟩
/-- the names at these places are the scope's own -/
def visAll (is : List Nat) (N : List Str) (sc : Scope) : Bool := is.all fun i => match N[i]? with
  | some x => (match sc.names.lookup x with | some .local => true | some .cell => true | some .free => true | _ => false) && (x == ("__debug__" : Str)) == false && (x == ("__classdict__" : Str)) == false
  | none => false
def locAll (is : List Nat) (N : List Str) (sc : Scope) : Bool := is.all fun i => match N[i]? with
  | some x => (match sc.names.lookup x with | some .local => true | some .cell => true | _ => false) && (x == ("__debug__" : Str)) == false && (x == ("__classdict__" : Str)) == false
  | none => false
theorem vis_of {is : List Nat} {N : List Str} {sc : Scope} (h : visAll is N sc = true) {i : Nat} {x : Str} (hi : is.contains i = true) (hN : N[i]? = some x) : Vis sc x ∧ (x == ("__debug__" : Str)) = false ∧ (x == ("__classdict__" : Str)) = false := by
  have h1 := List.all_eq_true.mp h i (by simpa using hi)
  simp only [hN, Bool.and_eq_true, beq_iff_eq] at h1
  refine ⟨?_, h1.1.2, h1.2⟩
  have h2 := h1.1.1
  unfold Vis
  split at h2
  · rename_i e; exact .inl e
  · rename_i e; exact .inr (.inl e)
  · rename_i e; exact .inr (.inr e)
  · cases h2
theorem loc_of {is : List Nat} {N : List Str} {sc : Scope} (h : locAll is N sc = true) {i : Nat} {x : Str} (hi : is.contains i = true) (hN : N[i]? = some x) : L2.Loc sc x ∧ (x == ("__debug__" : Str)) = false ∧ (x == ("__classdict__" : Str)) = false := by
  have h1 := List.all_eq_true.mp h i (by simpa using hi)
  simp only [hN, Bool.and_eq_true, beq_iff_eq] at h1
  refine ⟨?_, h1.1.2, h1.2⟩
  have h2 := h1.1.1
  unfold L2.Loc
  split at h2
  · rename_i e; exact .inl e
  · rename_i e; exact .inr e
  · cases h2
theorem locVis {is : List Nat} {N : List Str} {sc : Scope} (h : locAll is N sc = true) : visAll is N sc = true := by
  refine List.all_eq_true.mpr fun i hi => ?_
  have h1 := List.all_eq_true.mp h i hi
  cases hN : N[i]? with
  | none => rw [hN] at h1; cases h1
  | some x =>
    simp only [hN, Bool.and_eq_true, beq_iff_eq] at h1 ⊢
    refine ⟨⟨?_, h1.1.2⟩, h1.2⟩
    have h2 := h1.1.1
    split at h2
    · rename_i e; rw [e]
    · rename_i e; rw [e]
    · cases h2
/-- global names -/
def glAll (xs : List Str) (sc : Scope) : Bool := xs.all fun x => (match sc.names.lookup x with | some .globalImplicit => true | _ => false) && (x == ("__debug__" : Str)) == false && !(decide (x = "__name__"))
structure GlN (X : Cx) (x : Str) : Prop where
  g : Gl X x
  d : (x == ("__debug__" : Str)) = false
  n : x ≠ "__name__"
theorem glT {X : Cx} {x : Str} {pn : List (Addr × Obj)} {xe : Value → Shared → Prop} (h : GlN X x) : GlN (X.tr pn xe) x := ⟨h.g, h.d, h.n⟩
theorem gl_at {X : Cx} {xs : List Str} (h : glAll xs X.env.scope = true) (j : Nat) {x : Str} (hj : xs[j]? = some x := by rfl) : GlN X x := by
  have h1 := List.all_eq_true.mp h x (List.mem_of_getElem? hj)
  simp only [Bool.and_eq_true, beq_iff_eq] at h1
  refine ⟨?_, h1.1.2, by simpa using h1.2⟩
  have h2 := h1.1.1
  split at h2
  · rename_i e; exact e
  · cases h2
def mVar (i : Nat) : EM := fun e S => match e.sl[i]? with
  | some (some d) => .ok d S
  | _ => .stuck
def mC (d : D) : EM := fun _ S => .ok d S
section
variable {nm : Nms} {X : Cx} {pos : Pos} {a b c : Expr} {ma mb mc : EM}
theorem me_var {is : List Nat} (i : Nat) {x : Str} (hv : visAll is X.N X.env.scope = true) (hN : X.N[i]? = some x := by rfl) (hi : is.contains i = true := by rfl) : ME nm X (.Name x pos) (mVar i) := by
  obtain ⟨hv, hd, hcd⟩ := vis_of hv hi hN
  refine ⟨fun W tk => (pe_var (i := i) hN hv hd hcd).imp fun σ H Q h => ?_⟩
  obtain ⟨e, S, μ, E, s, p⟩ := h
  unfold mVar at p
  split at p
  · rename_i d hd
    obtain ⟨v, e1, r⟩ := E.at_ i d hd
    exact ⟨v, e1, p μ H .refl s v r⟩
  · exact False.elim p
theorem me_cn {e : Expr} {v : V} {d : D} (h : PE X e (tC v)) (r : ∀ H μ, RV X.K H μ v d) : ME nm X e (mC d) := by
  refine ⟨fun W tk => h.imp fun σ H Q h => ?_⟩
  obtain ⟨e, S, μ, E, s, p⟩ := h
  exact p μ H .refl s v (r _ _)
theorem me_int {i : Int} {j pos} : ME nm X (.Constant (.int i) j pos) (mC (.int i)) := me_cn pe_int fun _ _ => .int i
theorem me_bl {b : Bool} {j pos} : ME nm X (.Constant (.bool b) j pos) (mC (.bl b)) := me_cn pe_bl fun _ _ => .bl b
theorem me_non {j pos} : ME nm X (.Constant .none j pos) (mC .non) := me_cn pe_non fun _ _ => .non
theorem me_str {x : Str} {j pos} : ME nm X (.Constant (.str x) j pos) (mC (.str x)) := me_cn pe_str fun _ _ => .str x
/-- a module's constant -/
def GC (K : PySem.W.Frag) (mg : Str → Option Value) (x : Str) (d : D) : Prop := ∃ u v, mg x = some u ∧ RelV v u ∧ ∀ H μ, RV K H μ v d
theorem me_gc {x : Str} {d : D} (h : GC X.K X.mg x d) (hg : GlN X x) : ME nm X (.Name x pos) (mC d) := let ⟨u, v, h1, h2, h3⟩ := h; me_cn (pe_glob hg.g h1 h2 hg.d) h3
def lift2 (f : Store → D → D → Option D) (S : Store) (x y : D) : R D := match f S x y with
  | some d => .ok d S
  | none => .stuck
def mBin (f : Store → D → D → Option D) (a b : EM) : EM := fun e S => (a e S).bind fun x S => (b e S).bind fun y S => lift2 f S x y
def mUn (f : Store → D → Option D) (a : EM) : EM := fun e S => (a e S).bind fun x S => match f S x with
  | some d => .ok d S
  | none => .stuck
/-- what an operation asks of the interpretation -/
def rOpD (nm : Nms) (X : Cx) (f : Store → D → D → Option D) : R2 := fun x y H Q => ∃ S μ dx dy d, Sim nm X.K X.mg μ S H ∧ RV X.K H μ x dx ∧ RV X.K H μ y dy ∧ f S dx dy = some d ∧
  ∀ v μ' H', Ext μ H μ' H' → Sim nm X.K X.mg μ' S H' → RV X.K H' μ' v d → Q v H'
abbrev OpD (nm : Nms) (X : Cx) (g : Value → Value → Sem Value) (f : Store → D → D → Option D) : Prop := OpR X g (rOpD nm X f)
theorem bin_rd {f : Store → D → D → Option D} {W : WX} {σ : St} {H : Hp} {Q : VK} (h : rdE nm X W (mBin f ma mb) σ H Q) : tOp (rOpD nm X f) (rdE nm X W ma) (rdE nm X W mb) σ H Q := by
  obtain ⟨e, S, μ, E, s, p⟩ := h
  refine ⟨e, S, μ, E, s, (Post.bind p).mono fun dx S1 μ1 H1 x1 s1 p1 v rv => ?_⟩
  refine ⟨e, S1, μ1, E.ext x1, s1, (Post.bind p1).mono fun dy S2 μ2 H2 x2 s2 p2 u ru => ?_⟩
  unfold lift2 at p2
  split at p2
  · rename_i d hd
    exact ⟨S2, μ2, dx, dy, d, s2, rv.ext x2, ru, hd, fun w μ3 H3 x3 s3 r => p2 μ3 H3 x3 s3 w r⟩
  · exact False.elim p2
theorem me_bin {op : Operator} {f : Store → D → D → Option D} (ho : OpD nm X (binaryOp op) f) (ha : ME nm X a ma) (hb : ME nm X b mb) : ME nm X (.BinOp a op b pos) (mBin f ma mb) :=
  ⟨fun W tk => (pe_op ho (ha.run W tk) (hb.run W tk)).imp fun _ _ _ h => bin_rd h⟩
theorem me_cmp {op : CmpOp} {f : Store → D → D → Option D} (ho : OpD nm X (compareOp op) f) (ha : ME nm X a ma) (hb : ME nm X b mb) (hm : behindInMarks op b = false) : ME nm X (.Compare a [op] [b] pos) (mBin f ma mb) :=
  ⟨fun W tk => (pe_cmpR ho (ha.run W tk) (hb.run W tk) hm).imp fun _ _ _ h => bin_rd h⟩
def asB (d : D) : Option Bool := match d with
  | .bl b => some b
  | _ => none
@[simp] theorem asB_bl (b : Bool) : asB (.bl b) = some b := rfl
def mBl (m : EM) : TM := fun e S => (m e S).bind fun d S => match asB d with
  | some b => .ok b S
  | none => .stuck
theorem bl_rd {W : WX} {m : EM} {t : TE} (f : ∀ σ H Q, rdE nm X W m σ H Q → t σ H Q) {σ : St} {H : Hp} {Q : Bool → Hp → Prop} (h : rdT nm X W (mBl m) σ H Q) : t σ H fun x H' => ∃ k, x = .bl k ∧ Q k H' := by
  obtain ⟨e, S, μ, E, s, p⟩ := h
  refine f σ H _ ⟨e, S, μ, E, s, (Post.bind p).mono fun d S1 μ1 H1 x1 s1 p1 v rv => ?_⟩
  split at p1
  · rename_i b hb
    cases d with
    | bl b' => cases hb; cases rv; exact ⟨_, rfl, p1 μ1 H1 .refl s1⟩
    | _ => cases hb
  · exact False.elim p1
/-- a comparison as a test -/
theorem mt_cmp {op : CmpOp} {f : Store → D → D → Option D} (ho : OpD nm X (compareOp op) f) (ha : ME nm X a ma) (hb : ME nm X b mb) (hm : behindInMarks op b = false) : MT nm X (.Compare a [op] [b] pos) (mBl (mBin f ma mb)) :=
  ⟨fun W tk => (pt_cmpR ho (ha.run W tk) (hb.run W tk) hm).imp fun _ _ _ h => bl_rd (fun _ _ _ h => bin_rd h) h⟩
/-- an expression whose value is a truth, as a test -/
theorem mt_val {e : Expr} {m : EM} (h : ME nm X e m) (he : ∀ whole, isTrue e X.env whole = (do let v ← whole; standAt e.pos; holding [v] (truthy v)) := by intro _; rfl) : MT nm X e (mBl m) :=
  ⟨fun W tk => (pt_val (h.run W tk) he).imp fun _ _ _ h => bl_rd (fun _ _ _ h => h) h⟩
def mAnd (a b : TM) : TM := fun e S => (a e S).bind fun k S => if k = true then b e S else .ok false S
def mOr (a b : TM) : TM := fun e S => (a e S).bind fun k S => if k = true then .ok true S else b e S
def mNot (a : TM) : TM := fun e S => (a e S).bind fun k S => .ok (!k) S
variable {ta tb : TM} {rest : List Expr}
theorem MW.mt (h : MW nm X a ta) : MT nm X a ta := ⟨fun W tk => (h.run W tk).pt⟩
theorem mw_and1 (ha : MT nm X a ta) : MW nm X (.BoolOp .And [a] pos) ta := ⟨fun W tk => pw_and1 (ha.run W tk)⟩
theorem mw_or1 (ha : MT nm X a ta) : MW nm X (.BoolOp .Or [a] pos) ta := ⟨fun W tk => pw_or1 (ha.run W tk)⟩
theorem mw_and (ha : MT nm X a ta) (hb : MW nm X (.BoolOp .And (b :: rest) pos) tb) : MW nm X (.BoolOp .And (a :: b :: rest) pos) (mAnd ta tb) := by
  refine ⟨fun W tk => (pw_and (ha.run W tk) (hb.run W tk)).imp fun σ H Q h => ?_⟩
  obtain ⟨e, S, μ, E, s, p⟩ := h
  refine ⟨e, S, μ, E, s, (Post.bind p).mono fun k S1 μ1 H1 x1 s1 p1 => ?_⟩
  cases k with
  | true => rw [if_pos rfl] at p1 ⊢; exact ⟨e, S1, μ1, E.ext x1, s1, p1⟩
  | false => rw [if_neg Bool.false_ne_true] at p1 ⊢; exact p1 μ1 H1 .refl s1
theorem mw_or (ha : MT nm X a ta) (hb : MW nm X (.BoolOp .Or (b :: rest) pos) tb) : MW nm X (.BoolOp .Or (a :: b :: rest) pos) (mOr ta tb) := by
  refine ⟨fun W tk => (pw_or (ha.run W tk) (hb.run W tk)).imp fun σ H Q h => ?_⟩
  obtain ⟨e, S, μ, E, s, p⟩ := h
  refine ⟨e, S, μ, E, s, (Post.bind p).mono fun k S1 μ1 H1 x1 s1 p1 => ?_⟩
  cases k with
  | true => rw [if_pos rfl] at p1 ⊢; exact p1 μ1 H1 .refl s1
  | false => rw [if_neg Bool.false_ne_true] at p1 ⊢; exact ⟨e, S1, μ1, E.ext x1, s1, p1⟩
theorem mt_not (ha : MT nm X a ta) : MT nm X (.UnaryOp .Not a pos) (mNot ta) := by
  refine ⟨fun W tk => (pt_not (ha.run W tk)).imp fun σ H Q h => ?_⟩
  obtain ⟨e, S, μ, E, s, p⟩ := h
  exact ⟨e, S, μ, E, s, (Post.bind p).mono fun k S1 μ1 H1 x1 s1 p1 => p1 μ1 H1 .refl s1⟩
def mAndV (a b : EM) : EM := fun e S => (a e S).bind fun d S => match asB d with
  | some true => b e S
  | some false => .ok (.bl false) S
  | none => .stuck
theorem me_one {op} (ha : ME nm X a ma) : ME nm X (.BoolOp op [a] pos) ma := ⟨fun W tk => pe_one (ha.run W tk)⟩
theorem me_and (ha : ME nm X a ma) (hb : ME nm X (.BoolOp .And (b :: rest) pos) mb) : ME nm X (.BoolOp .And (a :: b :: rest) pos) (mAndV ma mb) := by
  refine ⟨fun W tk => (pe_and (ha.run W tk) (hb.run W tk)).imp fun σ H Q h => ?_⟩
  obtain ⟨e, S, μ, E, s, p⟩ := h
  refine ⟨e, S, μ, E, s, (Post.bind p).mono fun d S1 μ1 H1 x1 s1 p1 v rv => ?_⟩
  split at p1
  · rename_i hb
    cases d with
    | bl b' => cases hb; cases rv; exact ⟨_, rfl, by rw [if_pos rfl]; exact ⟨e, S1, μ1, E.ext x1, s1, p1⟩⟩
    | _ => cases hb
  · rename_i hb
    cases d with
    | bl b' => cases hb; cases rv; exact ⟨_, rfl, by rw [if_neg Bool.false_ne_true]; exact p1 μ1 H1 .refl s1 _ (.bl false)⟩
    | _ => cases hb
  · exact False.elim p1
def mIf (c : TM) (a b : EM) : EM := fun e S => (c e S).bind fun k S => if k = true then a e S else b e S
theorem me_if {c : Expr} (hc : MT nm X c ta) (ha : ME nm X a ma) (hb : ME nm X b mb) : ME nm X (.IfExp c a b pos) (mIf ta ma mb) := by
  refine ⟨fun W tk => (pe_ifExp (hc.run W tk) (ha.run W tk) (hb.run W tk)).imp fun σ H Q h => ?_⟩
  obtain ⟨e, S, μ, E, s, p⟩ := h
  refine ⟨e, S, μ, E, s, (Post.bind p).mono fun k S1 μ1 H1 x1 s1 p1 => ?_⟩
  cases k with
  | true => rw [if_pos rfl] at p1 ⊢; exact ⟨e, S1, μ1, E.ext x1, s1, p1⟩
  | false => rw [if_neg Bool.false_ne_true] at p1 ⊢; exact ⟨e, S1, μ1, E.ext x1, s1, p1⟩
end
end BS
namespace BS
open PySem PySem.Spec PyProof.Rows L2
mutual
def pyF (f : Nat → PyData) : D → PyData
  | .non => .none
  | .bl b => .bool b
  | .int i => .int i
  | .str x => .str x
  | .tup ds => .tuple (pyFs f ds)
  | .lst ds => .list (pyFs f ds)
  | .scr ds => .list (pyFs f ds)
  | .obj n => f n
def pyFs (f : Nat → PyData) : List D → List PyData
  | [] => []
  | d :: ds => pyF f d :: pyFs f ds
end
def pyk : Nat → Store → Nat → PyData
  | 0, _, _ => .dict []
  | k + 1, S, n => match S[n]? with
    | some (.lst ds) => .list (pyFs (pyk k S) ds)
    | _ => .dict []
abbrev py (S : Store) (d : D) : PyData := pyF (pyk 3 S) d
abbrev pys (S : Store) (ds : List D) : List PyData := pyFs (pyk 3 S) ds
section
variable {nm : Nms} {K : PySem.W.Frag} {mg : Str → Option Value} {H : Hp} {μ : List Addr} {S : Store} {f : Nat → PyData}
mutual
theorem dp_F (hf : ∀ n a, μ[n]? = some a → (f n).plain = true → Dp K H (.ref a) (f n)) : ∀ {v : V} (d : D), RV K H μ v d → (pyF f d).plain = true → Dp K H v (pyF f d)
  | _, .non, h, _ => by cases h; exact .non
  | _, .bl b, h, _ => by cases h; exact .bl b
  | _, .int i, h, _ => by cases h; exact .int i
  | _, .str x, h, _ => by cases h; exact .str x
  | _, .tup ds, h, p => by
    cases h with
    | tup t r => exact .tup t.sq (dp_Fs hf ds r (by simpa [pyF, PyData.plain] using p))
  | _, .lst ds, h, p => by
    cases h with
    | lst t r => exact .lst (.of t.2) (dp_Fs hf ds r (by simpa [pyF, PyData.plain] using p))
  | _, .scr ds, h, p => by
    cases h with
    | scr t r => exact .lst t.sq (dp_Fs hf ds r (by simpa [pyF, PyData.plain] using p))
  | _, .obj n, h, p => by
    cases h with
    | obj e => exact hf n _ e p
theorem dp_Fs (hf : ∀ n a, μ[n]? = some a → (f n).plain = true → Dp K H (.ref a) (f n)) : ∀ {vs : List V} (ds : List D), RVs K H μ vs ds → PyData.plainAll (pyFs f ds) = true → DpAll K H vs (pyFs f ds)
  | _, [], h, _ => by cases h; exact .nil
  | _, d :: ds, h, p => by
    cases h with
    | cons r t =>
      have p' : (pyF f d).plain = true ∧ PyData.plainAll (pyFs f ds) = true := by simpa [pyFs, PyData.plainAll] using p
      exact .cons (dp_F hf d r p'.1) (dp_Fs hf ds t p'.2)
end
theorem dp_k (s : Sim nm K mg μ S H) : ∀ (k n : Nat) (a : Addr), μ[n]? = some a → (pyk k S n).plain = true → Dp K H (.ref a) (pyk k S n)
  | 0, n, a, _, p => by simp [pyk, PyData.plain] at p
  | k + 1, n, a, e, p => by
    unfold pyk at p ⊢
    split at p
    · rename_i ds hds
      obtain ⟨xs, e1, r⟩ := s.ob n a _ e hds
      exact .lst (.of e1) (dp_Fs (fun n a e p => dp_k s k n a e p) ds r (by simpa [PyData.plain] using p))
    · simp [PyData.plain] at p
theorem RV.dp (s : Sim nm K mg μ S H) {v : V} {d : D} (r : RV K H μ v d) (p : (py S d).plain = true) : Dp K H v (py S d) := dp_F (dp_k s 3) d r p
theorem RVs.dp (s : Sim nm K mg μ S H) {v : List V} {d : List D} (r : RVs K H μ v d) (p : PyData.plainAll (pys S d) = true) : DpAll K H v (pys S d) := dp_Fs (dp_k s 3) d r p
end
def small (a b : PyData) : Bool := a.plain && b.plain && decide (min a.depth b.depth < 100)
/-- x == y, where it may be asked -/
def eqS (S : Store) (x y : D) : Option Bool := if small (py S x) (py S y) = true then some (PyData.eqv (py S x) (py S y)) else none
def lstOf (S : Store) (d : D) : Option (List D) := match d with
  | .lst ds => some ds
  | .scr ds => some ds
  | .obj n => match S[n]? with
    | some (.lst ds) => some ds
    | _ => none
  | _ => none
def tupOf (d : D) : Option (List D) := match d with
  | .tup ds => some ds
  | _ => none
def seqOf (S : Store) (d : D) : Option (List D) := match tupOf d with
  | some ds => some ds
  | none => lstOf S d
section
variable {nm : Nms} {K : PySem.W.Frag} {mg : Str → Option Value} {H : Hp} {μ : List Addr} {S : Store} {v : V} {d : D} {ds : List D}
theorem lstOf_sq (s : Sim nm K mg μ S H) (r : RV K H μ v d) (h : lstOf S d = some ds) : ∃ a xs, v = .ref a ∧ SqL K H a xs ∧ RVs K H μ xs ds := by
  unfold lstOf at h
  split at h
  · cases h; cases r with | lst t r => exact ⟨_, _, rfl, .of t.2, r⟩
  · cases h; cases r with | scr t r => exact ⟨_, _, rfl, t.sq, r⟩
  · split at h
    · rename_i hds
      cases h
      cases r with | obj e =>
        obtain ⟨xs, e1, r⟩ := s.ob _ _ _ e hds
        exact ⟨_, xs, rfl, .of e1, r⟩
    · cases h
  · cases h
theorem tupOf_sq (r : RV K H μ v d) (h : tupOf d = some ds) : ∃ a xs, v = .ref a ∧ SqT K H a xs ∧ RVs K H μ xs ds := by
  unfold tupOf at h
  split at h
  · cases h; cases r with | tup t r => exact ⟨_, _, rfl, t.sq, r⟩
  · cases h
theorem seqOf_sq (s : Sim nm K mg μ S H) (r : RV K H μ v d) (h : seqOf S d = some ds) : ∃ a xs, v = .ref a ∧ (SqL K H a xs ∨ SqT K H a xs) ∧ RVs K H μ xs ds := by
  unfold seqOf at h
  split at h
  · rename_i e; cases h
    obtain ⟨a, xs, h1, h2, h3⟩ := tupOf_sq r e
    exact ⟨a, xs, h1, .inr h2, h3⟩
  · obtain ⟨a, xs, h1, h2, h3⟩ := lstOf_sq s r h
    exact ⟨a, xs, h1, .inl h2, h3⟩
end
/-- a list that has just been made: an object of the store, or one that stays as it is -/
def fin (new : Bool) (ds : List D) (S : Store) : R D := if new = true then .ok (.obj S.length) (S ++ [.lst ds]) else .ok (.lst ds) S
@[simp] theorem fin_t (ds : List D) (S : Store) : fin true ds S = .ok (.obj S.length) (S ++ [.lst ds]) := rfl
@[simp] theorem fin_f (ds : List D) (S : Store) : fin false ds S = .ok (.lst ds) S := rfl
section
variable {nm : Nms} {K : PySem.W.Frag} {mg : Str → Option Value} {H : Hp} {μ : List Addr} {S : Store}
theorem fin_post {new : Bool} {ds : List D} {xs : List V} {Q : VK} {E : PX} {p : Addr} (s : Sim nm K mg μ S H) (r : RVs K H μ xs ds) (np : H p = none)
    (h : Post nm K mg μ H (fin new ds S) (fun d _ μ' H' => ∀ v, RV K H' μ' v d → Q v H') E) : Q (.ref p) (upd H p (.lst xs)) := by
  cases new with
  | true =>
    have x := Ext.made (u := .lst xs) s np
    refine h _ _ x (s.made np ⟨xs, upd_same, RVs.ext x _ r⟩) _ (.obj ?_)
    rw [← s.len, List.getElem?_append_right (Nat.le_refl _)]
    simp
  | false =>
    have x := Ext.laid (u := .lst xs) s np
    exact h _ _ x (s.laid np) _ (.lst ⟨s.fresh np, upd_same⟩ (RVs.ext x _ r))
/-- a tuple that has just been made -/
theorem tup_post {ds : List D} {xs : List V} {Q : VK} {E : PX} {p : Addr} (s : Sim nm K mg μ S H) (r : RVs K H μ xs ds) (np : H p = none)
    (h : Post nm K mg μ H (.ok (.tup ds) S) (fun d _ μ' H' => ∀ v, RV K H' μ' v d → Q v H') E) : Q (.ref p) (upd H p (.tup xs)) := by
  have x := Ext.laid (u := .tup xs) s np
  exact h _ _ x (s.laid np) _ (.tup (.inl ⟨s.fresh np, .inl upd_same⟩) (RVs.ext x _ r))
end
def fI (g : Int → Int → Option D) : Store → D → D → Option D := fun _ x y => match x, y with
  | .int i, .int j => g i j
  | _, _ => none
def fAdd : Store → D → D → Option D := fun _ x y => match x, y with
  | .int i, .int j => some (.int (i + j))
  | .str a, .str b => if a.length + b.length ≤ sizeLine then some (.str (a ++ b)) else none
  | .tup a, .tup b => if a.length + b.length ≤ sizeLine then some (.tup (a ++ b)) else none
  | _, _ => none
abbrev fSub := fI fun i j => some (.int (i - j))
abbrev fMul := fI fun i j => if (-(2 ^ 64) < i ∧ i < 2 ^ 64) ∨ (-(2 ^ 64) < j ∧ j < 2 ^ 64) then some (.int (i * j)) else none
abbrev fMod := fI fun i j => if 0 < j then some (.int (i % j)) else none
abbrev fDiv := fI fun i j => if 0 < j ∧ j < 1073741824 then some (.int (i / j)) else none
abbrev fPow := fI fun i j => if 0 ≤ j ∧ j ≤ 1000000 ∧ i.natAbs < 2 ^ 64 then some (.int (i ^ j.toNat)) else none
def ltS (a b : Str) : Bool := decide (a.cps.toList < b.cps.toList)
def fCmp (g : Int → Int → Bool) (h : Str → Str → Bool) : Store → D → D → Option D := fun _ x y => match x, y with
  | .int i, .int j => some (.bl (g i j))
  | .str a, .str b => some (.bl (h a b))
  | _, _ => none
abbrev fLt := fCmp (fun i j => decide (i < j)) fun a b => ltS a b
abbrev fLe := fCmp (fun i j => decide (i ≤ j)) fun a b => !ltS b a
abbrev fGt := fCmp (fun i j => decide (j < i)) fun a b => ltS b a
abbrev fGe := fCmp (fun i j => decide (j ≤ i)) fun a b => !ltS a b
def fEq : Store → D → D → Option D := fun S x y => (eqS S x y).map .bl
def fNe : Store → D → D → Option D := fun S x y => (eqS S x y).map fun b => .bl (!b)
def isNon (d : D) : Bool := match d with
  | .non => true
  | _ => false
@[simp] theorem isNon_non : isNon .non = true := rfl
@[simp] theorem isNon_bl (b : Bool) : isNon (.bl b) = false := rfl
@[simp] theorem isNon_int (b : Int) : isNon (.int b) = false := rfl
@[simp] theorem isNon_str (b : Str) : isNon (.str b) = false := rfl
@[simp] theorem isNon_tup (b : List D) : isNon (.tup b) = false := rfl
@[simp] theorem isNon_lst (b : List D) : isNon (.lst b) = false := rfl
@[simp] theorem isNon_obj (b : Nat) : isNon (.obj b) = false := rfl
def fIs : Store → D → D → Option D := fun _ x y => if isNon y = true then some (.bl (isNon x)) else none
def fIsNot : Store → D → D → Option D := fun _ x y => if isNon y = true then some (.bl (!isNon x)) else none
section
variable {nm : Nms} {X : Cx}
theorem opI_D {f : Value → Value → Sem Value} {C : Int → Int → Prop} {g : Int → Int → V} {h : Int → Int → Option D} (o : OpR X f (rI C g)) (hc : ∀ i j d, h i j = some d → C i j ∧ ∀ H μ, RV X.K H μ (g i j) d) : OpD nm X f (fI h) := by
  intro pins s σ H x y v u Q I rv ru hh
  obtain ⟨S, μ, dx, dy, d, sm, rx, ry, e, q⟩ := hh
  unfold fI at e
  split at e
  · cases rx; cases ry
    obtain ⟨c, r⟩ := hc _ _ _ e
    exact o pins s σ H _ _ v u Q I rv ru ⟨_, _, rfl, rfl, c, q _ μ H .refl sm (r _ _)⟩
  · cases e
theorem opI0_D {f : Value → Value → Sem Value} {g : Int → Int → Int} (o : OpR X f (rI0 fun i j => .int (g i j))) : OpD nm X f (fI fun i j => some (.int (g i j))) := by
  intro pins s σ H x y v u Q I rv ru hh
  obtain ⟨S, μ, dx, dy, d, sm, rx, ry, e, q⟩ := hh
  unfold fI at e
  split at e
  · cases rx; cases ry; cases e
    exact o pins s σ H _ _ v u Q I rv ru ⟨_, _, rfl, rfl, q _ μ H .refl sm (.int _)⟩
  · cases e
theorem o_sub : OpD nm X (binaryOp .Sub) fSub := opI0_D op_sub
theorem o_mul : OpD nm X (binaryOp .Mult) fMul := opI_D op_mul fun i j d h => by
  split at h
  · rename_i c; cases h; exact ⟨c, fun _ _ => .int _⟩
  · cases h
theorem o_mod : OpD nm X (binaryOp .Mod) fMod := opI_D op_mod fun i j d h => by
  split at h
  · rename_i c; cases h; exact ⟨c, fun _ _ => .int _⟩
  · cases h
theorem o_div : OpD nm X (binaryOp .FloorDiv) fDiv := opI_D op_fdiv fun i j d h => by
  split at h
  · rename_i c; cases h; exact ⟨c, fun _ _ => .int _⟩
  · cases h
theorem o_pow : OpD nm X (binaryOp .Pow) fPow := opI_D op_pow fun i j d h => by
  split at h
  · rename_i c; cases h; exact ⟨c, fun _ _ => .int _⟩
  · cases h
theorem o_add : OpD nm X (binaryOp .Add) fAdd := by
  intro pins s σ H x y v u Q I rv ru hh
  obtain ⟨S, μ, dx, dy, d, sm, rx, ry, e, q⟩ := hh
  unfold fAdd at e
  split at e
  · cases rx; cases ry; cases e
    exact op_add pins s σ H _ _ v u Q I rv ru ⟨_, _, rfl, rfl, q _ μ H .refl sm (.int _)⟩
  · split at e
    · rename_i c; cases rx; cases ry; cases e
      exact op_add_str pins s σ H _ _ v u Q I rv ru ⟨_, _, rfl, rfl, c, q _ μ H .refl sm (.str _)⟩
    · cases e
  · rename_i a b
    split at e
    · rename_i c
      cases e
      cases rx with | tup t1 r1 =>
      cases ry with | @tup b2 ys _ t2 r2 =>
      rename_i a1 xs
      have l1 := r1.length
      have l2 := r2.length
      refine op_catA pins s σ H _ _ v u Q I rv ru ⟨_, _, xs, ys, rfl, rfl, t1.sq, t2.sq, by rw [l1, l2]; exact c, fun z => ?_, fun _ z => ?_, fun _ _ p np => ?_⟩
      · subst z
        have ha : a = [] := by
          cases a with
          | nil => rfl
          | cons _ _ => simp at l1
        subst ha
        exact q _ μ H .refl sm (.tup t2 r2)
      · subst z
        have hb : b = [] := by
          cases b with
          | nil => rfl
          | cons _ _ => simp at l2
        subst hb
        rw [List.append_nil] at q
        exact q _ μ H .refl sm (.tup t1 r1)
      · exact tup_post (E := fun _ _ _ => False) sm (r1.append r2) np fun μ' H' x s' v' r' => q v' μ' H' x s' r'
    · cases e
  · cases e
theorem opC_D {op : CmpOp} {g : Int → Int → Bool} {h : Str → Str → Bool} (o : OpR X (compareOp op) (rI0 fun i j => .bl (g i j)))
    (p : OpR X (compareOp op) (fun x y H Q => ∃ i j, x = .str i ∧ y = .str j ∧ Q (.bl (h i j)) H)) : OpD nm X (compareOp op) (fCmp g h) := by
  intro pins s σ H x y v u Q I rv ru hh
  obtain ⟨S, μ, dx, dy, d, sm, rx, ry, e, q⟩ := hh
  unfold fCmp at e
  split at e
  · cases rx; cases ry; cases e
    exact o pins s σ H _ _ v u Q I rv ru ⟨_, _, rfl, rfl, q _ μ H .refl sm (.bl _)⟩
  · cases rx; cases ry; cases e
    exact p pins s σ H _ _ v u Q I rv ru ⟨_, _, rfl, rfl, q _ μ H .refl sm (.bl _)⟩
  · cases e
theorem o_lt : OpD nm X (compareOp .Lt) fLt := opC_D op_lt op_lt_str
theorem o_le : OpD nm X (compareOp .LtE) fLe := opC_D op_le op_le_str
theorem o_gt : OpD nm X (compareOp .Gt) fGt := opC_D op_gt op_gt_str
theorem o_ge : OpD nm X (compareOp .GtE) fGe := opC_D op_ge op_ge_str
theorem o_eq {k : Nat} (hr : L2H.RoomH k X.A) : OpD nm X (compareOp .Eq) fEq := by
  intro pins s σ H x y v u Q I rv ru hh
  obtain ⟨S, μ, dx, dy, d, sm, rx, ry, e, q⟩ := hh
  unfold fEq eqS at e
  split at e
  · rename_i c
    cases e
    simp only [small, Bool.and_eq_true, decide_eq_true_eq] at c
    obtain ⟨as, h1⟩ := Dp.reads I _ _ _ (rx.dp sm c.1.1) rv
    obtain ⟨bs, h2⟩ := Dp.reads I _ _ _ (ry.dp sm c.1.2) ru
    have := hr.un
    exact SeqAt.eq_plain h1 h2 c.1.1 c.1.2 (by omega) ⟨.bl _, H, I, rfl, q _ μ H .refl sm (.bl _)⟩
  · cases e
theorem o_ne {k : Nat} (hr : L2H.RoomH k X.A) : OpD nm X (compareOp .NotEq) fNe := by
  intro pins s σ H x y v u Q I rv ru hh
  obtain ⟨S, μ, dx, dy, d, sm, rx, ry, e, q⟩ := hh
  unfold fNe eqS at e
  split at e
  · rename_i c
    cases e
    simp only [small, Bool.and_eq_true, decide_eq_true_eq] at c
    obtain ⟨as, h1⟩ := Dp.reads I _ _ _ (rx.dp sm c.1.1) rv
    obtain ⟨bs, h2⟩ := Dp.reads I _ _ _ (ry.dp sm c.1.2) ru
    have := hr.un
    exact SeqAt.ne_plain h1 h2 c.1.1 c.1.2 (by omega) ⟨.bl _, H, I, rfl, q _ μ H .refl sm (.bl _)⟩
  · cases e
theorem isNon_iff {K : PySem.W.Frag} {H : Hp} {μ : List Addr} {v : V} {d : D} (r : RV K H μ v d) : decide (v = .non) = isNon d := by
  cases r <;> first | rfl | simp [isNon]
theorem o_is : OpD nm X (compareOp .Is) fIs := by
  intro pins s σ H x y v u Q I rv ru hh
  obtain ⟨S, μ, dx, dy, d, sm, rx, ry, e, q⟩ := hh
  unfold fIs at e
  split at e
  · rename_i c
    cases e
    refine op_isN pins s σ H _ _ v u Q I rv ru ⟨?_, q _ μ H .refl sm ?_⟩
    · have := isNon_iff ry; rw [c] at this; exact of_decide_eq_true this
    · rw [isNon_iff rx]; exact .bl _
  · cases e
theorem o_isnot : OpD nm X (compareOp .IsNot) fIsNot := by
  intro pins s σ H x y v u Q I rv ru hh
  obtain ⟨S, μ, dx, dy, d, sm, rx, ry, e, q⟩ := hh
  unfold fIsNot at e
  split at e
  · rename_i c
    cases e
    refine op_notN pins s σ H _ _ v u Q I rv ru ⟨?_, q _ μ H .refl sm ?_⟩
    · have := isNon_iff ry; rw [c] at this; exact of_decide_eq_true this
    · rw [isNon_iff rx]; exact .bl _
  · cases e
end
def inStr (a b : Str) : Bool := !(Builtin.Str.occurrences b a 0 b.length 1).isEmpty
def keyOf (d : D) : Option Key := match d with
  | .int i => some (.inl i)
  | .str x => some (.inr x)
  | _ => none
def getK (kvs : List (Key × D)) (k : Key) : Option D := (kvs.find? fun kv => decide (kv.1 = k)).map (·.2)
def dctOf (S : Store) (d : D) : Option (List (Key × D)) := match d with
  | .obj n => match S[n]? with
    | some (.dct kvs) => some kvs
    | _ => none
  | _ => none
def inS (S : Store) (x y : D) : Option Bool := match y with
  | .str b => match x with
    | .str a => some (inStr a b)
    | _ => none
  | _ => match dctOf S y with
    | some kvs => (keyOf x).map fun k => (getK kvs k).isSome
    | none => match seqOf S y with
      | some ys => if ((py S x).plain && PyData.plainAll (pys S ys) && decide (min (PyData.depthAll (pys S ys)) (py S x).depth < 100)) = true then some ((pys S ys).any fun z => PyData.eqv z (py S x)) else none
      | none => none
def fIn : Store → D → D → Option D := fun S x y => (inS S x y).map .bl
def fNotIn : Store → D → D → Option D := fun S x y => (inS S x y).map fun b => .bl (!b)
section
variable {nm : Nms} {X : Cx}
theorem getK_val {K : PySem.W.Frag} {H : Hp} {μ : List Addr} : ∀ {ys : List (Key × V)} {kvs : List (Key × D)} (k : Key), RK K H μ ys kvs → (valV ys k = none ∧ getK kvs k = none) ∨ ∃ v d, valV ys k = some v ∧ getK kvs k = some d ∧ RV K H μ v d
  | _, _, k, .nil => .inl ⟨rfl, rfl⟩
  | p :: ys, q :: kvs, k, .cons r t => by
    by_cases e : p.1 = k
    · refine .inr ⟨p.2, q.2, valV_pos e, ?_, r.2⟩
      unfold getK
      rw [List.find?_cons_of_pos (by rw [← r.1]; simpa using e)]
      rfl
    · rcases getK_val k t with ⟨h1, h2⟩ | ⟨v, d, h1, h2, h3⟩
      · refine .inl ⟨by rw [valV_neg e]; exact h1, ?_⟩
        unfold getK at h2 ⊢
        rw [List.find?_cons_of_neg (by rw [← r.1]; simpa using e)]
        exact h2
      · refine .inr ⟨v, d, by rw [valV_neg e]; exact h1, ?_, h3⟩
        unfold getK at h2 ⊢
        rw [List.find?_cons_of_neg (by rw [← r.1]; simpa using e)]
        exact h2
theorem keyOf_kV {K : PySem.W.Frag} {H : Hp} {μ : List Addr} {v : V} {d : D} {k : Key} (r : RV K H μ v d) (e : keyOf d = some k) : v = kV k := by
  unfold keyOf at e
  split at e
  · cases e; cases r; rfl
  · cases e; cases r; rfl
  · cases e
theorem dctOf_at {K : PySem.W.Frag} {mg : Str → Option Value} {H : Hp} {μ : List Addr} {S : Store} {v : V} {d : D} {kvs : List (Key × D)} (s : Sim nm K mg μ S H) (r : RV K H μ v d) (h : dctOf S d = some kvs) :
    ∃ n a ys, d = .obj n ∧ v = .ref a ∧ μ[n]? = some a ∧ S[n]? = some (.dct kvs) ∧ H a = some (.dK ys) ∧ RK K H μ ys kvs := by
  unfold dctOf at h
  split at h
  · split at h
    · rename_i hds
      cases h
      cases r with | obj e =>
        obtain ⟨ys, e1, r⟩ := s.ob _ _ _ e hds
        exact ⟨_, _, ys, rfl, rfl, e, hds, e1, r⟩
    · cases h
  · cases h
theorem in_core {k : Nat} {neg : Bool} (hr : L2H.RoomH k X.A) {op : CmpOp} (hop : op = if neg = true then .NotIn else .In) : OpD nm X (compareOp op) (fun S x y => (inS S x y).map fun b => .bl (if neg = true then !b else b)) := by
  intro pins s σ H x y v u Q I rv ru hh
  obtain ⟨S, μ, dx, dy, d, sm, rx, ry, e0, q⟩ := hh
  have hun := hr.un
  obtain ⟨b, e, e1⟩ := Option.map_eq_some_iff.mp e0
  clear e0
  subst e1
  have q : Q (.bl (if neg = true then !b else b)) H := q _ μ H .refl sm (.bl _)
  unfold inS at e
  split at e
  · split at e
    · cases e; cases rx; cases ry
      subst hop
      cases neg with
      | true => exact op_notin_str pins s σ H _ _ v u Q I rv ru ⟨_, _, rfl, rfl, q⟩
      | false => exact op_in_str pins s σ H _ _ v u Q I rv ru ⟨_, _, rfl, rfl, q⟩
    · cases e
  · split at e
    · rename_i kvs hk
      obtain ⟨key, hkey, rfl⟩ := Option.map_eq_some_iff.mp e
      obtain ⟨n, a, ys, rfl, rfl, _, _, e1, r1⟩ := dctOf_at sm ry hk
      have ek := keyOf_kV rx hkey
      subst ek
      cases ru
      have hs : (valV ys key).isSome = (getK kvs key).isSome := by
        rcases getK_val key r1 with ⟨h1, h2⟩ | ⟨_, _, h1, h2, _⟩ <;> rw [h1, h2] <;> rfl
      subst hop
      cases neg with
      | true => exact d_notIn (by omega) I (DGet.k e1) rv fun s' I' => ⟨.bl _, H, I', rfl, by rw [hs]; exact q⟩
      | false => exact d_in (by omega) I (DGet.k e1) rv fun s' I' => ⟨.bl _, H, I', rfl, by rw [hs]; exact q⟩
    · split at e
      · rename_i ys hys
        split at e
        · rename_i c
          cases e
          simp only [Bool.and_eq_true, decide_eq_true_eq] at c
          obtain ⟨as, h1⟩ := Dp.reads I _ _ _ (rx.dp sm c.1.1) rv
          obtain ⟨a, xs, rfl, hs, r⟩ := seqOf_sq sm ry hys
          cases ru
          subst hop
          rcases hs with hs | hs
          · obtain ⟨its, rvs, ⟨o, n, ho, hc, _, hd⟩, _⟩ := I.list hs
            obtain ⟨bs, h2⟩ := Dp.readsAll I _ _ _ (r.dp sm c.1.2) rvs
            cases neg with
            | true => exact SeqAt.notIn_list_data (Reads.list ho hc hd h2) h1 c.1.2 c.1.1 (by omega) ⟨.bl _, H, I, rfl, q⟩
            | false => exact SeqAt.in_list_data (Reads.list ho hc hd h2) h1 c.1.2 c.1.1 (by omega) ⟨.bl _, H, I, rfl, q⟩
          · obtain ⟨its, rvs, ⟨o, ho, hc, n, hd⟩, _⟩ := I.tuple hs
            obtain ⟨bs, h2⟩ := Dp.readsAll I _ _ _ (r.dp sm c.1.2) rvs
            cases neg with
            | true => exact SeqAt.notIn_tuple_data (Reads.tuple ho hc hd h2) h1 c.1.2 c.1.1 (by omega) ⟨.bl _, H, I, rfl, q⟩
            | false => exact SeqAt.in_tuple_data (Reads.tuple ho hc hd h2) h1 c.1.2 c.1.1 (by omega) ⟨.bl _, H, I, rfl, q⟩
        · cases e
      · cases e
theorem o_in {k : Nat} (hr : L2H.RoomH k X.A) : OpD nm X (compareOp .In) fIn := in_core (neg := false) hr rfl
theorem o_notin {k : Nat} (hr : L2H.RoomH k X.A) : OpD nm X (compareOp .NotIn) fNotIn := in_core (neg := true) hr rfl
theorem un_D {op : UnaryOp} {f : Store → D → Option D} {a : Expr} {ma : EM} {pos : Pos} {r : V → Hp → VK → Prop} (hu : UnR X (unaryOp op) r) (h : ∀ S μ H x dx d Q, Sim nm X.K X.mg μ S H → RV X.K H μ x dx → f S dx = some d → (∀ v, RV X.K H μ v d → Q v H) → r x H Q)
    (ha : ME nm X a ma) : ME nm X (.UnaryOp op a pos) (mUn f ma) := by
  refine ⟨fun W tk => (pe_un hu (ha.run W tk)).imp fun σ H Q hh => ?_⟩
  obtain ⟨e, S, μ, E, s, p⟩ := hh
  refine ⟨e, S, μ, E, s, (Post.bind p).mono fun dx S1 μ1 H1 x1 s1 p1 v rv => ?_⟩
  split at p1
  · rename_i d hd
    exact h S1 μ1 H1 v dx d Q s1 rv hd fun w r => p1 μ1 H1 .refl s1 w r
  · exact False.elim p1
def fNeg : Store → D → Option D := fun _ x => match x with
  | .int i => some (.int (-i))
  | _ => none
theorem me_neg {a : Expr} {ma : EM} {pos : Pos} (ha : ME nm X a ma) : ME nm X (.UnaryOp .USub a pos) (mUn fNeg ma) := un_D un_neg (fun S μ H x dx d Q s r e q => by
  unfold fNeg at e
  split at e
  · cases e; cases r; exact ⟨_, rfl, q _ (.int _)⟩
  · cases e) ha
end
end BS
namespace BS
open PySem PySem.Spec PyProof.Rows L2
section
variable {nm : Nms} {X : Cx} {pos : Pos} {e : Expr} {es : List Expr} {me : EM} {ma : AM}
def mNil : AM := fun _ S => .ok [] S
def mCons (m : EM) (r : AM) : AM := fun e S => (m e S).bind fun d S => (r e S).bind fun ds S => .ok (d :: ds) S
theorem ma_nil : MA nm X [] mNil := ⟨fun W tk => pa_nil.imp fun σ H Q h => by
  obtain ⟨e, S, μ, E, s, p⟩ := h
  exact p μ H .refl s _ .nil, fun e S ds S' h => by cases h; rfl⟩
theorem ma_cons (ha : ME nm X e me) (hr : MA nm X es ma) (hs : starEach (e :: es) X.env = (false, eval e X.env) :: starEach es X.env := by rfl) : MA nm X (e :: es) (mCons me ma) := by
  refine ⟨fun W tk => (pa_cons (ha.run W tk) (hr.run W tk) hs).imp fun σ H Q h => ?_, fun e S ds S' h => ?_⟩
  · obtain ⟨e, S, μ, E, s, p⟩ := h
    refine ⟨e, S, μ, E, s, (Post.bind p).mono fun d S1 μ1 H1 x1 s1 p1 v rv => ?_⟩
    refine ⟨e, S1, μ1, E.ext x1, s1, (Post.bind p1).mono fun ds S2 μ2 H2 x2 s2 p2 vs rvs => ?_⟩
    exact p2 μ2 H2 .refl s2 _ (.cons (rv.ext x2) rvs)
  · unfold mCons at h
    cases h1 : me e S with
    | ok d S1 =>
      rw [h1, R.bind_ok] at h
      cases h2 : ma e S1 with
      | ok ds1 S2 =>
        rw [h2, R.bind_ok] at h
        cases h
        rw [List.length_cons, List.length_cons, hr.len _ _ _ _ h2]
      | exc c fs S2 => rw [h2] at h; cases h
      | stuck => rw [h2] at h; cases h
    | exc c fs S1 => rw [h1] at h; cases h
    | stuck => rw [h1] at h; cases h
def mTup (m : AM) : EM := fun e S => (m e S).bind fun ds S => .ok (.tup ds) S
def mLst (new : Bool) (m : AM) : EM := fun e S => (m e S).bind fun ds S => fin new ds S
theorem lenOk {n : Nat} (h : n ≤ 1000) : n ≤ sizeLine := Nat.le_of_lt (small1000 h)
theorem post_len {W : WX} {σ : St} {H : Hp} {μ : List Addr} {ev : Ev} {S : Store} {P : PA (List D)} (hm : MA nm X es ma) (p : PostX nm X W μ H σ (ma ev S) P) : PostX nm X W μ H σ (ma ev S) fun ds S' μ' H' => ds.length = es.length ∧ P ds S' μ' H' := by
  cases h : ma ev S with
  | ok ds S' => rw [h] at p; exact fun μ' H' x s => ⟨hm.len _ _ _ _ h, p μ' H' x s⟩
  | exc c fs S' => rw [h] at p; exact p
  | stuck => rw [h] at p; exact p
theorem me_tup {x1} (h : MA nm X es ma) (hl : es.length ≤ 1000 := by decide) : ME nm X (.Tuple es x1 pos) (mTup ma) := by
  refine ⟨fun W tk => (pe_tup (h.run W tk)).imp fun σ H Q hh => ?_⟩
  obtain ⟨e, S, μ, E, s, p⟩ := hh
  refine ⟨e, S, μ, E, s, (post_len h (Post.bind p)).mono fun ds S1 μ1 H1 x1 s1 p1 vs rvs => ⟨?_, fun p np => tup_post s1 rvs np p1.2⟩⟩
  rw [rvs.length, p1.1]; exact lenOk hl
theorem me_lst (new : Bool) (h : MA nm X es ma) (hl : es.length ≤ 1000 := by decide) : ME nm X (.List es pos) (mLst new ma) := by
  refine ⟨fun W tk => (pe_lst (h.run W tk)).imp fun σ H Q hh => ?_⟩
  obtain ⟨e, S, μ, E, s, p⟩ := hh
  refine ⟨e, S, μ, E, s, (post_len h (Post.bind p)).mono fun ds S1 μ1 H1 x1 s1 p1 vs rvs => ⟨?_, fun p np => fin_post s1 rvs np p1.2⟩⟩
  rw [rvs.length, p1.1]; exact lenOk hl
/-- {} -/
def mDct : EM := fun _ S => .ok (.obj S.length) (S ++ [.dct []])
theorem made_dct {K : PySem.W.Frag} {mg : Str → Option Value} {μ : List Addr} {S : Store} {H : Hp} {p : Addr} (s : Sim nm K mg μ S H) (np : H p = none) : Sim nm K mg (μ ++ [p]) (S ++ [.dct []]) (upd H p (.dK [])) :=
  s.made np ⟨[], upd_same, .nil⟩
theorem new_at {K : PySem.W.Frag} {mg : Str → Option Value} {μ : List Addr} {S : Store} {H : Hp} {p : Addr} (s : Sim nm K mg μ S H) : (μ ++ [p])[S.length]? = some p := by
  rw [← s.len, List.getElem?_append_right (Nat.le_refl _)]; simp
theorem me_dct : ME nm X (.Dict [] [] pos) mDct := by
  refine ⟨fun W tk => pe_dnewK.imp fun σ H Q hh => ?_⟩
  obtain ⟨e, S, μ, E, s, p⟩ := hh
  intro q nq
  exact p _ _ (Ext.made s nq) (made_dct s nq) _ (.obj (new_at s))
def strAt (c : Nat) : D := .str ⟨#[c]⟩
/-- a dict that may be read: also one over which a loop runs -/
def dctR (S : Store) (d : D) : Option (List (Key × D)) := match d with
  | .obj n => match S[n]? with
    | some (.dct kvs) => some kvs
    | some (.lck kvs) => some kvs
    | _ => none
  | _ => none
theorem dctR_at {nm : Nms} {K : PySem.W.Frag} {mg : Str → Option Value} {H : Hp} {μ : List Addr} {S : Store} {v : V} {d : D} {kvs : List (Key × D)} (s : Sim nm K mg μ S H) (r : RV K H μ v d) (h : dctR S d = some kvs) :
    ∃ n a ys, d = .obj n ∧ v = .ref a ∧ μ[n]? = some a ∧ Rd H a (.dK ys) ∧ RK K H μ ys kvs := by
  unfold dctR at h
  split at h
  · split at h
    · rename_i hds
      cases h
      cases r with | obj e =>
        obtain ⟨ys, e1, r⟩ := s.ob _ _ _ e hds
        exact ⟨_, _, ys, rfl, rfl, e, .inl e1, r⟩
    · rename_i hds
      cases h
      cases r with | obj e =>
        obtain ⟨od, ys, e1, r⟩ := s.ob _ _ _ e hds
        exact ⟨_, _, ys, rfl, rfl, e, .inr ⟨od, e1⟩, r⟩
    · cases h
  · cases h
def fIx : Store → D → D → Option D := fun S x i => match i with
  | .int i => match x with
    | .str z => if z.length ≤ sizeLine then (atI z.cps.toList i).map strAt else none
    | _ => match seqOf S x with
      | some ds => atI ds i
      | none => match dctR S x with
        | some kvs => getK kvs (.inl i)
        | none => none
  | .str k => match dctR S x with
    | some kvs => getK kvs (.inr k)
    | none => none
  | _ => none
theorem atI_rvs {K : PySem.W.Frag} {H : Hp} {μ : List Addr} {xs : List V} {ds : List D} {i : Int} {d : D} (r : RVs K H μ xs ds) (h : atI ds i = some d) : ∃ v, atI xs i = some v ∧ RV K H μ v d := by
  unfold atI at h ⊢
  rw [← r.length] at h
  cases e : ixN xs.length i with
  | none => rw [e] at h; cases h
  | some j =>
    rw [e] at h
    obtain ⟨v, h1, h2⟩ := r.get (i := j) h
    exact ⟨v, h1, h2⟩
theorem dict_tail {prog : Program} {w : World} {A : Around} {E : Value → Shared → Prop} {s₂ : Shared} {value slice : Expr} {o i : Value} {Q : Value → Shared → Prop} (hT : s₂.TypeIs o "dict") (hs : subscripted slice false o i = operate [o, i] (getItem o i))
    (h₂ : wpAny (model prog w) A (getItem o i) Q E s₂) : wpAny (model prog w) A (subscriptTail value slice o i) Q E s₂ := by
  unfold subscriptTail
  refine wpAny_bind ?_
  rw [getitemInPython_of_ne hT.not_modules]
  refine wpAny_bind (wpAny_specialOf hT PySem.F.slot_dict_getitem.lookup ?_)
  have fin : wpAny (model prog w) A (subscripted slice false o i) (fun r s₃ => wpAny (model prog w) A (letTemporaryGo value o r >>= fun _ => pure r) Q E s₃) E s₂ := by
    rw [hs]
    exact wpAny_operating (wpAny_mono h₂ (fun r s₃ h₃ => wpAny_bind (wpAny_letTemporaryGo (wpAny_pure h₃))) fun _ _ x => x)
  first
    | exact wpAny_pure (wpAny_bind fin)
    | exact wpAny_bind (wpAny_pure (wpAny_bind fin))
    | exact wpAny_bind fin
/-- the read o[i] of a sequence or a dict, as the two rules of the layer give it -/
def mIx (a b : EM) : EM := mBin fIx a b
theorem ix_core (hr : X.A.units + 1 < cLine) {a b : Expr} {ta tb : TE} (ha : PE X a ta) (hb : PE X b tb) (hs : PlainIx b) : PE X (.Subscript a b pos) (tOp (rOpD nm X fIx) ta tb) := by
  refine ⟨fun pins s σ H Q I h => ?_⟩
  -- which rule is decided by the values: run both subexpressions, then the tail
  have key : ∀ (pins : List (Addr × Obj)) (s : Shared) (σ : St) (H : Hp) (x y : V) (v u : Value) (Q : VK), Inv X pins σ H s → RelV x v → RelV y u → rOpD nm X fIx x y H Q →
      (rIx X.K x y H Q) ∨ ∃ a w, x = .ref a ∧ DGet H a y (some w) ∧ Q w H := by
    intro pins s σ H x y v u Q I rv ru hh
    obtain ⟨S, μ, dx, dy, d, sm, rx, ry, e, q⟩ := hh
    have q : ∀ v, RV X.K H μ v d → Q v H := fun v r => q v μ H .refl sm r
    unfold fIx at e
    split at e
    · cases ry
      split at e
      · cases rx
        split at e
        · rename_i c
          obtain ⟨z, h1, rfl⟩ := Option.map_eq_some_iff.mp e
          exact .inl (.inr (.inr ⟨_, _, z, rfl, rfl, c, h1, q _ (.str _)⟩))
        · cases e
      · split at e
        · rename_i ds hds
          obtain ⟨a, xs, rfl, hs, r⟩ := seqOf_sq sm rx hds
          obtain ⟨w, h1, h2⟩ := atI_rvs r e
          rcases hs with hs | hs
          · exact .inl (.inl ⟨a, xs, _, w, rfl, rfl, hs, h1, q _ h2⟩)
          · exact .inl (.inr (.inl ⟨a, xs, _, w, rfl, rfl, hs, h1, q _ h2⟩))
        · split at e
          · rename_i kvs hk
            obtain ⟨n, a, ys, rfl, rfl, _, e1, r1⟩ := dctR_at sm rx hk
            rcases getK_val _ r1 with ⟨h1, h2⟩ | ⟨w, d', h1, h2, h3⟩
            · rw [h2] at e; cases e
            · rw [h2] at e; cases e
              exact .inr ⟨a, w, rfl, h1 ▸ (.inl ⟨ys, Sum.inl _, e1, rfl, rfl⟩ : DGet H a (kV (Sum.inl _)) (valV ys (Sum.inl _))), q _ h3⟩
          · cases e
    · cases ry
      split at e
      · rename_i kvs hk
        obtain ⟨n, a, ys, rfl, rfl, _, e1, r1⟩ := dctR_at sm rx hk
        rcases getK_val _ r1 with ⟨h1, h2⟩ | ⟨w, d', h1, h2, h3⟩
        · rw [h2] at e; cases e
        · rw [h2] at e; cases e
          exact .inr ⟨a, w, rfl, h1 ▸ (.inl ⟨ys, Sum.inr _, e1, rfl, rfl⟩ : DGet H a (kV (Sum.inr _)) (valV ys (Sum.inr _))), q _ h3⟩
      · cases e
    · cases e
  refine Subscript_ (thn (ha.run pins s σ H _ I h) fun v s1 ⟨x, H1, I1, r1, q1⟩ => thn (hb.run pins s1 σ H1 _ I1 q1) fun u s2 ⟨y, H2, I2, r2, q2⟩ => ?_)
  rcases key pins s2 σ H2 x y v u Q I2 r1 r2 q2 with h | ⟨a', w, rfl, g, q⟩
  · exact ix_seq a b pins s2 σ H2 x y v u Q I2 r1 r2 h (hs _ _)
  · cases r1
    exact dict_tail (dict_typeIs I2 g) (hs _ _) (d_getItem hr I2 g r2 fun w' s' I' rw' => ⟨w, H2, I', rw', q⟩)
theorem me_ix {k : Nat} (hr : L2H.RoomH k X.A) {a b : Expr} {ma mb : EM} (ha : ME nm X a ma) (hb : ME nm X b mb) (hs : PlainIx b := by exact fun _ _ => rfl) : ME nm X (.Subscript a b pos) (mIx ma mb) :=
  ⟨fun W tk => (ix_core (nm := nm) (by have := hr.un; omega) (ha.run W tk) (hb.run W tk) hs).imp fun _ _ _ h => bin_rd h⟩
abbrev OM := Ev → Store → R (Option Int)
def rdO (nm : Nms) (X : Cx) (W : WX) (m : OM) : TO := fun σ H Q => ∃ e S μ, EvR nm X H μ e σ ∧ Sim nm X.K X.mg μ S H ∧ PostX nm X W μ H σ (m e S) fun o _ μ' H' => Q o H'
structure MO (nm : Nms) (X : Cx) (e : Option Expr) (m : OM) : Prop where
  run : ∀ W, Takes X W → PO X e (rdO nm X W m)
theorem _root_.L2.PO.imp {X : Cx} {e : Option Expr} {t t' : TO} (h : PO X e t) (f : ∀ σ H Q, t' σ H Q → t σ H Q) : PO X e t' := ⟨fun pins s σ H Q I q => h.run pins s σ H Q I (f _ _ _ q)⟩
def oNo : OM := fun _ S => .ok none S
def oAt (m : EM) : OM := fun e S => (m e S).bind fun d S => match d with
  | .int i => .ok (some i) S
  | _ => .stuck
theorem mo_no : MO nm X none oNo := ⟨fun W tk => po_none.imp fun σ H Q h => by
  obtain ⟨e, S, μ, E, s, p⟩ := h
  exact p μ H .refl s⟩
theorem mo_at (h : ME nm X e me) : MO nm X (some e) (oAt me) := ⟨fun W tk => (po_some (h.run W tk)).imp fun σ H Q h => by
  obtain ⟨e, S, μ, E, s, p⟩ := h
  refine ⟨e, S, μ, E, s, (Post.bind p).mono fun d S1 μ1 H1 x1 s1 p1 v rv => ?_⟩
  split at p1
  · cases rv; exact ⟨_, rfl, p1 μ1 H1 .refl s1⟩
  · exact False.elim p1⟩
def cutD (xs : List D) (lo hi : Option Int) : List D := (xs.drop (HT.sIx xs.length 0 lo)).take (HT.sIx xs.length xs.length hi - HT.sIx xs.length 0 lo)
theorem cut_rvs {K : PySem.W.Frag} {H : Hp} {μ : List Addr} {xs : List V} {ds : List D} (r : RVs K H μ xs ds) (lo hi : Option Int) : RVs K H μ (cutV xs lo hi) (cutD ds lo hi) := by
  unfold cutV cutD
  rw [r.length]
  exact (r.drop _).take _
def slS (new : Bool) (S : Store) (x : D) (lo hi : Option Int) : R D := match x with
  | .str z => if z.length ≤ sizeLine then .ok (.str (cutS z lo hi)) S else .stuck
  | .tup ds => .ok (.tup (cutD ds lo hi)) S
  | _ => match lstOf S x with
    | some ds => fin new (cutD ds lo hi) S
    | none => .stuck
def mSl (new : Bool) (a : EM) (lo hi : OM) : EM := fun e S => (a e S).bind fun x S => (lo e S).bind fun l S => (hi e S).bind fun h S => slS new S x l h
theorem me_sl (new : Bool) {lo hi : Option Expr} {ml mh : OM} {p2 : Pos} (he : ME nm X e me) (hl : MO nm X lo ml) (hu : MO nm X hi mh) : ME nm X (.Subscript e (.Slice lo hi none p2) pos) (mSl new me ml mh) := by
  refine ⟨fun W tk => (pe_slice ((sl_str.or sl_tupA).or sl_list) (he.run W tk) (hl.run W tk) (hu.run W tk)).imp fun σ H Q h => ?_⟩
  obtain ⟨e, S, μ, E, s, p⟩ := h
  refine ⟨e, S, μ, E, s, (Post.bind p).mono fun d S1 μ1 H1 x1 s1 p1 v rv => ?_⟩
  refine ⟨e, S1, μ1, E.ext x1, s1, (Post.bind p1).mono fun l S2 μ2 H2 x2 s2 p2 => ?_⟩
  refine ⟨e, S2, μ2, E.ext (x1.trans x2), s2, (Post.bind p2).mono fun h S3 μ3 H3 x3 s3 p3 => ?_⟩
  have rv := rv.ext (x2.trans x3)
  unfold slS at p3
  split at p3
  · cases rv
    split at p3
    · rename_i c; exact .inl (.inl ⟨_, rfl, c, p3 μ3 H3 .refl s3 _ (.str _)⟩)
    · exact False.elim p3
  · cases rv with | tup t r =>
    refine .inl (.inr ⟨_, _, rfl, t.sq, fun c => ?_, fun _ p np => tup_post s3 (cut_rvs r l h) np p3⟩)
    rename_i ds a xs
    have e : cutD ds l h = ds := by
      rw [r.length] at c
      unfold cutD
      rw [c.1, c.2]
      simp
    rw [e] at p3
    exact p3 μ3 H3 .refl s3 _ (.tup t r)
  · split at p3
    · rename_i ds hds
      obtain ⟨a, xs, rfl, hs, r⟩ := lstOf_sq s3 rv hds
      exact .inr ⟨a, xs, rfl, hs, fun p np => fin_post s3 (cut_rvs r l h) np p3⟩
    · exact False.elim p3
def getN {α : Type} : List (Nat × α) → Nat → Option α
  | [], _ => none
  | p :: r, k => if p.1 = k then some p.2 else getN r k
def setN {α : Type} (k : Nat) (v : α) : List (Nat × α) → List (Nat × α)
  | [] => [(k, v)]
  | p :: r => if p.1 = k then (k, v) :: r else p :: setN k v r
def insOf (S : Store) (d : D) : Option (Nat × List (Nat × D)) := match d with
  | .obj n => match S[n]? with
    | some (.ins c fs) => some (c, fs)
    | _ => none
  | _ => none
def getF (cs : List Nat) (f : Nat) (S : Store) (x : D) : Option D := match insOf S x with
  | some (c, fs) => if cs.contains c = true then getN fs f else none
  | none => none
/-- a def by its value: what is promised of it -/
def spD (nm : Nms) (K : PySem.W.Frag) (mg : Str → Option Value) (n : Nat) (F : FM) : Sp := fun vs H Q E => ∃ ds S μ, RVs K H μ vs ds ∧ ds.length = n ∧ Sim nm K mg μ S H ∧ Post nm K mg μ H (F ds S) (fun d _ μ' H' => ∀ v, RV K H' μ' v d → Q v H') E
section
variable (P : Program) (w : World) (K : PySem.W.Frag) (mg : Str → Option Value) (base : Heap) (nm : Nms)
def DefOk (k : Nat) (x : Str) (n : Nat) (F : FM) : Prop :=
  ∃ f fd ps, mg x = some (.ref f) ∧ PySem.W.keepIn K (.ref f) = true ∧ ps.length = n ∧ Binds K fd ps [] ∧ FnOk P w K mg base (L2.CX P w) k f fd ps (spD nm K mg n F)
def MethOk (k : Nat) (c : Nat) (m : Str) (n : Nat) (F : FM) : Prop :=
  ∃ C f fd ps, mg (nm.cls c) = some (.ref C) ∧ Cls K C ∧ Meth K C m f ∧ ps.length = n ∧ Binds K fd ps [] ∧ FnOk P w K mg base (L2.CX P w) k f fd ps (spD nm K mg n F) ∧ ∀ i, i < nm.most → nm.fld i ≠ m
def MakeOk (k : Nat) (c : Nat) (n : Nat) (F : FM) : Prop :=
  ∃ C f fd ps, mg (nm.cls c) = some (.ref C) ∧ Mk K C f ∧ ps.length = n + 1 ∧ Binds K fd ps [] ∧ FnOk P w K mg base (L2.CX P w) k f fd ps (spD nm K mg (n + 1) F)
end
theorem DefOk.mono {P : Program} {w : World} {K : PySem.W.Frag} {mg : Str → Option Value} {base : Heap} {k k' : Nat} {x : Str} {n : Nat} {F : FM} (h : DefOk P w K mg base nm k x n F) (hk : k ≤ k') : DefOk P w K mg base nm k' x n F :=
  let ⟨f, fd, ps, h1, h2, h3, h4, h5⟩ := h; ⟨f, fd, ps, h1, h2, h3, h4, h5.mono hk⟩
theorem MethOk.mono {P : Program} {w : World} {K : PySem.W.Frag} {mg : Str → Option Value} {base : Heap} {k k' c : Nat} {x : Str} {n : Nat} {F : FM} (h : MethOk P w K mg base nm k c x n F) (hk : k ≤ k') : MethOk P w K mg base nm k' c x n F :=
  let ⟨C, f, fd, ps, h1, h2, h3, h4, h5, h6, h7⟩ := h; ⟨C, f, fd, ps, h1, h2, h3, h4, h5, h6.mono hk, h7⟩
theorem MakeOk.mono {P : Program} {w : World} {K : PySem.W.Frag} {mg : Str → Option Value} {base : Heap} {k k' c : Nat} {n : Nat} {F : FM} (h : MakeOk P w K mg base nm k c n F) (hk : k ≤ k') : MakeOk P w K mg base nm k' c n F :=
  let ⟨C, f, fd, ps, h1, h2, h3, h4, h5⟩ := h; ⟨C, f, fd, ps, h1, h2, h3, h4, h5.mono hk⟩
theorem spD.imp {K : PySem.W.Frag} {mg : Str → Option Value} {n : Nat} {F G : FM} (h : ∀ ds S, ds.length = n → G ds S ≠ .stuck → F ds S = G ds S) : ∀ vs H Q E, spD nm K mg n G vs H Q E → spD nm K mg n F vs H Q E := by
  rintro vs H Q E ⟨ds, S, μ, h1, h2, h3, h4⟩
  refine ⟨ds, S, μ, h1, h2, h3, ?_⟩
  rw [h ds S h2 (fun z => by rw [z] at h4; exact h4)]
  exact h4
/-- another value for a def: wherever it says something, it says what the def does -/
theorem DefOk.imp {P : Program} {w : World} {K : PySem.W.Frag} {mg : Str → Option Value} {base : Heap} {k : Nat} {x : Str} {n : Nat} {F G : FM} (h : DefOk P w K mg base nm k x n F) (g : ∀ ds S, ds.length = n → G ds S ≠ .stuck → F ds S = G ds S) : DefOk P w K mg base nm k x n G :=
  let ⟨f, fd, ps, h1, h2, h3, h4, h5⟩ := h; ⟨f, fd, ps, h1, h2, h3, h4, h5.imp (spD.imp g)⟩
theorem MethOk.imp {P : Program} {w : World} {K : PySem.W.Frag} {mg : Str → Option Value} {base : Heap} {k c : Nat} {x : Str} {n : Nat} {F G : FM} (h : MethOk P w K mg base nm k c x n F) (g : ∀ ds S, ds.length = n → G ds S ≠ .stuck → F ds S = G ds S) : MethOk P w K mg base nm k c x n G :=
  let ⟨C, f, fd, ps, h1, h2, h3, h4, h5, h6, h7⟩ := h; ⟨C, f, fd, ps, h1, h2, h3, h4, h5, h6.imp (spD.imp g), h7⟩
def mCall (F : FM) (as : AM) : EM := fun e S => (as e S).bind F
section
variable {pins : List (Addr × Obj)} {σ : St} {H : Hp} {s : Shared} {W : WX} {k n : Nat} {x m : Str} {F : FM} {vs : List V} {us : List Value} {ds : List D} {S : Store} {μ : List Addr} {Q : VK} {p apos : Pos}
theorem me_call {e : Expr} {es : List Expr} {ma : AM} (h : DefOk X.prog X.w X.K X.mg X.base nm k x n F) (hr : Room k X.A) (hg : GlN X x) (ha : MA nm X (e :: es) ma) (hn : (e :: es).length = n := by rfl)
    (he : starEach (e :: es) X.env = (false, eval e X.env) :: starEach es X.env := by rfl) (hpl : (backTo pos (starEach es X.env)).any (·.1) = false := by rfl) : ME nm X (.Call (.Name x p) (e :: es) [] pos) (mCall F ma) := by
  obtain ⟨f, fd, ps, h1, h2, h3, h4, h5⟩ := h
  refine ⟨fun W tk => (pe_callS (E := WE W) h5 hr hg.g h1 h2 h4 (passAt tk) (ha.run W tk) hg.d he hpl).imp fun σ H Q hh => ?_⟩
  obtain ⟨ev, S, μ, E, s, q⟩ := hh
  exact ⟨ev, S, μ, E, s, (post_len ha (Post.bind q)).mono fun ds S1 μ1 H1 x1 s1 q1 vs rvs => ⟨ds, S1, μ1, rvs, by rw [q1.1, hn], s1, q1.2⟩⟩
def isIns (c : Nat) (S : Store) (x : D) : Bool := match insOf S x with
  | some (c', _) => c' == c
  | none => false
end
end
end BS
namespace BS
open PySem PySem.Spec PyProof.Rows L2
def Ev.set (e : Ev) (i : Nat) (d : D) : Ev := { sl := e.sl.set i (some d), ex := e.ex.filter fun p => p.1 != i }
def Ev.clr (e : Ev) : Ev := { sl := e.sl, ex := [] }
@[simp] theorem Ev.set_sl (l : List (Option D)) (i : Nat) (d : D) : Ev.set ⟨l, []⟩ i d = ⟨l.set i (some d), []⟩ := rfl
@[simp] theorem Ev.clr_mk (l : List (Option D)) (x) : Ev.clr ⟨l, x⟩ = ⟨l, []⟩ := rfl
def R.toS {α : Type} (r : R α) (e : Ev) (k : α → Store → RS) : RS := match r with
  | .ok a S => k a S
  | .exc c fs S => .exc c fs e S
  | .stuck => .stuck
@[simp] theorem R.toS_ok {α : Type} (a : α) (S : Store) (e : Ev) (k : α → Store → RS) : (R.ok a S).toS e k = k a S := rfl
@[simp] theorem R.toS_exc {α : Type} (c : Nat) (fs : List (Nat × D)) (S : Store) (e : Ev) (k : α → Store → RS) : (R.exc c fs S).toS e k = .exc c fs e S := rfl
@[simp] theorem R.toS_stuck {α : Type} (e : Ev) (k : α → Store → RS) : (R.stuck : R α).toS e k = .stuck := rfl
def RS.seq (r : RS) (k : Ev → Store → RS) : RS := match r with
  | .nx e S => k e S
  | r => r
@[simp] theorem RS.seq_nx (e : Ev) (S : Store) (k : Ev → Store → RS) : (RS.nx e S).seq k = k e S := rfl
@[simp] theorem RS.seq_rt (d : D) (S : Store) (k : Ev → Store → RS) : (RS.rt d S).seq k = .rt d S := rfl
@[simp] theorem RS.seq_bk (e : Ev) (S : Store) (k : Ev → Store → RS) : (RS.bk e S).seq k = .bk e S := rfl
@[simp] theorem RS.seq_ct (e : Ev) (S : Store) (k : Ev → Store → RS) : (RS.ct e S).seq k = .ct e S := rfl
@[simp] theorem RS.seq_exc (c : Nat) (fs : List (Nat × D)) (e : Ev) (S : Store) (k : Ev → Store → RS) : (RS.exc c fs e S).seq k = .exc c fs e S := rfl
@[simp] theorem RS.seq_stuck (k : Ev → Store → RS) : RS.stuck.seq k = .stuck := rfl
/-- a loop's turn is through -/
def RS.loop (r : RS) (k : Ev → Store → RS) : RS := match r with
  | .nx e S => k e S
  | .ct e S => k e S
  | .bk e S => .nx e S
  | r => r
@[simp] theorem RS.loop_nx (e : Ev) (S : Store) (k : Ev → Store → RS) : (RS.nx e S).loop k = k e S := rfl
@[simp] theorem RS.loop_rt (d : D) (S : Store) (k : Ev → Store → RS) : (RS.rt d S).loop k = .rt d S := rfl
@[simp] theorem RS.loop_bk (e : Ev) (S : Store) (k : Ev → Store → RS) : (RS.bk e S).loop k = .nx e S := rfl
@[simp] theorem RS.loop_ct (e : Ev) (S : Store) (k : Ev → Store → RS) : (RS.ct e S).loop k = k e S := rfl
@[simp] theorem RS.loop_exc (c : Nat) (fs : List (Nat × D)) (e : Ev) (S : Store) (k : Ev → Store → RS) : (RS.exc c fs e S).loop k = .exc c fs e S := rfl
@[simp] theorem RS.loop_stuck (k : Ev → Store → RS) : RS.stuck.loop k = .stuck := rfl
section
variable (nm : Nms) (X : Cx)
def PostS (W : WX) (μ : List Addr) (H : Hp) (r : RS) (D : Ends) : Prop := match r with
  | .nx e S => ∀ σ' μ' H', Ext μ H μ' H' → Sim nm X.K X.mg μ' S H' → EvR nm X H' μ' e σ' → D.nx σ' H'
  | .bk e S => ∀ σ' μ' H', Ext μ H μ' H' → Sim nm X.K X.mg μ' S H' → EvR nm X H' μ' e σ' → D.bk σ' H'
  | .ct e S => ∀ σ' μ' H', Ext μ H μ' H' → Sim nm X.K X.mg μ' S H' → EvR nm X H' μ' e σ' → D.ct σ' H'
  | .rt d S => ∀ v μ' H', Ext μ H μ' H' → Sim nm X.K X.mg μ' S H' → RV X.K H' μ' v d → D.rt v H'
  | .exc c fs e S => ∀ σ' μ' H' C d, Ext μ H μ' H' → Sim nm X.K X.mg μ' S H' → EvR nm X H' μ' e σ' → ExcAt nm X.K X.mg H' μ' c fs C d → W (.ref C) d σ' H'
  | .stuck => False
def rdS (W : WX) (m : SM) : TS := fun D σ H => ∃ e S μ, EvR nm X H μ e σ ∧ Sim nm X.K X.mg μ S H ∧ PostS nm X W μ H (m e S) D
def rdG (W : WX) (g : GM) : TG := fun v σ H Q => ∃ d e S μ, RV X.K H μ v d ∧ EvR nm X H μ e σ ∧ Sim nm X.K X.mg μ S H ∧ PostS nm X W μ H (g d e S) { nx := Q, rt := fun _ _ => False }
def rdGs (W : WX) (g : List D → Ev → Store → RS) : TGs := fun vs σ H Q => ∃ ds e S μ, RVs X.K H μ vs ds ∧ EvR nm X H μ e σ ∧ Sim nm X.K X.mg μ S H ∧ PostS nm X W μ H (g ds e S) { nx := Q, rt := fun _ _ => False }
end
structure MS (nm : Nms) (X : Cx) (st : Stmt) (m : SM) : Prop where
  run : ∀ W, Takes X W → PS X st (rdS nm X W m)
structure MB (nm : Nms) (X : Cx) (sts : List Stmt) (m : SM) : Prop where
  run : ∀ W, Takes X W → PSs X sts (rdS nm X W m)
structure MG (nm : Nms) (X : Cx) (t : Expr) (g : GM) : Prop where
  run : ∀ W, Takes X W → PG X t (rdG nm X W g)
structure MGs (nm : Nms) (X : Cx) (ts : List Expr) (g : List D → Ev → Store → RS) : Prop where
  run : ∀ W, Takes X W → PGs X ts (rdGs nm X W g)
theorem _root_.L2.PS.imp {X : Cx} {e : Stmt} {t t' : TS} (h : PS X e t) (f : ∀ D σ H, t' D σ H → t D σ H) : PS X e t' := ⟨fun pins s σ H D I q => h.run pins s σ H D I (f _ _ _ q)⟩
theorem _root_.L2.PSs.imp {X : Cx} {e : List Stmt} {t t' : TS} (h : PSs X e t) (f : ∀ D σ H, t' D σ H → t D σ H) : PSs X e t' := ⟨fun pins s σ H D I q => h.run pins s σ H D I (f _ _ _ q)⟩
theorem _root_.L2.PG.imp {X : Cx} {e : Expr} {t t' : TG} (h : PG X e t) (f : ∀ v σ H Q, t' v σ H Q → t v σ H Q) : PG X e t' := ⟨fun pins s σ H v u Q I r q => h.run pins s σ H v u Q I r (f _ _ _ _ q)⟩
theorem _root_.L2.PGs.imp {X : Cx} {e : List Expr} {t t' : TGs} (h : PGs X e t) (f : ∀ v σ H Q, t' v σ H Q → t v σ H Q) : PGs X e t' := ⟨fun pins s σ H v u Q I r q => h.run pins s σ H v u Q I r (f _ _ _ _ q)⟩
section
variable {nm : Nms} {X : Cx} {W : WX} {H H' : Hp} {μ μ' : List Addr} {D : Ends} {σ : St}
theorem PostS.ext {r : RS} (x : Ext μ H μ' H') (h : PostS nm X W μ H r D) : PostS nm X W μ' H' r D := by
  cases r with
  | nx e S => exact fun σ2 μ2 H2 x2 => h σ2 μ2 H2 (x.trans x2)
  | bk e S => exact fun σ2 μ2 H2 x2 => h σ2 μ2 H2 (x.trans x2)
  | ct e S => exact fun σ2 μ2 H2 x2 => h σ2 μ2 H2 (x.trans x2)
  | rt d S => exact fun v μ2 H2 x2 => h v μ2 H2 (x.trans x2)
  | exc c fs e S => exact fun σ2 μ2 H2 C d x2 => h σ2 μ2 H2 C d (x.trans x2)
  | stuck => exact h
theorem PostS.mono {r : RS} {D' : Ends} (h : PostS nm X W μ H r D) (h1 : ∀ σ H, D.nx σ H → D'.nx σ H) (h2 : ∀ v H, D.rt v H → D'.rt v H) (h3 : ∀ σ H, D.bk σ H → D'.bk σ H) (h4 : ∀ σ H, D.ct σ H → D'.ct σ H) : PostS nm X W μ H r D' := by
  cases r with
  | nx e S => exact fun σ2 μ2 H2 x2 s r => h1 _ _ (h σ2 μ2 H2 x2 s r)
  | bk e S => exact fun σ2 μ2 H2 x2 s r => h3 _ _ (h σ2 μ2 H2 x2 s r)
  | ct e S => exact fun σ2 μ2 H2 x2 s r => h4 _ _ (h σ2 μ2 H2 x2 s r)
  | rt d S => exact fun v μ2 H2 x2 s r => h2 _ _ (h v μ2 H2 x2 s r)
  | exc c fs e S => exact h
  | stuck => exact h
/-- behind an expression -/
theorem PostS.toS {α : Type} {r : R α} {e : Ev} {k : α → Store → RS} (E : EvR nm X H μ e σ) (h : PostS nm X W μ H (r.toS e k) D) : PostX nm X W μ H σ r fun a S' μ' H' => PostS nm X W μ' H' (k a S') D := by
  cases r with
  | ok a S => exact fun μ2 H2 x2 _ => PostS.ext (r := k a S) x2 h
  | exc c fs S => exact fun μ2 H2 C d x2 s ea => h σ μ2 H2 C d x2 s (E.ext x2) ea
  | stuck => exact h
/-- behind a statement -/
theorem PostS.seq {r : RS} {k : Ev → Store → RS} (h : PostS nm X W μ H (r.seq k) D) : PostS nm X W μ H r { D with nx := fun σ H' => ∃ e S μ', EvR nm X H' μ' e σ ∧ Sim nm X.K X.mg μ' S H' ∧ PostS nm X W μ' H' (k e S) D } := by
  cases r with
  | nx e S => exact fun σ2 μ2 H2 x2 s r => ⟨e, S, μ2, r, s, PostS.ext (r := k e S) x2 h⟩
  | bk e S => exact h
  | ct e S => exact h
  | rt d S => exact h
  | exc c fs e S => exact h
  | stuck => exact h
theorem EvR.set {e : Ev} {i : Nat} {v : V} {d : BS.D} (E : EvR nm X H μ e σ) (r : RV X.K H μ v d) : EvR nm X H μ (e.set i d) (σ.set i (some v)) := by
  refine ⟨by simp [Ev.set, E.len], fun j d' hj => ?_, fun p hp => ?_⟩
  · by_cases e1 : i = j
    · subst e1
      have hl : i < e.sl.length := by
        have := (List.getElem?_eq_some_iff.mp hj).1
        simpa [Ev.set] using this
      have : (e.sl.set i (some d))[i]? = some (some d) := List.getElem?_set_self hl
      unfold Ev.set at hj
      rw [this] at hj; cases hj
      exact ⟨v, List.getElem?_set_self (by rw [← E.len]; exact hl), r⟩
    · unfold Ev.set at hj
      rw [show ({ sl := e.sl.set i (some d), ex := e.ex.filter fun p => p.1 != i } : Ev).sl = e.sl.set i (some d) from rfl, List.getElem?_set_ne e1] at hj
      obtain ⟨w, h1, h2⟩ := E.at_ j d' hj
      exact ⟨w, by rw [List.getElem?_set_ne e1]; exact h1, h2⟩
  · obtain ⟨h1, h2⟩ := List.mem_filter.mp (show p ∈ e.ex.filter fun p => p.1 != i from hp)
    obtain ⟨a, oe, C, dd, g1, g2, g3, g4⟩ := E.ex p h1
    have ne : i ≠ p.1 := by
      intro z
      simp [z] at h2
    exact ⟨a, oe, C, dd, by rw [List.getElem?_set_ne ne]; exact g1, g2, g3, g4⟩
end
section
variable {nm : Nms} {X : Cx} {pos : Pos} {e : Expr} {me : EM} {st : Stmt} {rest : List Stmt} {ms mr : SM}
def mSkip : SM := fun e S => .nx e S
def mSeq (a b : SM) : SM := fun e S => (a e S).seq b
theorem mb_nil : MB nm X [] mSkip := ⟨fun W tk => pss_nil.imp fun D σ H h => by
  obtain ⟨e, S, μ, E, s, p⟩ := h
  exact p σ μ H .refl s E⟩
theorem mb_cons (h1 : MS nm X st ms) (h2 : MB nm X rest mr) : MB nm X (st :: rest) (mSeq ms mr) := ⟨fun W tk => (pss_cons (h1.run W tk) (h2.run W tk)).imp fun D σ H h => by
  obtain ⟨e, S, μ, E, s, p⟩ := h
  exact ⟨e, S, μ, E, s, PostS.seq p⟩⟩
theorem mb_one (h1 : MS nm X st ms) : MB nm X [st] ms := ⟨fun W tk => pss_one (h1.run W tk)⟩
def mCnt : SM := fun e S => .ct e S
theorem ms_cnt : MS nm X (.Continue pos) mCnt := ⟨fun W tk => ps_continue.imp fun D σ H h => by
  obtain ⟨e, S, μ, E, s, p⟩ := h
  exact p σ μ H .refl s E⟩
def mExpr (m : EM) : SM := fun e S => (m e S).toS e fun _ S => .nx e S
theorem ms_expr (he : ME nm X e me) (hs : swapsWith e none pos.line X.env = pure false := by rfl) : MS nm X (.Expr e pos) (mExpr me) := ⟨fun W tk => (ps_expr (he.run W tk) hs).imp fun D σ H h => by
  obtain ⟨e, S, μ, E, s, p⟩ := h
  exact ⟨e, S, μ, E, s, (PostS.toS E p).mono fun a S' μ' H' x s' q v r => q σ μ' H' .refl s' (E.ext x)⟩⟩
def mRet (m : EM) : SM := fun e S => (m e S).toS e fun d S => .rt d S
theorem ms_ret (he : ME nm X e me) : MS nm X (.Return (some e) pos) (mRet me) := ⟨fun W tk => (ps_ret (he.run W tk)).imp fun D σ H h => by
  obtain ⟨e, S, μ, E, s, p⟩ := h
  exact ⟨e, S, μ, E, s, (PostS.toS E p).mono fun a S' μ' H' x s' q v r => q v μ' H' .refl s' r⟩⟩
def mIfS (c : TM) (a b : SM) : SM := fun e S => (c e S).toS e fun k S => if k = true then a e S else b e S
theorem ms_if {c : Expr} {tc : TM} {a b : List Stmt} {ma mb : SM} (hc : MT nm X c tc) (ha : MB nm X a ma) (hb : MB nm X b mb) : MS nm X (.If c a b pos) (mIfS tc ma mb) := ⟨fun W tk => (ps_if (hc.run W tk) (ha.run W tk) (hb.run W tk)).imp fun D σ H h => by
  obtain ⟨e, S, μ, E, s, p⟩ := h
  refine ⟨e, S, μ, E, s, (PostS.toS E p).mono fun k S' μ' H' x s' q => ?_⟩
  cases k with
  | true => rw [if_pos rfl] at q ⊢; exact ⟨e, S', μ', E.ext x, s', q⟩
  | false => rw [if_neg Bool.false_ne_true] at q ⊢; exact ⟨e, S', μ', E.ext x, s', q⟩⟩
def gNm (i : Nat) : GM := fun d e S => .nx (e.set i d) S
theorem mg_name {is : List Nat} (i : Nat) {x : Str} (hN : X.N.Nodup) (hl : locAll is X.N X.env.scope = true) (hi : X.N[i]? = some x := by rfl) (hc : is.contains i = true := by rfl) (hf : X.fn x = true ∨ X.env.scope.names.lookup x = some .local := by first | exact .inl rfl | exact .inr rfl | assumption) :
    MG nm X (.Name x pos) (gNm i) := ⟨fun W tk => (pg_name hN hi (loc_of hl hc hi).1 hf).imp fun v σ H Q h => by
  obtain ⟨d, e, S, μ, r, E, s, p⟩ := h
  exact p _ μ H .refl s (E.set r)⟩
abbrev GsM := List D → Ev → Store → RS
def gsNil : GsM := fun ds e S => match ds with
  | [] => .nx e S
  | _ => .stuck
def gsCons (g : GM) (r : GsM) : GsM := fun ds e S => match ds with
  | d :: ds => (g d e S).seq fun e S => r ds e S
  | [] => .stuck
theorem mgs_nil : MGs nm X [] gsNil := ⟨fun W tk => pgs_nil.imp fun vs σ H Q h => by
  obtain ⟨ds, e, S, μ, r, E, s, p⟩ := h
  unfold gsNil at p
  split at p
  · cases r; exact ⟨rfl, p σ μ H .refl s E⟩
  · exact False.elim p⟩
theorem mgs_cons {t : Expr} {ts : List Expr} {g : GM} {gr : GsM} (h1 : MG nm X t g) (h2 : MGs nm X ts gr) (hs : (assignEach (t :: ts) X.env).map (·.2) = assign t X.env :: (assignEach ts X.env).map (·.2) := by rfl) : MGs nm X (t :: ts) (gsCons g gr) := ⟨fun W tk => (pgs_cons (h1.run W tk) (h2.run W tk) hs).imp fun vs σ H Q h => by
  obtain ⟨ds, e, S, μ, r, E, s, p⟩ := h
  unfold gsCons at p
  split at p
  · cases r with | cons r1 rr =>
    rename_i d ds v vs
    refine ⟨v, vs, rfl, d, e, S, μ, r1, E, s, ?_⟩
    -- the rest's values have to be carried over
    have q := PostS.seq p
    cases hg : g d e S with
    | nx e' S' =>
      rw [hg] at p
      exact fun σ2 μ2 H2 x2 s2 E2 => ⟨ds, e', S', μ2, RVs.ext x2 _ rr, E2, s2, PostS.ext (r := gr ds e' S') x2 p⟩
    | bk e' S' => rw [hg] at p; exact fun σ2 μ2 H2 x2 s2 E2 => (p σ2 μ2 H2 x2 s2 E2)
    | ct e' S' => rw [hg] at p; exact fun σ2 μ2 H2 x2 s2 E2 => (p σ2 μ2 H2 x2 s2 E2)
    | rt d' S' => rw [hg] at p; exact fun v μ2 H2 x2 s2 E2 => (p v μ2 H2 x2 s2 E2)
    | exc c fs e' S' => rw [hg] at p; exact p
    | stuck => rw [hg] at p; exact p
  · exact False.elim p⟩
def gTp (n : Nat) (g : GsM) : GM := fun d e S => match tupOf d with
  | some ds => if ds.length = n then g ds e S else .stuck
  | none => .stuck
theorem mg_tup {es : List Expr} {k : Nat} {g : GsM} (hc : X.calm = true) (n : Nat) (h : MGs nm X es g) (hn : (assignEach es X.env).length = n := by rfl) (hst : (assignEach es X.env).findIdx? (·.1) = none := by rfl) : MG nm X (.Tuple es k pos) (gTp n g) := ⟨fun W tk => (pg_tup hc (h.run W tk) hn hst).imp fun v σ H Q hh => by
  obtain ⟨d, e, S, μ, r, E, s, p⟩ := hh
  unfold gTp at p
  split at p
  · rename_i ds hds
    split at p
    · rename_i hl
      obtain ⟨a, xs, rfl, hs, rs⟩ := tupOf_sq r hds
      exact ⟨a, xs, rfl, hs, by rw [rs.length, hl], ds, e, S, μ, rs, E, s, p⟩
    · exact False.elim p
  · exact False.elim p⟩
def mAsg (m : EM) (g : GM) : SM := fun e S => (m e S).toS e fun d S => g d e S
theorem asg_rd {W : WX} {D : Ends} {σ : St} {H : Hp} {g : GM} (tk : Takes X W) (h : rdS nm X W (mAsg me g) D σ H) (hg : ∀ d e S, ∀ d' S', g d e S ≠ .rt d' S' ∧ ∀ e', g d e S ≠ .bk e' S' ∧ g d e S ≠ .ct e' S') : tAsg (rdE nm X W me) (rdG nm X W g) D σ H := by
  obtain ⟨e, S, μ, E, s, p⟩ := h
  refine ⟨e, S, μ, E, s, (PostS.toS E p).mono fun d S' μ' H' x s' q v r => ⟨d, e, S', μ', r, E.ext x, s', ?_⟩⟩
  cases hh : g d e S' with
  | nx e' S2 => rw [hh] at q; exact q
  | bk e' S2 => exact absurd hh ((hg d e S' d S2).2 e').1
  | ct e' S2 => exact absurd hh ((hg d e S' d S2).2 e').2
  | rt d' S2 => exact absurd hh (hg d e S' d' S2).1
  | exc c fs e' S2 => rw [hh] at q; exact q
  | stuck => rw [hh] at q; exact q
/-- what a target never does -/
def GOk (g : GM) : Prop := ∀ d e S, ∀ d' S', g d e S ≠ .rt d' S' ∧ ∀ e', g d e S ≠ .bk e' S' ∧ g d e S ≠ .ct e' S'
theorem gok_nm (i : Nat) : GOk (gNm i) := fun d e S d' S' => ⟨fun h => (nomatch h), fun e' => ⟨fun h => (nomatch h), fun h => (nomatch h)⟩⟩
def GsOk (g : GsM) : Prop := ∀ d e S, ∀ d' S', g d e S ≠ .rt d' S' ∧ ∀ e', g d e S ≠ .bk e' S' ∧ g d e S ≠ .ct e' S'
theorem gsok_nil : GsOk gsNil := fun d e S d' S' => by
  unfold gsNil
  split <;> exact ⟨fun h => (nomatch h), fun e' => ⟨fun h => (nomatch h), fun h => (nomatch h)⟩⟩
theorem gsok_cons {g : GM} {r : GsM} (h1 : GOk g) (h2 : GsOk r) : GsOk (gsCons g r) := fun ds e S d' S' => by
  unfold gsCons
  split
  · rename_i d ds
    cases hg : g d e S with
    | nx e1 S1 => exact h2 ds e1 S1 d' S'
    | bk e1 S1 => exact absurd hg ((h1 d e S d S1).2 e1).1
    | ct e1 S1 => exact absurd hg ((h1 d e S d S1).2 e1).2
    | rt d1 S1 => exact absurd hg (h1 d e S d1 S1).1
    | exc c fs e1 S1 => exact ⟨fun h => (nomatch h), fun e' => ⟨fun h => (nomatch h), fun h => (nomatch h)⟩⟩
    | stuck => exact ⟨fun h => (nomatch h), fun e' => ⟨fun h => (nomatch h), fun h => (nomatch h)⟩⟩
  · exact ⟨fun h => (nomatch h), fun e' => ⟨fun h => (nomatch h), fun h => (nomatch h)⟩⟩
theorem gok_tp {n : Nat} {g : GsM} (h : GsOk g) : GOk (gTp n g) := fun d e S d' S' => by
  unfold gTp
  split
  · split
    · exact h _ _ _ _ _
    · exact ⟨fun h => (nomatch h), fun e' => ⟨fun h => (nomatch h), fun h => (nomatch h)⟩⟩
  · exact ⟨fun h => (nomatch h), fun e' => ⟨fun h => (nomatch h), fun h => (nomatch h)⟩⟩
def mSet (i : Nat) (m : EM) : SM := mAsg m (gNm i)
theorem ms_set {is : List Nat} (i : Nat) {x : Str} {pos' : Pos} (hN : X.N.Nodup) (hl : locAll is X.N X.env.scope = true) (he : ME nm X e me) (hi : X.N[i]? = some x := by rfl) (hc : is.contains i = true := by rfl)
    (hs : swapsWith e (some (.Name x pos')) pos.line X.env = pure false := by rfl) (hf : X.fn x = true ∨ X.env.scope.names.lookup x = some .local := by first | exact .inl rfl | exact .inr rfl | assumption) : MS nm X (.Assign [.Name x pos'] e pos) (mSet i me) :=
  ⟨fun W tk => (ps_set hN hi (loc_of hl hc hi).1 (he.run W tk) hs hf).imp fun D σ H h => by
    obtain ⟨e, S, μ, E, s, p⟩ := h
    exact ⟨e, S, μ, E, s, (PostS.toS E p).mono fun d S' μ' H' x s' q v r => q _ μ' H' .refl s' ((E.ext x).set r)⟩⟩
theorem ms_asg {t : Expr} {g : GM} (he : ME nm X e me) (hg : MG nm X t g) (ok : GOk g) (hs : swapsWithSole [t] e pos.line X.env = pure false := by rfl) (hw : swappedStores [t] e X.env = pure none := by rfl)
    (h1 : (assignEach [t] X.env).map (·.2) = [assign t X.env] := by rfl) : MS nm X (.Assign [t] e pos) (mAsg me g) :=
  ⟨fun W tk => (ps_asg (he.run W tk) (hg.run W tk) hs hw h1).imp fun D σ H h => asg_rd tk h ok⟩
/-- a, b = x, y -/
def mPar (i j : Nat) (m : AM) : SM := fun e S => (m e S).toS e fun ds S => match ds with
  | [a, b] => .nx ((e.set i a).set j b) S
  | _ => .stuck
theorem ms_par (i j : Nat) {x y : Str} {a b : Expr} {ma : AM} {px py pt : Pos} {kt k2 pt2} (hc : X.calm = true) (hN : X.N.Nodup) (ha : MA nm X [a, b] ma) (hi : X.N[i]? = some x := by rfl) (hj : X.N[j]? = some y := by rfl) (hij : i ≠ j := by decide)
    (hx : X.env.scope.names.lookup x = some .local := by rfl) (hy : X.env.scope.names.lookup y = some .local := by rfl)
    (hw : swappedStores [.Tuple [.Name x px, .Name y py] kt pt] (.Tuple [a, b] k2 pt2) X.env = pure (some [x, y]) := by rfl)
    (hs : swapsWithSole [.Tuple [.Name x px, .Name y py] kt pt] (.Tuple [a, b] k2 pt2) pos.line X.env = pure false := by rfl) : MS nm X (.Assign [.Tuple [.Name x px, .Name y py] kt pt] (.Tuple [a, b] k2 pt2) pos) (mPar i j ma) :=
  ⟨fun W tk => (ps_par hc hN hi hj hij hx hy (ha.run W tk) hw hs).imp fun D σ H h => by
    obtain ⟨e, S, μ, E, s, p⟩ := h
    refine ⟨e, S, μ, E, s, (PostS.toS E p).mono fun ds S' μ' H' x s' q vs r => ?_⟩
    split at q
    · cases r with | cons r1 r =>
      cases r with | cons r2 r =>
      cases r
      exact ⟨_, _, rfl, q _ μ' H' .refl s' (((E.ext x).set r1).set r2)⟩
    · exact False.elim q⟩
def putF_ (cs : List Nat) (f : Nat) (S : Store) (x y : D) : Option Store := match x with
  | .obj n => match S[n]? with
    | some (.ins c fs) => if cs.contains c = true ∧ fs.length < 1000 then some (S.set n (.ins c (setN f y fs))) else none
    | _ => none
  | _ => none
end
end BS
namespace BS
open PySem PySem.Spec PyProof.Rows L2
/-- G: what the store must bear at each turn -/
structure Wk where
  ds : List D
  G : Store → Prop
abbrev IM := Ev → Store → R Wk
def WOk (nm : Nms) (X : Cx) (J : It) (w : Wk) (C : Hp → List Addr → Prop) : Prop := ∀ (i : Nat) (S : Store) (μ : List Addr) (H : Hp), Sim nm X.K X.mg μ S H → C H μ → w.G S →
  (∀ d, w.ds[i]? = some d → J.go i H ∧ ∀ x H', J.yld i H x H' → Ext μ H μ H' ∧ Sim nm X.K X.mg μ S H' ∧ RV X.K H' μ x d) ∧ (w.ds.length ≤ i → J.stop i H)
def Stable (C : Hp → List Addr → Prop) : Prop := ∀ μ H μ' H', Ext μ H μ' H' → C H μ → C H' μ'
structure MI (nm : Nms) (X : Cx) (tg iter : Expr) (it : IM) : Prop where
  run : ∀ W, Takes X W → PI X tg iter (fun σ H R => ∃ e S μ, EvR nm X H μ e σ ∧ Sim nm X.K X.mg μ S H ∧ PostX nm X W μ H σ (it e S) fun w S' μ' H' => ∀ J C, Stable C → C H' μ' → WOk nm X J w C → R J H')
theorem _root_.L2.PI.imp {X : Cx} {tg e : Expr} {t t' : TI} (h : PI X tg e t) (f : ∀ σ H Q, t' σ H Q → t σ H Q) : PI X tg e t' := ⟨fun pins s σ H Q I q => h.run pins s σ H Q I (f _ _ _ q)⟩
section
variable {nm : Nms} {X : Cx} {tg : Expr} {e : Expr} {me : EM} {pos : Pos}
theorem wok_list {a : Addr} {xs : List V} {ds : List D} {w : Wk} {C : Hp → List Addr → Prop} (hd : w.ds = ds) (hc : ∀ S μ H, Sim nm X.K X.mg μ S H → C H μ → w.G S → ∃ xs, SqL X.K H a xs ∧ RVs X.K H μ xs ds) : WOk nm X (Itl X.K a) w C := by
  intro i S μ H s c g
  obtain ⟨xs, h1, h2⟩ := hc S μ H s c g
  refine ⟨fun d e => ?_, fun h => ⟨xs, h1, by rw [h2.length, ← hd]; exact h⟩⟩
  rw [hd] at e
  obtain ⟨v, e1, r⟩ := h2.get e
  refine ⟨⟨xs, v, h1, e1⟩, fun x H' y => ?_⟩
  obtain ⟨e2, y⟩ := y
  subst e2
  have : x = v := Option.some.inj ((y xs h1).symm.trans e1)
  subst this
  exact ⟨.refl, s, r⟩
theorem wok_tup {a : Addr} {xs : List V} {ds : List D} {w : Wk} {C : Hp → List Addr → Prop} (hd : w.ds = ds) (hc : ∀ S μ H, Sim nm X.K X.mg μ S H → C H μ → w.G S → ∃ xs, SqT X.K H a xs ∧ RVs X.K H μ xs ds) : WOk nm X (Itt X.K a) w C := by
  intro i S μ H s c g
  obtain ⟨xs, h1, h2⟩ := hc S μ H s c g
  refine ⟨fun d e => ?_, fun h => ⟨xs, h1, by rw [h2.length, ← hd]; exact h⟩⟩
  rw [hd] at e
  obtain ⟨v, e1, r⟩ := h2.get e
  refine ⟨⟨xs, v, h1, e1⟩, fun x H' y => ?_⟩
  obtain ⟨e2, y⟩ := y
  subst e2
  have : x = v := Option.some.inj ((y xs h1).symm.trans e1)
  subst this
  exact ⟨.refl, s, r⟩
def intsFrom (lo : Int) : Nat → List D
  | 0 => []
  | n + 1 => .int lo :: intsFrom (lo + 1) n
theorem intsFrom_len (lo : Int) : ∀ n, (intsFrom lo n).length = n
  | 0 => rfl
  | n + 1 => by rw [intsFrom, List.length_cons, intsFrom_len (lo + 1) n]
theorem intsFrom_get : ∀ (n i : Nat) (lo : Int), i < n → (intsFrom lo n)[i]? = some (.int (lo + i))
  | 0, _, _, h => absurd h (Nat.not_lt_zero _)
  | n + 1, 0, lo, _ => by simp [intsFrom]
  | n + 1, i + 1, lo, h => by
    rw [intsFrom, List.getElem?_cons_succ, intsFrom_get n i (lo + 1) (Nat.lt_of_succ_lt_succ h)]
    congr 2
    omega
theorem wok_range {lo : Int} {n : Nat} : WOk nm X (Itr lo n) ⟨intsFrom lo n, fun _ => True⟩ fun _ _ => True := by
  intro i S μ H s _ _
  refine ⟨fun d e => ?_, fun h => by rw [intsFrom_len] at h; exact h⟩
  have hl : i < n := by have := (List.getElem?_eq_some_iff.mp e).1; rwa [intsFrom_len] at this
  rw [intsFrom_get n i lo hl] at e
  cases e
  refine ⟨hl, fun x H' y => ?_⟩
  obtain ⟨e2, rfl⟩ := y
  subst e2
  exact ⟨.refl, s, .int _⟩
def rngOk (i : Int) : Prop := -(2 ^ 62) ≤ i ∧ i < 2 ^ 62
instance (i : Int) : Decidable (rngOk i) := inferInstanceAs (Decidable (_ ∧ _))
def iRng (as : AM) : IM := fun e S => (as e S).bind fun ds S => match ds with
  | [.int j] => if rngOk j then .ok ⟨intsFrom 0 j.toNat, fun _ => True⟩ S else .stuck
  | [.int i, .int j] => if rngOk i ∧ rngOk j then .ok ⟨intsFrom i (j - i).toNat, fun _ => True⟩ S else .stuck
  | _ => .stuck
theorem mi_range1 {a : Expr} {ma : AM} {p : Pos} (hg : GlN X "range") (hm : X.mg "range" = none) (ha : MA nm X [a] ma) (hs : starEach [a] X.env = [(false, eval a X.env)] := by rfl) : MI nm X tg (.Call (.Name "range" p) [a] [] pos) (iRng ma) := by
  refine ⟨fun W tk => (pi_range1 hg.g hm (ha.run W tk) hs).imp fun σ H R hh => ?_⟩
  obtain ⟨ev, S, μ, E, s, p⟩ := hh
  refine ⟨ev, S, μ, E, s, (post_len ha (Post.bind p)).mono fun d S1 μ1 H1 x1 s1 p1 v rv => ?_⟩
  obtain ⟨hl, p1⟩ := p1
  split at p1
  · split at p1
    · rename_i c
      cases rv with | cons r1 r => cases r1; cases r; exact ⟨_, rfl, c.1, c.2, p1 μ1 H1 .refl s1 _ _ (fun _ _ _ _ _ _ => True.intro) True.intro wok_range⟩
    · exact False.elim p1
  · cases hl
  · exact False.elim p1
theorem mi_range2 {a b : Expr} {ma : AM} {p : Pos} (hg : GlN X "range") (hm : X.mg "range" = none) (ha : MA nm X [a, b] ma) (hs : starEach [a, b] X.env = [(false, eval a X.env), (false, eval b X.env)] := by rfl) (hs2 : starEach [b] X.env = [(false, eval b X.env)] := by rfl) : MI nm X tg (.Call (.Name "range" p) [a, b] [] pos) (iRng ma) := by
  refine ⟨fun W tk => (pi_range2 hg.g hm (ha.run W tk) hs hs2).imp fun σ H R hh => ?_⟩
  obtain ⟨ev, S, μ, E, s, p⟩ := hh
  refine ⟨ev, S, μ, E, s, (post_len ha (Post.bind p)).mono fun d S1 μ1 H1 x1 s1 p1 v rv => ?_⟩
  obtain ⟨hl, p1⟩ := p1
  split at p1
  · cases hl
  · split at p1
    · rename_i c
      cases rv with | cons r1 r => cases r with | cons r2 r => cases r1; cases r2; cases r; exact ⟨_, _, rfl, ⟨c.1.1, c.1.2, c.2.1, c.2.2⟩, p1 μ1 H1 .refl s1 _ _ (fun _ _ _ _ _ _ => True.intro) True.intro wok_range⟩
    · exact False.elim p1
  · exact False.elim p1
/-- the signs of a text -/
def signs (z : Str) : List D := z.cps.toList.map strAt
end
open Classical in
/-- the loop itself -/
noncomputable def forL (G : Store → Prop) (g : GM) (b : SM) : List D → Ev → Store → RS
  | [], e, S => if G S then .nx e S else .stuck
  | d :: ds, e, S => if G S then ((g d e S).seq b).loop (forL G g b ds) else .stuck
noncomputable def mFor (it : IM) (g : GM) (b : SM) : SM := fun e S => (it e S).toS e fun w S => forL w.G g b w.ds e S
theorem forL_nil {g : GM} {b : SM} {e : Ev} {S : Store} : forL (fun _ => True) g b [] e S = .nx e S := by simp [forL]
theorem forL_cons {g : GM} {b : SM} {d : D} {ds : List D} {e : Ev} {S : Store} : forL (fun _ => True) g b (d :: ds) e S = ((g d e S).seq b).loop (forL (fun _ => True) g b ds) := by simp [forL]
section
variable {nm : Nms} {X : Cx} {tg iter : Expr} {it : IM} {g : GM} {body : List Stmt} {mb : SM} {pos : Pos}
/-- behind a turn -/
theorem PostS.loop {W : WX} {μ : List Addr} {H : Hp} {D : Ends} {r : RS} {k : Ev → Store → RS} (h : PostS nm X W μ H (r.loop k) D) :
    PostS nm X W μ H r { D with nx := fun σ H' => ∃ e S μ', EvR nm X H' μ' e σ ∧ Sim nm X.K X.mg μ' S H' ∧ Ext μ H μ' H' ∧ PostS nm X W μ' H' (k e S) D, ct := fun σ H' => ∃ e S μ', EvR nm X H' μ' e σ ∧ Sim nm X.K X.mg μ' S H' ∧ Ext μ H μ' H' ∧ PostS nm X W μ' H' (k e S) D, bk := D.nx } := by
  cases r with
  | nx e S => exact fun σ2 μ2 H2 x2 s r => ⟨e, S, μ2, r, s, x2, PostS.ext (r := k e S) x2 h⟩
  | bk e S => exact h
  | ct e S => exact fun σ2 μ2 H2 x2 s r => ⟨e, S, μ2, r, s, x2, PostS.ext (r := k e S) x2 h⟩
  | rt d S => exact h
  | exc c fs e S => exact h
  | stuck => exact h
/-- the turns of a loop -/
theorem for_tail {W : WX} {D : Ends} {σ : St} {w : Wk} {e : Ev} {S1 : Store} {μ1 : List Addr} {H1 : Hp} {J : It} {C : Hp → List Addr → Prop} (E1 : EvR nm X H1 μ1 e σ) (s1 : Sim nm X.K X.mg μ1 S1 H1) (p1 : PostS nm X W μ1 H1 (forL w.G g mb w.ds e S1) D) (ok : GOk g) (st : Stable C) (c0 : C H1 μ1) (ok' : WOk nm X J w C) :
    ∃ V : Nat → Nat → St → Hp → Prop, (∃ m, V 0 m σ H1) ∧ ∀ (i m : Nat) (σ : St) (H : Hp), V i m σ H → J.stop i H ∧ D.nx σ H ∨ J.go i H ∧ ∃ N : St → Hp → Prop, (∀ σ' H', N σ' H' → ∃ m', m' < m ∧ V (i + 1) m' σ' H') ∧ ∀ x H', J.yld i H x H' → rdG nm X W g x σ H' fun σ2 H2 => rdS nm X W mb { nx := N, rt := D.rt, bk := D.nx, ct := N } σ2 H2 := by
  refine ⟨fun i m σ H => m = w.ds.length - i ∧ i ≤ w.ds.length ∧ ∃ e S μ, EvR nm X H μ e σ ∧ Sim nm X.K X.mg μ S H ∧ C H μ ∧ PostS nm X W μ H (forL w.G g mb (w.ds.drop i) e S) D,
    ⟨w.ds.length, rfl, Nat.zero_le _, e, S1, μ1, E1, s1, c0, p1⟩, ?_⟩
  rintro i m σ H ⟨rfl, hi, e, S, μ, E, s, c, p⟩
  by_cases hlt : i < w.ds.length
  · obtain ⟨d, hd⟩ : ∃ d, w.ds[i]? = some d := ⟨_, List.getElem?_eq_getElem hlt⟩
    have hdr : w.ds.drop i = d :: w.ds.drop (i + 1) := by
      rw [List.drop_eq_getElem_cons hlt]
      rw [List.getElem?_eq_getElem hlt] at hd
      cases hd; rfl
    rw [hdr] at p
    unfold forL at p
    split at p
    · rename_i hG
      obtain ⟨go, yl⟩ := (ok' i S μ H s c hG).1 d hd
      refine .inr ⟨go, fun σ' H' => ∃ m', m' < w.ds.length - i ∧ m' = w.ds.length - (i + 1) ∧ i + 1 ≤ w.ds.length ∧ ∃ e S μ, EvR nm X H' μ e σ' ∧ Sim nm X.K X.mg μ S H' ∧ C H' μ ∧ PostS nm X W μ H' (forL w.G g mb (w.ds.drop (i + 1)) e S) D, fun σ' H' h => h, fun x H' y => ?_⟩
      obtain ⟨x2, s2, r2⟩ := yl x H' y
      refine ⟨d, e, S, μ, r2, E.ext x2, s2, ?_⟩
      have q := PostS.seq (PostS.loop (PostS.ext x2 p))
      have turn : ∀ {σ' : St} {H3 : Hp}, (∃ e S μ', EvR nm X H3 μ' e σ' ∧ Sim nm X.K X.mg μ' S H3 ∧ Ext μ H' μ' H3 ∧ PostS nm X W μ' H3 (forL w.G g mb (w.ds.drop (i + 1)) e S) D) →
          ∃ m', m' < w.ds.length - i ∧ m' = w.ds.length - (i + 1) ∧ i + 1 ≤ w.ds.length ∧ ∃ e S μ, EvR nm X H3 μ e σ' ∧ Sim nm X.K X.mg μ S H3 ∧ C H3 μ ∧ PostS nm X W μ H3 (forL w.G g mb (w.ds.drop (i + 1)) e S) D := by
        rintro σ' H3 ⟨e, S, μ3, E3, s3, x3, p3⟩
        exact ⟨_, by omega, rfl, hlt, e, S, μ3, E3, s3, st _ _ _ _ (x2.trans x3) c, p3⟩
      have conv : ∀ {σ' : St} {H3 : Hp}, (∃ e S μ', EvR nm X H3 μ' e σ' ∧ Sim nm X.K X.mg μ' S H3 ∧ PostS nm X W μ' H3 (mb e S) { D with nx := fun σ H'' => ∃ e S μ', EvR nm X H'' μ' e σ ∧ Sim nm X.K X.mg μ' S H'' ∧ Ext μ H' μ' H'' ∧ PostS nm X W μ' H'' (forL w.G g mb (w.ds.drop (i + 1)) e S) D, ct := fun σ H'' => ∃ e S μ', EvR nm X H'' μ' e σ ∧ Sim nm X.K X.mg μ' S H'' ∧ Ext μ H' μ' H'' ∧ PostS nm X W μ' H'' (forL w.G g mb (w.ds.drop (i + 1)) e S) D, bk := D.nx }) →
          rdS nm X W mb { D with nx := fun σ' H' => ∃ m', m' < w.ds.length - i ∧ m' = w.ds.length - (i + 1) ∧ i + 1 ≤ w.ds.length ∧ ∃ e S μ, EvR nm X H' μ e σ' ∧ Sim nm X.K X.mg μ S H' ∧ C H' μ ∧ PostS nm X W μ H' (forL w.G g mb (w.ds.drop (i + 1)) e S) D, ct := fun σ' H' => ∃ m', m' < w.ds.length - i ∧ m' = w.ds.length - (i + 1) ∧ i + 1 ≤ w.ds.length ∧ ∃ e S μ, EvR nm X H' μ e σ' ∧ Sim nm X.K X.mg μ S H' ∧ C H' μ ∧ PostS nm X W μ H' (forL w.G g mb (w.ds.drop (i + 1)) e S) D, bk := D.nx } σ' H3 := by
        rintro σ' H3 ⟨e, S, μ3, E3, s3, p3⟩
        exact ⟨e, S, μ3, E3, s3, p3.mono (fun _ _ h => turn h) (fun _ _ h => h) (fun _ _ h => h) (fun _ _ h => turn h)⟩
      cases hh : g d e S with
      | nx e' S' => rw [hh] at q; exact fun σ3 μ3 H3 x3 s3 E3 => conv (q σ3 μ3 H3 x3 s3 E3)
      | bk e' S' => exact absurd hh ((ok d e S d S').2 e').1
      | ct e' S' => exact absurd hh ((ok d e S d S').2 e').2
      | rt d' S' => exact absurd hh (ok d e S d' S').1
      | exc c fs e' S' => rw [hh] at q; exact q
      | stuck => rw [hh] at q; exact q
    · exact False.elim p
  · have hz : w.ds.drop i = [] := List.drop_eq_nil_of_le (Nat.le_of_not_lt hlt)
    rw [hz] at p
    unfold forL at p
    split at p
    · rename_i hG
      exact .inl ⟨(ok' i S μ H s c hG).2 (Nat.le_of_not_lt hlt), p σ μ H .refl s E⟩
    · exact False.elim p
theorem ms_for (hp : PassesOwn (model X.prog X.w) X.A X.env X.xe) (hc : X.calm = true) (hi : MI nm X tg iter it) (hg : MG nm X tg g) (ok : GOk g) (hb : MB nm X body mb) (hs : ∀ x, foldedSetIterable iter X.env x = pure x := by intro _; rfl) : MS nm X (.For tg iter body [] pos) (mFor it g mb) := by
  refine ⟨fun W tk => (ps_for hp hc (hi.run W tk) (hg.run W tk) (hb.run W tk) hs).imp fun D σ H h => ?_⟩
  obtain ⟨e, S, μ, E, s, p⟩ := h
  refine ⟨e, S, μ, E, s, (PostS.toS E p).mono fun w S1 μ1 H1 x1 s1 p1 J C st c0 ok' => ?_⟩
  exact for_tail (E.ext x1) s1 p1 ok st c0 ok'
def whileL (c : TM) (b : SM) : Nat → SM
  | 0, _, _ => .stuck
  | n + 1, e, S => (c e S).toS e fun k S => if k = true then (b e S).loop (whileL c b n) else .nx e S
def mWhile (n : Nat) (c : TM) (b : SM) : SM := whileL c b n
theorem ms_while (n : Nat) {c : Expr} {mc : TM} (hp : PassesOwn (model X.prog X.w) X.A X.env X.xe) (hc : MT nm X c mc) (hb : MB nm X body mb) : MS nm X (.While c body [] pos) (mWhile n mc mb) := by
  refine ⟨fun W tk => (ps_while hp (hc.run W tk) (hb.run W tk)).imp fun D σ H h => ?_⟩
  obtain ⟨e, S, μ, E, s, p⟩ := h
  refine ⟨fun m σ H => ∃ e S μ, EvR nm X H μ e σ ∧ Sim nm X.K X.mg μ S H ∧ PostS nm X W μ H (whileL mc mb m e S) D, ⟨n, e, S, μ, E, s, p⟩, ?_⟩
  rintro m σ H ⟨e, S, μ, E, s, p⟩
  cases m with
  | zero => exact False.elim p
  | succ m =>
    unfold whileL at p
    refine ⟨e, S, μ, E, s, (PostS.toS E p).mono fun k S1 μ1 H1 x1 s1 p1 => ?_⟩
    cases k with
    | false => rw [if_neg Bool.false_ne_true] at p1 ⊢; exact p1 σ μ1 H1 .refl s1 (E.ext x1)
    | true =>
      rw [if_pos rfl] at p1 ⊢
      have conv : ∀ {σ : St} {H' : Hp}, (∃ e S μ', EvR nm X H' μ' e σ ∧ Sim nm X.K X.mg μ' S H' ∧ Ext μ1 H1 μ' H' ∧ PostS nm X W μ' H' (whileL mc mb m e S) D) → ∃ m', m' < m + 1 ∧ ∃ e S μ, EvR nm X H' μ e σ ∧ Sim nm X.K X.mg μ S H' ∧ PostS nm X W μ H' (whileL mc mb m' e S) D := by
        rintro σ H' ⟨e, S, μ, E, s, _, p⟩
        exact ⟨m, Nat.lt_succ_self m, e, S, μ, E, s, p⟩
      refine ⟨fun σ' H' => ∃ m', m' < m + 1 ∧ ∃ e S μ, EvR nm X H' μ e σ' ∧ Sim nm X.K X.mg μ S H' ∧ PostS nm X W μ H' (whileL mc mb m' e S) D, fun σ' H' h => h, e, S1, μ1, E.ext x1, s1, (PostS.loop p1).mono (fun _ _ h => conv h) (fun _ _ h => h) (fun _ _ h => h) (fun _ _ h => conv h)⟩
end
end BS
namespace BS
open PySem PySem.Spec PyProof.Rows L2
section
variable {nm : Nms} {X : Cx} {pos : Pos} {e : Expr} {me : EM}
def putD (kvs : List (Key × D)) (k : Key) (v : D) : List (Key × D) := if (kvs.any fun kv => decide (kv.1 = k)) = true then kvs.map (fun kv => if kv.1 = k then (kv.1, v) else kv) else kvs ++ [(k, v)]
theorem any_rk {K : PySem.W.Frag} {H : Hp} {μ : List Addr} (k : Key) : ∀ {ys : List (Key × V)} {kvs : List (Key × D)}, RK K H μ ys kvs → (ys.any fun kv => decide (kv.1 = k)) = kvs.any fun kv => decide (kv.1 = k)
  | _, _, .nil => rfl
  | p :: ys, q :: kvs, .cons r t => by rw [List.any_cons, List.any_cons, any_rk k t, r.1]
theorem paired_app {α β : Type} {R : α → β → Prop} : ∀ {l : List α} {m : List β} {l' : List α} {m' : List β}, Paired R l m → Paired R l' m' → Paired R (l ++ l') (m ++ m')
  | _, _, _, _, .nil, h => h
  | _, _, _, _, .cons r t, h => .cons r (paired_app t h)
theorem put_rk {K : PySem.W.Frag} {H : Hp} {μ : List Addr} {k : Key} {v : V} {d : D} (rv : RV K H μ v d) {ys : List (Key × V)} {kvs : List (Key × D)} (r : RK K H μ ys kvs) : RK K H μ (putK ys k v) (putD kvs k d) := by
  unfold putK putD
  rw [any_rk k r]
  split
  · rename_i hany
    clear hany
    induction r with
    | nil => exact .nil
    | @cons p q ys kvs r t ih =>
      rw [List.map_cons, List.map_cons]
      refine .cons ?_ ih
      rw [r.1]
      split
      · exact ⟨rfl, rv⟩
      · exact ⟨r.1, r.2⟩
  · exact paired_app r (.cons ⟨rfl, rv⟩ .nil)
def dropD (kvs : List (Key × D)) (k : Key) : List (Key × D) := kvs.filter fun kv => decide (kv.1 ≠ k)
theorem drop_rk {K : PySem.W.Frag} {H : Hp} {μ : List Addr} {k : Key} {ys : List (Key × V)} {kvs : List (Key × D)} (r : RK K H μ ys kvs) : RK K H μ (dropK ys k) (dropD kvs k) := by
  unfold dropK dropD
  induction r with
  | nil => exact .nil
  | @cons p q ys kvs r t ih =>
    rw [List.filter_cons, List.filter_cons, r.1]
    split
    · exact .cons r ih
    · exact ih
theorem rk_len {K : PySem.W.Frag} {H : Hp} {μ : List Addr} {ys : List (Key × V)} {kvs : List (Key × D)} (r : RK K H μ ys kvs) : ys.length = kvs.length := Paired.length r
def setS (S : Store) (o i v : D) : Option Store := match o with
  | .obj n => match S[n]? with
    | some (.lst ds) => match i with
      | .int k => (ixN ds.length k).map fun j => S.set n (.lst (ds.set j v))
      | _ => none
    | some (.dct kvs) => match keyOf i with
      | some k => if kvs.length < sizeLine then some (S.set n (.dct (putD kvs k v))) else none
      | none => none
    | _ => none
  | _ => none
def rSetD (nm : Nms) (X : Cx) : TSet := fun o i v H Q => ∃ S μ ox ix vx S', Sim nm X.K X.mg μ S H ∧ RV X.K H μ o ox ∧ RV X.K H μ i ix ∧ RV X.K H μ v vx ∧ setS S ox ix vx = some S' ∧ ∀ H', Ext μ H μ H' → Sim nm X.K X.mg μ S' H' → Q H'
theorem set_D {k : Nat} (hr : L2H.RoomH k X.A) : PSet X (rSetD nm X) := by
  intro pins s σ H o i v ov iv u Q I ro ri rv h
  obtain ⟨S, μ, ox, ix, vx, S', sm, r1, r2, r3, e, q⟩ := h
  have hun := hr.un
  unfold setS at e
  split at e
  · cases r1 with | @obj a n en =>
    split at e
    · rename_i ds hds
      split at e
      · obtain ⟨j, hj, rfl⟩ := Option.map_eq_some_iff.mp e
        cases r2
        obtain ⟨xs, e1, r⟩ := sm.ob _ _ _ en hds
        have x := Ext.wrote (H := H) (u := .lst (xs.set j v)) (List.mem_of_getElem? en) (NF.of e1)
        exact set_list pins s σ H _ _ v ov iv u Q I ro ri rv ⟨a, xs, _, j, rfl, rfl, e1, by rw [r.length]; exact hj, q _ x (sm.wrote en ⟨_, upd_same, RVs.ext x _ (r.set j r3)⟩)⟩
      · cases e
    · rename_i kvs hds
      split at e
      · rename_i k hk
        split at e
        · rename_i hl
          cases e
          have ek := keyOf_kV r2 hk
          subst ek
          obtain ⟨ys, e1, r⟩ := sm.ob _ _ _ en hds
          have x := Ext.wrote (H := H) (u := .dK (putK ys k v)) (List.mem_of_getElem? en) (NF.of e1)
          cases ro
          exact d_setItem (by omega) I (DPut.k e1 (by rw [rk_len r]; exact hl)) ri rv fun s' I' => ⟨_, I', q _ x (sm.wrote en ⟨_, upd_same, RK.ext x (put_rk r3 r)⟩)⟩
        · cases e
      · cases e
    · cases e
  · cases e
def gSb (o i : EM) : GM := fun v e S => (o e S).toS e fun x S => (i e S).toS e fun y S => match setS S x y v with
  | some S => .nx e S
  | none => .stuck
theorem mg_sub {k : Nat} (hr : L2H.RoomH k X.A) {o i : Expr} {mo mi : EM} (ho : ME nm X o mo) (hi : ME nm X i mi) (ha : ∀ v, assign (.Subscript o i pos) X.env v = (do
      let ov ← holding [v] (eval o X.env)
      let iv ← holding [v, ov] (eval i X.env)
      standAt pos
      holding [v, ov, iv] (setItem ov iv v)
      release [v, ov, iv] []) := by intro _; rfl) : MG nm X (.Subscript o i pos) (gSb mo mi) := ⟨fun W tk => (pg_sub (ho.run W tk) (hi.run W tk) (set_D hr) ha).imp fun v σ H Q h => by
  obtain ⟨d, e, S, μ, r, E, s, p⟩ := h
  refine ⟨e, S, μ, E, s, (PostS.toS E p).mono fun ox S1 μ1 H1 x1 s1 p1 vo ro => ?_⟩
  refine ⟨e, S1, μ1, E.ext x1, s1, (PostS.toS (E.ext x1) p1).mono fun ix S2 μ2 H2 x2 s2 p2 vi ri => ?_⟩
  split at p2
  · rename_i S3 hS
    exact ⟨S2, μ2, ox, ix, d, S3, s2, ro.ext x2, ri, (r.ext x1).ext x2, hS, fun H3 x3 s3 => p2 σ μ2 H3 x3 s3 (((E.ext x1).ext x2).ext x3)⟩
  · exact False.elim p2⟩
theorem gok_sb {o i : EM} : GOk (gSb o i) := fun d e S d' S' => by
  unfold gSb
  cases h1 : o e S with
  | ok x S1 =>
    rw [R.toS_ok]
    cases h2 : i e S1 with
    | ok y S2 =>
      rw [R.toS_ok]
      split <;> exact ⟨fun h => (nomatch h), fun e' => ⟨fun h => (nomatch h), fun h => (nomatch h)⟩⟩
    | exc c fs S2 => exact ⟨fun h => (nomatch h), fun e' => ⟨fun h => (nomatch h), fun h => (nomatch h)⟩⟩
    | stuck => exact ⟨fun h => (nomatch h), fun e' => ⟨fun h => (nomatch h), fun h => (nomatch h)⟩⟩
  | exc c fs S2 => exact ⟨fun h => (nomatch h), fun e' => ⟨fun h => (nomatch h), fun h => (nomatch h)⟩⟩
  | stuck => exact ⟨fun h => (nomatch h), fun e' => ⟨fun h => (nomatch h), fun h => (nomatch h)⟩⟩
def mSetI (m o i : EM) : SM := mAsg m (gSb o i)
theorem ms_setI {k : Nat} (hr : L2H.RoomH k X.A) {o i : Expr} {mo mi : EM} {pos' : Pos} (ho : ME nm X o mo) (hi : ME nm X i mi) (he : ME nm X e me) (ha : ∀ v, assign (.Subscript o i pos') X.env v = (do
      let ov ← holding [v] (eval o X.env)
      let iv ← holding [v, ov] (eval i X.env)
      standAt pos'
      holding [v, ov, iv] (setItem ov iv v)
      release [v, ov, iv] []) := by intro _; rfl) (hs : swapsWithSole [.Subscript o i pos'] e pos.line X.env = pure false := by rfl) (hw : swappedStores [.Subscript o i pos'] e X.env = pure none := by rfl)
    (h1 : (assignEach [.Subscript o i pos'] X.env).map (·.2) = [assign (.Subscript o i pos') X.env] := by rfl) : MS nm X (.Assign [.Subscript o i pos'] e pos) (mSetI me mo mi) :=
  ms_asg he (mg_sub hr ho hi ha) gok_sb hs hw h1
def iAdd : Store → D → D → Option D := fun _ x y => match x, y with
  | .int i, .int j => some (.int (i + j))
  | .str a, .str b => if a.length + b.length ≤ sizeLine then some (.str (a ++ b)) else none
  | _, _ => none
theorem i_add : OpD nm X (inplaceOp .Add) iAdd := by
  intro pins s σ H x y v u Q I rv ru hh
  obtain ⟨S, μ, dx, dy, d, sm, rx, ry, e, q⟩ := hh
  unfold iAdd at e
  split at e
  · cases rx; cases ry; cases e
    exact iop_add pins s σ H _ _ v u Q I rv ru ⟨_, _, rfl, rfl, q _ μ H .refl sm (.int _)⟩
  · split at e
    · rename_i c; cases rx; cases ry; cases e
      exact iop_add_str pins s σ H _ _ v u Q I rv ru ⟨_, _, rfl, rfl, c, q _ μ H .refl sm (.str _)⟩
    · cases e
  · cases e
def mAug (i : Nat) (f : Store → D → D → Option D) (m : EM) : SM := fun e S => match e.sl[i]? with
  | some (some x) => (m e S).toS e fun y S => (lift2 f S x y).toS e fun z S => .nx (e.set i z) S
  | _ => .stuck
theorem ms_aug {is : List Nat} (i : Nat) {x : Str} {op : Operator} {f : Store → D → D → Option D} {pos' : Pos} (hN : X.N.Nodup) (hl : locAll is X.N X.env.scope = true) (ho : OpD nm X (inplaceOp op) f) (he : ME nm X e me) (hi : X.N[i]? = some x := by rfl) (hc : is.contains i = true := by rfl)
    (hf : X.fn x = true ∨ X.env.scope.names.lookup x = some .local := by first | exact .inl rfl | exact .inr rfl | assumption) : MS nm X (.AugAssign (.Name x pos') op e pos) (mAug i f me) :=
  ⟨fun W tk => (ps_aug hN hi (loc_of hl hc hi).1 (he.run W tk) (ti := rOpD nm X f) (fun pins s σ H x y v u Q I rx ry q => ho pins s σ H x y v u Q I rx ry q) hf).imp fun D σ H h => by
    obtain ⟨e, S, μ, E, s, p⟩ := h
    unfold mAug at p
    split at p
    · rename_i d hd
      obtain ⟨v, h1, r1⟩ := E.at_ i d hd
      refine ⟨v, h1, e, S, μ, E, s, (PostS.toS E p).mono fun y S1 μ1 H1 x1 s1 p1 u ru => ?_⟩
      unfold lift2 at p1
      split at p1
      · rename_i z hz
        exact ⟨S1, μ1, d, y, z, s1, r1.ext x1, ru, hz, fun w μ2 H2 x2 s2 r2 => p1 _ μ2 H2 x2 s2 (((E.ext x1).ext x2).set r2)⟩
      · exact False.elim p1
    · exact False.elim p⟩
/-- del d[k] -/
def delS (S : Store) (o i : D) : Option Store := match o with
  | .obj n => match S[n]? with
    | some (.dct kvs) => match keyOf i with
      | some k => if (getK kvs k).isSome = true then some (S.set n (.dct (dropD kvs k))) else none
      | none => none
    | _ => none
  | _ => none
section
variable {C : Addr} {bmB : List Value} {B newId initId : String}
/-- X() -/
theorem pmk_own0 {x : Str} {p pos : Pos} (F : ExcBaseFacts B newId initId bmB) (q : PySem.W.excIn X.K C bmB newId = true) (gC : X.mg x = some (.ref C)) (kC : PySem.W.keepIn X.K (.ref C) = true) (r : Raises X (.ref C)) (hg : Gl X x)
    (hdb : (x == ("__debug__" : Str)) = false := by decide) : PMk X (.Call (.Name x p) [] [] pos) (fun _ H Q => Q (.ref C) none H) := by
  intro pins s σ H Q I h
  refine wpAny_Call_Name_kw (ld_glob I hg gC ?_ hdb)
  refine PySem.W.callWith_K0 I.kIn kC ?_
  obtain ⟨bm, N, nm, qn, bs, hdct, sn, sub, ab, col, dd, k0, k1, k2, k3, k5, mN, hC, hN, hni, T⟩ := exc_obj I.kIn q
  refine wpAny_call_exc_subT F T hC hN hni (fun h' e hm => ?_) (by show 0 ≤ sizeLine; decide)
  exact mk_of I hm r h (I.hok.gone hm.new)
end
/-- what the written part says of an exception class without own __init__ -/
def ExcOk (K : PySem.W.Frag) (mg : Str → Option Value) (x : Str) : Prop := ∃ C, mg x = some (.ref C) ∧ PySem.W.excIn K C [.type "ValueError", .type "Exception", .type "BaseException", .type "object"] "ValueError.__new__" = true ∧ PySem.W.keepIn K (.ref C) = true ∧
  PySem.W.subIn K (.ref C) (.type "BaseException") = some true ∧ PySem.W.typeIn K (.ref C) = some (.type "type")
def mRaise0 (c : Nat) : SM := fun e S => .exc c [] e S
theorem ms_raise0 {c : Nat} {x : Str} {p pos' : Pos} (h : ExcOk X.K X.mg x) (hc : X.calm = true) (hg : GlN X x) (hx : nm.cls c = x) : MS nm X (.Raise (some (.Call (.Name x p) [] [] pos')) none pos) (mRaise0 c) := by
  subst hx
  obtain ⟨C, h1, h2, h3, h4, h5⟩ := h
  exact ⟨fun W tk => (ps_raise hc tk (pmk_own0 PySem.F.excBase_ValueError h2 h1 h3 (raises_own h4 h5) hg.g hg.d)).imp fun D σ H hh => by
    obtain ⟨e, S, μ, E, s, p⟩ := hh
    exact p σ μ H C none .refl s E ⟨h1, rfl⟩⟩
def RS.clr (r : RS) : RS := match r with
  | .nx e S => .nx e.clr S
  | .bk e S => .bk e.clr S
  | .ct e S => .ct e.clr S
  | .exc c fs e S => .exc c fs e.clr S
  | r => r
@[simp] theorem RS.clr_nx (e : Ev) (S : Store) : (RS.nx e S).clr = .nx e.clr S := rfl
@[simp] theorem RS.clr_bk (e : Ev) (S : Store) : (RS.bk e S).clr = .bk e.clr S := rfl
@[simp] theorem RS.clr_ct (e : Ev) (S : Store) : (RS.ct e S).clr = .ct e.clr S := rfl
@[simp] theorem RS.clr_rt (d : D) (S : Store) : (RS.rt d S).clr = .rt d S := rfl
@[simp] theorem RS.clr_exc (c : Nat) (fs : List (Nat × D)) (e : Ev) (S : Store) : (RS.exc c fs e S).clr = .exc c fs e.clr S := rfl
@[simp] theorem RS.clr_stuck : RS.stuck.clr = .stuck := rfl
/-- which of the known classes a clause catches -/
structure Catch (K : PySem.W.Frag) (mg : Str → Option Value) (nm : Nms) (x : Str) (yes no : List Nat) : Prop where
  ex : ∃ cv, mg x = some cv ∧ (∀ c ∈ yes, ∀ C, mg (nm.cls c) = some (.ref C) → PySem.W.exmOne K (.ref C) cv = some true) ∧ (∀ c ∈ no, ∀ C, mg (nm.cls c) = some (.ref C) → PySem.W.exmOne K (.ref C) cv = some false)
/-- a body's exception, by its class -/
def RS.caught (r : RS) (yes no : List Nat) (k : Nat → List (Nat × D) → Ev → Store → RS) : RS := match r with
  | .exc c fs e S => if yes.contains c = true then k c fs e.clr S else if no.contains c = true then .exc c fs e.clr S else .stuck
  | r => r.clr
@[simp] theorem RS.caught_nx (e : Ev) (S : Store) (y n : List Nat) (k) : (RS.nx e S).caught y n k = .nx e.clr S := rfl
@[simp] theorem RS.caught_bk (e : Ev) (S : Store) (y n : List Nat) (k) : (RS.bk e S).caught y n k = .bk e.clr S := rfl
@[simp] theorem RS.caught_ct (e : Ev) (S : Store) (y n : List Nat) (k) : (RS.ct e S).caught y n k = .ct e.clr S := rfl
@[simp] theorem RS.caught_rt (d : D) (S : Store) (y n : List Nat) (k) : (RS.rt d S).caught y n k = .rt d S := rfl
@[simp] theorem RS.caught_stuck (y n : List Nat) (k) : RS.stuck.caught y n k = .stuck := rfl
@[simp] theorem RS.caught_exc (c : Nat) (fs : List (Nat × D)) (e : Ev) (S : Store) (y n : List Nat) (k) : (RS.exc c fs e S).caught y n k = if y.contains c = true then k c fs e.clr S else if n.contains c = true then .exc c fs e.clr S else .stuck := rfl
/-- a suite that raises nothing -/
def RS.nox (r : RS) : RS := match r with
  | .exc _ _ _ _ => .stuck
  | r => r.clr
@[simp] theorem RS.nox_nx (e : Ev) (S : Store) : (RS.nx e S).nox = .nx e.clr S := rfl
@[simp] theorem RS.nox_bk (e : Ev) (S : Store) : (RS.bk e S).nox = .bk e.clr S := rfl
@[simp] theorem RS.nox_ct (e : Ev) (S : Store) : (RS.ct e S).nox = .ct e.clr S := rfl
@[simp] theorem RS.nox_rt (d : D) (S : Store) : (RS.rt d S).nox = .rt d S := rfl
@[simp] theorem RS.nox_exc (c : Nat) (fs : List (Nat × D)) (e : Ev) (S : Store) : (RS.exc c fs e S).nox = .stuck := rfl
@[simp] theorem RS.nox_stuck : RS.stuck.nox = .stuck := rfl
def mTry (yes no : List Nat) (b s : SM) : SM := fun e S => (b e.clr S).caught yes no fun _ _ e S => (s e S).nox
theorem EvR.clr {X X' : Cx} {H : Hp} {μ : List Addr} {e : Ev} {σ : St} (E : EvR nm X H μ e σ) (hK : X'.K = X.K) : EvR nm X' H μ e.clr σ :=
  ⟨E.len, fun i d h => by rw [hK]; exact E.at_ i d h, fun p hp => absurd (show p ∈ ([] : List _) from hp) (by simp)⟩
/-- what is wanted with the caught exceptions forgotten holds in every other context of the same program -/
theorem PostS.back {X X' : Cx} {W : WX} {μ : List Addr} {H : Hp} {D : Ends} {r : RS} (hK : X'.K = X.K) (hm : X'.mg = X.mg) (h : PostS nm X W μ H r.clr D) : PostS nm X' W μ H r D := by
  cases r with
  | nx e S => exact fun σ' μ' H' x s E => h σ' μ' H' x (by rw [← hK, ← hm]; exact s) (E.clr hK.symm)
  | bk e S => exact fun σ' μ' H' x s E => h σ' μ' H' x (by rw [← hK, ← hm]; exact s) (E.clr hK.symm)
  | ct e S => exact fun σ' μ' H' x s E => h σ' μ' H' x (by rw [← hK, ← hm]; exact s) (E.clr hK.symm)
  | rt d S => exact fun v μ' H' x s r => h v μ' H' x (by rw [← hK, ← hm]; exact s) (by rw [← hK]; exact r)
  | exc c fs e S => exact fun σ' μ' H' C d x s E a => h σ' μ' H' C d x (by rw [← hK, ← hm]; exact s) (E.clr hK.symm) (by rw [← hK, ← hm]; exact a)
  | stuck => exact h
theorem PostS.noW {W : WX} {μ : List Addr} {H : Hp} {D : Ends} {r : RS} (h : PostS nm X W μ H r.nox D) : PostS nm X (fun _ _ _ _ => False) μ H r.clr D := by
  cases r <;> first | exact h | exact False.elim h
/-- the reading of a body or suite in a context that is not known yet -/
def rdC (nm : Nms) (X : Cx) (W : WX) (m : SM) : TS := fun D σ H => ∃ e S μ, EvR nm X H μ e σ ∧ Sim nm X.K X.mg μ S H ∧ e.ex = [] ∧ PostS nm X W μ H (m e S).clr D
theorem rdC_to (X : Cx) {X' : Cx} {W : WX} {m : SM} {D : Ends} {σ : St} {H : Hp} (hK : X'.K = X.K) (hm : X'.mg = X.mg) (h : rdC nm X W m D σ H) : rdS nm X' W m D σ H := by
  obtain ⟨e, S, μ, E, s, ee, p⟩ := h
  have E' := E.clr (X' := X') hK
  have : e.clr = e := by
    obtain ⟨a, b⟩ := e
    cases ee; rfl
  rw [this] at E'
  exact ⟨e, S, μ, E', by rw [hK, hm]; exact s, PostS.back hK hm p⟩
/-- n stands for the exception -/
def Ev.exn (e : Ev) (i c : Nat) (fs : List (Nat × D)) : Ev := { sl := e.sl.set i none, ex := [(i, c, fs)] }
/-- n goes -/
def RS.gone (r : RS) (i : Nat) : RS := match r with
  | .nx e S => .nx ⟨e.sl.set i none, []⟩ S
  | .bk e S => .bk ⟨e.sl.set i none, []⟩ S
  | .ct e S => .ct ⟨e.sl.set i none, []⟩ S
  | .exc _ _ _ _ => .stuck
  | r => r
@[simp] theorem RS.gone_nx (i : Nat) (e : Ev) (S : Store) : (RS.nx e S).gone i = .nx ⟨e.sl.set i none, []⟩ S := rfl
@[simp] theorem RS.gone_bk (i : Nat) (e : Ev) (S : Store) : (RS.bk e S).gone i = .bk ⟨e.sl.set i none, []⟩ S := rfl
@[simp] theorem RS.gone_ct (i : Nat) (e : Ev) (S : Store) : (RS.ct e S).gone i = .ct ⟨e.sl.set i none, []⟩ S := rfl
@[simp] theorem RS.gone_rt (i : Nat) (d : D) (S : Store) : (RS.rt d S).gone i = .rt d S := rfl
@[simp] theorem RS.gone_exc (i : Nat) (c : Nat) (fs : List (Nat × D)) (e : Ev) (S : Store) : (RS.exc c fs e S).gone i = .stuck := rfl
@[simp] theorem RS.gone_stuck (i : Nat) : RS.stuck.gone i = .stuck := rfl
def mTryAs (i : Nat) (yes no : List Nat) (b s : SM) : SM := fun e S => (b e.clr S).caught yes no fun c fs e S => if i < e.sl.length then (s (e.exn i c fs) S).gone i else .stuck
def den (n : Nat) (m : SM) : FM := fun ds S => match m ⟨ds.map some ++ List.replicate (n - ds.length) none, []⟩ S with
  | .nx _ S => .ok .non S
  | .rt d S => .ok d S
  | .exc c fs _ S => .exc c fs S
  | _ => .stuck
theorem evr_start {H : Hp} {μ : List Addr} {N : List Str} {vs : List V} {ds : List D} (r : RVs X.K H μ vs ds) (hl : ds.length ≤ N.length) : EvR nm X H μ ⟨ds.map some ++ List.replicate (N.length - ds.length) none, []⟩ (start N vs) := by
  refine ⟨by simp [L2.start, r.length], fun i d h => ?_, fun p hp => absurd (show p ∈ ([] : List _) from hp) (by simp)⟩
  have h : (ds.map some ++ List.replicate (N.length - ds.length) none)[i]? = some (some d) := h
  by_cases hi : i < ds.length
  · rw [List.getElem?_append_left (by simpa using hi), List.getElem?_map] at h
    cases h1 : ds[i]? with
    | none => rw [h1] at h; cases h
    | some d' =>
      rw [h1] at h; cases h
      obtain ⟨v, h2, h3⟩ := r.get h1
      refine ⟨v, ?_, h3⟩
      unfold L2.start
      rw [List.getElem?_append_left (by rw [List.length_map, r.length]; exact hi), List.getElem?_map, h2]
      rfl
  · rw [List.getElem?_append_right (by simpa using Nat.le_of_not_lt hi)] at h
    obtain ⟨hlt, e⟩ := List.getElem?_eq_some_iff.mp h
    rw [List.getElem_replicate] at e
    cases e
theorem den_ok {P : Program} {w : World} {K : PySem.W.Frag} {mg : Str → Option Value} {base : Heap} {x qual : Str} {st : Stmt} {f : Addr} {fd : FuncData} {N ps : List Str} {k : Nat} {m : SM} (F : Fun K x qual st f fd) (S : FnScope N ps (defScope st))
    (hb : ∀ (cdv : Value) (A : Around) (outer : List Env) (s : Shared) (H : Hp) (E : XK), Room k (A.deeper (envOfC qual (defScope st) s.heap.objs.size f cdv)) → MB nm (cxOf (L2.CX P w) P w K mg base N qual (defScope st) f cdv A outer s H E) (defBody st) m) {V : FM} {n : Nat} (hV : den N.length m = V) (hn : ps.length = n) :
    FnOk P w K mg base (L2.CX P w) (k + 1) f fd ps (spD nm K mg n V) := by
  subst hV hn
  refine F.okX S (fun vs H Q E h => ?_) fun cdv A outer s H vs Q E hr h => ?_
  · obtain ⟨ds, S, μ, r, hl, _⟩ := h
    rw [r.length, hl]
  · obtain ⟨ds, S', μ, r, hl, sm, p⟩ := h
    refine ⟨_, (hb cdv A outer s H E hr).run (fun cls d _ H => E cls d H) (takes_of rfl rfl rfl rfl), ⟨ds.map some ++ List.replicate (N.length - ds.length) none, []⟩, S', μ, evr_start r ?_, sm, ?_⟩
    · have := congrArg List.length S.pre
      rw [List.length_take] at this
      omega
    · unfold den at p
      cases hr : m ⟨ds.map some ++ List.replicate (N.length - ds.length) none, []⟩ S' with
      | nx e S2 => rw [hr] at p; exact fun σ' μ' H' x s _ => p μ' H' x s _ .non
      | bk e S2 => rw [hr] at p; exact False.elim p
      | ct e S2 => rw [hr] at p; exact False.elim p
      | rt d S2 => rw [hr] at p; exact fun v μ' H' x s r => p μ' H' x s v r
      | exc c fs e S2 => rw [hr] at p; exact fun σ' μ' H' C d x s _ a => p μ' H' C d x s a
      | stuck => rw [hr] at p; exact False.elim p
/-- .. with the facts that each body wants -/
theorem den_ok2 {nms : Nms} {P : Program} {w : World} {K : PySem.W.Frag} {mg : Str → Option Value} {base : Heap} {x qual : Str} {st : Stmt} {f : Addr} {fd : FuncData} {N ps : List Str} {k : Nat} {m : SM} {is : List Nat} {gs : List Str} (F : Fun K x qual st f fd) (S : FnScope N ps (defScope st)) (va : locAll is N (defScope st) = true) (ga : glAll gs (defScope st) = true)
    (hb : ∀ (cdv : Value) (A : Around) (outer : List Env) (s : Shared) (H : Hp) (E : XK), Room k (A.deeper (envOfC qual (defScope st) s.heap.objs.size f cdv)) → N.Nodup → L2H.RoomH k (A.deeper (envOfC qual (defScope st) s.heap.objs.size f cdv)) → locAll is (cxOf (L2.CX P w) P w K mg base N qual (defScope st) f cdv A outer s H E).N (cxOf (L2.CX P w) P w K mg base N qual (defScope st) f cdv A outer s H E).env.scope = true → visAll is (cxOf (L2.CX P w) P w K mg base N qual (defScope st) f cdv A outer s H E).N (cxOf (L2.CX P w) P w K mg base N qual (defScope st) f cdv A outer s H E).env.scope = true → glAll gs (cxOf (L2.CX P w) P w K mg base N qual (defScope st) f cdv A outer s H E).env.scope = true → (cxOf (L2.CX P w) P w K mg base N qual (defScope st) f cdv A outer s H E).calm = true → PassesOwn (model P w) (cxOf (L2.CX P w) P w K mg base N qual (defScope st) f cdv A outer s H E).A (cxOf (L2.CX P w) P w K mg base N qual (defScope st) f cdv A outer s H E).env (cxOf (L2.CX P w) P w K mg base N qual (defScope st) f cdv A outer s H E).xe →
      MB nms (cxOf (L2.CX P w) P w K mg base N qual (defScope st) f cdv A outer s H E) (defBody st) m) {V : FM} {n : Nat} (hV : den N.length m = V) (hn : ps.length = n) :
    FnOk P w K mg base (L2.CX P w) (k + 1) f fd ps (spD nms K mg n V) :=
  den_ok F S (fun cdv A outer s H E hr => hb cdv A outer s H E hr S.nd (L2H.roomH_of hr) va (locVis (N := (cxOf (L2.CX P w) P w K mg base N qual (defScope st) f cdv A outer s H E).N) (sc := (cxOf (L2.CX P w) P w K mg base N qual (defScope st) f cdv A outer s H E).env.scope) va) ga rfl (passes_of rfl)) hV hn
end
end BS
namespace BS
open PySem PySem.Spec PyProof.Rows L2
section
variable {nm : Nms} {X : Cx} {pos : Pos} {e : Expr} {es : List Expr} {me : EM} {ma : AM}
def rCallD (nm : Nms) (X : Cx) (F : FM) : List V → Hp → VK → Prop := fun xs H Q => ∃ ds S μ E, RVs X.K H μ xs ds ∧ Sim nm X.K X.mg μ S H ∧ Post nm X.K X.mg μ H (F ds S) (fun d _ μ' H' => ∀ v, RV X.K H' μ' v d → Q v H') E
abbrev CallD (nm : Nms) (X : Cx) (f : Value) (F : FM) : Prop := CallR X f (rCallD nm X F)
theorem me_callB {id : String} {x : Str} {p : Pos} {F : FM} (hc : CallD nm X (.builtin id) F) (hg : GlN X x) (hm : X.mg x = none) (hv : bootBuiltins x = some (.builtin id)) (ha : MA nm X (e :: es) ma)
    (he : starEach (e :: es) X.env = (false, eval e X.env) :: starEach es X.env := by rfl) (hpl : (backTo pos (starEach es X.env)).any (·.1) = false := by rfl) : ME nm X (.Call (.Name x p) (e :: es) [] pos) (mCall F ma) :=
  ⟨fun W tk => (pe_callB hc hg.g hm hv (ha.run W tk) hg.n hg.d he hpl).imp fun σ H Q h => by
    obtain ⟨e, S, μ, E, s, q⟩ := h
    exact ⟨e, S, μ, E, s, (Post.bind q).mono fun ds S1 μ1 H1 x1 s1 p1 vs rvs => ⟨ds, S1, μ1, _, rvs, s1, p1⟩⟩⟩
theorem me_callT {T : String} {x : Str} {p : Pos} {F : FM} (hc : CallD nm X (.type T) F) (hg : GlN X x) (hm : X.mg x = none) (hv : bootBuiltins x = some (.type T)) (ha : MA nm X (e :: es) ma)
    (he : starEach (e :: es) X.env = (false, eval e X.env) :: starEach es X.env := by rfl) (hpl : (backTo pos (starEach es X.env)).any (·.1) = false := by rfl) : ME nm X (.Call (.Name x p) (e :: es) [] pos) (mCall F ma) :=
  ⟨fun W tk => (pe_callTy hc hg.g hm hv (ha.run W tk) hg.n hg.d he hpl).imp fun σ H Q h => by
    obtain ⟨e, S, μ, E, s, q⟩ := h
    exact ⟨e, S, μ, E, s, (Post.bind q).mono fun ds S1 μ1 H1 x1 s1 p1 vs rvs => ⟨ds, S1, μ1, _, rvs, s1, p1⟩⟩⟩
theorem one_rv {K : PySem.W.Frag} {H : Hp} {μ : List Addr} {xs : List V} {d : D} (r : RVs K H μ xs [d]) : ∃ v, xs = [v] ∧ RV K H μ v d := by
  cases r with | cons r t => cases t; exact ⟨_, rfl, r⟩
theorem two_rv {K : PySem.W.Frag} {H : Hp} {μ : List Addr} {xs : List V} {d d' : D} (r : RVs K H μ xs [d, d']) : ∃ v w, xs = [v, w] ∧ RV K H μ v d ∧ RV K H μ w d' := by
  cases r with | cons r t => obtain ⟨w, rfl, r'⟩ := one_rv t; exact ⟨_, _, rfl, r, r'⟩
def fnInt : FM := fun ds S => match ds with
  | [.int i] => .ok (.int i) S
  | [.bl b] => .ok (.int (if b = true then 1 else 0)) S
  | [.str a] => match PySem.intText? a with
    | some n => if a.length ≤ 640 then .ok (.int n) S else .stuck
    | none => .stuck
  | _ => .stuck
theorem c_int : CallD nm X (.type "int") fnInt := by
  intro pins s σ H xs us Q I r h
  obtain ⟨ds, S, μ, E, rv, sm, p⟩ := h
  unfold fnInt at p
  split at p
  · obtain ⟨v, rfl, r1⟩ := one_rv rv; cases r1
    exact call_int1 pins s σ H _ us Q I r (.inl ⟨_, rfl, p μ H .refl sm _ (.int _)⟩)
  · obtain ⟨v, rfl, r1⟩ := one_rv rv; cases r1
    exact call_int1 pins s σ H _ us Q I r (.inr ⟨_, rfl, p μ H .refl sm _ (.int _)⟩)
  · obtain ⟨v, rfl, r1⟩ := one_rv rv; cases r1
    split at p
    · rename_i n hn
      split at p
      · rename_i hl
        exact call_int_str pins s σ H _ us Q I r ⟨_, n, rfl, hn, hl, p μ H .refl sm _ (.int _)⟩
      · exact False.elim p
    · exact False.elim p
  · exact False.elim p
def lenS (S : Store) (d : D) : Option Nat := match d with
  | .str z => if z.length ≤ sizeLine then some z.length else none
  | _ => match seqOf S d with
    | some ds => some ds.length
    | none => (dctOf S d).map (·.length)
def fnLen : FM := fun ds S => match ds with
  | [d] => match lenS S d with
    | some n => .ok (.int n) S
    | none => .stuck
  | _ => .stuck
theorem c_len : CallD nm X (.builtin "len") fnLen := by
  intro pins s σ H xs us Q I r h
  obtain ⟨ds, S, μ, E, rv, sm, p⟩ := h
  unfold fnLen at p
  split at p
  · rename_i d
    obtain ⟨v, rfl, r1⟩ := one_rv rv
    split at p
    · rename_i n hn
      have q := p μ H .refl sm _ (.int _)
      unfold lenS at hn
      split at hn
      · split at hn
        · rename_i hl; cases hn; cases r1
          exact call_len pins s σ H _ us Q I r ⟨_, _, rfl, ⟨hl, rfl⟩, q⟩
        · cases hn
      · split at hn
        · rename_i ds hds
          cases hn
          obtain ⟨a, xs, rfl, hs, r2⟩ := seqOf_sq sm r1 hds
          refine call_len pins s σ H _ us Q I r ⟨_, _, rfl, ?_, q⟩
          rcases hs with hs | hs
          · exact .inl ⟨xs, hs, r2.length.symm⟩
          · exact .inr ⟨xs, hs, r2.length.symm⟩
        · obtain ⟨kvs, hk, rfl⟩ := Option.map_eq_some_iff.mp hn
          obtain ⟨n, a, ys, rfl, rfl, _, _, e1, r2⟩ := dctOf_at sm r1 hk
          cases r with | cons r t =>
          cases r; cases t
          exact d_len I (.inl e1) fun t s' I' => ⟨.int _, H, I', ⟨t, rfl⟩, by rw [rk_len r2]; exact q⟩
    · exact False.elim p
  · exact False.elim p
def fnTuple : FM := fun ds S => match ds with
  | [.tup ds] => .ok (.tup ds) S
  | [d] => match lstOf S d with
    | some ds => .ok (.tup ds) S
    | none => .stuck
  | _ => .stuck
theorem c_tuple : CallD nm X (.type "tuple") fnTuple := by
  intro pins s σ H xs us Q I r h
  obtain ⟨ds, S, μ, E, rv, sm, p⟩ := h
  unfold fnTuple at p
  split at p
  · obtain ⟨v, rfl, r1⟩ := one_rv rv
    cases r1 with | tup t r2 =>
    exact call_tuple_of pins s σ H _ us Q I r ⟨_, _, rfl, .inr ⟨t.sq, p μ H .refl sm _ (.tup t r2)⟩⟩
  · obtain ⟨v, rfl, r1⟩ := one_rv rv
    split at p
    · rename_i ds hds
      obtain ⟨a, xs, rfl, hs, r2⟩ := lstOf_sq sm r1 hds
      exact call_tuple_of pins s σ H _ us Q I r ⟨a, xs, rfl, .inl ⟨hs, fun l hl => tup_post sm r2 hl p⟩⟩
    · exact False.elim p
  · exact False.elim p
def fnStr : FM := fun ds S => match ds with
  | [.int i] => if i.natAbs.log2 < 1920 then .ok (.str (Str.ofString (toString i))) S else .stuck
  | _ => .stuck
theorem c_str : CallD nm X (.type "str") fnStr := by
  intro pins s σ H xs us Q I r h
  obtain ⟨ds, S, μ, E, rv, sm, p⟩ := h
  unfold fnStr at p
  split at p
  · obtain ⟨v, rfl, r1⟩ := one_rv rv; cases r1
    split at p
    · rename_i c
      exact call_str_int pins s σ H _ us Q I r ⟨_, rfl, c, p μ H .refl sm _ (.str _)⟩
    · exact False.elim p
  · exact False.elim p
def fnOrd : FM := fun ds S => match ds with
  | [.str z] => if z.length = 1 then .ok (.int (z.cps.getD 0 0 : Nat)) S else .stuck
  | _ => .stuck
theorem c_ord : CallD nm X (.builtin "ord") fnOrd := by
  intro pins s σ H xs us Q I r h
  obtain ⟨ds, S, μ, E, rv, sm, p⟩ := h
  unfold fnOrd at p
  split at p
  · obtain ⟨v, rfl, r1⟩ := one_rv rv; cases r1
    split at p
    · rename_i c
      exact call_ord pins s σ H _ us Q I r ⟨_, rfl, c, p μ H .refl sm _ (.int _)⟩
    · exact False.elim p
  · exact False.elim p
inductive Ty where
  | none | bool | int | str | tuple | list | dict
def Ty.n : Ty → String
  | .none => "NoneType" | .bool => "bool" | .int => "int" | .str => "str" | .tuple => "tuple" | .list => "list" | .dict => "dict"
def isTy (a b : Ty) : Bool := match b with
  | .none => match a with | .none => true | _ => false
  | .bool => match a with | .bool => true | _ => false
  | .int => match a with | .int => true | .bool => true | _ => false
  | .str => match a with | .str => true | _ => false
  | .tuple => match a with | .tuple => true | _ => false
  | .list => match a with | .list => true | _ => false
  | .dict => match a with | .dict => true | _ => false
theorem kitB_ty (a b : Ty) : kitB a.n b.n = some (isTy a b) := by
  cases a <;> cases b <;> decide +kernel
def tyS (S : Store) (d : D) : Option Ty := match d with
  | .non => some .none
  | .bl _ => some .bool
  | .int _ => some .int
  | .str _ => some .str
  | .tup _ => some .tuple
  | .lst _ => some .list
  | .scr _ => some .list
  | .obj n => match S[n]? with
    | some (.lst _) => some .list
    | some (.dct _) => some .dict
    | _ => none
theorem tyS_of {K : PySem.W.Frag} {mg : Str → Option Value} {H : Hp} {μ : List Addr} {S : Store} {v : V} {d : D} {t : Ty} (s : Sim nm K mg μ S H) (r : RV K H μ v d) (h : tyS S d = some t) : TyX K H v (.type t.n) := by
  unfold tyS at h
  split at h
  · cases h; cases r; exact .base .non
  · cases h; cases r; exact .base (.bl _)
  · cases h; cases r; exact .base (.int _)
  · cases h; cases r; exact .base (.str _)
  · cases h; cases r with | tup t r =>
    rcases t with ⟨_, t | ⟨o, t⟩⟩ | ⟨o, its, n, k1, k2, _⟩
    · exact .base (.tup t)
    · exact .fTuple t
    · exact .kTuple k1 k2
  · cases h; cases r with | lst t r => exact .base (.lst t.2)
  · cases h; cases r with | scr t r =>
    rcases t with ⟨_, t | ⟨o, t⟩⟩ | ⟨o, its, n, k1, k2, _⟩
    · exact .base (.lst t)
    · exact .base (.frz t)
    · exact .kList k1 k2
  · cases r with | obj e =>
    split at h
    · rename_i hds; cases h
      obtain ⟨xs, e1, _⟩ := s.ob _ _ _ e hds
      exact .base (.lst e1)
    · rename_i hds; cases h
      obtain ⟨xs, e1, _⟩ := s.ob _ _ _ e hds
      exact .base (.dK e1)
    · cases h
def mIsi (T : Ty) (a : EM) : EM := mUn (fun S d => (tyS S d).map fun t => .bl (isTy t T)) a
theorem me_isi (T : Ty) {a : Expr} {m : EM} {p p2 : Pos} {x : Str} (ha : ME nm X a m) (hg : GlN X "isinstance") (hm : X.mg "isinstance" = none) (hgT : GlN X x) (hmT : X.mg x = none) (hb : bootBuiltins "isinstance" = some (.builtin "isinstance")) (hT : bootBuiltins x = some (.type T.n))
    (he : starEach (a :: [.Name x p2]) X.env = (false, eval a X.env) :: starEach [.Name x p2] X.env := by rfl) (he2 : starEach (.Name x p2 :: []) X.env = (false, eval (.Name x p2) X.env) :: starEach [] X.env := by rfl) (hpl : (backTo pos (starEach [.Name x p2] X.env)).any (·.1) = false := by rfl) :
    ME nm X (.Call (.Name "isinstance" p) [a, .Name x p2] [] pos) (mIsi T m) := by
  refine ⟨fun W tk => (pe_callB call_isi hg.g hm hb (pa_cons (ha.run W tk) (pa_cons (pe_bltn (v := .ty T.n) hgT.g hmT hT rfl hgT.n hgT.d) pa_nil he2) he) hg.n hg.d he hpl).imp fun σ H Q hh => ?_⟩
  obtain ⟨e, S, μ, E, s, p⟩ := hh
  refine ⟨e, S, μ, E, s, (Post.bind p).mono fun d S1 μ1 H1 x1 s1 p1 v rv => ?_⟩
  split at p1
  · rename_i d' hd
    obtain ⟨t, ht, rfl⟩ := Option.map_eq_some_iff.mp hd
    exact ⟨v, .ty T.n, .type t.n, .type T.n, isTy t T, rfl, .ty _, tyS_of s1 rv ht, kit_ty (kitB_ty t T), p1 μ1 H1 .refl s1 _ (.bl _)⟩
  · exact False.elim p1
def rMtD (nm : Nms) (X : Cx) (F : FM) : V → List V → Hp → VK → Prop := fun x xs H Q => rCallD nm X F (x :: xs) H Q
abbrev MtD (nm : Nms) (X : Cx) (id : String) (F : FM) : Prop := MtR X id (rMtD nm X F)
def mBm (T : Ty) (F : FM) (o : EM) (as : AM) : EM := fun e S => (o e S).bind fun x S => match tyS S x with
  | some t => if isTy t T = true then (as e S).bind fun ds S => F (x :: ds) S else .stuck
  | none => .stuck
theorem tyV_of {K : PySem.W.Frag} {mg : Str → Option Value} {H : Hp} {μ : List Addr} {S : Store} {v : V} {d : D} {t T : Ty} (hT : T = .str ∨ T = .list ∨ T = .dict) (s : Sim nm K mg μ S H) (r : RV K H μ v d) (h : tyS S d = some t) (ht : isTy t T = true) : tyV K T.n v H := by
  have e : t = T := by
    rcases hT with rfl | rfl | rfl <;> cases t <;> first | rfl | cases ht
  subst e
  clear ht
  unfold tyS at h
  split at h
  · cases h; rcases hT with z | z | z <;> cases z
  · cases h; rcases hT with z | z | z <;> cases z
  · cases h; rcases hT with z | z | z <;> cases z
  · cases h; cases r; rfl
  · cases h; rcases hT with z | z | z <;> cases z
  · cases h; cases r with | lst t r => exact .inl ⟨rfl, _, .of t.2⟩
  · cases h; cases r with | scr t r => exact .inl ⟨rfl, _, t.sq⟩
  · cases r with | obj e =>
    split at h
    · rename_i hds; cases h
      obtain ⟨xs, e1, _⟩ := s.ob _ _ _ e hds
      exact .inl ⟨rfl, _, .of e1⟩
    · rename_i hds; cases h
      obtain ⟨xs, e1, _⟩ := s.ob _ _ _ e hds
      exact .inr (.inr (.inl ⟨rfl, .inl ⟨_, e1⟩⟩))
    · cases h
theorem me_bm {T : Ty} {id : String} {name : Str} {F : FM} {o : Expr} {mo : EM} {apos : Pos} (pa : PlainAttrs T.n) (slot : Slot T.n name id) (hty : typeOf (.builtin id) = pure (.type "method_descriptor")) (hm : MtD nm X id F) (ho : ME nm X o mo) (ha : MA nm X (e :: es) ma) (hT : T = .str ∨ T = .list ∨ T = .dict := by simp)
    (hbase : attributeBase o name X.env (eval o X.env) = eval o X.env := by rfl)
    (hfew : ((backTo pos (starEach (e :: es) X.env)).all (fun x => !x.1) && (backToKw pos (keywordEach [] X.env)).all (fun x => x.1.isSome)
      && decide ((e :: es).length + ([] : List Keyword).length + (if ([] : List Keyword).isEmpty then 0 else 1) < 30)) = true := by rfl)
    (hline : (apos.endLine == pos.line) = true := by rfl) (hs : starEach (e :: es) X.env = (false, eval e X.env) :: starEach es X.env := by rfl) (hplain : (backTo pos (starEach es X.env)).any (·.1) = false := by rfl) :
    ME nm X (.Call (.Attribute o name apos) (e :: es) [] pos) (mBm T F mo ma) := by
  refine ⟨fun W tk => ⟨fun pins s σ H Q I h => ?_⟩⟩
  obtain ⟨ev, S, μ, E, sm, q⟩ := h
  refine wpAny_Call_method_late hbase hfew hline rfl (thn ((ho.run W tk).run pins s σ H (fun x H1 => ∃ S1 μ1 d, EvR nm X H1 μ1 ev σ ∧ Sim nm X.K X.mg μ1 S1 H1 ∧ RV X.K H1 μ1 x d ∧ tyV X.K T.n x H1 ∧ PostX nm X W μ1 H1 σ ((ma ev S1).bind fun ds S => F (d :: ds) S) fun d _ μ' H' => ∀ v, RV X.K H' μ' v d → Q v H') I
    ⟨ev, S, μ, E, sm, (Post.bind q).mono fun d S1 μ1 H1 x1 s1 q1 v rv => ?_⟩) fun v s1 ⟨x, H1, I1, r1, S1, μ1, d, E1, sm1, rd, ty, q1⟩ => ?_)
  · split at q1
    · rename_i t ht
      split at q1
      · rename_i hi; exact ⟨S1, μ1, d, E.ext x1, s1, rv, tyV_of hT s1 rv ht hi, q1⟩
      · exact False.elim q1
    · exact False.elim q1
  · obtain ⟨h1, h2⟩ := tyV_is I1 r1 ty
    refine ⟨T.n, id, pa, slot, hty, h1, h2, ?_⟩
    have hA := (ha.run W tk).run pos pins s1 σ H1 (fun vs H2 => ∃ ds S2 μ2, RVs X.K H2 μ2 (x :: vs) (d :: ds) ∧ Sim nm X.K X.mg μ2 S2 H2 ∧ PostX nm X W μ2 H2 σ (F (d :: ds) S2) fun d _ μ' H' => ∀ v, RV X.K H' μ' v d → Q v H') I1
      ⟨ev, S1, μ1, E1, sm1, (Post.bind q1).mono fun ds S2 μ2 H2 x2 s2 q2 vs rvs => ⟨ds, S2, μ2, .cons (rd.ext x2) rvs, s2, q2⟩⟩
    rw [hs] at hA ⊢
    refine Calls.callWith_builtin (by show (false || (backTo pos (starEach es X.env)).any (·.1)) = false; rw [hplain] <;> rfl) (Calls.evalArgs_plain ?_)
    exact thn hA fun us s2 ⟨vs, H2, I2, r2, ds, S2, μ2, rvs, sm2, q2⟩ => hm pins s2 σ H2 x vs v us Q I2 r1 r2 ⟨d :: ds, S2, μ2, _, rvs, sm2, q2⟩
theorem rvs_cons {K : PySem.W.Frag} {H : Hp} {μ : List Addr} {x : V} {xs : List V} {d : D} {ds : List D} (r : RVs K H μ (x :: xs) (d :: ds)) : RV K H μ x d ∧ RVs K H μ xs ds := by
  cases r with | cons r t => exact ⟨r, t⟩
/-- a list of the store is written -/
theorem lst_wr {W : WX} {σ : St} {S S' : Store} {μ : List Addr} {H : Hp} {n : Nat} {a : Addr} {xs : List V} {ds : List D} {v : V} {d : D} {E : PX} {Q : VK} (sm : Sim nm X.K X.mg μ S H) (en : μ[n]? = some a) (nf : NF H a) (r : RVs X.K H μ xs ds) (rv : RV X.K H μ v d)
    (p : Post nm X.K X.mg μ H (.ok d (S.set n (.lst ds))) (fun d _ μ' H' => ∀ v, RV X.K H' μ' v d → Q v H') E) : Q v (upd H a (.lst xs)) := by
  have x := Ext.wrote (H := H) (u := .lst xs) (List.mem_of_getElem? en) nf
  exact p μ _ x (sm.wrote en ⟨xs, upd_same, RVs.ext x _ r⟩) v (rv.ext x)
def fnAppend : FM := fun ds S => match ds with
  | [.obj n, d] => match S[n]? with
    | some (.lst ds) => if ds.length < sizeLine then .ok .non (S.set n (.lst (ds ++ [d]))) else .stuck
    | _ => .stuck
  | _ => .stuck
theorem t_append : MtD nm X "list.append" fnAppend := by
  intro pins s σ H x xs v us Q I rx r h
  obtain ⟨ds, S, μ, E, rv, sm, p⟩ := h
  unfold fnAppend at p
  split at p
  · rename_i n d
    obtain ⟨r1, rt⟩ := rvs_cons rv
    obtain ⟨w, rfl, r2⟩ := one_rv rt
    clear rt
    split at p
    · rename_i ds hds
      split at p
      · rename_i hl
        cases r1 with | @obj a _ en =>
        obtain ⟨xs, e1, rs⟩ := sm.ob _ _ _ en hds
        exact mt_append pins s σ H _ _ v us Q I rx r ⟨a, xs, w, rfl, rfl, e1, by rw [rs.length]; exact hl, lst_wr (W := fun _ _ _ _ => False) (σ := σ) (S' := S) sm en (NF.of e1) (rs.append (.cons r2 .nil)) .non p⟩
      · exact False.elim p
    · exact False.elim p
  · exact False.elim p
def spX2 (K : PySem.W.Frag) (f1 f2 : Str) : Sp := fun vs H Q _ => ∃ (a C : Addr) (y1 y2 : V), vs = [.ref a, y1, y2] ∧ OexC K C ∧ PySem.W.findIn K (.ref C) f1 = some none ∧ PySem.W.findIn K (.ref C) f2 = some none ∧ H a = some (exo a C none) ∧
  ∀ dx, H dx = none → dx ≠ a → Q .non (upd (upd (upd H dx (exd dx [(f1, y1)])) a (exo a C (some dx))) dx (exd dx [(f2, y2), (f1, y1)]))
theorem exc2_den {P : Program} {w : World} {K : PySem.W.Frag} {mg : Str → Option Value} {base : Heap} {x qual : Str} {st : Stmt} {f : Addr} {fd : FuncData} {n0 n1 n2 f1 f2 : Str} {k : Nat} (F : Fun K x qual st f fd) (S : FnScope [n0, n1, n2] [n0, n1, n2] (defScope st))
    (hb : ∀ (cdv : Value) (A : Around) (outer : List Env) (s : Shared) (H : Hp) (E : XK), PSs (cxOf (L2.CX P w) P w K mg base [n0, n1, n2] qual (defScope st) f cdv A outer s H E) (defBody st) (tSeq (tOst K f1 (tVar 0) (tVar 1)) (tOst K f2 (tVar 0) (tVar 2)))) :
    FnOk P w K mg base (L2.CX P w) (k + 1) f fd [n0, n1, n2] (spX2 K f1 f2) := by
  refine F.okX S (fun vs H Q E h => ?_) fun cdv A outer s H vs Q E hr h => ?_
  · obtain ⟨a, C, y1, y2, rfl, _⟩ := h; rfl
  · obtain ⟨a, C, y1, y2, rfl, T, g1, g2, ea, q⟩ := h
    refine ⟨_, hb cdv A outer s H E, ?_⟩
    refine ⟨y1, rfl, .ref a, rfl, a, C, rfl, T, g1, .inl ⟨ea, fun dx nd ne => ?_⟩⟩
    refine ⟨y2, rfl, .ref a, rfl, a, C, rfl, T, g2, .inr ⟨dx, [(f1, y1)], upd_same, ?_, by simp, q dx nd ne⟩⟩
    rw [upd_ne ne, upd_same]
def Exc2Ok (P : Program) (w : World) (K : PySem.W.Frag) (mg : Str → Option Value) (base : Heap) (nm : Nms) (k c f1 f2 : Nat) : Prop := ∃ C fI fd ps, mg (nm.cls c) = some (.ref C) ∧ OexC K C ∧ PySem.W.findIn K (.ref C) "__init__" = some (some (.ref fI)) ∧
  PySem.W.typeIn K (.ref fI) = some (.type "function") ∧ ps.length = 3 ∧ Binds K fd ps [] ∧ FnOk P w K mg base (L2.CX P w) k fI fd ps (spX2 K (nm.fld f1) (nm.fld f2)) ∧ PySem.W.findIn K (.ref C) (nm.fld f1) = some none ∧ PySem.W.findIn K (.ref C) (nm.fld f2) = some none ∧ f1 < nm.most ∧ f2 < nm.most
def mRaise2 (c f1 f2 : Nat) (as : AM) : SM := fun e S => (as e S).toS e fun ds S => match ds with
  | [x, y] => .exc c [(f2, y), (f1, x)] e S
  | _ => .stuck
theorem ms_raise2 {k c f1 f2 : Nat} {x : Str} {p pos' : Pos} {a b : Expr} (h : Exc2Ok X.prog X.w X.K X.mg X.base nm k c f1 f2) (hr : Room (k + 1) X.A) (hc : X.calm = true) (hg : GlN X x) (ha : MA nm X [a, b] ma) (hx : nm.cls c = x)
    (he : starEach (a :: [b]) X.env = (false, eval a X.env) :: starEach [b] X.env := by rfl) (hpl : (backTo pos' (starEach [b] X.env)).any (·.1) = false := by rfl) : MS nm X (.Raise (some (.Call (.Name x p) [a, b] [] pos')) none pos) (mRaise2 c f1 f2 ma) := by
  subst hx
  obtain ⟨C, fI, fd, ps, h1, h2, h3, h4, hps, h5, h6, h7, h8, h9, h10⟩ := h
  exact ⟨fun W tk => (ps_raise hc tk (pmk_oex h2 h3 h4 h6 hr h5 .nil passL hg.g h1 (ha.run W tk) hg.d he hpl)).imp fun D σ H hh => by
    obtain ⟨e, S, μ, E, s, p⟩ := hh
    refine ⟨e, S, μ, E, s, (post_len ha (PostS.toS E p)).mono fun ds S1 μ1 H1 x1 s1 p1 vs rvs => ?_⟩
    obtain ⟨hl, p1⟩ := p1
    split at p1
    · rename_i d1 d2
      obtain ⟨v1, v2, rfl, r1, r2⟩ := two_rv rvs
      refine ⟨by simp, fun a na => ⟨a, C, v1, v2, rfl, h2, h7, h8, upd_same, fun dx nd ne => ⟨rfl, dx, _, ?_, upd_same, ?_, ?_⟩⟩⟩
      · rw [upd_ne ne.symm, upd_same]
      · rw [upd_ne ne] at nd; exact nd
      · have nd1 : H1 dx = none := by rw [upd_ne ne] at nd; exact nd
        have hE : ∀ b, b ≠ a → b ≠ dx → upd (del (upd (upd (upd (upd H1 a (exo a C none)) dx (exd dx [(nm.fld f1, v1)])) a (exo a C (some dx))) dx (exd dx [(nm.fld f2, v2), (nm.fld f1, v1)])) a) dx (.xd [(nm.fld f2, v2), (nm.fld f1, v1)]) b = H1 b := fun b hb1 hb2 => by
          rw [upd_ne hb2, del_ne hb1, upd_ne hb2, upd_ne hb1, upd_ne hb2, upd_ne hb1]
        have x : Ext μ1 H1 μ1 (upd (del (upd (upd (upd (upd H1 a (exo a C none)) dx (exd dx [(nm.fld f1, v1)])) a (exo a C (some dx))) dx (exd dx [(nm.fld f2, v2), (nm.fld f1, v1)])) a) dx (.xd [(nm.fld f2, v2), (nm.fld f1, v1)])) :=
          ⟨⟨⟨[], by simp⟩, fun b q n => absurd q n, fun b o n hb => by rw [hE b (ne_of_none hb na) (ne_of_none hb nd1)]; exact hb⟩, fun b o u hb => by rw [hE b (ne_of_none hb na) (ne_of_none hb nd1)]; exact hb⟩
        have s2 := s1.keep x fun b hb => by
          obtain ⟨u, e1⟩ := s1.there hb
          exact hE b (ne_of_none e1 na) (ne_of_none e1 nd1)
        exact p1 σ μ1 _ C (some dx) x s2 ((E.ext x1).ext x) ⟨h1, _, s1.fresh nd1, upd_same, .cons ⟨rfl, h10, r2.ext x⟩ (.cons ⟨rfl, h9, r1.ext x⟩ .nil), by simp⟩
    · exact False.elim p1⟩
end
end BS
namespace BS
open PySem PySem.Spec PyProof.Rows L2
/-- the law's own promise -/
def spLaw (K : PySem.W.Frag) : Sp := fun vs H Q _ => ∃ (a : Addr) (ns : List Int), vs = [.ref a] ∧ SqL K H a (ns.map V.int) ∧ ns.length ≤ 63 ∧ ∀ H', Q (.bl true) H'
theorem law_end {P : Program} {w : World} {K : PySem.W.Frag} {mg : Str → Option Value} {base : Heap} {nm : Nms} {k : Nat} {fa : Addr} {fd : FuncData} {x : Str} {F : FM} (h : FnOk P w K mg base (L2.CX P w) k fa fd [x] (spD nm K mg 1 F))
    (hF : ∀ ns : List Int, ns.length ≤ 63 → ∃ S, F [.scr (ns.map .int)] [] = .ok (.bl true) S) : FnOk P w K mg base (L2.CX P w) k fa fd [x] (spLaw K) := by
  refine h.imp fun vs H Q E hh => ?_
  obtain ⟨a, ns, rfl, hs, hl, q⟩ := hh
  obtain ⟨S, e⟩ := hF ns hl
  refine ⟨[.scr (ns.map .int)], [], [], .cons (.scr ?_ (rvs_ints ns)) .nil, rfl, ⟨rfl, List.nodup_nil, fun n a o h => by simp at h⟩, ?_⟩
  · rcases hs with hs | hs
    · exact .inl ⟨by simp, hs⟩
    · exact .inr hs
  · rw [e]
    intro μ' H' x s v r
    cases r
    exact q H'
theorem walk {l : PySem.W.OpenLaw} {q : Program} {loose : List Str} {XP : (Str → Option Value) → Heap → Prop} {YP : World → Heap → Prop} {d : DefRec} {K : Params → PySem.W.Frag} {k : Nat} {x : Str} (hn : l.most = some 63) (hdf : d.params.defaults = []) (hr : Room k callerA)
    (hY : ∀ (w : World) (h : Heap), YP w h → (K w.params).In h)
    (F : ∀ (w : World) (mg : Str → Option Value) (fa : Addr) (h : Heap), (K w.params).In h → h.Ns mainGlobals mg → mg d.name = some (.ref fa) →
      ∃ fd : FuncData, (∀ (s : Shared) (u : Value), BindsTo s fd ⟨[u], []⟩ [(x, u)]) ∧ ∀ base : Heap, (K w.params).In base → base.Ns mainGlobals mg → FnOk l.prog w (K w.params) mg base (L2.CX l.prog w) k fa fd [x] (spLaw (K w.params))) :
    PySem.W.WalkO q loose XP YP l.row.toRowW d [] (fun f vs => PySem.call f vs) :=
  L2.walk_of (n := 63) (k := k) (x := x) (CX := fun w => L2.CX l.prog w) (sp := fun w => spLaw (K w.params)) hn (by decide) hdf hr hY F (fun _ _ a ns hl _ hS => ⟨a, ns, rfl, hS, hl, fun _ => rfl⟩) fun _ _ _ _ _ z => by
    obtain ⟨_, _, _, _, _, _, _, _, _, _, _, _, z⟩ := z
    exact z.elim
section
variable {P : Program} {w : World} {K : PySem.W.Frag} {mg : Str → Option Value} {base : Heap} {nm : Nms} {h : Heap}
theorem gc_int {x : Str} {i : Int} {t : Tok} (X : K.In h) (G : h.Ns mainGlobals mg) (a : PySem.W.nsIn K mainGlobals x = some (some (.int i t))) : GC K mg x (.int i) := ⟨_, .int i, PySem.W.mg_of X G a, ⟨t, rfl⟩, fun _ _ => .int i⟩
theorem gc_str {x z : Str} {t : Tok} (X : K.In h) (G : h.Ns mainGlobals mg) (a : PySem.W.nsIn K mainGlobals x = some (some (.str z t))) : GC K mg x (.str z) := ⟨_, .str z, PySem.W.mg_of X G a, ⟨t, rfl⟩, fun _ _ => .str z⟩
end
end BS
namespace BS
open PySem PySem.Spec PyProof.Rows L2
theorem refs_own {c : Addr} {r : List Value} (h : PySem.HandSPX.refsVE r = true) : PySem.HandSPX.refsVE (.ref c :: r) = true := h
theorem refs_end : PySem.HandSPX.refsVE [.type "ValueError", .type "Exception", .type "BaseException", .type "object"] = true := by decide +kernel
section
variable {P : Program} {w : World} {K : PySem.W.Frag} {mg : Str → Option Value} {base : Heap} {nm : Nms}
theorem def_mk {k n : Nat} {x : Str} {F : FM} {f : Addr} {fd : FuncData} {ps : List Str} (g : mg x = some (.ref f)) (kp : PySem.W.keepIn K (.ref f) = true) (hps : ps.length = n) (b : Binds K fd ps []) (o : FnOk P w K mg base (L2.CX P w) k f fd ps (spD nm K mg n F)) : DefOk P w K mg base nm k x n F :=
  ⟨f, fd, ps, g, kp, hps, b, o⟩
/-- nothing is said of a def whose value is stuck -/
theorem fnok_stuck {k n : Nat} {f : Addr} {fd : FuncData} {ps : List Str} (hps : ps.length = n) : FnOk P w K mg base (L2.CX P w) k f fd ps (spD nm K mg n fun _ _ => .stuck) :=
  ⟨fun vs H Q E h => by obtain ⟨ds, S, μ, r, hl, _⟩ := h; rw [r.length, hl, hps], fun A outer s H args us vs Q E _ _ _ _ h => by obtain ⟨_, _, _, _, _, _, p⟩ := h; exact False.elim p⟩
theorem exc2_mk {k c f1 f2 : Nat} {cx x1 x2 : Str} {C fI : Addr} {fd : FuncData} {ps : List Str} (hx : nm.cls c = cx) (g : mg cx = some (.ref C)) (T : OexC K C) (a : PySem.W.findIn K (.ref C) "__init__" = some (some (.ref fI))) (t : PySem.W.typeIn K (.ref fI) = some (.type "function"))
    (hps : ps.length = 3) (b : Binds K fd ps []) (o : FnOk P w K mg base (L2.CX P w) k fI fd ps (spX2 K (nm.fld f1) (nm.fld f2))) (h1 : nm.fld f1 = x1) (h2 : nm.fld f2 = x2) (n1 : PySem.W.findIn K (.ref C) x1 = some none) (n2 : PySem.W.findIn K (.ref C) x2 = some none) (l1 : f1 < nm.most) (l2 : f2 < nm.most) : Exc2Ok P w K mg base nm k c f1 f2 :=
  ⟨C, fI, fd, ps, by rw [hx]; exact g, T, a, t, hps, b, o, by rw [h1]; exact n1, by rw [h2]; exact n2, l1, l2⟩
end
end BS
namespace BS
open PySem PySem.Spec PyProof.Rows L2
section
variable {nm : Nms} {X : Cx} {tg : Expr} {e : Expr} {me : EM} {pos : Pos}
def iAll (K : PySem.W.Frag) (tl : TE) : TI := fun σ H R => tl σ H fun x H1 => (∃ y, x = .str y ∧ R (Its y) H1) ∨ (∃ a, x = .ref a ∧ (∃ xs, SqL K H1 a xs) ∧ R (Itl K a) H1) ∨ ∃ a, x = .ref a ∧ (∃ xs, SqT K H1 a xs) ∧ R (Itt K a) H1
theorem pi_all {l : Expr} {tl : TE} (hl : PE X l tl) : PI X tg l (iAll X.K tl) := by
  refine ⟨fun pins s σ H R I h => ?_⟩
  refine thn (hl.run pins s σ H _ I h) fun v s1 ⟨x, H1, I1, r1, q1⟩ => ?_
  rcases q1 with ⟨y, ex, q⟩ | ⟨a, ex, ⟨xs, hq⟩, q⟩ | ⟨a, ex, ⟨xs, hq⟩, q⟩
  · subst ex
    obtain ⟨t, rfl⟩ := r1
    cases ha : y.cps.all (· < 128)
    · exact wpAny_pyIter_wide ha (pi_one (tk := s1.toks) I1 _ (turn_str _ y t "str_iterator" (.inr rfl)) ⟨_, Heap.get?_push_size _ rfl, rfl, rfl⟩ q)
    · exact wpAny_pyIter_ascii ha (pi_one (tk := s1.toks) I1 _ (turn_str _ y t "str_ascii_iterator" (.inl rfl)) ⟨_, Heap.get?_push_size _ rfl, rfl, rfl⟩ q)
  · subst ex
    cases r1
    obtain ⟨its, rv, p, hz⟩ := I1.list hq
    refine wpAny_pyIter_list p.isList ?_
    refine ⟨s1.heap.objs.size, [s1.heap.objs.size], _, _, H1, rfl, I1.kept (t' := s1.toks) fun b o e => Heap.get?_push_of_some _ e, turn_list a _, ⟨_, Heap.get?_push_size _ rfl, rfl, rfl⟩, fun b hb => ?_, q⟩
    have e : b = s1.heap.objs.size := by simpa using hb
    subst e
    exact I1.fpOk (Nat.le_refl _) (I1.hok.fresh (Nat.le_refl _))
  · subst ex
    cases r1
    obtain ⟨its, rv, p, hz⟩ := I1.tuple hq
    refine wpAny_pyIter_tuple (show s1.heap.IsTuple a its.toArray from p) ?_
    refine ⟨s1.heap.objs.size, [s1.heap.objs.size], _, _, H1, rfl, I1.kept (t' := s1.toks) fun b o e => Heap.get?_push_of_some _ e, turn_tuple a _, ⟨_, Heap.get?_push_size _ rfl, rfl, rfl⟩, fun b hb => ?_, q⟩
    have e : b = s1.heap.objs.size := by simpa using hb
    subst e
    exact I1.fpOk (Nat.le_refl _) (I1.hok.fresh (Nat.le_refl _))
theorem signs_get (x : Str) (i : Nat) : (signs x)[i]? = x.cps[i]?.map strAt := by
  simp [signs]
theorem wok_str {x : Str} {w : Wk} {C : Hp → List Addr → Prop} (hd : w.ds = signs x) : WOk nm X (Its x) w C := by
  intro i S μ H s c g
  rw [hd]
  refine ⟨fun d e => ?_, fun h => by simpa [signs, Its] using h⟩
  rw [signs_get] at e
  obtain ⟨k, hk, rfl⟩ := Option.map_eq_some_iff.mp e
  refine ⟨(Array.getElem?_eq_some_iff.mp hk).1, fun y H' q => ?_⟩
  obtain ⟨rfl, k', hk', rfl⟩ := q
  rw [hk] at hk'; cases hk'
  exact ⟨.refl, s, .str _⟩
def wkA (S : Store) (x : D) : R Wk := match x with
  | .str y => .ok ⟨signs y, fun _ => True⟩ S
  | .tup ds => .ok ⟨ds, fun _ => True⟩ S
  | .lst ds => .ok ⟨ds, fun _ => True⟩ S
  | .scr ds => .ok ⟨ds, fun _ => True⟩ S
  | .obj n => match S[n]? with
    | some (.lst ds) => .ok ⟨ds, fun S => S[n]? = some (.lst ds)⟩ S
    | _ => .stuck
  | _ => .stuck
def iAny (m : EM) : IM := fun e S => (m e S).bind fun x S => wkA S x
theorem mi_any (h : ME nm X e me) : MI nm X tg e (iAny me) := by
  refine ⟨fun W tk => (pi_all (h.run W tk)).imp fun σ H R hh => ?_⟩
  obtain ⟨ev, S, μ, E, s, p⟩ := hh
  refine ⟨ev, S, μ, E, s, (Post.bind p).mono fun d S1 μ1 H1 x1 s1 p1 v rv => ?_⟩
  unfold wkA at p1
  split at p1
  · rename_i y
    cases rv
    exact .inl ⟨y, rfl, p1 μ1 H1 .refl s1 (Its y) (fun _ _ => True) (fun _ _ _ _ _ _ => trivial) trivial (wok_str rfl)⟩
  · rename_i ds
    cases rv with | @tup a xs _ t r =>
    exact .inr (.inr ⟨a, rfl, ⟨xs, t.sq⟩, p1 μ1 H1 .refl s1 (Itt X.K a) (fun H μ => TupAt X.K H μ a xs ∧ RVs X.K H μ xs ds) (fun μ H μ' H' x c => ⟨c.1.ext x, RVs.ext x _ c.2⟩) ⟨t, r⟩ (wok_tup (xs := xs) rfl fun S μ H s c g => ⟨xs, c.1.sq, c.2⟩)⟩)
  · rename_i ds
    cases rv with | @lst a xs _ t r =>
    exact .inr (.inl ⟨a, rfl, ⟨xs, .of t.2⟩, p1 μ1 H1 .refl s1 (Itl X.K a) (fun H μ => LstAt H μ a xs ∧ RVs X.K H μ xs ds) (fun μ H μ' H' x c => ⟨c.1.ext x, RVs.ext x _ c.2⟩) ⟨t, r⟩ (wok_list (xs := xs) rfl fun S μ H s c g => ⟨xs, .of c.1.2, c.2⟩)⟩)
  · rename_i ds
    cases rv with | @scr a xs _ t r =>
    exact .inr (.inl ⟨a, rfl, ⟨xs, t.sq⟩, p1 μ1 H1 .refl s1 (Itl X.K a) (fun H μ => ScrAt X.K H μ a xs ∧ RVs X.K H μ xs ds) (fun μ H μ' H' x c => ⟨c.1.ext x, RVs.ext x _ c.2⟩) ⟨t, r⟩ (wok_list (xs := xs) rfl fun S μ H s c g => ⟨xs, c.1.sq, c.2⟩)⟩)
  · rename_i n
    split at p1
    · rename_i ds hds
      cases rv with | @obj a _ en =>
      obtain ⟨xs, e1, r⟩ := s1.ob _ _ _ en hds
      exact .inr (.inl ⟨a, rfl, ⟨xs, .of e1⟩, p1 μ1 H1 .refl s1 (Itl X.K a) (fun H μ => μ[n]? = some a) (fun μ H μ' H' x c => x.at c) en (wok_list (xs := xs) rfl fun S μ H s c g => by
        obtain ⟨xs, e1, r⟩ := s.ob _ _ _ c g
        exact ⟨xs, .of e1, r⟩)⟩)
    · exact False.elim p1
  · exact False.elim p1
end
def txt (v : Value) : Str := match v with
  | .str x _ => x
  | _ => Str.empty
section
variable {prog : Program} {w : World} {A : Around} {E : Value → Shared → Prop} {s : Shared}
theorem two_at {a b : Str} {t u : Tok} {i : Nat} {v : Value} (h : (#[Value.str a t, Value.str b u] : Array Value)[i]? = some v) : ∃ r, v = .str (txt ((#[Value.str a t, Value.str b u] : Array Value).getD i .none)) r := by
  match i, h with
  | 0, h => simp at h; subst h; exact ⟨_, rfl⟩
  | 1, h => simp at h; subst h; exact ⟨_, rfl⟩
  | n + 2, h => simp at h
theorem lt_strR {x y : Str} {t u : Tok} {Q : Value → Shared → Prop} (h : Q (.bool (ltS x y)) s) : wpAny (model prog w) A (richCompare .Lt (.str x t) (.str y u)) Q E s :=
  richCompare_gives (op := .Lt) (typeIs_str s x t) (typeIs_str s y u) F.slot_str_lt F.entry_str_lt (F.args_str_lt_2 _ _) (gives_str_lt x y t u) (fun e => nomatch e) h
theorem gt_strR {x y : Str} {t u : Tok} {Q : Value → Shared → Prop} (h : Q (.bool (ltS y x)) s) : wpAny (model prog w) A (richCompare .Gt (.str x t) (.str y u)) Q E s :=
  richCompare_gives (op := .Gt) (typeIs_str s x t) (typeIs_str s y u) F.slot_str_gt F.entry_str_gt (F.args_str_gt_2 _ _) (gives_str_gt x y t u) (fun e => nomatch e) h
theorem cmp_ltS (a b : Str) (t u : Tok) : CmpOf prog w A .Lt (fun i v => (#[Value.str a t, Value.str b u] : Array Value)[i]? = some v) (fun i j => ltS (txt ((#[Value.str a t, Value.str b u] : Array Value).getD i .none)) (txt ((#[Value.str a t, Value.str b u] : Array Value).getD j .none))) := fun i j vi vj s Q E hi hj h => by
  obtain ⟨t1, e1⟩ := two_at hi
  obtain ⟨t2, e2⟩ := two_at hj
  rw [e1, e2]
  exact lt_strR h
theorem cmp_gtS (a b : Str) (t u : Tok) : CmpOf prog w A .Gt (fun i v => (#[Value.str a t, Value.str b u] : Array Value)[i]? = some v) (fun i j => ltS (txt ((#[Value.str a t, Value.str b u] : Array Value).getD j .none)) (txt ((#[Value.str a t, Value.str b u] : Array Value).getD i .none))) := fun i j vi vj s Q E hi hj h => by
  obtain ⟨t1, e1⟩ := two_at hi
  obtain ⟨t2, e2⟩ := two_at hj
  rw [e1, e2]
  exact gt_strR h
theorem max_two_str {a b : Str} {t u : Tok} {Q : Value → Shared → Prop} (hh : A.handled = none)
    (h : ∀ h' tk, (∀ c o, s.heap.get? c = some o → h'.get? c = some o) → Q (if ltS a b = true then .str b u else .str a t) { s with heap := h', toks := tk }) :
    wpAny (model prog w) A (call (.builtin "max") [.str a t, .str b u]) Q E s := by
  have hT : (s.heap.push { cls := .type "tuple", data := .seq #[.str a t, .str b u] }).IsTuple s.heap.objs.size #[.str a t, .str b u] := ⟨_, Heap.get?_push_size _ rfl, rfl, 0, rfl⟩
  refine call_max_two (wpAny_pyIter_tuple hT ?_)
  have hsz : (s.heap.push { cls := .type "tuple", data := .seq #[.str a t, .str b u] }).objs.size = s.heap.objs.size + 1 := Heap.size_push ..
  refine ⟨_, [_, s.heap.objs.size], [_], _, _, _, _, rfl, Walks.tuple (A := A.in1) hh _ s.heap.objs.size (by rw [hsz]; exact Nat.ne_of_lt (Nat.lt_succ_self _)) #[.str a t, .str b u],
    ⟨⟨_, Heap.get?_push_size _ rfl, rfl, rfl⟩, hT.push _⟩, fun c hc => ?_, by simp, cmp_gtS a b t u, fun v h' tk hP hk => ?_⟩
  · show c < ((s.heap.push _).push _).objs.size
    rw [Heap.size_push, hsz]
    rcases List.mem_cons.mp hc with rfl | hc
    · rw [hsz]; exact Nat.lt_succ_self _
    · rcases List.mem_cons.mp hc with rfl | hc
      · exact Nat.lt_succ_of_lt (Nat.lt_succ_self _)
      · cases hc
  · have hold : ∀ c o, s.heap.get? c = some o → h'.get? c = some o := fun c o e => by
      refine hk c o (fun hm => ?_) (Heap.get?_push_of_some _ (Heap.get?_push_of_some _ e))
      rcases List.mem_cons.mp hm with e1 | hm
      · have := Heap.lt_size e; rw [e1, hsz] at this; exact Nat.lt_irrefl _ (Nat.lt_of_succ_lt this)
      · cases hm
    have := h h' tk hold
    have hv : v = if ltS a b = true then .str b u else .str a t := by
      cases hc : ltS a b <;> simp [argBest, txt, hc] at hP <;> simp [hP]
    rw [hv]; exact this
theorem min_two_str {a b : Str} {t u : Tok} {Q : Value → Shared → Prop} (hh : A.handled = none)
    (h : ∀ h' tk, (∀ c o, s.heap.get? c = some o → h'.get? c = some o) → Q (if ltS b a = true then .str b u else .str a t) { s with heap := h', toks := tk }) :
    wpAny (model prog w) A (call (.builtin "min") [.str a t, .str b u]) Q E s := by
  have hT : (s.heap.push { cls := .type "tuple", data := .seq #[.str a t, .str b u] }).IsTuple s.heap.objs.size #[.str a t, .str b u] := ⟨_, Heap.get?_push_size _ rfl, rfl, 0, rfl⟩
  refine call_min_two (wpAny_pyIter_tuple hT ?_)
  have hsz : (s.heap.push { cls := .type "tuple", data := .seq #[.str a t, .str b u] }).objs.size = s.heap.objs.size + 1 := Heap.size_push ..
  refine ⟨_, [_, s.heap.objs.size], [_], _, _, _, _, rfl, Walks.tuple (A := A.in1) hh _ s.heap.objs.size (by rw [hsz]; exact Nat.ne_of_lt (Nat.lt_succ_self _)) #[.str a t, .str b u],
    ⟨⟨_, Heap.get?_push_size _ rfl, rfl, rfl⟩, hT.push _⟩, fun c hc => ?_, by simp, cmp_ltS a b t u, fun v h' tk hP hk => ?_⟩
  · show c < ((s.heap.push _).push _).objs.size
    rw [Heap.size_push, hsz]
    rcases List.mem_cons.mp hc with rfl | hc
    · rw [hsz]; exact Nat.lt_succ_self _
    · rcases List.mem_cons.mp hc with rfl | hc
      · exact Nat.lt_succ_of_lt (Nat.lt_succ_self _)
      · cases hc
  · have hold : ∀ c o, s.heap.get? c = some o → h'.get? c = some o := fun c o e => by
      refine hk c o (fun hm => ?_) (Heap.get?_push_of_some _ (Heap.get?_push_of_some _ e))
      rcases List.mem_cons.mp hm with e1 | hm
      · have := Heap.lt_size e; rw [e1, hsz] at this; exact Nat.lt_irrefl _ (Nat.lt_of_succ_lt this)
      · cases hm
    have := h h' tk hold
    have hv : v = if ltS b a = true then .str b u else .str a t := by
      cases hc : ltS b a <;> simp [argBest, txt, hc] at hP <;> simp [hP]
    rw [hv]; exact this
end
section
variable {nm : Nms} {X : Cx}
def fnMax2 : FM := fun ds S => match ds with
  | [.int i, .int j] => .ok (.int (if i < j then j else i)) S
  | [.str a, .str b] => .ok (.str (if ltS a b = true then b else a)) S
  | _ => .stuck
def fnMin2 : FM := fun ds S => match ds with
  | [.int i, .int j] => .ok (.int (if j < i then j else i)) S
  | [.str a, .str b] => .ok (.str (if ltS b a = true then b else a)) S
  | _ => .stuck
theorem c_max2 (hc : X.calm = true) : CallD nm X (.builtin "max") fnMax2 := by
  intro pins s σ H xs us Q I r h
  obtain ⟨ds, S, μ, E, rv, sm, p⟩ := h
  unfold fnMax2 at p
  split at p
  · obtain ⟨v, u, rfl, r1, r2⟩ := two_rv rv
    cases r1; cases r2
    exact call_max2 hc pins s σ H _ us Q I r ⟨_, _, rfl, p μ H .refl sm _ (.int _)⟩
  · obtain ⟨v, u, rfl, r1, r2⟩ := two_rv rv
    cases r1; cases r2
    obtain ⟨u, w', rfl, ⟨t, rfl⟩, ⟨t', rfl⟩⟩ := vals2 r
    rename_i a b
    refine max_two_str (I.ok.hd hc) fun h' tk k => ⟨.str (if ltS a b = true then b else a), H, I.kept k, ?_, p μ H .refl sm _ (.str _)⟩
    cases ltS a b
    · exact ⟨_, rfl⟩
    · exact ⟨_, rfl⟩
  · exact False.elim p
theorem c_min2 (hc : X.calm = true) : CallD nm X (.builtin "min") fnMin2 := by
  intro pins s σ H xs us Q I r h
  obtain ⟨ds, S, μ, E, rv, sm, p⟩ := h
  unfold fnMin2 at p
  split at p
  · obtain ⟨v, u, rfl, r1, r2⟩ := two_rv rv
    cases r1; cases r2
    exact call_min2 hc pins s σ H _ us Q I r ⟨_, _, rfl, p μ H .refl sm _ (.int _)⟩
  · obtain ⟨v, u, rfl, r1, r2⟩ := two_rv rv
    cases r1; cases r2
    obtain ⟨u, w', rfl, ⟨t, rfl⟩, ⟨t', rfl⟩⟩ := vals2 r
    rename_i a b
    refine min_two_str (I.ok.hd hc) fun h' tk k => ⟨.str (if ltS b a = true then b else a), H, I.kept k, ?_, p μ H .refl sm _ (.str _)⟩
    cases ltS b a
    · exact ⟨_, rfl⟩
    · exact ⟨_, rfl⟩
  · exact False.elim p
end
end BS
namespace BS
open PySem PySem.Spec PyProof.Rows L2
section
variable {nm : Nms} {X : Cx} {e : Expr} {me : EM} {pos : Pos}
structure MPs (nm : Nms) (X : Cx) (pos : Pos) (keys : List (Option Expr)) (values : List Expr) (ms : List (EM × EM)) : Prop where
  run : ∀ W, Takes X W → PPs X pos keys values (ms.map fun p => (rdE nm X W p.1, rdE nm X W p.2))
def truS (S : Store) (d : D) : Option Bool := match d with
  | .non => some false
  | .bl b => some b
  | .int i => some (i != 0)
  | .str z => if z.length ≤ sizeLine then some ((z.length : Int) != 0) else none
  | _ => match seqOf S d with
    | some ds => some (!ds.isEmpty)
    | none => (dctOf S d).map fun kvs => !kvs.isEmpty
theorem emp_rvs {K : PySem.W.Frag} {H : Hp} {μ : List Addr} {xs : List V} {ds : List D} (r : RVs K H μ xs ds) : (!ds.isEmpty) = !xs.isEmpty := by
  cases r <;> rfl
theorem tru_of {S : Store} {μ : List Addr} {H : Hp} {v : V} {d : D} {b : Bool} (s : Sim nm X.K X.mg μ S H) (r : RV X.K H μ v d) (h : truS S d = some b) : TruV X.K v H b := by
  unfold truS at h
  split at h
  · cases h; cases r; exact (rfl : (false : Bool) = false)
  · cases h; cases r; exact (rfl : _ = _)
  · cases h; cases r; exact (rfl : _ = _)
  · split at h
    · cases h; cases r; exact ⟨by assumption, rfl⟩
    · cases h
  · split at h
    · rename_i ds hds
      cases h
      obtain ⟨a, xs, rfl, hs, rr⟩ := seqOf_sq s r hds
      rcases hs with hs | hs
      · exact .inl ⟨xs, hs, emp_rvs rr⟩
      · exact .inr (.inl ⟨xs, hs, emp_rvs rr⟩)
    · obtain ⟨kvs, hk, rfl⟩ := Option.map_eq_some_iff.mp h
      obtain ⟨n, a, ys, rfl, rfl, _, _, e1, rk⟩ := dctOf_at s r hk
      exact .inr (.inr ⟨ys, e1, by cases rk <;> rfl⟩)
def mTru (m : EM) : TM := fun e S => (m e S).bind fun d S => match truS S d with
  | some b => .ok b S
  | none => .stuck
theorem mt_tru {e : Expr} {m : EM} (h : ME nm X e m) (he : ∀ whole, isTrue e X.env whole = (do let v ← whole; standAt e.pos; holding [v] (truthy v)) := by intro _; rfl) : MT nm X e (mTru m) := by
  refine ⟨fun W tk => (pt_truth (h.run W tk) he).imp fun σ H Q hh => ?_⟩
  obtain ⟨e, S, μ, E, s, p⟩ := hh
  refine ⟨e, S, μ, E, s, (Post.bind p).mono fun d S1 μ1 H1 x1 s1 p1 v rv => ?_⟩
  split at p1
  · rename_i b hb
    exact ⟨b, tru_of s1 rv hb, p1 μ1 H1 .refl s1⟩
  · exact False.elim p1
/-- what a table holds: constants -/
def TV (K : PySem.W.Frag) (p : Key × D) (q : Key × Value) : Prop := p.1 = q.1 ∧ ∃ v, RelV v q.2 ∧ ∀ H μ, RV K H μ v p.2
def TC (P : Program) (w : World) (K : PySem.W.Frag) (mg : Str → Option Value) (x : Str) (kvs : List (Key × D)) : Prop :=
  ∃ (a : Addr) (o : Obj) (es : Array DictEntry) (ep : Nat) (vs : List (Key × Value)), mg x = some (.ref a) ∧ K.lookup a = some o ∧ (a == sysModules) = false ∧ o.ExactDict ∧ o.data = .dict es ep ∧ KeysOf (mixKind P w) es ∧ Pairs (mixKind P w) es.toList vs ∧ (vs.map (·.1)).Nodup ∧ Paired (TV K) kvs vs
theorem tv_get {K : PySem.W.Frag} : ∀ {kvs : List (Key × D)} {vs : List (Key × Value)} (k : Key), Paired (TV K) kvs vs → (getK kvs k = none ∧ valueAt vs k = none) ∨ ∃ d v u, getK kvs k = some d ∧ valueAt vs k = some u ∧ RelV v u ∧ ∀ H μ, RV K H μ v d
  | _, _, k, .nil => .inl ⟨rfl, rfl⟩
  | p :: kvs, q :: vs, k, .cons r t => by
    obtain ⟨e, v, r1, r2⟩ := r
    by_cases h : p.1 = k
    · refine .inr ⟨p.2, v, q.2, ?_, ?_, r1, r2⟩
      · simp [getK, h]
      · simp [valueAt, ← e, h]
    · rcases tv_get k t with ⟨h1, h2⟩ | ⟨d, v', u, h1, h2, h3⟩
      · refine .inl ⟨?_, ?_⟩
        · simp only [getK, List.find?_cons, decide_eq_false h] at h1 ⊢; exact h1
        · have h' : ¬ q.1 = k := fun z => h (e.trans z)
          simp only [valueAt, List.find?_cons, decide_eq_false h'] at h2 ⊢; exact h2
      · refine .inr ⟨d, v', u, ?_, ?_, h3⟩
        · simp only [getK, List.find?_cons, decide_eq_false h] at h1 ⊢; exact h1
        · have h' : ¬ q.1 = k := fun z => h (e.trans z)
          simp only [valueAt, List.find?_cons, decide_eq_false h'] at h2 ⊢; exact h2
theorem tab_dict {K : PySem.W.Frag} {a : Addr} {o : Obj} {es : Array DictEntry} {ep : Nat} {vs : List (Key × Value)} {pins : List (Addr × Obj)} {σ : St} {H : Hp} {s : Shared} (I : Inv X pins σ H s) (hk : X.K.lookup a = some o) (h1 : o.ExactDict) (h2 : o.data = .dict es ep) (h3 : KeysOf (mixKind X.prog X.w) es) (h4 : Pairs (mixKind X.prog X.w) es.toList vs) (h5 : (vs.map (·.1)).Nodup) :
    s.heap.DictOf (mixKind X.prog X.w) a vs := ⟨o, es, ep, I.kIn a o hk, h1, h2, h3, h4, h5⟩
def mTabIn (neg : Bool) (kvs : List (Key × D)) (m : EM) : TM := fun e S => (m e S).bind fun d S => match keyOf d with
  | some k => .ok (if neg = true then !(getK kvs k).isSome else (getK kvs k).isSome) S
  | none => .stuck
theorem tabin_core {neg : Bool} {op : CmpOp} (hop : op = if neg = true then .NotIn else .In) {kvs : List (Key × D)} {a : Addr} {o : Obj} {es : Array DictEntry} {ep : Nat} {vs : List (Key × Value)} (hk : X.K.lookup a = some o) (hs : (a == sysModules) = false) (h1 : o.ExactDict) (h2 : o.data = .dict es ep) (h3 : KeysOf (mixKind X.prog X.w) es) (h4 : Pairs (mixKind X.prog X.w) es.toList vs) (h5 : (vs.map (·.1)).Nodup) (tv : Paired (TV X.K) kvs vs) :
    OpR X (compareOp op) (fun x y H Q => y = .ref a ∧ ∃ k, x = kV k ∧ Q (.bl (if neg = true then !(getK kvs k).isSome else (getK kvs k).isSome)) H) := by
  intro pins s σ H x y v u Q I rx ry h
  obtain ⟨rfl, k, rfl, q⟩ := h
  cases ry
  have dd := tab_dict (K := X.K) I hk h1 h2 h3 h4 h5
  have e : (valueAt vs k).isSome = (getK kvs k).isSome := by
    rcases tv_get k tv with ⟨e1, e2⟩ | ⟨d, v', u, e1, e2, _⟩ <;> rw [e1, e2] <;> rfl
  subst hop
  cases neg with
  | true => exact wpAny_notIn_of (kV_is rx) hs dd.mapOf ⟨.bl _, H, I.tok _, rfl, by rw [e]; exact q⟩
  | false => exact wpAny_in_of (kV_is rx) hs dd.mapOf ⟨.bl _, H, I.tok _, rfl, by rw [e]; exact q⟩
theorem tabin_rd {neg : Bool} {kvs : List (Key × D)} {a : Addr} {W : WX} {σ : St} {H : Hp} {Q : Bool → Hp → Prop} (hh : rdT nm X W (mTabIn neg kvs me) σ H Q) :
    tTest (tOp (fun x y H Q => y = .ref a ∧ ∃ k, x = kV k ∧ Q (.bl (if neg = true then !(getK kvs k).isSome else (getK kvs k).isSome)) H) (rdE nm X W me) fun _ H Q => Q (.ref a) H) σ H Q := by
  obtain ⟨e, S, μ, E, s, p⟩ := hh
  refine ⟨e, S, μ, E, s, (Post.bind p).mono fun d S1 μ1 H1 x1 s1 p1 v rv => ?_⟩
  split at p1
  · rename_i k hk
    exact ⟨rfl, k, keyOf_kV rv hk, _, rfl, p1 μ1 H1 .refl s1⟩
  · exact False.elim p1
theorem mt_tabinN {k : Nat} {x : Str} {p : Pos} {kvs : List (Key × D)} (_ : L2H.RoomH k X.A) (h : TC X.prog X.w X.K X.mg x kvs) (hg : GlN X x) (he : ME nm X e me) (hm : behindInMarks .NotIn (.Name x p) = false := by rfl) : MT nm X (.Compare e [.NotIn] [.Name x p] pos) (mTabIn true kvs me) := by
  obtain ⟨a, o, es, ep, vs, h1, h2, h3, h4, h5, h6, h7, h8, h9⟩ := h
  exact ⟨fun W tk => (pt_cmpR (tabin_core (neg := true) rfl h2 h3 h4 h5 h6 h7 h8 h9) (he.run W tk) (pe_glob (v := .ref a) hg.g h1 rfl hg.d) hm).imp fun σ H Q hh => tabin_rd hh⟩
def mTabGet (kvs : List (Key × D)) (m : EM) : EM := fun e S => (m e S).bind fun d S => match keyOf d with
  | some k => match getK kvs k with
    | some d => .ok d S
    | none => .stuck
  | none => .stuck
theorem me_tabget {k : Nat} {x : Str} {p : Pos} {kvs : List (Key × D)} (hr : L2H.RoomH k X.A) (h : TC X.prog X.w X.K X.mg x kvs) (hg : GlN X x) (he : ME nm X e me) (hs : PlainIx e := by exact fun _ _ => rfl) : ME nm X (.Subscript (.Name x p) e pos) (mTabGet kvs me) := by
  obtain ⟨a, o, es, ep, vs, h1, h2, h3, h4, h5, h6, h7, h8, h9⟩ := h
  refine ⟨fun W tk => ⟨fun pins s σ H Q I hh => ?_⟩⟩
  obtain ⟨ev, S, μ, E, sm, p⟩ := hh
  refine Subscript_ (thn ((pe_glob (v := .ref a) hg.g h1 rfl hg.d).run pins s σ H (fun x H1 => x = .ref a ∧ H1 = H) I ⟨rfl, rfl⟩) fun v s1 ⟨x, H1, I1, r1, q1⟩ => ?_)
  obtain ⟨rfl, rfl⟩ := q1
  cases r1
  refine thn ((he.run W tk).run pins s1 σ H1 (fun y H2 => ∃ key u v, y = kV key ∧ valueAt vs key = some u ∧ RelV v u ∧ Q v H2) I1 ⟨ev, S, μ, E, sm, (Post.bind p).mono fun d S1 μ1 H2 x1 s2 p1 v rv => ?_⟩) fun u s2 ⟨y, H2, I2, r2, q2⟩ => ?_
  · split at p1
    · rename_i key hk
      split at p1
      · rename_i d' hd
        rcases tv_get key h9 with ⟨e1, e2⟩ | ⟨d2, v', u, e1, e2, e3, e4⟩
        · rw [e1] at hd; cases hd
        · rw [e1] at hd; cases hd
          exact ⟨key, u, v', keyOf_kV rv hk, e2, e3, p1 μ1 H2 .refl s2 _ (e4 _ _)⟩
      · exact False.elim p1
    · exact False.elim p1
  · obtain ⟨key, u', v', rfl, e2, e3, q⟩ := q2
    have dd := tab_dict (K := X.K) I2 h2 h4 h5 h6 h7 h8
    exact dict_tail dd.typeIs (hs _ _) (wpAny_getItem_of (kV_is r2) dd.mapOf e2 ⟨v', H2, I2.tok _, e3, q⟩)
def lvOf (S : Store) (d : D) : Option (List D) := match d with
  | .lst ds => some ds
  | .obj n => match S[n]? with
    | some (.lst ds) => some ds
    | _ => none
  | _ => none
def catS (new : Bool) (S : Store) (x y : D) : R D := match lvOf S x with
  | some xs => match lvOf S y with
    | some ys => if xs.length + ys.length ≤ sizeLine then fin new (xs ++ ys) S else .stuck
    | none => .stuck
  | none => .stuck
/-- a table, from its entries -/
theorem tc_mk {P : Program} {w : World} {K : PySem.W.Frag} {mg : Str → Option Value} {x : Str} {a : Addr} {ep : Nat} {es : Array DictEntry} {L : List (Key × Value × Value)} {kvs : List (Key × D)} (g : mg x = some (.ref a)) (l : K.lookup a = some ⟨.type "dict", none, .dict es ep, #[]⟩)
    (he : es = (L.map fun x => (⟨keyH w x.1, x.2.1, x.2.2⟩ : DictEntry)).toArray) (z : (a == sysModules) = false) (hk : ∀ x ∈ L, keyIs x.1 x.2.1 = true) (nd : (L.map (·.1)).Nodup) (tv : Paired (TV K) kvs (L.map fun x => (x.1, x.2.2))) : TC P w K mg x kvs := by
  subst he
  refine ⟨a, _, _, ep, L.map fun x => (x.1, x.2.2), g, l, z, ⟨rfl, rfl, rfl⟩, rfl, fun e h => ?_, ?_, by rw [List.map_map]; exact nd, tv⟩
  · have h' : e ∈ L.map fun x => (⟨keyH w x.1, x.2.1, x.2.2⟩ : DictEntry) := by simpa using h
    obtain ⟨q, hq, rfl⟩ := List.mem_map.mp h'
    exact ⟨q.1, hk q hq, rfl⟩
  · have : ∀ M : List (Key × Value × Value), (∀ x ∈ M, keyIs x.1 x.2.1 = true) → Pairs (mixKind P w) (M.map fun x => (⟨keyH w x.1, x.2.1, x.2.2⟩ : DictEntry)) (M.map fun x => (x.1, x.2.2)) := by
      intro M
      induction M with
      | nil => intro _; exact .nil
      | cons q M ih => intro hM; exact .cons (hM q (by simp)) rfl (ih fun x hx => hM x (by simp [hx]))
    exact this L hk
theorem tv_int {K : PySem.W.Frag} {k : Key} {i : Int} {t : Tok} : TV K (k, .int i) (k, .int i t) := ⟨rfl, .int i, ⟨t, rfl⟩, fun _ _ => .int i⟩
/-- what a written tuple holds: constants -/
def CV (d : D) (q : Value) : Prop := ∃ v, RelV v q ∧ ∀ K H μ, RV K H μ v d
theorem cv_str {i : Str} {t : Tok} : CV (.str i) (.str i t) := ⟨.str i, ⟨t, rfl⟩, fun _ _ _ => .str i⟩
theorem cv_vals : ∀ {ds : List D} {qs : List Value}, Paired CV ds qs → ∃ vs, Vals vs qs ∧ ∀ K H μ, RVs K H μ vs ds
  | _, _, .nil => ⟨[], .nil, fun _ _ _ => .nil⟩
  | _, _, .cons r t => by
    obtain ⟨v, r1, r2⟩ := r
    obtain ⟨vs, h1, h2⟩ := cv_vals t
    exact ⟨v :: vs, .cons r1 h1, fun K H μ => .cons (r2 K H μ) (h2 K H μ)⟩
theorem tv_tup {K : PySem.W.Frag} {k : Key} {a : Addr} {n : Nat} {ds : List D} {qs : List Value} (l : K.lookup a = some ⟨.type "tuple", none, .seq qs.toArray n, #[]⟩) (c : Paired CV ds qs) (h : qs.length ≤ 100 := by simp) : TV K (k, .tup ds) (k, .ref a) := by
  obtain ⟨vs, h1, h2⟩ := cv_vals c
  exact ⟨rfl, .ref a, rfl, fun H μ => .tup (.inr ⟨_, _, n, l, rfl, rfl, by simp; exact Nat.le_trans h (by decide), by simpa using h1⟩) (h2 K H μ)⟩
end
end BS
namespace BS
open PySem PySem.Spec PyProof.Rows L2
def wipeD (l : List (Option D)) : List Nat → List (Option D)
  | [] => l
  | v :: vs => (wipeD l vs).set v none
def Ev.wip (e : Ev) (vs : List Nat) : Ev := ⟨wipeD e.sl vs, []⟩
@[simp] theorem Ev.wip_mk (l : List (Option D)) (vs : List Nat) : Ev.wip ⟨l, []⟩ vs = ⟨wipeD l vs, []⟩ := rfl
@[simp] theorem wipeD_nil (l : List (Option D)) : wipeD l [] = l := rfl
@[simp] theorem wipeD_cons (l : List (Option D)) (v : Nat) (vs : List Nat) : wipeD l (v :: vs) = (wipeD l vs).set v none := rfl
theorem wipeD_len (l : List (Option D)) : ∀ vs, (wipeD l vs).length = l.length
  | [] => rfl
  | v :: vs => by rw [wipeD_cons, List.length_set, wipeD_len l vs]
theorem wipeD_some {l : List (Option D)} {i : Nat} {d : D} : ∀ {vs : List Nat}, (wipeD l vs)[i]? = some (some d) → l[i]? = some (some d) ∧ i ∉ vs
  | [], h => ⟨h, by simp⟩
  | v :: vs, h => by
    rw [wipeD_cons] at h
    by_cases hi : v = i
    · subst hi
      by_cases hv : v < (wipeD l vs).length
      · rw [List.getElem?_set_self hv] at h; cases h
      · rw [List.getElem?_eq_none (by simpa using hv)] at h; cases h
    · rw [List.getElem?_set_ne hi] at h
      obtain ⟨h1, h2⟩ := wipeD_some h
      exact ⟨h1, by simp only [List.mem_cons, not_or]; exact ⟨fun e => hi e.symm, h2⟩⟩
def setAll {α : Type} (l : List (Option α)) : List Nat → List α → List (Option α)
  | i :: is, x :: xs => setAll (l.set i (some x)) is xs
  | _, _ => l
@[simp] theorem setAll_nil {α : Type} (l : List (Option α)) (xs : List α) : setAll l [] xs = l := by cases xs <;> rfl
@[simp] theorem setAll_cons {α : Type} (l : List (Option α)) (i : Nat) (is : List Nat) (x : α) (xs : List α) : setAll l (i :: is) (x :: xs) = setAll (l.set i (some x)) is xs := rfl
theorem wipe_in {σ : St} {i : Nat} : ∀ {vs : List Nat}, i ∈ vs → (wipe σ vs)[i]? = if i < σ.length then some none else none
  | v :: vs, h => by
    unfold wipe
    by_cases hi : v = i
    · subst hi
      rw [List.getElem?_set]
      simp [wipe_length]
    · rw [List.getElem?_set_ne hi]
      have h' : i ∈ vs := by
        rcases List.mem_cons.mp h with z | z
        · exact absurd z.symm hi
        · exact z
      exact wipe_in h'
theorem wipe_ext {σ σ' : St} {vs : List Nat} (hl : σ.length = σ'.length) (h : ∀ i, i ∉ vs → σ[i]? = σ'[i]?) : wipe σ vs = wipe σ' vs := by
  refine List.ext_getElem? fun i => ?_
  by_cases hi : i ∈ vs
  · rw [wipe_in hi, wipe_in hi, hl]
  · rw [wipe_out hi, wipe_out hi, h i hi]
theorem setAll_len {α : Type} : ∀ (is : List Nat) (l : List (Option α)) (xs : List α), (setAll l is xs).length = l.length
  | [], l, xs => by rw [setAll_nil]
  | i :: is, l, [] => rfl
  | i :: is, l, x :: xs => by rw [setAll_cons, setAll_len is, List.length_set]
theorem setAll_out {α : Type} {j : Nat} : ∀ (is : List Nat) (l : List (Option α)) (xs : List α), j ∉ is → (setAll l is xs)[j]? = l[j]?
  | [], l, xs, _ => by rw [setAll_nil]
  | i :: is, l, [], _ => rfl
  | i :: is, l, x :: xs, h => by
    rw [setAll_cons, setAll_out is _ xs (fun z => h (by simp [z])), List.getElem?_set_ne (fun z => h (by simp [z]))]
theorem wipe_setAll {σ : St} {vs is : List Nat} (xs : List V) (hs : ∀ i ∈ is, i ∈ vs) : wipe (setAll (wipe σ vs) is xs) vs = wipe σ vs := by
  refine wipe_ext (by rw [setAll_len, wipe_length]) fun i hi => ?_
  rw [setAll_out is _ xs (fun z => hi (hs i z)), wipe_out hi]
section
variable {nm : Nms} {X : Cx}
theorem evr_wip {X' : Cx} {H : Hp} {μ : List Addr} {e : Ev} {σ : St} (hK : X'.K = X.K) (vs : List Nat) (E : EvR nm X H μ e σ) : EvR nm X' H μ (e.wip vs) (wipe σ vs) := by
  refine ⟨by show (wipeD e.sl vs).length = _; rw [wipeD_len, wipe_length, E.len], fun i d h => ?_, fun p hp => absurd (show p ∈ ([] : List _) from hp) (by simp)⟩
  obtain ⟨h1, h2⟩ := wipeD_some h
  obtain ⟨v, hv, r⟩ := E.at_ i d h1
  exact ⟨v, by rw [wipe_out h2]; exact hv, by rw [hK]; exact r⟩
theorem evr_setAll {H : Hp} {μ : List Addr} : ∀ (is : List Nat) {l : List (Option D)} {σ : St} {xs : List V} {ds : List D}, RVs X.K H μ xs ds → EvR nm X H μ ⟨l, []⟩ σ → EvR nm X H μ ⟨setAll l is ds, []⟩ (setAll σ is xs)
  | [], l, σ, xs, ds, r, E => by rw [setAll_nil, setAll_nil]; exact E
  | i :: is, l, σ, _, _, .nil, E => E
  | i :: is, l, σ, _, _, .cons r t, E => by
    rw [setAll_cons, setAll_cons]
    exact evr_setAll is t (E.set r)
inductive LT where
  | one (i : Nat) | many (is : List Nat)
def LT.ix (t : LT) : List Nat := match t with
  | .one i => [i]
  | .many is => is
@[simp] theorem LT.ix_one (i : Nat) : (LT.one i).ix = [i] := rfl
@[simp] theorem LT.ix_many (is : List Nat) : (LT.many is).ix = is := rfl
def LT.items (t : LT) (d : D) : Option (List D) := match t with
  | .one _ => some [d]
  | .many is => match tupOf d with
    | some ds => if ds.length = is.length then some ds else none
    | none => none
def gNs : List Nat → TGs
  | [] => gNil
  | i :: is => gCons (gName i) (gNs is)
def LT.tg (K : PySem.W.Frag) (t : LT) : TG := match t with
  | .one i => gName i
  | .many is => gTup K is.length (gNs is)
theorem gNs_run {H : Hp} {Q : St → Hp → Prop} : ∀ (is : List Nat) (xs : List V) (σ : St), xs.length = is.length → Q (setAll σ is xs) H → gNs is xs σ H Q
  | [], [], σ, _, h => ⟨rfl, h⟩
  | i :: is, x :: xs, σ, hl, h => ⟨x, xs, rfl, gNs_run is xs _ (by simpa using hl) h⟩
theorem lt_run {t : LT} {d : D} {ds : List D} {x : V} {H : Hp} {μ : List Addr} (h : t.items d = some ds) (r : RV X.K H μ x d) : ∃ xs, RVs X.K H μ xs ds ∧ ∀ σ Q, Q (setAll σ t.ix xs) H → t.tg X.K x σ H Q := by
  cases t with
  | one i => cases h; exact ⟨[x], .cons r .nil, fun σ Q q => q⟩
  | many is =>
    unfold LT.items at h
    dsimp only at h
    split at h
    · rename_i ds' hds
      split at h
      · rename_i hl
        cases h
        obtain ⟨a, xs, rfl, hs, rs⟩ := tupOf_sq r hds
        exact ⟨xs, rs, fun σ Q q => ⟨a, xs, rfl, hs, by rw [rs.length, hl], gNs_run is xs σ (by rw [rs.length, hl]) q⟩⟩
      · cases h
    · cases h
structure MTs (nm : Nms) (X : Cx) (ifs : List Expr) (m : TM) : Prop where
  run : ∀ W, Takes X W → PTs X ifs (rdT nm X W m)
def mYes : TM := fun _ S => .ok true S
theorem mts_nil : MTs nm X [] mYes := ⟨fun W tk => ⟨fun pins s σ H Q I hh => by
  obtain ⟨e, S, μ, E, sm, p⟩ := hh
  exact pts_nil.run pins s σ H Q I (p μ H .refl sm)⟩⟩
def R.nox {α : Type} (r : R α) : R α := match r with
  | .ok a S => .ok a S
  | _ => .stuck
@[simp] theorem R.nox_ok {α : Type} (a : α) (S : Store) : (R.ok a S).nox = .ok a S := rfl
theorem post_nox {α : Type} {K : PySem.W.Frag} {mg : Str → Option Value} {μ : List Addr} {H : Hp} {r : R α} {P : PA α} {E E' : PX} (h : Post nm K mg μ H r.nox P E) : Post nm K mg μ H r P E' := by
  cases r with
  | ok a S => exact h
  | exc c fs S => exact False.elim h
  | stuck => exact h
theorem bind_assoc {α β γ : Type} (r : R α) (f : α → Store → R β) (g : β → Store → R γ) : (r.bind f).bind g = r.bind fun a S => (f a S).bind g := by cases r <;> rfl
open Classical in
noncomputable def lcL (n : Nat) (G : Store → Prop) (t : LT) (e0 : Ev) (tt : TM) (el : EM) : List D → Store → R Unit
  | [], S => if G S then .ok () S else .stuck
  | d :: ds, S => if G S then match t.items d with
    | some xs => ((tt ⟨setAll e0.sl t.ix xs, []⟩ S).nox).bind fun b S2 => if b = true then ((el ⟨setAll e0.sl t.ix xs, []⟩ S2).nox).bind fun y S3 => match S3[n]? with
        | some (.lst acc) => if acc.length < sizeLine then lcL n G t e0 tt el ds (S3.set n (.lst (acc ++ [y]))) else .stuck
        | _ => .stuck
      else lcL n G t e0 tt el ds S2
    | none => .stuck
    else .stuck
noncomputable def mLc (vs : List Nat) (t : LT) (it : IM) (tt : TM) (el : EM) : EM := fun e S => (it e S).bind fun w S1 => (lcL S1.length w.G t (e.wip vs) tt el w.ds (S1 ++ [.lst []])).bind fun _ S2 => .ok (.obj S1.length) S2
/-- the block's context, for the names alone -/
abbrev blk0 (X : Cx) (scope : Scope) : Cx := X.blk X.s_0 X.H_0 scope X.env []
theorem lc_rd {W : WX} {tg iter : Expr} {scope : Scope} {it : IM} {tt : TM} {el : EM} {vs : List Nat} (t : LT) (hsub : ∀ i ∈ t.ix, i ∈ vs) {σ : St} {H : Hp} {Q : VK} (hh : rdE nm X W (mLc vs t it tt el) σ H Q) :
    tLc (fun σ H R => ∃ e S μ, EvR nm X H μ e σ ∧ Sim nm X.K X.mg μ S H ∧ PostX nm X W μ H σ (it e S) fun w S' μ' H' => ∀ J C, Stable C → C H' μ' → WOk nm X J w C → R J H') (t.tg X.K)
      (rdT nm (blk0 X scope) (fun _ _ _ _ => False) tt) (rdE nm (blk0 X scope) (fun _ _ _ _ => False) el) vs σ H Q := by
  obtain ⟨e, S, μ, E, s, p⟩ := hh
  refine ⟨e, S, μ, E, s, (Post.bind p).mono fun w S1 μ1 H1 x1 s1 p1 J C st c0 ok' => ?_⟩
  intro D nD
  refine ⟨fun i m H' => m = w.ds.length - i ∧ i ≤ w.ds.length ∧ ∃ S μ', EvR nm X H' μ' e σ ∧ Sim nm X.K X.mg μ' S H' ∧ C H' μ' ∧ μ'[S1.length]? = some D ∧ PostX nm X W μ' H' σ ((lcL S1.length w.G t (e.wip vs) tt el (w.ds.drop i) S).bind fun _ S2 => .ok (.obj S1.length) S2) (fun d _ μ' H' => ∀ v, RV X.K H' μ' v d → Q v H'),
    ⟨w.ds.length, rfl, Nat.zero_le _, S1 ++ [.lst []], μ1 ++ [D], (E.ext x1).ext (Ext.made s1 nD), s1.made (o := .lst []) nD ⟨[], upd_same, .nil⟩, st _ _ _ _ (Ext.made s1 nD) c0, new_at s1, by rw [List.drop_zero]; exact Post.ext (Ext.made s1 nD) p1⟩, ?_⟩
  rintro i m H' ⟨rfl, hi, S, μ', E', s', c', eD, p'⟩
  by_cases hlt : i < w.ds.length
  · obtain ⟨d, hd⟩ : ∃ d, w.ds[i]? = some d := ⟨_, List.getElem?_eq_getElem hlt⟩
    have hdr : w.ds.drop i = d :: w.ds.drop (i + 1) := by
      rw [List.drop_eq_getElem_cons hlt]
      rw [List.getElem?_eq_getElem hlt] at hd
      cases hd; rfl
    rw [hdr] at p'
    unfold lcL at p'
    split at p'
    · rename_i hG
      obtain ⟨go, yl⟩ := (ok' i S μ' H' s' c' hG).1 d hd
      refine .inr ⟨go, fun H2 => ∃ m', m' < w.ds.length - i ∧ m' = w.ds.length - (i + 1) ∧ i + 1 ≤ w.ds.length ∧ ∃ S μ', EvR nm X H2 μ' e σ ∧ Sim nm X.K X.mg μ' S H2 ∧ C H2 μ' ∧ μ'[S1.length]? = some D ∧ PostX nm X W μ' H2 σ ((lcL S1.length w.G t (e.wip vs) tt el (w.ds.drop (i + 1)) S).bind fun _ S2 => .ok (.obj S1.length) S2) (fun d _ μ' H' => ∀ v, RV X.K H' μ' v d → Q v H'), fun H2 h => h, fun x H2 y => ?_⟩
      obtain ⟨x2, s2, r2⟩ := yl x H2 y
      split at p'
      · rename_i xs hxs
        obtain ⟨ws, rws, run⟩ := lt_run hxs r2
        refine run _ _ ⟨wipe_setAll ws hsub, ⟨setAll (e.wip vs).sl t.ix xs, []⟩, S, μ', ?_, s2, ?_⟩
        · exact evr_setAll (X := X.blk X.s_0 X.H_0 scope X.env []) t.ix rws (evr_wip (X := X) (X' := X.blk X.s_0 X.H_0 scope X.env []) rfl _ (E'.ext x2))
        · rw [bind_assoc] at p'
          refine post_nox ((Post.bind (Post.ext x2 p')).mono fun b S3 μ3 H3 x3 s3 p3 => ?_)
          have E3 := (E'.ext x2).ext x3
          have c3 := st _ _ _ _ (x2.trans x3) c'
          have eD3 := (x2.trans x3).at eD
          cases b with
          | true =>
            rw [if_pos rfl] at p3
            dsimp only
            rw [if_pos rfl]
            refine ⟨⟨setAll (e.wip vs).sl t.ix xs, []⟩, S3, μ3, ?_, s3, ?_⟩
            · exact evr_setAll (X := X.blk X.s_0 X.H_0 scope X.env []) t.ix (RVs.ext x3 _ rws) (evr_wip (X := X) (X' := X.blk X.s_0 X.H_0 scope X.env []) rfl _ E3)
            · rw [bind_assoc] at p3
              refine post_nox ((Post.bind p3).mono fun y S4 μ4 H4 x4 s4 p4 v rv => ?_)
              have eD4 := x4.at eD3
              split at p4
              · rename_i acc hacc
                split at p4
                · rename_i hl
                  obtain ⟨zs, e1, rz⟩ := s4.ob _ _ _ eD4 hacc
                  have x5 := Ext.wrote (H := H4) (u := .lst (zs ++ [v])) (List.mem_of_getElem? eD4) (NF.of e1)
                  exact ⟨zs, e1, by rw [rz.length]; exact hl, w.ds.length - (i + 1), by omega, rfl, hlt, S4.set S1.length (.lst (acc ++ [y])), μ4, (E3.ext x4).ext x5, s4.wrote eD4 ⟨zs ++ [v], upd_same, RVs.ext x5 _ (rz.append (.cons rv .nil))⟩, st _ _ _ _ (x4.trans x5) c3, eD4, Post.ext x5 p4⟩
                · exact False.elim p4
              · exact False.elim p4
          | false =>
            rw [if_neg Bool.false_ne_true] at p3
            dsimp only
            rw [if_neg Bool.false_ne_true]
            exact ⟨w.ds.length - (i + 1), by omega, rfl, hlt, S3, μ3, E3, s3, c3, eD3, p3⟩
      · exact False.elim p'
    · exact False.elim p'
  · have hz : w.ds.drop i = [] := List.drop_eq_nil_of_le (Nat.le_of_not_lt hlt)
    rw [hz] at p'
    unfold lcL at p'
    split at p'
    · rename_i hG
      exact .inl ⟨(ok' i S μ' H' s' c' hG).2 (Nat.le_of_not_lt hlt), p' μ' H' .refl s' _ (.obj eD)⟩
    · exact False.elim p'
theorem tk_blk {s : Shared} {H : Hp} {scope : Scope} {cenv : Env} {fp : List Addr} : Takes (X.blk s H scope cenv fp) (fun _ _ _ _ => False) := fun u s' x => by
  obtain ⟨_, _, _, _, _, _, _, _, _, _, _, _, _, _, _, _, w⟩ := x
  exact w.elim
theorem pts_blk {s : Shared} {H : Hp} {scope : Scope} {cenv : Env} {fp : List Addr} {ifs : List Expr} {tt : TM} (h : MTs nm (X.blk s H scope cenv fp) ifs tt) : PTs (X.blk s H scope cenv fp) ifs (rdT nm (blk0 X scope) (fun _ _ _ _ => False) tt) :=
  ⟨fun pins s1 σ H1 Q I hh => (h.run _ tk_blk).run pins s1 σ H1 Q I (by obtain ⟨e, S, μ, E, sm, p⟩ := hh; exact ⟨e, S, μ, ⟨E.len, E.at_, E.ex⟩, sm, p⟩)⟩
theorem pe_blk {s : Shared} {H : Hp} {scope : Scope} {cenv : Env} {fp : List Addr} {e : Expr} {el : EM} (h : ME nm (X.blk s H scope cenv fp) e el) : PE (X.blk s H scope cenv fp) e (rdE nm (blk0 X scope) (fun _ _ _ _ => False) el) :=
  (h.run _ tk_blk).imp fun σ H1 Q hh => by obtain ⟨e, S, μ, E, sm, p⟩ := hh; exact ⟨e, S, μ, ⟨E.len, E.at_, E.ex⟩, sm, p⟩
theorem me_lc {elt tg iter : Expr} {ifs : List Expr} {scope : Scope} {own : List (Str × Nat)} {pos : Pos} {it : IM} {tt : TM} {el : EM} {vs : List Nat} (t : LT) (hc : X.calm = true) (hN : X.N.Nodup) (hi : MI nm X tg iter it) (ok : BlkOk X.N X.env.scope scope own) (hv : own.map (·.2) = vs) (hsub : ∀ i ∈ t.ix, i ∈ vs)
    (hg : ∀ (s : Shared) (H : Hp) (C : Addr) (cl : List (Str × Addr)) (fp : List Addr), PG (X.blk s H scope (compEnvC scope cl C X.env) fp) tg (t.tg X.K))
    (ht : ∀ (s : Shared) (H : Hp) (C : Addr) (cl : List (Str × Addr)) (fp : List Addr), MTs nm (X.blk s H scope (compEnvC scope cl C X.env) fp) ifs tt)
    (he : ∀ (s : Shared) (H : Hp) (C : Addr) (cl : List (Str × Addr)) (fp : List Addr), ME nm (X.blk s H scope (compEnvC scope cl C X.env) fp) elt el)
    (hs : ∀ x, foldedSetIterable iter X.env x = pure x := by intro _; rfl) : ME nm X (.ListComp elt [⟨tg, iter, ifs, 0⟩] scope pos) (mLc vs t it tt el) := by
  subst hv
  exact ⟨fun W tk => (pe_lc hc hN (hi.run W tk) ok hg (fun s H C cl fp => pts_blk (ht s H C cl fp)) (fun s H C cl fp => pe_blk (he s H C cl fp)) hs).imp fun σ H Q hh => lc_rd (tg := tg) (iter := iter) t hsub hh⟩
theorem pg_one {s : Shared} {H : Hp} {scope : Scope} {cenv : Env} {fp : List Addr} {pos : Pos} (i : Nat) {x : Str} (hN : X.N.Nodup) (hi : X.N[i]? = some x) (hl : Loc cenv.scope x) (hf : (scope.names.lookup x == some .cell) = true ∨ cenv.scope.names.lookup x = some .local) :
    PG (X.blk s H scope cenv fp) (.Name x pos) ((LT.one i).tg X.K) := pg_name (X := X.blk s H scope cenv fp) hN hi hl hf
end
end BS
namespace BS
open PySem PySem.Spec PyProof.Rows L2
def kids : Expr → List Expr
  | .Call f as ks _ => f :: as ++ ks.map (·.value)
  | .Attribute o _ _ => [o]
  | .Tuple es _ _ => es
  | .List es _ => es
  | .BinOp a _ b _ => [a, b]
  | .Compare a _ bs _ => a :: bs
  | .BoolOp _ es _ => es
  | .UnaryOp _ a _ => [a]
  | .Subscript a b _ => [a, b]
  | .IfExp c a b _ => [c, a, b]
  | .ListComp elt gs _ _ => elt :: gs.map (·.iter) ++ gs.flatMap (·.ifs)
  | .Dict ks vs _ => ks.filterMap id ++ vs
  | _ => []
def kid (e : Expr) (i : Nat) : Expr := (kids e).getD i e
def skids : Stmt → List Expr
  | .Assign ts e _ => e :: ts
  | .Expr e _ => [e]
  | .Return (some e) _ => [e]
  | .If c _ _ _ => [c]
  | .For _ it _ _ _ => [it]
  | .While c _ _ _ => [c]
  | .AugAssign t _ v _ => [v, t]
  | .Raise (some e) _ _ => [e]
  | _ => []
def skid (s : Stmt) (i : Nat) : Expr := (skids s).getD i (.Constant .none 0 ⟨0, 0, 0, 0⟩)
def hbody : ExceptHandler → List Stmt
  | .ExceptHandler _ _ b _ => b
def subs : Stmt → List Stmt
  | .If _ a b _ => a ++ b
  | .For _ _ b _ _ => b
  | .While _ b _ _ => b
  | .Try b hs o f _ => b ++ hs.flatMap hbody ++ o ++ f
  | _ => []
def stm (l : List Stmt) (i : Nat) : Stmt := l.getD i (.Pass ⟨0, 0, 0, 0⟩)
def lcOf : Expr → Scope
  | .ListComp _ _ s _ => s
  | _ => { kind := .module, names := [], isGenerator := false, isCoroutine := false, more := [] }
end BS
namespace BS
open PySem PySem.Spec PyProof.Rows L2
section
variable {nm : Nms} {X : Cx}
def blsOf : List D → Option (List Bool)
  | [] => some []
  | .bl b :: r => (blsOf r).map (b :: ·)
  | _ :: _ => none
theorem bls_rv {K : PySem.W.Frag} {H : Hp} {μ : List Addr} : ∀ {ds : List D} {xs : List V} {bs : List Bool}, RVs K H μ xs ds → blsOf ds = some bs → xs = bs.map V.bl
  | [], _, _, .nil, h => by cases h; rfl
  | d :: ds, _, bs, .cons r t, h => by
    cases d with
    | bl b =>
      obtain ⟨bs', h', rfl⟩ := Option.map_eq_some_iff.mp h
      cases r
      rw [bls_rv t h']; rfl
    | _ => cases h
def fnAll : FM := fun ds S => match ds with
  | [d] => match lstOf S d with
    | some xs => match blsOf xs with
      | some bs => .ok (.bl (bs.all id)) S
      | none => .stuck
    | none => .stuck
  | _ => .stuck
theorem c_all (hc : X.calm = true) : CallD nm X (.builtin "all") fnAll := by
  intro pins s σ H xs us Q I r h
  obtain ⟨ds, S, μ, E, rv, sm, p⟩ := h
  unfold fnAll at p
  split at p
  · rename_i d
    split at p
    · rename_i xs' hl
      split at p
      · rename_i bs hb
        obtain ⟨v, rfl, r1⟩ := one_rv rv
        obtain ⟨a, ys, rfl, hs, r2⟩ := lstOf_sq sm r1 hl
        exact cr_all hc pins s σ H _ us Q I r ⟨a, bs, rfl, by rw [← bls_rv r2 hb]; exact hs, p μ H .refl sm _ (.bl _)⟩
      · exact False.elim p
    · exact False.elim p
  · exact False.elim p
end
end BS
namespace BS
open PySem PySem.Spec PyProof.Rows L2
section
variable {nm : Nms} {X : Cx}
def popS (S : Store) (n : Nat) (k : D) (x : Option D) : R D := match S[n]? with
  | some (.dct kvs) => match keyOf k with
    | some key => match getK kvs key with
      | some d => .ok d (S.set n (.dct (dropD kvs key)))
      | none => match x with
        | some x => .ok x S
        | none => .stuck
    | none => .stuck
  | _ => .stuck
def fnPopD : FM := fun ds S => match ds with
  | [.obj n, k] => popS S n k none
  | [.obj n, k, x] => popS S n k (some x)
  | _ => .stuck
theorem t_popD : MtD nm X "dict.pop" fnPopD := by
  intro pins s σ H x xs v us Q I rx r h
  obtain ⟨ds, S, μ, E, rv, sm, p⟩ := h
  unfold fnPopD at p
  split at p
  · rename_i n dk
    obtain ⟨r1, rt⟩ := rvs_cons rv
    obtain ⟨y, rfl, r2⟩ := one_rv rt
    obtain ⟨u, rfl, ru⟩ := vals1 r
    unfold popS at p
    split at p
    · rename_i kvs hS
      split at p
      · rename_i key hk
        cases r1 with | @obj a _ en =>
        obtain ⟨ys, e1, rk⟩ := sm.ob _ _ _ en hS
        have ek := keyOf_kV r2 hk
        subst ek
        cases rx
        rcases getK_val key rk with ⟨h1, h2⟩ | ⟨w, d, h1, h2, h3⟩
        · rw [h2] at p; exact False.elim p
        · rw [h2] at p
          have x := Ext.wrote (H := H) (u := .dK (dropK ys key)) (List.mem_of_getElem? en) (NF.of e1)
          exact d_pop I e1 ru h1 (.inl rfl) fun w' s3 I3 rw' => ⟨w, _, I3, rw', p μ _ x (sm.wrote en ⟨_, upd_same, RK.ext x (drop_rk rk)⟩) w (h3.ext x)⟩
      · exact False.elim p
    · exact False.elim p
  · rename_i n dk dx
    obtain ⟨r1, rt⟩ := rvs_cons rv
    obtain ⟨y, z, rfl, r2, r4⟩ := two_rv rt
    obtain ⟨u, f, rfl, ru, rf⟩ := vals2 r
    unfold popS at p
    split at p
    · rename_i kvs hS
      split at p
      · rename_i key hk
        cases r1 with | @obj a _ en =>
        obtain ⟨ys, e1, rk⟩ := sm.ob _ _ _ en hS
        have ek := keyOf_kV r2 hk
        subst ek
        cases rx
        rcases getK_val key rk with ⟨h1, h2⟩ | ⟨w, d, h1, h2, h3⟩
        · rw [h2] at p
          exact d_popD I e1 ru h1 fun s4 I4 => ⟨z, H, I4, rf, p μ H .refl sm z r4⟩
        · rw [h2] at p
          have x := Ext.wrote (H := H) (u := .dK (dropK ys key)) (List.mem_of_getElem? en) (NF.of e1)
          exact d_pop I e1 ru h1 (.inr ⟨f, rfl⟩) fun w' s3 I3 rw' => ⟨w, _, I3, rw', p μ _ x (sm.wrote en ⟨_, upd_same, RK.ext x (drop_rk rk)⟩) w (h3.ext x)⟩
      · exact False.elim p
    · exact False.elim p
  · exact False.elim p
end
end BS
namespace BS
open PySem PySem.Spec PyProof.Rows L2
theorem sorted_one {α : Type} {r : α → α → Prop} (anti : ∀ a b, r a b → r b a → a = b) : ∀ {l1 l2 : List α}, l1.Perm l2 → l1.Pairwise r → l2.Pairwise r → l1 = l2
  | [], l2, p, _, _ => (List.nil_perm.mp p).symm
  | a :: l1, [], p, _, _ => absurd p.symm (by simp)
  | a :: l1, b :: l2, p, h1, h2 => by
    have e : a = b := by
      have ha : a ∈ b :: l2 := p.subset (by simp)
      have hb : b ∈ a :: l1 := p.symm.subset (by simp)
      rcases List.mem_cons.mp ha with e | ha
      · exact e
      · rcases List.mem_cons.mp hb with e | hb
        · exact e.symm
        · exact anti a b ((List.pairwise_cons.mp h1).1 b hb) ((List.pairwise_cons.mp h2).1 a ha)
    subst e
    rw [sorted_one anti (List.Perm.cons_inv p) (List.pairwise_cons.mp h1).2 (List.pairwise_cons.mp h2).2]
def sortI (ns : List Int) : List Int := ns.mergeSort (fun a b => decide (a ≤ b))
theorem sortI_perm (ns : List Int) : (sortI ns).Perm ns := List.mergeSort_perm _ _
theorem sortI_sorted (ns : List Int) : (sortI ns).Pairwise (· ≤ ·) := by
  have h := List.pairwise_mergeSort (le := fun a b : Int => decide (a ≤ b)) (fun a b c h1 h2 => by simp at *; omega) (fun a b => by simp; omega) ns
  exact h.imp fun h => by simpa using h
theorem sortI_one {ns ns' : List Int} (p : ns'.Perm ns) (h : ns'.Pairwise (· ≤ ·)) : ns' = sortI ns :=
  sorted_one (fun a b h1 h2 => Int.le_antisymm h1 h2) (p.trans (sortI_perm ns).symm) h (sortI_sorted ns)
def intsOf : List D → Option (List Int)
  | [] => some []
  | .int i :: r => (intsOf r).map (i :: ·)
  | _ :: _ => none
def keysI : List (Key × D) → Option (List Int)
  | [] => some []
  | (.inl i, _) :: r => (keysI r).map (i :: ·)
  | _ :: _ => none
theorem intsOf_rv {K : PySem.W.Frag} {H : Hp} {μ : List Addr} : ∀ {ds : List D} {xs : List V} {ns : List Int}, RVs K H μ xs ds → BS.intsOf ds = some ns → xs = ns.map V.int
  | [], _, _, .nil, h => by cases h; rfl
  | d :: ds, _, ns, .cons r t, h => by
    cases d with
    | int i =>
      obtain ⟨ns', h', rfl⟩ := Option.map_eq_some_iff.mp h
      cases r
      rw [intsOf_rv t h']; rfl
    | _ => cases h
theorem keysI_rk {K : PySem.W.Frag} {H : Hp} {μ : List Addr} : ∀ {kvs : List (Key × D)} {ys : List (Key × V)} {ns : List Int}, RK K H μ ys kvs → keysI kvs = some ns → ys.map (·.1) = ns.map Sum.inl
  | [], _, _, .nil, h => by cases h; rfl
  | (k, d) :: kvs, y :: ys, ns, .cons r t, h => by
    cases k with
    | inl i =>
      obtain ⟨ns', h', rfl⟩ := Option.map_eq_some_iff.mp h
      rw [List.map_cons, List.map_cons, keysI_rk t h', r.1]
    | inr _ => cases h
theorem rvs_intsD {K : PySem.W.Frag} {H : Hp} {μ : List Addr} : ∀ ns : List Int, RVs K H μ (ns.map V.int) (ns.map D.int)
  | [] => .nil
  | n :: ns => .cons (.int n) (rvs_intsD ns)
def leS (a b : Str) : Prop := ltS b a = false
theorem leS_iff {a b : Str} : leS a b ↔ a.cps.toList ≤ b.cps.toList := by
  unfold leS ltS
  rw [decide_eq_false_iff_not]
  exact List.not_lt
theorem leS_trans {a b c : Str} (h1 : leS a b) (h2 : leS b c) : leS a c := leS_iff.mpr (List.le_trans (leS_iff.mp h1) (leS_iff.mp h2))
theorem leS_anti {a b : Str} (h1 : leS a b) (h2 : leS b a) : a = b := by
  have e := List.le_antisymm (leS_iff.mp h1) (leS_iff.mp h2)
  cases a; cases b
  simpa using e
theorem leS_total (a b : Str) : leS a b ∨ leS b a := by
  rcases List.le_total a.cps.toList b.cps.toList with h | h
  · exact .inl (leS_iff.mpr h)
  · exact .inr (leS_iff.mpr h)
theorem rising_pw : ∀ (r : List Str) (p : Str), risingS p r = true → (∀ x ∈ r, leS p x) ∧ r.Pairwise leS
  | [], p, _ => ⟨by simp, .nil⟩
  | x :: r, p, h => by
    unfold risingS at h
    rw [Bool.and_eq_true] at h
    have hx : leS p x := by
      unfold leS ltS
      have := h.1
      rw [ltCps_eq] at this
      simpa using this
    obtain ⟨h1, h2⟩ := rising_pw r x h.2
    exact ⟨fun y hy => by
      rcases List.mem_cons.mp hy with rfl | hy
      · exact hx
      · exact leS_trans hx (h1 y hy), List.pairwise_cons.mpr ⟨h1, h2⟩⟩
theorem sorted_pw {ys : List Str} (h : sortedS ys = true) : ys.Pairwise leS := by
  cases ys with
  | nil => exact .nil
  | cons x r =>
    obtain ⟨h1, h2⟩ := rising_pw r x h
    exact List.pairwise_cons.mpr ⟨h1, h2⟩
def sortT (zs : List Str) : List Str := zs.mergeSort (fun a b => !ltS b a)
theorem sortT_perm (zs : List Str) : (sortT zs).Perm zs := List.mergeSort_perm _ _
theorem sortT_sorted (zs : List Str) : (sortT zs).Pairwise leS := by
  have h := List.pairwise_mergeSort (le := fun a b : Str => !ltS b a) (fun a b c h1 h2 => by
    simp only [Bool.not_eq_true'] at *
    exact leS_trans (a := a) (b := b) (c := c) h1 h2) (fun a b => by
    rcases leS_total a b with h | h
    · simp only [Bool.or_eq_true, Bool.not_eq_true']; exact .inl h
    · simp only [Bool.or_eq_true, Bool.not_eq_true']; exact .inr h) zs
  exact h.imp fun h => by simpa [leS] using h
theorem sortT_one {zs ys : List Str} (p : ys.Perm zs) (h : sortedS ys = true) : ys = sortT zs :=
  sorted_one (fun a b h1 h2 => leS_anti h1 h2) (p.trans (sortT_perm zs).symm) (sorted_pw h) (sortT_sorted zs)
def strsOf : List D → Option (List Str)
  | [] => some []
  | .str i :: r => (strsOf r).map (i :: ·)
  | _ :: _ => none
def keysT : List (Key × D) → Option (List Str)
  | [] => some []
  | (.inr i, _) :: r => (keysT r).map (i :: ·)
  | _ :: _ => none
theorem strsOf_rv {K : PySem.W.Frag} {H : Hp} {μ : List Addr} : ∀ {ds : List D} {xs : List V} {ns : List Str}, RVs K H μ xs ds → BS.strsOf ds = some ns → xs = ns.map V.str
  | [], _, _, .nil, h => by cases h; rfl
  | d :: ds, _, ns, .cons r t, h => by
    cases d with
    | str i =>
      obtain ⟨ns', h', rfl⟩ := Option.map_eq_some_iff.mp h
      cases r
      rw [strsOf_rv t h']; rfl
    | _ => cases h
theorem keysT_rk {K : PySem.W.Frag} {H : Hp} {μ : List Addr} : ∀ {kvs : List (Key × D)} {ys : List (Key × V)} {ns : List Str}, RK K H μ ys kvs → keysT kvs = some ns → ys.map (·.1) = ns.map Sum.inr
  | [], _, _, .nil, h => by cases h; rfl
  | (k, d) :: kvs, y :: ys, ns, .cons r t, h => by
    cases k with
    | inr i =>
      obtain ⟨ns', h', rfl⟩ := Option.map_eq_some_iff.mp h
      rw [List.map_cons, List.map_cons, keysT_rk t h', r.1]
    | inl _ => cases h
theorem rvs_strsD {K : PySem.W.Frag} {H : Hp} {μ : List Addr} : ∀ ns : List Str, RVs K H μ (ns.map V.str) (ns.map D.str)
  | [] => .nil
  | n :: ns => .cons (.str n) (rvs_strsD ns)
def sv (v : Value) : Str := strOf v
def ltSv (v u : Value) : Bool := ltS (sv v) (sv u)
theorem ltS_asym {a b : Str} (h : ltS a b = true) : ltS b a = false := by
  unfold ltS at *
  rw [decide_eq_true_eq] at h
  rw [decide_eq_false_iff_not]
  exact fun g => (List.lt_asymm h) g
theorem swo_str : SrtO.Swo ltSv := ⟨fun x y h => ltS_asym h, fun x y z h1 h2 => leS_trans (a := sv x) (b := sv y) (c := sv z) h1 h2⟩
section
variable {prog : Program} {w : World} {A : Around} {E : Value → Shared → Prop} {s : Shared}
theorem strs_mem {vs : List Value} {zs : List Str} (h : StrsAre vs zs) (v : Value) (m : v ∈ vs) : ∃ x t, v = .str x t := h.all v m
theorem str_cmp {vs : List Value} {ns : List Str} (hI : StrsAre vs ns) : SrtO.Cmp prog w A s oneType' (fun p => p.1 ∈ vs) (SrtO.lt2 ltSv) := by
  intro p q hm hm'
  obtain ⟨a, t, e⟩ := strs_mem hI _ hm
  obtain ⟨b, u, e'⟩ := strs_mem hI _ hm'
  show wpAny (model prog w) A (keyLt' oneType' p.1 q.1) (fun r s' => s' = s ∧ r = ltSv p.1 q.1) (fun _ _ => False) s
  rw [e, e', keyLt'_oneType]
  exact oneLt_str ⟨rfl, rfl⟩
theorem strs_sortable {a : Addr} {vs : List Value} {ns : List Str} (hI : StrsAre vs ns) (h2 : 2 ≤ vs.length) : SrtO.SortableO prog w A s a vs ltSv := by
  intro h' _
  refine ⟨oneType', fun Q E hq => ?_, str_cmp hI⟩
  match vs, hI, h2 with
  | v1 :: v2 :: rest, hI, _ =>
    rw [keyKind_strs hI]
    exact wpAny_pure hq
  | [], _, h => exact absurd h (by decide)
  | [v], _, h => exact absurd h (by simp)
end
theorem strs_outF {vs out : List Value} {ns : List Str} (hI : StrsAre vs ns) (hs : SrtO.Srtd ltSv out) (hb : SrtO.Stb ltSv out vs) : StrsAre out (sortT ns) := by
  have h1 : StrsAre out (out.map strOf) := strsAre_map out fun v m => hI.all v (hb.perm.mem_iff.mp m)
  have h2 : (out.map strOf).Perm ns := by
    have q := hb.perm.map strOf
    rwa [hI.strs] at q
  have h3 : (out.map strOf).Pairwise leS := List.pairwise_map.mpr (hs.imp fun {x y} h => h)
  have h4 : out.map strOf = sortT ns := sorted_one (fun a b => leS_anti) (h2.trans (sortT_perm ns).symm) h3 (sortT_sorted ns)
  rwa [← h4]
section
variable {X : Cx}
/-- sorted(d), texts, any number of them -/
theorem call_sortedDT (hcalm : X.calm = true) : CallR X (.builtin "sorted") (fun xs H Q => ∃ (a : Addr) (kvs : List (Key × V)) (ks : List Str), xs = [.ref a] ∧ Rd H a (.dK kvs) ∧ kvs.map (·.1) = ks.map Sum.inr ∧
    ∀ p, H p = none → Q (.ref p) (upd H p (.lst ((sortT ks).map V.str)))) := by
  intro pins s σ H xs us Q I r q
  obtain ⟨a, kvs, ks, ex, hd, hks, q⟩ := q
  subst ex
  obtain ⟨u, eu, rx⟩ := vals1 r
  subst eu
  cases rx
  obtain ⟨z, lo, vs, rel, dd⟩ := dk_rd I.hok hd
  obtain ⟨ep, hat⟩ := dd.dictAt
  have hkeys : vs.map (·.1) = ks.map Sum.inr := rel.keys.symm.trans hks
  have hl : vs.length = ks.length := by
    have e := congrArg List.length hkeys
    rw [List.length_map, List.length_map] at e
    exact e
  have h16 : vs.length ≤ sizeLine := by rw [← rel.length]; exact z
  refine Calls.call_function_entry PyProof.Rows.kind_sorted PyProof.Rows.plain_sorted PyProof.Rows.entry_sorted (PyProof.Rows.args_sorted1 _) ?_
  unfold Builtin.«sorted»
  refine wpAny_bind (m := checkCount "sorted" 1 1 _) (wpAny_pure ?_)
  refine wpAny_bind (PySem.W.kdu_collect (A := X.A.in1) (PySem.W.kdl_dict (knd := mixKind X.prog X.w) (kvs := vs) (ep := ep) lo) (I.ok.hd hcalm) hat h16 fun h' tk acc hk hacc => ?_)
  have hal : acc.toList.length = ks.length := by rw [Array.length_toList, hacc.1, hl]
  have hS : StrsAre acc.toList ks := L2.strs_at hal fun j v e => by
    obtain ⟨k, x, e1, e2⟩ := hacc.2 j v (by rw [← Array.getElem?_toList]; exact e)
    have e3 : (vs.map (·.1))[j]? = some k := by rw [List.getElem?_map, e1]; all_goals rfl
    rw [hkeys, List.getElem?_map] at e3
    cases e4 : ks[j]? with
    | none => rw [e4] at e3; cases e3
    | some y =>
      rw [e4] at e3
      have e5 : Sum.inr y = k := Option.some.inj e3
      subst e5
      obtain ⟨t, ev⟩ := Value.isStrOf_shape (x := y) (v := v) e2
      exact ⟨y, t, rfl, ev⟩
  have I1 : Inv X pins σ H { s with heap := h', toks := tk } := I.kept hk
  refine wpAny_bind (wpAny_newList ?_ (by rw [hal, ← hl]; exact h16))
  have hoL : (h'.push (seqObj "list" acc.toList.toArray 0)).get? h'.objs.size = some (seqObj "list" acc.toList.toArray 0) := Heap.get?_push_size _ rfl
  show wpAny _ _ _ _ _ { s with heap := h'.push (seqObj "list" acc.toList.toArray 0), toks := tk }
  refine wpAny_bind (wpAny_holding (wpAny_call_entry PyProof.Rows.slot_list_sort ⟨_, hoL, rfl⟩ PyProof.Rows.entry_list_sort ?_ (PyProof.Rows.args_list_sort _)))
  refine SrtO.list_sort_ord swo_str hoL (by rw [hal, ← hl]; exact h16) (fun h2 => strs_sortable hS h2) fun out k1 k2 => ⟨_, rfl, ?_⟩
  have g1 := strs_outF hS k1 k2
  obtain ⟨e', he'⟩ := PyProof.Rows.sortedHeap_at (vs := acc.toList) (out := out.toArray) hoL
  have hlen : ((sortT ks).map V.str).length ≤ sizeLine := by
    rw [List.length_map, (sortT_perm ks).length_eq, ← hl]
    exact h16
  refine wpAny_pure ⟨_, rfl, .ref h'.objs.size, upd H h'.objs.size (.lst ((sortT ks).map V.str)), I1.laid (t' := tk) (fun b u e => ?_) (Nat.le_refl _)
    (show ObjOk X.prog X.w _ _ _ (.lst ((sortT ks).map V.str)) from ⟨hlen, out, e', vals_of_strs g1, he'⟩), rfl, q _ (I1.hok.fresh (Nat.le_refl _))⟩
  have hb : b < h'.objs.size := Heap.lt_size e
  rw [PyProof.Rows.sortedHeap_old (Nat.ne_of_lt hb) (by rw [size_push']; exact Nat.lt_succ_of_lt hb)]
  exact Heap.get?_push_of_some _ e
end
section
variable {X : Cx}
/-- sorted(xs), texts, any number of them -/
theorem cr_sortedSA : CallR X (.builtin "sorted") (fun vs H Q => ∃ (a : Addr) (xs : List Str), vs = [V.ref a] ∧ SqL X.K H a (xs.map V.str) ∧ ∀ (ys : List Str) (p : Addr), ys.Perm xs → sortedS ys = true → H p = none → Q (.ref p) (upd H p (.lst (ys.map V.str)))) := by
  intro pins s σ H vs us Q I r h
  obtain ⟨a, xs, rfl, hs, q⟩ := h
  obtain ⟨its, rv, hl, hz⟩ := I.list hs
  rw [Vals.ref1 r]
  have hlen0 := rv.length
  refine PyProof.Rows.sorted_strsAny hl.isList rv.strs (by rw [← hlen0]; exact hz) fun out ys h1 h2 h3 => ?_
  obtain ⟨ep, he'⟩ := PyProof.Rows.sortedAll_at s.heap its out
  have hlen : (ys.map V.str).length ≤ sizeLine := by
    rw [List.length_map, h2.length_eq]
    rw [List.length_map] at hz
    exact hz
  exact ⟨.ref _, upd H (s.heap.objs.size + 1) (.lst (ys.map V.str)), I.laid (t' := s.toks) (fun _ _ => PyProof.Rows.sortedAll_old) (Nat.le_succ _) ⟨hlen, out.toList, ep, vals_of_strs h1, he'⟩, rfl, q ys _ h2 h3 (I.hok.fresh (Nat.le_succ _))⟩
end
section
variable {nm : Nms} {X : Cx}
def fnSorted (new : Bool) : FM := fun ds S => match ds with
  | [d] => match lstOf S d with
    | some xs => match BS.intsOf xs with
      | some ns => fin new ((sortI ns).map .int) S
      | none => match BS.strsOf xs with
        | some zs => fin new ((sortT zs).map .str) S
        | none => .stuck
    | none => match dctOf S d with
      | some kvs => match keysI kvs with
        | some ns => if ns.length < 64 then fin new ((sortI ns).map .int) S else .stuck
        | none => match keysT kvs with
          | some zs => fin new ((sortT zs).map .str) S
          | none => .stuck
      | none => .stuck
  | _ => .stuck
theorem c_sorted (new : Bool) (hc : X.calm = true) : CallD nm X (.builtin "sorted") (fnSorted new) := by
  intro pins s σ H xs us Q I r h
  obtain ⟨ds, S, μ, E, rv, sm, p⟩ := h
  unfold fnSorted at p
  split at p
  · rename_i d
    obtain ⟨v, rfl, r1⟩ := one_rv rv
    split at p
    · rename_i xs' hl
      split at p
      · rename_i ns hb
        obtain ⟨a, ys, rfl, hs, r2⟩ := lstOf_sq sm r1 hl
        refine cr_sortedI pins s σ H _ us Q I r ⟨a, ns, rfl, by rw [← intsOf_rv r2 hb]; exact hs, fun ns' q hp hs' nq => ?_⟩
        rw [sortI_one hp hs']
        exact fin_post sm (rvs_intsD _) nq p
      · split at p
        · rename_i zs hb
          obtain ⟨a, ys, rfl, hs, r2⟩ := lstOf_sq sm r1 hl
          refine cr_sortedSA pins s σ H _ us Q I r ⟨a, zs, rfl, by rw [← strsOf_rv r2 hb]; exact hs, fun ns' q hp hs' nq => ?_⟩
          rw [sortT_one hp hs']
          exact fin_post sm (rvs_strsD _) nq p
        · exact False.elim p
    · split at p
      · rename_i kvs hk
        split at p
        · rename_i ns hb
          split at p
          · rename_i h64
            obtain ⟨n, a, ys, rfl, rfl, _, _, e1, rk⟩ := dctOf_at sm r1 hk
            refine call_sortedDI hc pins s σ H _ us Q I r ⟨a, ys, ns, rfl, .inl e1, keysI_rk rk hb, h64, fun ns' q hp hs' nq => ?_⟩
            rw [sortI_one hp hs']
            exact fin_post sm (rvs_intsD _) nq p
          · exact False.elim p
        · split at p
          · rename_i zs hb
            obtain ⟨n, a, ys, rfl, rfl, _, _, e1, rk⟩ := dctOf_at sm r1 hk
            exact call_sortedDT hc pins s σ H _ us Q I r ⟨a, ys, zs, rfl, .inl e1, keysT_rk rk hb, fun q nq => fin_post sm (rvs_strsD _) nq p⟩
          · exact False.elim p
      · exact False.elim p
  · exact False.elim p
end
end BS
namespace BS
open PySem PySem.Spec PyProof.Rows L2
def sameF (x y : D) : Bool := match x, y with
  | .non, .non => true
  | .bl a, .bl b => a == b
  | .int a, .int b => decide (a = b)
  | .str a, .str b => decide (a = b)
  | _, _ => false
def eqK (ks ls : List (Key × D)) : Bool := decide (ks.length = ls.length) && ks.all fun p => match getK ls p.1 with
  | some d => sameF p.2 d
  | none => false
def fEqD : Store → D → D → Option D := fun S x y => match dctOf S x with
  | some ks => match dctOf S y with
    | some ls => if eqK ks ls = true then some (.bl true) else none
    | none => none
  | none => none
def fNeD : Store → D → D → Option D := fun S x y => match dctOf S x with
  | some ks => match dctOf S y with
    | some ls => if eqK ks ls = true then some (.bl false) else none
    | none => none
  | none => none
section
variable {nm : Nms} {X : Cx}
/-- x is True -/
def fIsB : Store → D → D → Option D := fun _ x y => match x, y with
  | .bl a, .bl b => some (.bl (decide (a = b)))
  | _, _ => none
def fIsNotB : Store → D → D → Option D := fun _ x y => match x, y with
  | .bl a, .bl b => some (.bl (!decide (a = b)))
  | _, _ => none
variable {pos : Pos}
end
end BS
namespace BS
open PySem PySem.Spec PyProof.Rows L2
theorem ExcAt.extW {nm : Nms} {K : PySem.W.Frag} {mg : Str → Option Value} {H H' : Hp} {μ μ' : List Addr} {c : Nat} {fs : List (Nat × D)} {C : Addr} {d : Option Addr} (x : ExtW μ H μ' H') (h : ExcAt nm K mg H μ c fs C d) : ExcAt nm K mg H' μ' c fs C d := by
  refine ⟨h.1, ?_⟩
  cases d with
  | none => exact h.2
  | some dd =>
    obtain ⟨gs, n, e, r, ne⟩ := h.2
    exact ⟨gs, x.out n (.inl e), x.keep dd _ n e, RF.extW x r, ne⟩
theorem EvR.extW {nm : Nms} {X : Cx} {H H' : Hp} {μ μ' : List Addr} {e : Ev} {σ : St} (x : ExtW μ H μ' H') (h : EvR nm X H μ e σ) : EvR nm X H' μ' e σ :=
  ⟨h.len, fun i d e => let ⟨v, a, b⟩ := h.at_ i d e; ⟨v, a, b.extW x⟩, fun p hp => let ⟨a, oe, C, d, h1, h2, h3, h4⟩ := h.ex p hp; ⟨a, oe, C, d, h1, h2, h3, h4.extW x⟩⟩
section
variable {nm : Nms} {X : Cx} {tg iter : Expr} {im : EM} {g : GM} {body : List Stmt} {mb : SM} {pos : Pos}
end
end BS
namespace BS
open PySem PySem.Spec PyProof.Rows L2
section
variable {X : Cx}
end
section
variable {nm : Nms} {X : Cx} {e : Expr} {m : EM} {pos p kpos cpos : Pos} {j : Nat}
end
end BS
namespace BSR
open PySem PySem.Spec PyProof.Rows HT L2
section
variable {prog : Program} {w : World} {A : Around} {E : Value → Shared → Prop} {s : Shared}
end
section
variable {X : Cx}
end
end BSR
namespace BS
open PySem PySem.Spec PyProof.Rows L2
section
variable {nm : Nms} {X : Cx} {e : Expr} {me : EM} {pos p1 p2 p3 : Pos} {k : Nat}
def slRev (new : Bool) (S : Store) (x : D) : R D := match x with
  | .tup ds => .ok (.tup ds.reverse) S
  | _ => match lstOf S x with
    | some ds => fin new ds.reverse S
    | none => .stuck
end
section
variable {nm : Nms} {X : Cx}
end
end BS
namespace BS
open PySem PySem.Spec PyProof.Rows L2
section
variable {nm : Nms} {X : Cx}
theorem three_rv {K : PySem.W.Frag} {H : Hp} {μ : List Addr} {xs : List V} {d d' d'' : D} (r : RVs K H μ xs [d, d', d'']) : ∃ v w z, xs = [v, w, z] ∧ RV K H μ v d ∧ RV K H μ w d' ∧ RV K H μ z d'' := by
  cases r with | cons r t => obtain ⟨w, z, rfl, r', r''⟩ := two_rv t; exact ⟨_, _, _, rfl, r, r', r''⟩
def fnFind2 : FM := fun ds S => match ds with
  | [.str a, .str b, .int i] => .ok (.int (Txt.find3 a b i)) S
  | _ => .stuck
theorem t_find2 : MtD nm X "str.find" fnFind2 := by
  intro pins s σ H x xs v us Q I rx r h
  obtain ⟨ds, S, μ, E, rv, sm, p⟩ := h
  unfold fnFind2 at p
  split at p
  · obtain ⟨w, z, u, e, r1, r2, r3⟩ := three_rv rv
    cases r1; cases r2; cases r3; cases e
    exact mt_find3 pins s σ H _ _ v us Q I rx r ⟨_, _, _, rfl, rfl, p μ H .refl sm _ (.int _)⟩
  · exact False.elim p
def fnStartswith : FM := fun ds S => match ds with
  | [.str a, .str b] => .ok (.bl (Txt.startswith a b)) S
  | _ => .stuck
theorem t_startswith : MtD nm X "str.startswith" fnStartswith := by
  intro pins s σ H x xs v us Q I rx r h
  obtain ⟨ds, S, μ, E, rv, sm, p⟩ := h
  unfold fnStartswith at p
  split at p
  · obtain ⟨w, z, e, r1, r2⟩ := two_rv rv
    cases r1; cases r2; cases e
    exact mt_startswith pins s σ H _ _ v us Q I rx r ⟨_, _, rfl, rfl, p μ H .refl sm _ (.bl _)⟩
  · exact False.elim p
def txtsOf : List D → Option (List Str)
  | [] => some []
  | .str a :: r => (txtsOf r).map (a :: ·)
  | _ :: _ => none
theorem txtsOf_rv {K : PySem.W.Frag} {H : Hp} {μ : List Addr} : ∀ {ds : List D} {xs : List V} {ys : List Str}, RVs K H μ xs ds → txtsOf ds = some ys → xs = ys.map V.str
  | [], _, ys, .nil, h => by cases h; rfl
  | d :: ds, _, ys, .cons r t, h => by
    cases d with
    | str a =>
      obtain ⟨zs, e, rfl⟩ := Option.map_eq_some_iff.mp (show (txtsOf ds).map (a :: ·) = some ys from h)
      cases r
      rw [txtsOf_rv t e]
      rfl
    | _ => cases h
def fnJoin : FM := fun ds S => match ds with
  | [.str a, d] => match seqOf S d with
    | some ds => match txtsOf ds with
      | some ys => if (ys.map (·.length)).sum + ys.length * a.length ≤ 16777216 then .ok (.str (Str.join a ys)) S else .stuck
      | none => .stuck
    | none => .stuck
  | _ => .stuck
theorem t_join : MtD nm X "str.join" fnJoin := by
  intro pins s σ H x xs v us Q I rx r h
  obtain ⟨ds, S, μ, E, rv, sm, p⟩ := h
  unfold fnJoin at p
  split at p
  · obtain ⟨w, z, e, r1, r2⟩ := two_rv rv
    cases r1; cases e
    split at p
    · rename_i ds hds
      obtain ⟨l, zs, rfl, hs, r3⟩ := seqOf_sq sm r2 hds
      split at p
      · rename_i ys hy
        split at p
        · rename_i hz
          rw [txtsOf_rv r3 hy] at hs
          refine mt_join pins s σ H _ _ v us Q I rx r ⟨_, _, ys, rfl, rfl, hs, hz, ?_⟩
          rw [TL.join_eq]
          exact p μ H .refl sm _ (.str _)
        · exact False.elim p
      · exact False.elim p
    · exact False.elim p
  · exact False.elim p
/-- e.replace of two written texts -/
def mRepl (y z : Str) (mo : EM) : EM := fun e S => (mo e S).bind fun d S => match d with
  | .str x => if x.length + (x.length + 1) * z.length ≤ 16777216 then .ok (.str (Txt.replace x y z)) S else .stuck
  | _ => .stuck
/-- a written text, + e.replace of two written texts -/
theorem me_catRepl {o : Expr} {mo : EM} {c y z : Str} {j j1 j2 : Nat} {p0 c0 c1 apos pos p1 : Pos} (ho : ME nm X o mo) (hyz : (y == z) = false := by decide +kernel)
    (hst : starEach [.Constant (.str y) j1 c0, .Constant (.str z) j2 c1] X.env = [(false, eval (.Constant (.str y) j1 c0) X.env), (false, eval (.Constant (.str z) j2 c1) X.env)] := by rfl)
    (hbase : attributeBase o "replace" X.env (eval o X.env) = eval o X.env := by rfl) (hline : (apos.endLine == pos.line) = true := by rfl) :
    ME nm X (.BinOp (.Constant (.str c) j p0) .Add (.Call (.Attribute o "replace" apos) [.Constant (.str y) j1 c0, .Constant (.str z) j2 c1] [] pos) p1) (mBin fAdd (mC (.str c)) (mRepl y z mo)) := by
  refine ⟨fun W tk => ⟨fun pins s σ H Q I h => ?_⟩⟩
  obtain ⟨e, S, μ, E, sm, p⟩ := bin_rd h
  have q := p μ H .refl sm (.str c) (.str c)
  refine wpAny_BinOp (Calls.Constant_str ?_)
  refine thn (CwR.pet_replC (ho.run W tk) hyz hst hbase hline pins { s with toks := s.toks + 1 } σ H (fun y2 H2 => rOpD nm X fAdd (.str c) y2 H2 Q) (by show 1 ≤ s.toks + 1; omega) (I.tok _) ?_) fun u s2 ⟨y2, H2, I2, r2, q2⟩ => o_add pins s2 σ H2 (.str c) y2 _ u Q I2 ⟨_, rfl⟩ r2 q2
  obtain ⟨e2, S2, μ2, E2, sm2, p2⟩ := q
  refine ⟨e2, S2, μ2, E2, sm2, (Post.bind p2).mono fun d S3 μ3 H3 x3 s3 p3 v rv => ?_⟩
  split at p3
  · rename_i x
    split at p3
    · rename_i hz
      cases rv
      exact ⟨x, rfl, hz, p3 μ3 H3 .refl s3 _ (.str _)⟩
    · exact False.elim p3
  · exact False.elim p3
abbrev JM := Str → Ev → Store → R D
def mjNil : JM := fun acc _ S => .ok (.str acc) S
def mjCons (m : EM) (r : JM) : JM := fun acc e S => (m e S).bind fun d S => match d with
  | .str y => if (acc ++ y).length ≤ sizeLine then r (acc ++ y) e S else .stuck
  | _ => .stuck
structure MJ (nm : Nms) (X : Cx) (es : List Expr) (m : JM) : Prop where
  run : ∀ W, Takes X W → ∃ ts, PJ X es ts ∧ ∀ acc σ H Q, rdE nm X W (m acc) σ H Q → tJs ts acc σ H (fun out H1 => Q (.str out) H1)
end
end BS
namespace BS
open PySem PySem.Spec PyProof.Rows L2
structure FnS (P : Program) (w : World) (K : PySem.W.Frag) (mg : Str → Option Value) (base : Heap) (CX : CXT) (k : Nat) (f : Addr) (fd : FuncData) (ps : List Str) (sp : Sp) : Prop where
  len : ∀ vs H Q E, sp vs H Q E → vs.length = ps.length
  run : ∀ (A : Around) (outer : List Env) (s : Shared) (H : Hp) (args : Args) (us : List Value) (vs : List V) (Q : VK) (E : XK), L2H.RoomH k A → Env0 P w K mg base A outer s H → BindsTo s fd args (ps.zip us) → Vals vs us → sp vs H Q E →
    codeAny (model P w) A (.call (.ref f) args) (CR CX outer P w H s Q E) s
section
variable (P : Program) (w : World) (K : PySem.W.Frag) (mg : Str → Option Value) (base : Heap) (nm : Nms)
end
section
variable {nm : Nms} {X : Cx} {pins : List (Addr × Obj)} {σ : St} {H : Hp} {s : Shared} {W : WX} {k n : Nat} {x m : Str} {F : FM} {vs : List V} {us : List Value} {ds : List D} {S : Store} {μ : List Addr} {Q : VK} {p apos pos : Pos}
end
inductive HdsN (X : Cx) : List ExceptHandler → List (Value × Option Nat × (Addr → Value → Option Addr → TS)) → Prop
  | nil : HdsN X [] []
  | plain {x : Str} {c : Value} {ts : Addr → Value → Option Addr → TS} {b₀ : Stmt} {suite : List Stmt} {np pos' : Pos} {hds : List ExceptHandler} {l : List (Value × Option Nat × (Addr → Value → Option Addr → TS))} (hc : Names X x c)
      (hsu : ∀ (a : Addr) (oe : Obj) (cls : Value) (d : Option Addr) (pn : List (Addr × Obj)), Zc cls d oe → (∃ vs, oe.data = .fields vs) → PSs (X.suite a ((a, oe) :: pn)) (b₀ :: suite) (ts a cls d)) (r : HdsN X hds l) :
      HdsN X (.ExceptHandler (some (.Name x np)) none (b₀ :: suite) pos' :: hds) ((c, none, ts) :: l)
  | named {x n : Str} {i : Nat} {c : Value} {ts : Addr → Value → Option Addr → TS} {b₀ : Stmt} {suite : List Stmt} {np pos' : Pos} {hds : List ExceptHandler} {l : List (Value × Option Nat × (Addr → Value → Option Addr → TS))} (hi : X.N[i]? = some n) (hln : X.env.kindOf n = some .local) (hc : Names X x c)
      (hsu : ∀ (a : Addr) (oe : Obj) (cls : Value) (d : Option Addr) (pn : List (Addr × Obj)), Zc cls d oe → (∃ vs, oe.data = .fields vs) → PSs (X.suite a ((a, oe) :: pn)) (b₀ :: suite) (ts a cls d)) (r : HdsN X hds l) :
      HdsN X (.ExceptHandler (some (.Name x np)) (some n) (b₀ :: suite) pos' :: hds) ((c, some i, ts) :: l)
section
variable {X : Cx} {body : List Stmt} {h₀ : ExceptHandler} {hds : List ExceptHandler} {l : List (Value × Option Nat × (Addr → Value → Option Addr → TS))} {pos : Pos} {tb : WX → TS} {Wout : WX}
end
section
variable {nm : Nms} {X : Cx} {pos : Pos}
end
end BS
namespace BS
open PySem PySem.Spec PyProof.Rows L2
section
variable {nm : Nms} {X : Cx} {pos : Pos}
/-- o[i] of an object of the store -/
def fIxA : Store → D → D → Option D := fun S x i => match x with
  | .obj n => match S[n]? with
    | some (.lst ds) => match i with
      | .int k => atI ds k
      | _ => none
    | some (.dct kvs) => match keyOf i with
      | some k => getK kvs k
      | none => none
    | _ => none
  | _ => none
end
end BS
namespace BS
open PySem PySem.Spec PyProof.Rows L2
section
variable {M : Model} {A : Around} {E : Value → Shared → Prop} {s : Shared} {env : Env}
end
section
open PySem.HandSPX
variable {M : Model} {A : Around} {E : Value → Shared → Prop} {s : Shared} {Z : Obj → Prop} {base : Heap} {env : Env} {outer l : List Env} {L e : Addr}
end
/-- the frame is the def's own -/
structure OwnFrame (X : Cx) : Prop where
  stk : X.stack = X.env :: X.outer
  frm : X.env.frame = some X.env.locals
section
variable {X : Cx}
end
open Classical in
noncomputable def lcLX (n : Nat) (G : Store → Prop) (t : LT) (e0 : Ev) (tt : TM) (el : EM) : List D → Store → R Unit
  | [], S => if G S then .ok () S else .stuck
  | d :: ds, S => if G S then match t.items d with
    | some xs => (tt ⟨setAll e0.sl t.ix xs, []⟩ S).bind fun b S2 => if b = true then (el ⟨setAll e0.sl t.ix xs, []⟩ S2).bind fun y S3 => match S3[n]? with
        | some (.lst acc) => if acc.length < sizeLine then lcLX n G t e0 tt el ds (S3.set n (.lst (acc ++ [y]))) else .stuck
        | _ => .stuck
      else lcLX n G t e0 tt el ds S2
    | none => .stuck
    else .stuck
noncomputable def mLcX (vs : List Nat) (t : LT) (it : IM) (tt : TM) (el : EM) : EM := fun e S => (it e S).bind fun w S1 => (lcLX S1.length w.G t (e.wip vs) tt el w.ds (S1 ++ [.lst []])).bind fun _ S2 => .ok (.obj S1.length) S2
section
variable {nm : Nms} {X : Cx}
end
theorem lcX_of {n : Nat} {G : Store → Prop} {t : LT} {e0 : Ev} {tt : TM} {el : EM} : ∀ {ds : List D} {S S' : Store}, lcL n G t e0 tt el ds S = .ok () S' → lcLX n G t e0 tt el ds S = .ok () S'
  | [], S, S', h => h
  | d :: ds, S, S', h => by
    unfold lcL at h
    unfold lcLX
    split at h
    · rename_i hG
      rw [if_pos hG]
      split at h
      · rename_i xs hx
        try rw [hx]
        try dsimp only
        cases ht : tt ⟨setAll e0.sl t.ix xs, []⟩ S with
        | ok b S2 =>
          rw [ht, R.nox_ok, R.bind_ok] at h
          rw [R.bind_ok]
          cases b with
          | false =>
            rw [if_neg Bool.false_ne_true] at h ⊢
            exact lcX_of h
          | true =>
            rw [if_pos rfl] at h ⊢
            cases hy : el ⟨setAll e0.sl t.ix xs, []⟩ S2 with
            | ok y S3 =>
              rw [hy, R.nox_ok, R.bind_ok] at h
              rw [R.bind_ok]
              split at h
              · rename_i acc hacc
                try rw [hacc]
                try dsimp only
                split at h
                · rename_i hlt
                  rw [if_pos hlt]
                  exact lcX_of h
                · cases h
              · cases h
            | exc c fs S3 => rw [hy] at h; cases h
            | stuck => rw [hy] at h; cases h
        | exc c fs S2 => rw [ht] at h; cases h
        | stuck => rw [ht] at h; cases h
      · cases h
    · cases h
section
variable {nm : Nms} {X : Cx} {pos : Pos}
end
end BS
namespace BS
open PySem PySem.Spec PyProof.Rows L2
def tKey (e : Int × Value) : Str := match e.2 with | .str z _ => z | _ => ⟨#[]⟩
def GoodT (w : World) (e : Int × Value) : Prop := ∃ z tk, e.2 = Value.str z tk ∧ e.1 = hashStr w z
def SetT (w : World) (h : Heap) (a : Addr) (S : Str → Bool) (n : Nat) : Prop :=
  ∃ o es ep t, h.get? a = some o ∧ o.ExactSet ∧ o.data = .set es ep t ∧ (∀ e ∈ es.toList, GoodT w e) ∧ (es.toList.map tKey).Nodup ∧ (∀ k, S k = true ↔ k ∈ es.toList.map tKey) ∧
    es.size < scanBound ∧ t.fits es.size = true ∧ es.size = n ∧ Ris t.place.toList ∧ (w.params.followText "set-order" = true ∨ t.led = true)
section
variable {P : Program} {w : World}
theorem goodT_elems {l : List (Int × Value)} (g : ∀ e ∈ l, GoodT w e) : ElemsOf (strKind P w) l := fun e he => by
  obtain ⟨k, tk, h1, h2⟩ := g e he
  exact ⟨⟨k, by rw [h1]; exact strKind_is P w k tk, h2⟩, by rw [h1] <;> rfl⟩
theorem goodT_is {e : Int × Value} (g : GoodT w e) (k : Str) : (strKind P w).is k e.2 = true ↔ tKey e = k := by
  obtain ⟨k0, tk, h1, _⟩ := g
  unfold tKey
  rw [h1]
  show ((k0 == k) = true) ↔ k0 = k
  exact beq_iff_eq
theorem goodT_mem {l : List (Int × Value)} (g : ∀ e ∈ l, GoodT w e) (k : Str) : k ∈ l.map tKey ↔ ∃ e ∈ l, (strKind P w).is k e.2 = true := by
  rw [List.mem_map]
  constructor
  · rintro ⟨e, he, q⟩
    exact ⟨e, he, (goodT_is (g e he) k).2 q⟩
  · rintro ⟨e, he, q⟩
    exact ⟨e, he, (goodT_is (g e he) k).1 q⟩
end
section
variable {P : Program} {w : World} {A : Around} {E : Value → Shared → Prop} {s : Shared} {a : Addr} {S : Str → Bool} {n : Nat}
theorem setT_add_tail {g : Bool → Sem Unit} (hg : ∀ (b : Bool) (s₁ : Shared) (Q' : Unit → Shared → Prop), Q' () s₁ → wpAny (model P w) A (g b) Q' E s₁)
    {o : Obj} {es : Array (Int × Value)} {ep : Nat} {t : SetTable} (ho : s.heap.get? a = some o) (hex : o.ExactSet) (hd : o.data = .set es ep t)
    {es1 : Array (Int × Value)} {t2 : SetTable} {S' : Str → Bool} (g1 : ∀ e ∈ es1.toList, GoodT w e) (nd1 : (es1.toList.map tKey).Nodup) (m1 : ∀ k, S' k = true ↔ k ∈ es1.toList.map tKey)
    (hb1 : es1.size < scanBound) (hf2 : t2.fits es1.size = true) (hr : Ris t2.place.toList) (hl : w.params.followText "set-order" = true ∨ t2.led = true) {wasDummy : Bool} {R : Option Bool → Shared → Prop}
    (hR : ∀ h', Heap.SameBut a s.heap h' → SetT w h' a S' es1.size → R (some true) { s with heap := h' }) :
    wpAny (model P w) A (do
        storeSet a es1 t2
        if (!wasDummy && t2.tooFull) = true then do
            g (relayAll t2 es1 (SetTable.grown es1.size)).2.2
            storeSet a (relayAll t2 es1 (SetTable.grown es1.size)).1 (relayAll t2 es1 (SetTable.grown es1.size)).2.1
            pure (some true)
          else pure (some true)) R E s := by
  refine wpAny_bind (wpAny_storeSet_of ho hd ?_ (fits_of_scanBound hb1))
  have ho1 := store_at (es' := es1) (t' := t2) ho hd
  have sb1 := Heap.SameBut.update s.heap a (Obj.putSet es1 t2)
  split
  · have pm := relayAll_perm t2 es1 (SetTable.grown es1.size)
    have hf3 := relayAll_fits t2 es1 (SetTable.grown es1.size)
    have hr3 := relayAll_ris t2 es1 (SetTable.grown es1.size)
    have hl3 := relayAll_led t2 es1 (SetTable.grown es1.size)
    generalize relayAll t2 es1 (SetTable.grown es1.size) = Z at pm hf3 hr3 hl3 ⊢
    obtain ⟨es2, t3, gave⟩ := Z
    dsimp only at pm hf3 hr3 hl3 ⊢
    have hsz : es2.size = es1.size := by rw [← Array.length_toList, pm.length_eq, Array.length_toList]
    have hb2 : es2.size < scanBound := by rw [hsz]; exact hb1
    refine wpAny_bind (hg _ _ _ ?_)
    refine wpAny_bind (wpAny_storeSet_of ho1 rfl ?_ (fits_of_scanBound hb2))
    have ho2 := store_at (es' := es2) (t' := t3) ho1 rfl
    refine wpAny_pure (hR _ (sb1.trans (Heap.SameBut.update _ a _)) ?_)
    exact ⟨_, es2, _, t3, ho2, hex, rfl, fun e he => g1 e (pm.mem_iff.mp he), (pm.map tKey).nodup_iff.mpr nd1, fun k => (m1 k).trans (pm.map tKey).mem_iff.symm, hb2, hf3, hsz, hr3,
      hl.imp id fun z => by rw [hl3]; exact z⟩
  · exact wpAny_pure (hR _ sb1 ⟨_, es1, _, t2, ho1, hex, rfl, g1, nd1, m1, hb1, hf2, rfl, hr, hl⟩)
theorem setT_add_hashed {k : Str} {tk : Tok} {Q : Bool → Shared → Prop} (R : SetT w s.heap a S n) (room : n + 1 < scanBound)
    (hQ : ∀ h', Heap.SameBut a s.heap h' → SetT w h' a (fun j => S j || decide (j = k)) (if S k = true then n else n + 1) → Q (!S k) { s with heap := h' }) :
    wpAny (model P w) A (setAddHashed a (.str k tk) ((strKind P w).hash k)) Q E s := by
  obtain ⟨o, es, ep, t, ho, hex, hd, g, nd, hm, hb, hf, hn, hr, hl⟩ := R
  have hkey : (strKind P w).is k (.str k tk) = true := strKind_is P w k tk
  have hsc : (Value.str k tk).scannable = true := rfl
  have hel : ElemsOf (strKind P w) es.toList := goodT_elems g
  unfold setAddHashed setAddHashedIn
  refine wpAny_holding (wpAny_bind (wpAny_setState_of ho hd hf ?_))
  dsimp only
  rw [byScan_of hsc hb hel]
  simp only [↓reduceIte]
  unfold setAddByScan
  refine wpAny_bind ?_
  refine wpAny_bind (wpAny_rule ?_)
  refine wpAny_bind (wpAny_setScan_of hkey ho hd hf hel ?_)
  cases hfi : List.findIdx? (fun e => (strKind P w).is k e.2) es.toList with
  | some j =>
    dsimp only
    obtain ⟨hj, pj, _⟩ := List.findIdx?_eq_some_iff_getElem.mp hfi
    have hSk : S k = true := (hm k).2 ((goodT_mem (P := P) (w := w) g k).2 ⟨es.toList[j], List.getElem_mem hj, pj⟩)
    refine wpAny_pure (wpAny_pure ?_)
    have q := hQ s.heap (Heap.SameBut.refl a s.heap) ⟨o, es, ep, t, ho, hex, hd, g, nd, fun i => by
      rw [Bool.or_eq_true, decide_eq_true_eq, ← hm i]
      exact ⟨fun z => z.elim id (fun e => e ▸ hSk), .inl⟩, hb, hf, by rw [if_pos hSk]; exact hn, hr, hl⟩
    rw [hSk] at q
    exact q
  | none =>
    dsimp only
    have hnk : k ∉ es.toList.map tKey := fun z => by
      obtain ⟨e, he, q⟩ := (goodT_mem (P := P) (w := w) g k).1 z
      have c := List.findIdx?_eq_none_iff.mp hfi e he
      rw [q] at c
      cases c
    have hSk : S k = false := by
      cases q : S k with
      | false => rfl
      | true => exact absurd ((hm k).1 q) hnk
    have hgw : ∀ (b : Bool) {s₁ : Shared} {Q' : Unit → Shared → Prop}, Q' () s₁ → wpAny (model P w) A (match b with | true => rule "set.scan.the-table-gave-way" | false => pure ()) Q' E s₁ :=
      fun b s₁ Q' q => by cases b <;> first | exact wpAny_pure q | exact wpAny_rule q
    have pm := layNew_perm t es ((strKind P w).hash k) (.str k tk)
    have hf1 := layNew_fits t es ((strKind P w).hash k) (.str k tk)
    have hr1 := layNew_ris t es ((strKind P w).hash k) (.str k tk) hr
    have hl1 := layNew_led t es ((strKind P w).hash k) (.str k tk)
    generalize layNew t es ((strKind P w).hash k) (.str k tk) = Z at pm hf1 hr1 hl1 ⊢
    obtain ⟨es1, t1, wasDummy, gave⟩ := Z
    dsimp only at pm hf1 hr1 hl1 ⊢
    rw [Array.toList_push] at pm
    have pc : es1.toList.Perm (((strKind P w).hash k, Value.str k tk) :: es.toList) := pm.trans (List.perm_append_singleton _ _)
    have pk : (es1.toList.map tKey).Perm (k :: es.toList.map tKey) := pc.map tKey
    have g1 : ∀ e ∈ es1.toList, GoodT w e := fun e he => by
      rcases List.mem_cons.mp (pc.mem_iff.mp he) with z | z
      · rw [z]; exact ⟨k, tk, rfl, rfl⟩
      · exact g e z
    have nd1 : (es1.toList.map tKey).Nodup := pk.nodup_iff.mpr (List.nodup_cons.mpr ⟨hnk, nd⟩)
    have m1 : ∀ i, (S i || decide (i = k)) = true ↔ i ∈ es1.toList.map tKey := fun i => by
      rw [Bool.or_eq_true, decide_eq_true_eq, hm i, pk.mem_iff, List.mem_cons]
      exact Or.comm
    have hsz : es1.size = n + 1 := by rw [← Array.length_toList, pc.length_eq, List.length_cons, Array.length_toList, hn]
    have hb1 : es1.size < scanBound := by rw [hsz]; exact room
    have hled : w.params.followText "set-order" = true ∨ t1.led = true := hl.imp id fun z => by rw [hl1]; exact z
    have fin : ∀ h', Heap.SameBut a s.heap h' → SetT w h' a (fun j => S j || decide (j = k)) es1.size → Q true { s with heap := h' } := fun h' sb r => by
      have q := hQ h' sb
      rw [hSk] at q
      rw [hsz] at r
      exact q r
    refine wpAny_bind (hgw _ ?_)
    split
    · refine wpAny_bind ?_
      rw [hashByValue_scannable 8 hsc]
      refine wpAny_pure ?_
      refine setT_add_tail ?_ ho hex hd g1 nd1 m1 hb1 ?_ ?_ ?_ ?_
      · intro b s₁ Q' q; cases b <;> first | exact wpAny_pure q | exact wpAny_rule q
      · first | (split <;> first | exact hf1 | exact SetTable.fits_plain_off hf1) | exact hf1
      · first | (split <;> exact hr1) | exact hr1
      · first | (split <;> exact hled) | exact hled
      · intro h' sb r; dsimp only; exact wpAny_pure (fin h' sb r)
    · refine wpAny_bind (wpAny_pure ?_)
      simp only [↓reduceIte]
      refine setT_add_tail ?_ ho hex hd g1 nd1 m1 hb1 hf1 hr1 hled ?_
      · intro b s₁ Q' q; cases b <;> first | exact wpAny_pure q | exact wpAny_rule q
      · intro h' sb r; dsimp only; exact wpAny_pure (fin h' sb r)
end
theorem SetT.at {w : World} {h h' : Heap} {a : Addr} {S : Str → Bool} {n : Nat} (R : SetT w h a S n) (k : ∀ o, h.get? a = some o → h'.get? a = some o) : SetT w h' a S n := by
  obtain ⟨o, es, ep, t, ho, r⟩ := R
  exact ⟨o, es, ep, t, k o ho, r⟩
theorem SetT.congr {w : World} {h : Heap} {a : Addr} {S S' : Str → Bool} {n : Nat} (R : SetT w h a S n) (e : ∀ k, S' k = S k) : SetT w h a S' n := by
  have q : S' = S := funext e
  rw [q]; exact R
theorem setT_new_at {w : World} {h : Heap} {a : Addr} {ns : List Str} (ho : h.get? a = some { cls := .type "set", dict := none, data := .set #[] 0 (.fresh 0 0 (!w.params.followText "set-order")) }) : SetT w h a (fun j => decide (j ∈ ns.take 0)) 0 :=
  ⟨_, #[], 0, _, ho, ⟨rfl, rfl, rfl⟩, rfl, (fun e he => by simp at he), (by simp), (fun k => by simp), (by decide), (by rfl), rfl, List.Pairwise.nil, by
    show _ ∨ (!w.params.followText "set-order") = true
    cases w.params.followText "set-order"
    · exact .inr rfl
    · exact .inl rfl⟩
section
variable {P : Program} {w : World} {A : Around} {E : Value → Shared → Prop} {s : Shared}
theorem set_update_strs {I : Addr} {fp wr : List Addr} {G : Array GenState → Array GenState → Prop} {n : Nat} {Pv : Nat → Value → Prop} {St : Nat → Shared → Prop} {R : Result → Shared → Prop}
    (W : WalksS P w A.in1 I fp wr G n Pv St) (S : Addr) (hSf : S ∉ fp) (ns : List Str) (hn : n = ns.length) (hb : ns.length + 1 < scanBound) (hval : ∀ i v, Pv i v → ∃ k t, ns[i]? = some k ∧ v = .str k t) :
    ∀ (k i : Nat) (s : Shared), n - i = k → i ≤ n → St i s → (∃ c, c ≤ i ∧ SetT w s.heap S (fun j => decide (j ∈ ns.take i)) c) →
      (∀ s' c, Moved (S :: wr) G s s' → c ≤ n → SetT w s'.heap S (fun j => decide (j ∈ ns)) c → R (.ok (.ret .none)) s') →
      codeAny (model P w) A (.builtin "set.update.loop" ⟨[.ref S, .ref I], []⟩) R s := by
  have hSw : S ∉ wr := fun h => hSf (W.sub _ h)
  have hsub : ∀ b ∈ wr, b ∈ S :: wr := fun b hb => List.mem_cons_of_mem _ hb
  intro k
  induction k with
  | zero =>
    intro i s hk' hi hst ⟨c, hc, hS⟩ hR
    have hin : i = n := by omega
    subst hin
    refine codeAny_builtin F.entry_set_update_loop ?_
    rw [Around.under_plainId F.plain_set_update_loop _]
    show wpAny _ A.in1 (pyNext (.ref I) >>= _) _ _ s
    refine wpAny_bind (W.done s _ _ hst fun s' hm => ?_)
    show wpAny _ A.in1 (ret Value.none) _ _ s'
    have e : ns.take i = ns := List.take_of_length_le (by omega)
    rw [e] at hS
    exact wpAny_pure (hR s' c (hm.mono hsub) hc (hS.at fun o e => hm.heap S o hSw e))
  | succ k ih =>
    intro i s hk' hi hst ⟨c, hc, hS⟩ hR
    have hlt : i < n := by omega
    refine codeAny_builtin F.entry_set_update_loop ?_
    rw [Around.under_plainId F.plain_set_update_loop _]
    show wpAny _ A.in1 (pyNext (.ref I) >>= _) _ _ s
    refine wpAny_bind (W.item i s _ _ hlt hst fun v s' hP hst' hm => ?_)
    obtain ⟨z, t, hz, rfl⟩ := hval i v hP
    have hS' : SetT w s'.heap S (fun j => decide (j ∈ ns.take i)) c := hS.at fun o e => hm.heap S o hSw e
    show wpAny _ A.in1 (holding [Value.str z t] (setAdd S (.str z t)) >>= _) _ _ s'
    refine wpAny_bind (wpAny_holding ?_)
    unfold setAdd
    refine wpAny_holding ?_
    refine wpAny_bind ((strKind P w).pyHash (k := z) (strKind_is _ _ _ _) ?_)
    refine setT_add_hashed (s := { s' with toks := s'.toks + 1 }) hS' (by omega) fun h' hsb hS2 => ?_
    have hS3 : SetT w h' S (fun j => decide (j ∈ ns.take (i + 1))) (if decide (z ∈ ns.take i) = true then c else c + 1) := hS2.congr fun j => by
      rw [List.take_add_one, hz]
      simp [List.mem_append]
    have hc3 : (if decide (z ∈ ns.take i) = true then c else c + 1) ≤ i + 1 := by
      split <;> omega
    refine wpAny_pure ⟨plainId_quiet F.plain_set_update_loop _, ih (i + 1) _ (by omega) hlt (W.frame _ s' _ _ hst' (Nat.le_succ _) fun b hb o e => ?_) ⟨_, hc3, hS3⟩ fun s'' c2 hm'' hc'' hS'' => ?_⟩
    · rw [hsb.2 b (fun h : b = S => hSf (by rw [← h]; exact hb))]; exact e
    · refine hR s'' c2 (Moved.trans W.gtrans ((hm.mono hsub).then_heap (Nat.le_succ _) fun b o hb e => ?_) hm'') hc'' hS''
      rw [hsb.2 b (fun h : b = S => hb (by rw [h]; exact List.mem_cons_self))]; exact e
set_option maxRecDepth 100000 in
set_option maxHeartbeats 3200000 in
theorem call_set_strs {l : Addr} {items : Array Value} (ns : List Str) {Q : Value → Shared → Prop} (hh : A.handled = none) (hl : s.heap.IsList l items) (hit : StrsAre items.toList ns) (hb : ns.length + 1 < scanBound)
    (h : ∀ (h' : Heap) (tk c : Nat), SetT w h' s.heap.objs.size (fun j => decide (j ∈ ns)) c → c ≤ ns.length → (∀ b o, s.heap.get? b = some o → h'.get? b = some o) → Q (.ref s.heap.objs.size) { s with heap := h', toks := tk }) :
    wpAny (model P w) A (call (.type "set") [.ref l]) Q E s := by
  have hisz : items.size = ns.length := by
    have q := StrsAre.length hit
    rw [Array.length_toList] at q
    exact q
  obtain ⟨c, tl, hmro⟩ := F.called_set.mro
  have hmade := F.called_set.made
  have hsub := F.called_set.sub
  refine wpAny_call (codeAny_of_tree ?_)
  show wpAny _ _ (callAny (.type "set") _) _ _ _
  refine wpAny_pure ⟨Code.quiet_builtin _ (by decide +kernel), codeAny_builtin F.entry_type_call ?_⟩
  rw [Around.under_plain (weight_type_call_type "set" [.ref l] []) rfl]
  have h1 := F.called_set.notType
  have h2 := F.called_set.canCreate
  have hct := F.typeCall_set_1 (.ref l)
  repeat (any_goals (first | assumption | wp_step))
  refine codeAny_mono (code_set_led1 (.ref l) (E := E) (Q₁ := fun obj s₁ => obj = .ref s.heap.objs.size ∧ s₁ = { s with heap := s.heap.push { cls := .type "set", dict := none, data := .set #[] 0 (.fresh 0 0 (!w.params.followText "set-order")) } }) ⟨rfl, rfl⟩) fun r s₁ hr => ?_
  cases r with
  | error e => exact hr
  | ok fl =>
    cases fl with
    | ret obj =>
      obtain ⟨rfl, rfl⟩ := hr
      have hS : (s.heap.push { cls := .type "set", dict := none, data := .set #[] 0 (.fresh 0 0 (!w.params.followText "set-order")) }).get? s.heap.objs.size = some { cls := .type "set", dict := none, data := .set #[] 0 (.fresh 0 0 (!w.params.followText "set-order")) } := Heap.get?_push_size _ rfl
      have hT : Shared.TypeIs { s with heap := s.heap.push { cls := .type "set", dict := none, data := .set #[] 0 (.fresh 0 0 (!w.params.followText "set-order")) } } (.ref s.heap.objs.size) "set" := ⟨_, hS, rfl⟩
      have hli := F.called_set.init.lookup
      have hbi := F.called_set.init.bind (.ref s.heap.objs.size)
      repeat (any_goals (first | assumption | wp_step))
      refine codeAny_mono (codeAny_call_builtin (R := wants (fun r s₂ => r = .none ∧ ∃ h' tk c, s₂ = { s with heap := h', toks := tk } ∧ SetT w h' s.heap.objs.size (fun j => decide (j ∈ ns)) c ∧ c ≤ ns.length ∧
          (∀ b o, s.heap.get? b = some o → h'.get? b = some o)) E) F.called_set.init.plain F.entry_set_init (check_set_init_1 hT ?_)) fun r₂ s₂ hr₂ => ?_
      · obtain ⟨ol, hol, hcl, nl, hdl⟩ := hl
        obtain ⟨ocls, odict, odata, oslots⟩ := ol
        simp only at hcl hdl
        subst hcl; subst hdl
        have hol' : (s.heap.push { cls := .type "set", dict := none, data := .set #[] 0 (.fresh 0 0 (!w.params.followText "set-order")) }).get? l = some { cls := .type "list", dict := odict, data := .seq items nl, slots := oslots } := Heap.get?_push_of_some _ hol
        have hsls := F.sub_list_set
        have hslf := F.sub_list_frozenset
        have hne : (Value.type "list" == Value.type "dict") = false := by decide
        have hl1 : (s.heap.push { cls := .type "set", dict := none, data := .set #[] 0 (.fresh 0 0 (!w.params.followText "set-order")) }).IsList l items := ⟨_, hol', rfl, nl, rfl⟩
        unfold Builtin.«set.__init__» noKeywords Builtin.Frozenset.updateFrom
        generalize hPI : pyIter = PI
        wp_walk
        subst hPI
        refine wpAny_pyIter_list hl1 ?_
        refine wpAny_bind (wpAny_runValue ?_)
        have hlS : l < s.heap.objs.size := Heap.lt_size hol
        have hh3 : A.in1.in1.in1.handled = none := by simp [hh]
        have hz1 : (s.heap.push { cls := .type "set", dict := none, data := .set #[] 0 (.fresh 0 0 (!w.params.followText "set-order")) }).objs.size = s.heap.objs.size + 1 := Heap.size_push ..
        have hneI : l ≠ (s.heap.push { cls := .type "set", dict := none, data := .set #[] 0 (.fresh 0 0 (!w.params.followText "set-order")) }).objs.size := by
          rw [Heap.size_push]; exact Nat.ne_of_lt (Nat.lt_succ_of_lt hlS)
        have hSf : s.heap.objs.size ∉ [(s.heap.push { cls := .type "set", dict := none, data := .set #[] 0 (.fresh 0 0 (!w.params.followText "set-order")) }).objs.size, l] := by
          rw [Heap.size_push]; simp only [List.mem_cons, List.mem_singleton, List.not_mem_nil, or_false, not_or]
          exact ⟨Nat.ne_of_lt (Nat.lt_succ_self _), Nat.ne_of_gt hlS⟩
        have hval : ∀ (i : Nat) (v : Value), items[i]? = some v → ∃ k t, ns[i]? = some k ∧ v = .str k t := fun i v hv => by
          have hi : i < ns.length := by rw [← hisz]; exact (Array.getElem?_eq_some_iff.mp hv).1
          obtain ⟨t, e⟩ := SS.strs_at hit i v (by rw [Array.getElem?_toList]; exact hv)
          refine ⟨ns[i], t, List.getElem?_eq_getElem hi, ?_⟩
          rw [e, List.getD_eq_getElem?_getD, List.getElem?_eq_getElem hi] <;> rfl
        refine set_update_strs ((Walks.list hh3 _ l hneI items).toS) s.heap.objs.size
          hSf ns hisz hb hval (items.size - 0) 0 _ (by omega) (Nat.zero_le _)
          ⟨⟨_, Heap.get?_push_size _ rfl, rfl, rfl⟩, (hl1.push _)⟩ ?hS0 ?hR
        case hS0 =>
          have hget : ((s.heap.push { cls := .type "set", dict := none, data := .set #[] 0 (.fresh 0 0 (!w.params.followText "set-order")) }).push { cls := .type "list_iterator", data := .fields #[.ref l, .int 0 0] }).get? s.heap.objs.size
              = some { cls := .type "set", dict := none, data := .set #[] 0 (.fresh 0 0 (!w.params.followText "set-order")) } := Heap.get?_push_of_some _ hS
          exact ⟨0, Nat.le_refl 0, setT_new_at hget⟩
        case hR =>
          intro s' c' hm hc' hS'
          obtain ⟨h', g2, d', tk', os'⟩ := s'
          have eg : g2 = s.gens := hm.gens
          have ed : d' = s.drawn := hm.drawn
          have eo : os' = s.os := hm.os
          subst eg; subst ed; subst eo
          show wpAny _ _ _ _ _ _
          refine wpAny_pure ?_
          show wpAny _ _ (ret Value.none) _ _ _
          rw [hisz] at hc'
          refine wpAny_pure ⟨rfl, h', tk', c', rfl, hS', hc', fun b o e => ?_⟩
          have hb0 : b < s.heap.objs.size := Heap.lt_size e
          have hb1 : b ≠ s.heap.objs.size := Nat.ne_of_lt hb0
          have hb2 : b ≠ (s.heap.push { cls := .type "set", dict := none, data := .set #[] 0 (.fresh 0 0 (!w.params.followText "set-order")) }).objs.size := by
            rw [Heap.size_push]; exact Nat.ne_of_lt (Nat.lt_succ_of_lt hb0)
          exact hm.heap b o (by simp only [List.mem_cons, List.mem_singleton, List.not_mem_nil, or_false, not_or]; exact ⟨hb1, hb2⟩) (Heap.get?_push_of_some _ (Heap.get?_push_of_some _ e))
      · cases r₂ with
        | error e => exact hr₂
        | ok fl₂ =>
          cases fl₂ with
          | ret r =>
            obtain ⟨rfl, h', tk, c', rfl, hS', hc', hk'⟩ := hr₂
            repeat (any_goals (first | assumption | wp_step))
            exact h _ _ _ hS' hc' hk'
          | _ => exact hr₂.elim
    | _ => exact hr.elim
end
section
variable {P : Program} {w : World} {A : Around} {E : Value → Shared → Prop} {s : Shared} {a : Addr}
end
section
variable {X : Cx}
end
section
variable {nm : Nms} {X : Cx}
end
end BS
namespace BS
open PySem PySem.Spec PyProof.Rows L2
/-- the parts of a lambda -/
structure LamF where
  x : Str
  qual : Str
  params : Arguments
  body : Expr
  scope : Scope
/-- one parameter, no other name -/
structure LamOk (F : LamF) : Prop where
  kind : F.scope.kind = .function
  co : F.scope.isCoroutine = false
  gen : F.scope.isGenerator = false
  own : ∀ y ∈ F.scope.names, y.2 ≠ .cell ∧ y.2 ≠ .free
  loc : F.scope.names.lookup F.x = some .local
  bind : ∀ (q : Str) (cl : List (Str × Addr)) (pm cv ctv u : Value), bindArgs (PySem.W.kla_fn "<lambda>" q F.params F.body F.scope cl pm cv ctv) ⟨[u], []⟩ = pure [(F.x, u)]
section
variable {prog : Program} {w : World} {A : Around} {s : Shared}
end
def keyI : Option D → Option PyData
  | some (.str z) => some (.str z)
  | some (.int n) => some (.int n)
  | _ => none
def TupV (h : Heap) (v : Value) (us : List Value) : Prop := ∃ t, v = .ref t ∧ IsTup h t us.toArray ∧ us.length ≤ sizeLine
/-- a value that stands for a text or an int -/
def ItV (u : Value) (d : D) : Prop := (∀ z, d = .str z → ∃ t, u = .str z t) ∧ ∀ n, d = .int n → ∃ t, u = .int n t
theorem TupV.keeps {h h' : Heap} {v : Value} {us : List Value} (x : TupV h v us) (k : ∀ b o, h.get? b = some o → h'.get? b = some o) : TupV h' v us := by
  obtain ⟨t, e, h1, h2⟩ := x
  exact ⟨t, e, h1.keeps k, h2⟩
/-- the lambda's body gives the key -/
structure BodyOk (F : LamF) (key : D → Option PyData) : Prop where
  lam : LamOk F
  run : ∀ {prog : Program} {w : World} {A : Around} {env : Env} {s : Shared} {m : Str → Option Value} {v : Value} {us : List Value} {es : List D} {k : PyData}, env.scope = F.scope → s.heap.Ns env.locals m → m F.x = some v → TupV s.heap v us →
    (∀ (i : Nat) (e : D), es[i]? = some e → ∃ u, us[i]? = some u ∧ ItV u e) → key (.tup es) = some k → wpAny (model prog w) A (eval F.body env) (PySem.W.KeyPure k s) (fun _ _ => False) s
section
variable {prog : Program} {w : World} {A : Around} {s : Shared} {env : Env} {m : Str → Option Value}
end
section
variable {X : Cx} {pins : List (Addr × Obj)} {σ : L2.St} {H : Hp} {s : Shared}
end
/-- all known things but P are what they were -/
def ButP (P : Addr) (H H' : Hp) : Prop := ∀ a o, a ≠ P → H a = some o → H' a = some o
theorem rd_but {P : Addr} {H H' : Hp} {ps : Array Value} (h : ButP P H H') (hP : H P = some (.tbl ps)) {a : Addr} {u : HO} (nu : ∀ ps, u ≠ .tbl ps) (r : Rd H a u) : Rd H' a u := by
  rcases r with r | ⟨o, r⟩
  · exact .inl (h a _ (fun z => by rw [z, hP] at r; exact nu ps (Option.some.inj r).symm) r)
  · exact .inr ⟨o, h a _ (fun z => by rw [z, hP] at r; cases r) r⟩
theorem sqt_but {K : PySem.W.Frag} {P : Addr} {H H' : Hp} {ps : Array Value} (h : ButP P H H') (hP : H P = some (.tbl ps)) {a : Addr} {xs : List V} (r : SqT K H a xs) : SqT K H' a xs := r.elim (fun r => .inl (rd_but h hP (fun _ z => by cases z) r)) .inr
section
variable {X : Cx} {P c : Addr} {F : LamF} {key : D → Option PyData}
end
section
variable {nm : Nms} {X : Cx} {c : Addr} {F : LamF} {key : D → Option PyData} {k : Nat}
end
section
variable {nm : Nms} {X : Cx}
end
section
variable {nm : Nms} {X : Cx} {pos : Pos}
end
end BS
namespace BS
open PySem PySem.Spec PyProof.Rows L2
def lfN : Option Key → NestedKey
  | none => .none
  | some (.inl i) => .num i
  | some (.inr x) => .text x
/-- the tuple that is the key -/
def tkD (k : TKey) : D := .tup (k.map lfD)
def lfK : D → Option (Option Key)
  | .non => some none
  | .int i => some (some (.inl i))
  | .str x => some (some (.inr x))
  | _ => none
def tkL : List D → Option TKey
  | [] => some []
  | d :: ds => match lfK d with
    | some k => match tkL ds with
      | some ks => some (k :: ks)
      | none => none
    | none => none
def tkOf : D → Option TKey
  | .tup ds => tkL ds
  | _ => none
theorem lfK_lfD (k : Option Key) : lfK (lfD k) = some k := by
  rcases k with _ | (i | x) <;> rfl
theorem tkL_map : ∀ k : TKey, tkL (k.map lfD) = some k
  | [] => rfl
  | a :: k => by rw [List.map_cons, tkL, lfK_lfD, tkL_map k]
@[simp] theorem tkOf_tkD (k : TKey) : tkOf (tkD k) = some k := tkL_map k
theorem depth_flat : ∀ k : TKey, NestedKey.depthAll (k.map lfN) = 0
  | [] => rfl
  | a :: k => by
    rw [List.map_cons, NestedKey.depthAll, depth_flat k]
    rcases a with _ | (i | x) <;> rfl
section
variable {α : Type}
def getT (kvs : List (TKey × α)) (k : TKey) : Option α := (kvs.find? fun kv => decide (kv.1 = k)).map (·.2)
end
section
variable {K : PySem.W.Frag} {H : Hp} {μ : List Addr}
end
section
variable {nm : Nms} {X : Cx} {pins : List (Addr × Obj)} {σ : St} {H : Hp} {s : Shared} {μ : List Addr} {S : Store}
end
section
variable {nm : Nms} {X : Cx} {pins : List (Addr × Obj)} {σ : St} {H : Hp} {s : Shared} {μ : List Addr} {S : Store} {A : Around} {E : Value → Shared → Prop}
end
end BS
namespace BS
open PySem PySem.Spec PyProof.Rows L2
section
variable {nm : Nms} {X : Cx} {pos : Pos} {e : Expr} {es : List Expr} {ma : AM}
end
end BS
namespace BS
open PySem PySem.Spec PyProof.Rows L2
def lockO : O → Option O
  | .dct kvs => some (.lck kvs)
  | .dkt kvs => some (.lkt kvs)
  | _ => none
def unlO : O → Option O
  | .lck kvs => some (.dct kvs)
  | .lkt kvs => some (.dkt kvs)
  | _ => none
def unlAt (n : Nat) (S : Store) : Option Store := match S[n]? with
  | some o => (unlO o).map fun o' => S.set n o'
  | none => none
def RS.unL (n : Nat) (r : RS) : RS := match r with
  | .nx e S => match unlAt n S with
    | some S' => .nx e S'
    | none => .stuck
  | .rt d S => match unlAt n S with
    | some S' => .rt d S'
    | none => .stuck
  | .bk e S => match unlAt n S with
    | some S' => .bk e S'
    | none => .stuck
  | .ct e S => match unlAt n S with
    | some S' => .ct e S'
    | none => .stuck
  | .exc c fs e S => .exc c fs e S
  | .stuck => .stuck
def R.unL {α : Type} (n : Nat) (r : R α) : R α := match r with
  | .ok a S => match unlAt n S with
    | some S' => .ok a S'
    | none => .stuck
  | .exc c fs S => .exc c fs S
  | .stuck => .stuck
/-- which object is locked is told by i -/
def lockS (i : EM) (b : SM) : SM := fun e S => match i e S with
  | .ok (.obj n) _ => match S[n]? with
    | some o => match lockO o with
      | some o' => RS.unL n (b e (S.set n o'))
      | none => .stuck
    | none => .stuck
  | _ => .stuck
def lockE (i : EM) (m : EM) : EM := fun e S => match i e S with
  | .ok (.obj n) _ => match S[n]? with
    | some o => match lockO o with
      | some o' => R.unL n (m e (S.set n o'))
      | none => .stuck
    | none => .stuck
  | _ => .stuck
section
variable {nm : Nms} {X : Cx}
end
section
variable {P : Program} {w : World} {K : PySem.W.Frag} {tg : Expr} {d : Addr} {o : Obj} {es : Array DictEntry} {ep : Nat} {hs : TKey → Int}
end
section
variable {nm : Nms} {X : Cx} {tg e : Expr} {me : EM} {pos : Pos}
end
end BS
namespace BS
open PySem PySem.Spec PyProof.Rows L2
section
variable {nm : Nms} {X : Cx}
end
end BS
namespace BS
open PySem PySem.Spec PyProof.Rows L2
section
variable {nm : Nms} {X : Cx}
end
end BS
namespace BS
open PySem PySem.Spec PyProof.Rows L2
section
variable {nm : Nms} {X : Cx} {pos : Pos}
end
end BS
namespace BS
open PySem PySem.Spec PyProof.Rows L2
/-- a lambda's body gives the key of what G says -/
structure BodyG (F : LamF) (G : PySem.W.Frag → Heap → Value → PyData → Prop) : Prop where
  lam : LamOk F
  keeps : ∀ {K : PySem.W.Frag} {h h' : Heap} {v : Value} {k : PyData}, G K h v k → (∀ b o, h.get? b = some o → h'.get? b = some o) → G K h' v k
  run : ∀ {prog : Program} {w : World} {A : Around} {env : Env} {s : Shared} {m : Str → Option Value} {v : Value} {K : PySem.W.Frag} {k : PyData}, env.scope = F.scope → s.heap.Ns env.locals m → m F.x = some v → K.In s.heap → G K s.heap v k →
    wpAny (model prog w) A (eval F.body env) (PySem.W.KeyPure k s) (fun _ _ => False) s
/-- a text or an int as a key -/
def ItK (u : Value) (k : PyData) : Prop := (∃ z t, u = .str z t ∧ k = .str z) ∨ ∃ n t, u = .int n t ∧ k = .int n
theorem ItK.reads {h : Heap} {u : Value} {k : PyData} (x : ItK u k) : Reads h u k [] := by
  rcases x with ⟨z, t, rfl, rfl⟩ | ⟨n, t, rfl, rfl⟩
  · exact .str z t
  · exact .int n t
/-- u's attribute f is a text or an int -/
def FldV (K : PySem.W.Frag) (h : Heap) (u : Value) (f : Str) (k : PyData) : Prop := ∃ a dx C mA x, u = .ref a ∧ ObjM h a dx C mA ∧ Cls K C ∧ NoAttr K C f ∧ mA f = some x ∧ ItK x k
theorem FldV.keeps {K : PySem.W.Frag} {h h' : Heap} {u : Value} {f : Str} {k : PyData} (x : FldV K h u f k) (kp : ∀ b o, h.get? b = some o → h'.get? b = some o) : FldV K h' u f k := by
  obtain ⟨a, dx, C, mA, x, e, o, r⟩ := x
  exact ⟨a, dx, C, mA, x, e, ⟨kp _ _ o.obj, o.ns.keeps kp, o.ne⟩, r⟩
/-- (p[i].f, p[j].g) -/
def GA (i : Nat) (f : Str) (j : Nat) (g : Str) (K : PySem.W.Frag) (h : Heap) (v : Value) (k : PyData) : Prop := ∃ us u1 u2 k1 k2, TupV h v us ∧ us[i]? = some u1 ∧ us[j]? = some u2 ∧ FldV K h u1 f k1 ∧ FldV K h u2 g k2 ∧ k = .tuple [k1, k2]
section
variable {prog : Program} {w : World} {A : Around} {s : Shared} {env : Env} {m : Str → Option Value}
end
def ItW (v : V) (k : PyData) : Prop := (∃ z, v = .str z ∧ k = .str z) ∨ ∃ n, v = .int n ∧ k = .int n
def FldH (K : PySem.W.Frag) (H : Hp) (y : V) (f : Str) (k : PyData) : Prop := ∃ a C dx fs x, y = .ref a ∧ H a = some (.ins C dx fs) ∧ Cls K C ∧ NoAttr K C f ∧ fs.lookup f = some x ∧ ItW x k
def GH (K : PySem.W.Frag) (i : Nat) (f : Str) (j : Nat) (g : Str) (H : Hp) (v : V) (k : PyData) : Prop := ∃ t ys y1 y2 k1 k2, v = .ref t ∧ SqT K H t ys ∧ ys[i]? = some y1 ∧ ys[j]? = some y2 ∧ FldH K H y1 f k1 ∧ FldH K H y2 g k2 ∧ k = .tuple [k1, k2]
theorem FldH.v {X : Cx} {pins : List (Addr × Obj)} {σ : L2.St} {H : Hp} {s : Shared} {y : V} {u : Value} {f : Str} {k : PyData} (I : Inv X pins σ H s) (x : FldH X.K H y f k) (r : RelV y u) : FldV X.K s.heap u f k := by
  obtain ⟨a, C, dx, fs, x, rfl, e, c, n, l, it⟩ := x
  obtain ⟨mA, O, ro, _, _, _⟩ := ins_get I.hok e
  obtain ⟨z, hz, rz⟩ := RelO.some_of (v := x) (o := mA f) (by rw [← l]; exact ro f)
  obtain rfl : u = Value.ref a := r
  refine ⟨a, dx, C, mA, z, rfl, O, c, n, hz, ?_⟩
  rcases it with ⟨q, rfl, rfl⟩ | ⟨q, rfl, rfl⟩
  · obtain ⟨t, rfl⟩ : ∃ t, z = .str q t := rz
    exact .inl ⟨q, t, rfl, rfl⟩
  · obtain ⟨t, rfl⟩ : ∃ t, z = .int q t := rz
    exact .inr ⟨q, t, rfl, rfl⟩
theorem GH.v {X : Cx} {pins : List (Addr × Obj)} {σ : L2.St} {H : Hp} {s : Shared} {i j : Nat} {f g : Str} {y : V} {u : Value} {k : PyData} (I : Inv X pins σ H s) (x : GH X.K i f j g H y k) (r : RelV y u) : GA i f j g X.K s.heap u k := by
  obtain ⟨t, ys, y1, y2, k1, k2, rfl, q, e1, e2, f1, f2, e⟩ := x
  obtain rfl : u = Value.ref t := r
  obtain ⟨its, rv, tup, hz⟩ := I.tuple q
  obtain ⟨u1, a1, b1⟩ := rv.get e1
  obtain ⟨u2, a2, b2⟩ := rv.get e2
  exact ⟨its, u1, u2, k1, k2, ⟨t, rfl, tup, by rw [← rv.length]; exact hz⟩, a1, a2, f1.v I b1, f2.v I b2, e⟩
theorem FldH.but {K : PySem.W.Frag} {P : Addr} {H H' : Hp} {ps : Array Value} {y : V} {f : Str} {k : PyData} (h : ButP P H H') (hP : H P = some (.tbl ps)) (x : FldH K H y f k) : FldH K H' y f k := by
  obtain ⟨a, C, dx, fs, x, e1, e, r⟩ := x
  exact ⟨a, C, dx, fs, x, e1, h a _ (fun z => by rw [z, hP] at e; cases e) e, r⟩
theorem GH.but {K : PySem.W.Frag} {P : Addr} {H H' : Hp} {ps : Array Value} {i j : Nat} {f g : Str} {v : V} {k : PyData} (h : ButP P H H') (hP : H P = some (.tbl ps)) (x : GH K i f j g H v k) : GH K i f j g H' v k := by
  obtain ⟨t, ys, y1, y2, k1, k2, e0, q, e1, e2, f1, f2, e⟩ := x
  exact ⟨t, ys, y1, y2, k1, k2, e0, sqt_but h hP q, e1, e2, f1.but h hP, f2.but h hP, e⟩
section
variable {X : Cx} {P c : Addr} {F : LamF} {i j : Nat} {f g : Str}
end
section
variable {nm : Nms} {X : Cx} {c : Addr} {F : LamF} {k : Nat} {cs cs' : List Nat} {i f j g : Nat} {fx gx : Str}
end
end BS
namespace BS
open PySem PySem.Spec PyProof.Rows L2
theorem rvs_strs {K : PySem.W.Frag} {H : Hp} {μ : List Addr} : ∀ ys : List Str, RVs K H μ (ys.map V.str) (ys.map D.str)
  | [] => .nil
  | y :: r => .cons (.str y) (rvs_strs r)
section
variable {nm : Nms} {X : Cx}
def fnSplit (new : Bool) : FM := fun ds S => match ds with
  | [.str a, .str b] => if (b.length == 0) = false ∧ a.length + 2 ≤ sizeLine then fin new ((Txt.split a b).map .str) S else .stuck
  | _ => .stuck
theorem t_split (new : Bool) : MtD nm X "str.split" (fnSplit new) := by
  intro pins s σ H x xs v us Q I rx r h
  obtain ⟨ds, S, μ, E, rv, sm, p⟩ := h
  unfold fnSplit at p
  split at p
  · rename_i a b
    obtain ⟨w, z, e, r1, r2⟩ := two_rv rv
    cases r1; cases r2; cases e
    split at p
    · rename_i hh
      exact mt_split pins s σ H _ _ v us Q I rx r ⟨a, b, rfl, rfl, hh.1, hh.2, fun p' hp' => fin_post sm (rvs_strs _) hp' p⟩
    · exact False.elim p
  · exact False.elim p
def fnSplitN (new : Bool) : FM := fun ds S => match ds with
  | [.str a, .str b, .int k] => if (b.length == 0) = false ∧ (-(2 ^ 62) ≤ k ∧ k < 2 ^ 62) ∧ a.length + 2 ≤ sizeLine then fin new ((Txt.splitMax a b k).map .str) S else .stuck
  | _ => .stuck
theorem t_splitN (new : Bool) : MtD nm X "str.split" (fnSplitN new) := by
  intro pins s σ H x xs v us Q I rx r h
  obtain ⟨ds, S, μ, E, rv, sm, p⟩ := h
  unfold fnSplitN at p
  split at p
  · rename_i a b k
    obtain ⟨w, z, u, e, r1, r2, r3⟩ := three_rv rv
    cases r1; cases r2; cases r3; cases e
    split at p
    · rename_i hh
      exact mt_splitMax pins s σ H _ _ v us Q I rx r ⟨a, b, k, rfl, rfl, hh.1, by omega, by omega, hh.2.2, fun p' hp' => fin_post sm (rvs_strs _) hp' p⟩
    · exact False.elim p
  · exact False.elim p
end
def enumD (ds : List D) : List D := ds.zipIdx.map fun p => .tup [.int (p.2 : Nat), p.1]
theorem enumD_get {ds : List D} {i : Nat} {d : D} (h : (enumD ds)[i]? = some d) : ∃ x, ds[i]? = some x ∧ d = .tup [.int (i : Nat), x] := by
  unfold enumD at h
  rw [List.getElem?_map, List.getElem?_zipIdx] at h
  cases e : ds[i]? with
  | none => rw [e] at h; simp at h
  | some x => rw [e] at h; simp at h; exact ⟨x, rfl, h.symm⟩
theorem enumD_len (ds : List D) : (enumD ds).length = ds.length := by simp [enumD]
/-- a pair that has just been made -/
theorem pair_laid {nm : Nms} {K : PySem.W.Frag} {mg : Str → Option Value} {H : Hp} {μ : List Addr} {S : Store} {T : Addr} {x y : V} {a b : D} (s : Sim nm K mg μ S H) (hT : H T = none) (ra : RV K H μ x a) (rb : RV K H μ y b) :
    Ext μ H μ (upd H T (.tup [x, y])) ∧ Sim nm K mg μ S (upd H T (.tup [x, y])) ∧ RV K (upd H T (.tup [x, y])) μ (.ref T) (.tup [a, b]) := by
  have x1 := Ext.laid (u := .tup [x, y]) s hT
  exact ⟨x1, s.laid hT, .tup (.inl ⟨s.fresh hT, .inl upd_same⟩) (.cons (RV.ext x1 _ ra) (.cons (RV.ext x1 _ rb) .nil))⟩
section
variable {nm : Nms} {X : Cx} {tg : Expr} {pos : Pos}
theorem wok_enum {a : Addr} {ds : List D} {w : Wk} {C : Hp → List Addr → Prop} (hd : w.ds = enumD ds) (hc : ∀ S μ H, Sim nm X.K X.mg μ S H → C H μ → w.G S → ∃ xs, SqL X.K H a xs ∧ RVs X.K H μ xs ds) : WOk nm X (Ite X.K a) w C := by
  intro i S μ H s c g
  obtain ⟨xs, h1, h2⟩ := hc S μ H s c g
  refine ⟨fun d e => ?_, fun h => ⟨xs, h1, by rw [h2.length]; rw [hd, enumD_len] at h; exact h⟩⟩
  rw [hd] at e
  obtain ⟨z, ez, rfl⟩ := enumD_get e
  obtain ⟨v, e1, r⟩ := h2.get ez
  refine ⟨⟨xs, v, h1, e1⟩, fun x H' y => ?_⟩
  obtain ⟨T, x', rfl, hT, rfl, hx⟩ := y
  have : x' = v := Option.some.inj ((hx xs h1).symm.trans e1)
  subst this
  exact pair_laid s hT (.int _) r
/-- the items of a list, and what must stay -/
def lstW (S : Store) (x : D) : Option (List D × (Store → Prop)) := match x with
  | .lst ds => some (ds, fun _ => True)
  | .scr ds => some (ds, fun _ => True)
  | .obj n => match S[n]? with
    | some (.lst ds) => some (ds, fun S => S[n]? = some (.lst ds))
    | _ => none
  | _ => none
theorem lstW_at {S1 : Store} {μ1 : List Addr} {H1 : Hp} {d : D} {v : V} {ds : List D} {G : Store → Prop} (s1 : Sim nm X.K X.mg μ1 S1 H1) (rv : RV X.K H1 μ1 v d) (h : lstW S1 d = some (ds, G)) :
    ∃ (a : Addr) (xs : List V) (C : Hp → List Addr → Prop), v = .ref a ∧ SqL X.K H1 a xs ∧ Stable C ∧ C H1 μ1 ∧ ∀ S μ H, Sim nm X.K X.mg μ S H → C H μ → G S → ∃ xs, SqL X.K H a xs ∧ RVs X.K H μ xs ds := by
  unfold lstW at h
  split at h
  · cases h
    cases rv with | @lst a xs _ t r =>
    exact ⟨a, xs, fun H μ => LstAt H μ a xs ∧ RVs X.K H μ xs ds, rfl, .of t.2, fun μ H μ' H' x c => ⟨c.1.ext x, RVs.ext x _ c.2⟩, ⟨t, r⟩, fun S μ H s c g => ⟨xs, .of c.1.2, c.2⟩⟩
  · cases h
    cases rv with | @scr a xs _ t r =>
    exact ⟨a, xs, fun H μ => ScrAt X.K H μ a xs ∧ RVs X.K H μ xs ds, rfl, t.sq, fun μ H μ' H' x c => ⟨c.1.ext x, RVs.ext x _ c.2⟩, ⟨t, r⟩, fun S μ H s c g => ⟨xs, c.1.sq, c.2⟩⟩
  · rename_i n
    split at h
    · rename_i ds' hds
      cases h
      cases rv with | @obj a _ en =>
      obtain ⟨xs, e1, r⟩ := s1.ob _ _ _ en hds
      exact ⟨a, xs, fun H μ => μ[n]? = some a, rfl, .of e1, fun μ H μ' H' x c => x.at c, en, fun S μ H s c g => by
        obtain ⟨xs, e1, r⟩ := s.ob _ _ _ c g
        exact ⟨xs, .of e1, r⟩⟩
    · cases h
  · cases h
def iEnum (as : AM) : IM := fun e S => (as e S).bind fun ds S => match ds with
  | [x] => match lstW S x with
    | some (ds, G) => .ok ⟨enumD ds, G⟩ S
    | none => .stuck
  | _ => .stuck
theorem mi_enum {a : Expr} {elts : List Expr} {kk : Nat} {tpos : Pos} {ma : AM} {p : Pos} (hg : GlN X "enumerate") (hm : X.mg "enumerate" = none) (ha : MA nm X [a] ma) (hs : starEach [a] X.env = [(false, eval a X.env)] := by rfl) : MI nm X (.Tuple elts kk tpos) (.Call (.Name "enumerate" p) [a] [] pos) (iEnum ma) := by
  refine ⟨fun W tk => (pi_enum hg.g hm (ha.run W tk) hs).imp fun σ H R hh => ?_⟩
  obtain ⟨ev, S, μ, E, s, p⟩ := hh
  refine ⟨ev, S, μ, E, s, (post_len ha (Post.bind p)).mono fun d S1 μ1 H1 x1 s1 p1 v rv => ?_⟩
  obtain ⟨hl, p1⟩ := p1
  split at p1
  · rename_i x
    split at p1
    · rename_i ds G hw
      cases rv with | cons r rr =>
      cases rr
      obtain ⟨a, xs, C, rfl, hq, st, c0, hc⟩ := lstW_at s1 r hw
      exact ⟨a, xs, rfl, hq, p1 μ1 H1 .refl s1 (Ite X.K a) C st c0 (wok_enum rfl hc)⟩
    · exact False.elim p1
  · exact False.elim p1
def zipD (xs ys : List D) : List D := (xs.zip ys).map fun p => .tup [p.1, p.2]
theorem zipD_get {xs ys : List D} {i : Nat} {d : D} (h : (zipD xs ys)[i]? = some d) : ∃ x y, xs[i]? = some x ∧ ys[i]? = some y ∧ d = .tup [x, y] := by
  unfold zipD at h
  rw [List.getElem?_map] at h
  cases e : (xs.zip ys)[i]? with
  | none => rw [e] at h; simp at h
  | some p =>
    rw [e] at h
    obtain ⟨x, y⟩ := p
    rw [List.getElem?_zip_eq_some] at e
    simp at h
    exact ⟨x, y, e.1, e.2, h.symm⟩
theorem zipD_len (xs ys : List D) : (zipD xs ys).length = min xs.length ys.length := by simp [zipD]
theorem wok_zipT {a b : Addr} {ds es : List D} {w : Wk} {C : Hp → List Addr → Prop} (hd : w.ds = zipD ds es) (hc : ∀ S μ H, Sim nm X.K X.mg μ S H → C H μ → w.G S → ∃ xs ys, SqT X.K H a xs ∧ RVs X.K H μ xs ds ∧ SqT X.K H b ys ∧ RVs X.K H μ ys es) : WOk nm X (RZ.ItzT X.K a b) w C := by
  intro i S μ H s c g
  obtain ⟨xs, ys, h1, h2, h3, h4⟩ := hc S μ H s c g
  refine ⟨fun d e => ?_, fun h => ⟨xs, ys, h1, h3, by rw [h2.length, h4.length]; rw [hd, zipD_len] at h; omega⟩⟩
  rw [hd] at e
  obtain ⟨z1, z2, ez1, ez2, rfl⟩ := zipD_get e
  obtain ⟨v1, e1, r1⟩ := h2.get ez1
  obtain ⟨v2, e2, r2⟩ := h4.get ez2
  refine ⟨⟨xs, ys, v1, v2, h1, h3, e1, e2⟩, fun x H' y => ?_⟩
  obtain ⟨T, x', y', rfl, hT, rfl, hx, hy⟩ := y
  have : x' = v1 := Option.some.inj ((hx xs h1).symm.trans e1)
  subst this
  have : y' = v2 := Option.some.inj ((hy ys h3).symm.trans e2)
  subst this
  exact pair_laid s hT r1 r2
/-- a tuple and a list, the items in new pairs -/
def ItzM (K : PySem.W.Frag) (a b : Addr) : It :=
  ⟨fun i H => ∃ (xs ys : List V) (x y : V), SqT K H a xs ∧ SqL K H b ys ∧ xs[i]? = some x ∧ ys[i]? = some y,
    fun i H v H' => ∃ T x y, v = .ref T ∧ H T = none ∧ H' = upd H T (.tup [x, y]) ∧ (∀ xs, SqT K H a xs → xs[i]? = some x) ∧ ∀ ys, SqL K H b ys → ys[i]? = some y,
    fun i H => ∃ xs ys : List V, SqT K H a xs ∧ SqL K H b ys ∧ (xs.length ≤ i ∨ ys.length ≤ i)⟩
theorem wok_zipM {a b : Addr} {ds es : List D} {w : Wk} {C : Hp → List Addr → Prop} (hd : w.ds = zipD ds es) (hc : ∀ S μ H, Sim nm X.K X.mg μ S H → C H μ → w.G S → ∃ xs ys, SqT X.K H a xs ∧ RVs X.K H μ xs ds ∧ SqL X.K H b ys ∧ RVs X.K H μ ys es) : WOk nm X (ItzM X.K a b) w C := by
  intro i S μ H s c g
  obtain ⟨xs, ys, h1, h2, h3, h4⟩ := hc S μ H s c g
  refine ⟨fun d e => ?_, fun h => ⟨xs, ys, h1, h3, by rw [h2.length, h4.length]; rw [hd, zipD_len] at h; omega⟩⟩
  rw [hd] at e
  obtain ⟨z1, z2, ez1, ez2, rfl⟩ := zipD_get e
  obtain ⟨v1, e1, r1⟩ := h2.get ez1
  obtain ⟨v2, e2, r2⟩ := h4.get ez2
  refine ⟨⟨xs, ys, v1, v2, h1, h3, e1, e2⟩, fun x H' y => ?_⟩
  obtain ⟨T, x', y', rfl, hT, rfl, hx, hy⟩ := y
  have : x' = v1 := Option.some.inj ((hx xs h1).symm.trans e1)
  subst this
  have : y' = v2 := Option.some.inj ((hy ys h3).symm.trans e2)
  subst this
  exact pair_laid s hT r1 r2
theorem drawT {prog : Program} {w : World} {A : Around} (hh : A.handled = none) (it t : Addr) (hne : t ≠ it) (items : Array Value) (i : Nat) :
    ∃ (n : Nat) (P : Nat → Value → Prop) (St : Nat → Heap → Prop), Draws prog w A it [it, t] n P St ∧ i ≤ n ∧ (items.size ≤ i → i = n) ∧ ∀ h : Heap, h.IsTupleIter it t i → h.IsTuple t items → St i h := by
  by_cases hl : items.size ≤ i
  · refine ⟨i, fun _ _ => True, fun j h => j = i ∧ h.IsTupleIter it t i ∧ h.IsTuple t items, ⟨fun j h st => ?_, fun j h h' st hk => ?_, fun j s Q E hj st => ?_, fun s Q E st hE => ?_⟩, Nat.le_refl _, fun _ => rfl, fun h h1 h2 => ⟨rfl, h1, h2⟩⟩
    · obtain ⟨_, ⟨o, ho, _⟩, _⟩ := st; exact ⟨o, ho⟩
    · exact ⟨st.1, st.2.1.at fun o e => hk it (by simp) o e, st.2.2.at fun o e => hk t (by simp) o e⟩
    · exact absurd st.1 (Nat.ne_of_lt hj)
    · exact wpAny_nextOf_tuple_end hh st.2.1 st.2.2 (by simp; omega) hE
  · exact ⟨_, _, _, Draws.tuple hh it t hne items, by omega, fun z => absurd z hl, fun h h1 h2 => ⟨h1, h2⟩⟩
theorem drawL {prog : Program} {w : World} {A : Around} (hh : A.handled = none) (it t : Addr) (hne : t ≠ it) (items : Array Value) (i : Nat) :
    ∃ (n : Nat) (P : Nat → Value → Prop) (St : Nat → Heap → Prop), Draws prog w A it [it, t] n P St ∧ i ≤ n ∧ (items.size ≤ i → i = n) ∧ ∀ h : Heap, h.IsListIter it t i → h.IsList t items → St i h := by
  by_cases hl : items.size ≤ i
  · refine ⟨i, fun _ _ => True, fun j h => j = i ∧ h.IsListIter it t i ∧ h.IsList t items, ⟨fun j h st => ?_, fun j h h' st hk => ?_, fun j s Q E hj st => ?_, fun s Q E st hE => ?_⟩, Nat.le_refl _, fun _ => rfl, fun h h1 h2 => ⟨rfl, h1, h2⟩⟩
    · obtain ⟨_, ⟨o, ho, _⟩, _⟩ := st; exact ⟨o, ho⟩
    · exact ⟨st.1, st.2.1.at fun o e => hk it (by simp) o e, st.2.2.at fun o e => hk t (by simp) o e⟩
    · exact absurd st.1 (Nat.ne_of_lt hj)
    · exact wpAny_nextOf_list_end hh st.2.1 st.2.2 (by simp; omega) hE
  · exact ⟨_, _, _, Draws.list hh it t hne items, by omega, fun z => absurd z hl, fun h h1 h2 => ⟨h1, h2⟩⟩
theorem sep_of {z TI TO i1 i2 a b : Addr} (D : ZipApart z TI TO i1 i2 a b) : ZipSep2 z TI TO i1 i2 [i1, a] [i2, b] := by
  constructor
  · exact D.TIz
  · exact D.TOz
  · exact D.TITO
  · exact D.TIi1
  · simp
  · simp; exact ⟨fun e => D.i1z e.symm, fun e => D.l1z e.symm⟩
  · simp; exact ⟨D.TOi1, fun e => D.l1TO e.symm⟩
  · exact D.TIi2
  · simp
  · simp; exact ⟨fun e => D.i2z e.symm, fun e => D.l2z e.symm⟩
  · simp; exact ⟨D.TOi2, fun e => D.l2TO e.symm⟩
  · simp; exact ⟨D.i12, fun e => D.l2i1 e.symm⟩
  · simp; exact ⟨fun e => D.i12 e.symm, fun e => D.l1i2 e.symm⟩
theorem turn_zipM {P : Program} {w : World} {K : PySem.W.Frag} {elts : List Expr} {kk : Nat} {tpos : Pos} {a b z TI TO i1 i2 : Addr} (D : ZipApart z TI TO i1 i2 a b) :
    Turn P w K (.Tuple elts kk tpos) (ItzM K a b) [z, TI, TO, i1, i2] z (fun i h => IsZip h z TI TO .none ∧ PySem.IsPair h TI (.ref i1) (.ref i2) ∧ (∃ x y, PySem.IsPair h TO x y) ∧ h.IsTupleIter i1 a i ∧ h.IsListIter i2 b i) where
  mem := by simp
  obj := fun i h st c hc => by
    obtain ⟨hz, hTI, ⟨x, y, hTO⟩, ⟨o1, e1, _, d1⟩, ⟨o2, e2, _, d2⟩⟩ := st
    have e' : c = z ∨ c = TI ∨ c = TO ∨ c = i1 ∨ c = i2 := by simpa using hc
    rcases e' with q | q | q | q | q
    · rw [q]; exact ⟨_, hz, fun v q => nomatch q⟩
    · rw [q]; exact ⟨_, hTI, fun v q => nomatch q⟩
    · rw [q]; exact ⟨_, hTO, fun v q => nomatch q⟩
    · rw [q]; exact ⟨o1, e1, fun v q => by rw [d1] at q; cases q⟩
    · rw [q]; exact ⟨o2, e2, fun v q => by rw [d2] at q; cases q⟩
  keep := fun i h h' st k => by
    obtain ⟨hz, hTI, ⟨x, y, hTO⟩, h1, h2⟩ := st
    exact ⟨k z (by simp) _ hz, k TI (by simp) _ hTI, ⟨x, y, k TO (by simp) _ hTO⟩, h1.at fun o q => k i1 (by simp) o q, h2.at fun o q => k i2 (by simp) o q⟩
  item := by
    intro X hP hw hK hc i pins s σ H E I hf st hg
    subst hP hw hK
    obtain ⟨hz, hTI, ⟨x0, y0, hTO⟩, h1, h2⟩ := st
    obtain ⟨xs, ys, x, y, hqx, hqy, hx, hy⟩ := hg
    obtain ⟨its, rv, p, _⟩ := I.tuple hqx
    obtain ⟨its2, rv2, p2, _⟩ := I.list hqy
    obtain ⟨u, hu, ru⟩ := rv.get hx
    obtain ⟨u2, hu2, ru2⟩ := rv2.get hy
    have hzl : z < s.heap.objs.size := Heap.lt_size hz
    have hh : X.A.in1.handled = none := I.ok.hd hc
    refine wpAny_pyNext_zipD2_item (sep_of D) (Draws.tuple hh i1 a D.l1i1 its.toArray) (Draws.list hh i2 b D.l2i2 its2.toArray) hz hTI hTO ⟨h1, p⟩ ⟨h2, p2.isList⟩
      (by have := (List.getElem?_eq_some_iff.mp hu).1; simpa using this) (by have := (List.getElem?_eq_some_iff.mp hu2).1; simpa using this) fun w1 w2 h' tk q1 q2 z' TO' st1 st2 hT hsz hk => ?_
    have e1 : w1 = u := by
      have q1 : its.toArray[i]? = some w1 := q1
      rw [List.getElem?_toArray, hu] at q1
      exact (Option.some.inj q1).symm
    have e2 : w2 = u2 := by
      have q2 : its2.toArray[i]? = some w2 := q2
      rw [List.getElem?_toArray, hu2] at q2
      exact (Option.some.inj q2).symm
    subst e1 e2
    obtain ⟨h1', _⟩ := st1
    obtain ⟨h2', _⟩ := st2
    refine ⟨_, rfl, wpAny_letOwnedTupleGo_zip (s := { s with heap := h', toks := tk }) z' fun h'' z'' sb => ?_⟩
    have hT2 : h''.get? s.heap.objs.size = some { cls := .type "tuple", data := .seq #[w1, w2] } := (sb.2 _ (Nat.ne_of_gt hzl)).trans hT
    have new : ObjOk X.prog X.w (upd H s.heap.objs.size (.tup [x, y])) h'' s.heap.objs.size (.tup [x, y]) :=
      ⟨by show 2 ≤ sizeLine; decide, [w1, w2], .cons ru (.cons ru2 .nil), ⟨_, hT2, rfl, _, rfl⟩⟩
    have I1 : Inv X pins σ (upd H s.heap.objs.size (.tup [x, y])) { s with heap := h'', toks := tk } :=
      I.turnedNew (t' := tk) (ch := [z, TI, TO, i1, i2]) (fun c o hb q => (sb.2 c (fun q' => hb (by simp [q']))).trans (hk c o (fun q' => hb (by simp [q'])) (fun q' => hb (by simp [q'])) (fun q' => hb (by simp [q'])) (fun q' => hb (by simp [q'])) q)) hf (Nat.le_refl _) new
    refine ⟨.ref s.heap.objs.size, _, I1, rfl, ⟨_, x, y, rfl, I.hok.fresh (Nat.le_refl _), rfl, fun l hl => by rw [I.tuple_inj hl hqx]; exact hx, fun l hl => by rw [I.list_inj hl hqy]; exact hy⟩, ⟨z'', ?_, ⟨w1, w2, ?_⟩, ?_, ?_⟩, fun c hcm => ?_⟩
    · exact (sb.2 _ D.TIz).trans (hk _ _ D.TIz D.TITO D.TIi1 D.TIi2 hTI)
    · exact (sb.2 _ D.TOz).trans TO'
    · exact h1'.at fun o q => (sb.2 _ D.i1z).trans q
    · exact h2'.at fun o q => (sb.2 _ D.i2z).trans q
    · have hlt : c < s.heap.objs.size := by
        have e' : c = z ∨ c = TI ∨ c = TO ∨ c = i1 ∨ c = i2 := by simpa using hcm
        rcases e' with q | q | q | q | q
        · rw [q]; exact hzl
        · rw [q]; exact Heap.lt_size hTI
        · rw [q]; exact Heap.lt_size hTO
        · rw [q]; obtain ⟨_, e1, _⟩ := h1; exact Heap.lt_size e1
        · rw [q]; obtain ⟨_, e2, _⟩ := h2; exact Heap.lt_size e2
      rw [upd_ne (Nat.ne_of_lt hlt)]
      exact (hf c hcm).1
  done := by
    intro X hP hw hK hc i pins s σ H E I hf st hg
    subst hP hw hK
    obtain ⟨hz, hTI, ⟨x0, y0, hTO⟩, h1, h2⟩ := st
    obtain ⟨xs, ys, hqx, hqy, hend⟩ := hg
    obtain ⟨its, rv, p, _⟩ := I.tuple hqx
    obtain ⟨its2, rv2, p2, _⟩ := I.list hqy
    have l1 := rv.length
    have l2 := rv2.length
    have hh : X.A.in1.handled = none := I.ok.hd hc
    obtain ⟨n1, P1, St1, D1, le1, eq1, s1⟩ := drawT (prog := X.prog) (w := X.w) hh i1 a D.l1i1 its.toArray i
    obtain ⟨n2, P2, St2, D2, le2, eq2, s2⟩ := drawL (prog := X.prog) (w := X.w) hh i2 b D.l2i2 its2.toArray i
    refine wpAny_pyNext_zipD2_end (sep_of D) D1 D2 hz hTI hTO (s1 _ h1 p) (s2 _ h2 p2.isList) le1 le2 ?_ fun h' tk hk => ⟨rfl, I.turnedL (t' := tk) (ch := [z, TI, TO, i1, i2]) (fun c o hb q =>
      hk c o (fun q' => hb (by simp [q'])) (fun q' => hb (by simp [q'])) (fun q' => hb (by simp [q'])) (fun q' => hb (by simp [q'])) q) hf⟩
    rcases hend with q | q
    · exact .inl (eq1 (by simp; omega))
    · exact .inr (eq2 (by simp; omega))
  self := fun A i s Q E st h => wpAny_pyIter_zip st.1 h
def iZipM (K : PySem.W.Frag) (ta : TA) : TI := fun σ H R => ta σ H fun vs H1 => ∃ a b xs ys, vs = [.ref a, .ref b] ∧ ((SqT K H1 a xs ∧ SqL K H1 b ys ∧ R (ItzM K a b) H1) ∨ (SqT K H1 a xs ∧ SqT K H1 b ys ∧ R (RZ.ItzT K a b) H1))
theorem pi_zipM {X : Cx} {e e2 : Expr} {ta : TA} {p pos tpos : Pos} {elts : List Expr} {kk : Nat} (hg : Gl X "zip") (hm : X.mg "zip" = none) (ha : L2.PA X [e, e2] ta)
    (hs : starEach [e, e2] X.env = (false, eval e X.env) :: starEach [e2] X.env := by rfl) (hpl : (backTo pos (starEach [e2] X.env)).any (·.1) = false := by rfl) :
    PI X (.Tuple elts kk tpos) (.Call (.Name "zip" p) [e, e2] [] pos) (iZipM X.K ta) := by
  refine ⟨fun pins s σ H R I h => ?_⟩
  refine Call_ (ld_blt I hg hm PyProof.Rows.boot_zip (PyProof.Rows.callWith_type1 (thn (ha.run pos pins s σ H _ I h) fun us s1 ⟨vs, H1, I1, r1, q1⟩ => ?_) hs hpl))
  obtain ⟨a, b, xs, ys, ex, q1⟩ := q1
  subst ex
  cases r1 with
  | cons r rr =>
    cases rr with
    | cons r' rr =>
      cases rr
      cases r
      cases r'
      have fresh5 : ∀ c, c ∈ [s1.heap.objs.size + 4, s1.heap.objs.size + 2, s1.heap.objs.size + 3, s1.heap.objs.size, s1.heap.objs.size + 1] → FpOk X pins H1 c := fun c hcm => by
        have e' : c = s1.heap.objs.size + 4 ∨ c = s1.heap.objs.size + 2 ∨ c = s1.heap.objs.size + 3 ∨ c = s1.heap.objs.size ∨ c = s1.heap.objs.size + 1 := by simpa using hcm
        have hle : s1.heap.objs.size ≤ c := by
          rcases e' with z | z | z | z | z
          · rw [z]; exact Nat.le_add_right _ _
          · rw [z]; exact Nat.le_add_right _ _
          · rw [z]; exact Nat.le_add_right _ _
          · rw [z]; exact Nat.le_refl _
          · rw [z]; exact Nat.le_add_right _ _
        exact I1.fpOk hle (I1.hok.fresh hle)
      rcases q1 with ⟨hqx, hqy, q⟩ | ⟨hqx, hqy, q⟩
      · obtain ⟨its, rv, p1, _⟩ := I1.tuple hqx
        obtain ⟨its2, rv2, p2, _⟩ := I1.list hqy
        obtain ⟨o1, ho1, _⟩ := id p1
        refine zip_begins2 (begins_tuple a its.toArray) (begins_list b its2.toArray) (show s1.heap.IsTuple a its.toArray from p1) p2.isList fun h' hz hTI hTO h1 h2 hsz hk => wpAny_pyIter_zip hz ?_
        have I2 : Inv X pins σ H1 { s1 with heap := h' } := I1.kept (t' := s1.toks) hk
        exact ⟨s1.heap.objs.size + 4, [s1.heap.objs.size + 4, s1.heap.objs.size + 2, s1.heap.objs.size + 3, s1.heap.objs.size, s1.heap.objs.size + 1], _, _, H1, rfl, I2, turn_zipM (PySem.W.ktu_apart s1.heap.objs.size a b (Heap.lt_size ho1) p2.lt), ⟨hz, hTI, ⟨_, _, hTO⟩, ⟨_, h1, rfl, rfl⟩, ⟨_, h2, rfl, rfl⟩⟩, fresh5, q⟩
      · obtain ⟨its, rv, p1, _⟩ := I1.tuple hqx
        obtain ⟨its2, rv2, p2, _⟩ := I1.tuple hqy
        obtain ⟨o1, ho1, _⟩ := id p1
        obtain ⟨o2, ho2, _⟩ := id p2
        refine RZ.call_zipT (show s1.heap.IsTuple a its.toArray from p1) (show s1.heap.IsTuple b its2.toArray from p2) fun h' hz hTI hTO h1 h2 hsz hk => wpAny_pyIter_zip hz ?_
        have I2 : Inv X pins σ H1 { s1 with heap := h' } := I1.kept (t' := s1.toks) hk
        exact ⟨s1.heap.objs.size + 4, [s1.heap.objs.size + 4, s1.heap.objs.size + 2, s1.heap.objs.size + 3, s1.heap.objs.size, s1.heap.objs.size + 1], _, _, H1, rfl, I2, RZ.turn_zipT (PySem.W.ktu_apart s1.heap.objs.size a b (Heap.lt_size ho1) (Heap.lt_size ho2)), ⟨hz, hTI, ⟨_, _, hTO⟩, h1, h2⟩, fresh5, q⟩
def iZip (as : AM) : IM := fun e S => (as e S).bind fun ds S => match ds with
  | [.tup xs, .tup ys] => .ok ⟨zipD xs ys, fun _ => True⟩ S
  | [.tup xs, y] => match lstW S y with
    | some (ys, G) => .ok ⟨zipD xs ys, G⟩ S
    | none => .stuck
  | _ => .stuck
theorem mi_zip {a b : Expr} {elts : List Expr} {kk : Nat} {tpos : Pos} {ma : AM} {p : Pos} (hg : GlN X "zip") (hm : X.mg "zip" = none) (ha : MA nm X [a, b] ma) (hs : starEach [a, b] X.env = (false, eval a X.env) :: starEach [b] X.env := by rfl) (hpl : (backTo pos (starEach [b] X.env)).any (·.1) = false := by rfl) : MI nm X (.Tuple elts kk tpos) (.Call (.Name "zip" p) [a, b] [] pos) (iZip ma) := by
  refine ⟨fun W tk => (pi_zipM hg.g hm (ha.run W tk) hs hpl).imp fun σ H R hh => ?_⟩
  obtain ⟨ev, S, μ, E, s, p⟩ := hh
  refine ⟨ev, S, μ, E, s, (post_len ha (Post.bind p)).mono fun d S1 μ1 H1 x1 s1 p1 v rv => ?_⟩
  obtain ⟨hl, p1⟩ := p1
  split at p1
  · rename_i xs ys
    cases rv with | cons r rr =>
    cases rr with | cons r' rr =>
    cases rr
    cases r with | @tup a vs _ t r =>
    cases r' with | @tup b ws _ t' r' =>
    exact ⟨a, b, vs, ws, rfl, .inr ⟨t.sq, t'.sq, p1 μ1 H1 .refl s1 (RZ.ItzT X.K a b) (fun H μ => (TupAt X.K H μ a vs ∧ RVs X.K H μ vs xs) ∧ TupAt X.K H μ b ws ∧ RVs X.K H μ ws ys) (fun μ H μ' H' x c => ⟨⟨c.1.1.ext x, RVs.ext x _ c.1.2⟩, c.2.1.ext x, RVs.ext x _ c.2.2⟩) ⟨⟨t, r⟩, t', r'⟩
      (wok_zipT rfl fun S μ H s c g => ⟨vs, ws, c.1.1.sq, c.1.2, c.2.1.sq, c.2.2⟩)⟩⟩
  · rename_i xs y _
    split at p1
    · rename_i ys G hw
      cases rv with | cons r rr =>
      cases rr with | cons r' rr =>
      cases rr
      cases r with | @tup a vs _ t r =>
      obtain ⟨b, ws, C, rfl, hq, st, c0, hc⟩ := lstW_at s1 r' hw
      exact ⟨a, b, vs, ws, rfl, .inl ⟨t.sq, hq, p1 μ1 H1 .refl s1 (ItzM X.K a b) (fun H μ => (TupAt X.K H μ a vs ∧ RVs X.K H μ vs xs) ∧ C H μ) (fun μ H μ' H' x c => ⟨⟨c.1.1.ext x, RVs.ext x _ c.1.2⟩, st _ _ _ _ x c.2⟩) ⟨⟨t, r⟩, c0⟩
        (wok_zipM rfl fun S μ H s c g => by
          obtain ⟨zs, h1, h2⟩ := hc S μ H s c.2 g
          exact ⟨vs, zs, c.1.1.sq, c.1.2, h1, h2⟩)⟩⟩
    · exact False.elim p1
  · exact False.elim p1
end
section
variable {nm : Nms} {X : Cx} {pos : Pos}
theorem ps_tryQ {body : List Stmt} {h0 : ExceptHandler} {hs : List ExceptHandler} {tb : TS} (hb : ∀ (pn : List (Addr × Obj)), PSs (X.tr pn fun _ _ => False) body tb) : PS X (.Try body (h0 :: hs) [] [] pos) tb := by
  refine ⟨fun pins s σ H D I h => ?_⟩
  have ok := I.ok
  refine wpAny_Try_except ?_
  refine wpAny_mono ((hb (X.pn ++ pins)).run [] s σ H D (I.toTry _) h) (fun f s1 hsp => ?_) (fun e s1 he => False.elim he)
  cases f with
  | next =>
    obtain ⟨σ', H', J', q⟩ := hsp
    exact wpAny_execs_nil ⟨σ', H', J'.ofTry ok, q⟩
  | brk =>
    obtain ⟨σ', H', J', q⟩ := hsp
    exact ⟨σ', H', J'.ofTry ok, q⟩
  | cont =>
    obtain ⟨σ', H', J', q⟩ := hsp
    exact ⟨σ', H', J'.ofTry ok, q⟩
  | ret u =>
    obtain ⟨v, σ', H', J', r, q⟩ := hsp
    exact ⟨v, σ', H', J'.ofTry ok, r, q⟩
def mTryQ (b : SM) : SM := fun e S => (b e.clr S).nox
theorem ms_tryQ {body : List Stmt} {h0 : ExceptHandler} {hs : List ExceptHandler} {mb : SM} (hb : ∀ (pn : List (Addr × Obj)) (xe : Value → Shared → Prop), PassesOwn (model X.prog X.w) X.A X.env xe → MB nm (X.tr pn xe) body mb) :
    MS nm X (.Try body (h0 :: hs) [] [] pos) (mTryQ mb) :=
  ⟨fun W tk => (ps_tryQ (tb := rdC nm X (fun _ _ _ _ => False) mb) fun pn => ((hb pn (fun _ _ => False) (fun _ _ z => z.elim)).run _ takes0).imp fun D σ H hh => rdC_to X rfl rfl hh).imp fun D σ H hh => by
    obtain ⟨e, S, μ, E, s, p⟩ := hh
    exact ⟨e.clr, S, μ, E.clr rfl, s, rfl, PostS.noW p⟩⟩
end
end BS
namespace BS
open PySem PySem.Spec PyProof.Rows L2
@[simp] theorem mVar_ev (i : Nat) (e : Ev) (S : Store) : mVar i e S = match e.sl[i]? with
  | some (some d) => .ok d S
  | _ => .stuck := rfl
@[simp] theorem mC_ev (d : D) (z0 : Ev) (S : Store) : mC d z0 S = .ok d S := rfl
@[simp] theorem mBin_ev (f : Store → D → D → Option D) (a b : EM) (e : Ev) (S : Store) : mBin f a b e S = (a e S).bind fun x S => (b e S).bind fun y S => lift2 f S x y := rfl
@[simp] theorem mUn_ev (f : Store → D → Option D) (a : EM) (e : Ev) (S : Store) : mUn f a e S = (a e S).bind fun x S => match f S x with
  | some d => .ok d S
  | none => .stuck := rfl
@[simp] theorem mBl_ev (m : EM) (e : Ev) (S : Store) : mBl m e S = (m e S).bind fun d S => match asB d with
  | some b => .ok b S
  | none => .stuck := rfl
@[simp] theorem mAnd_ev (a b : TM) (e : Ev) (S : Store) : mAnd a b e S = (a e S).bind fun k S => if k = true then b e S else .ok false S := rfl
@[simp] theorem mOr_ev (a b : TM) (e : Ev) (S : Store) : mOr a b e S = (a e S).bind fun k S => if k = true then .ok true S else b e S := rfl
@[simp] theorem mNot_ev (a : TM) (e : Ev) (S : Store) : mNot a e S = (a e S).bind fun k S => .ok (!k) S := rfl
@[simp] theorem mAndV_ev (a b : EM) (e : Ev) (S : Store) : mAndV a b e S = (a e S).bind fun d S => match asB d with
  | some true => b e S
  | some false => .ok (.bl false) S
  | none => .stuck := rfl
@[simp] theorem mIf_ev (c : TM) (a b : EM) (e : Ev) (S : Store) : mIf c a b e S = (c e S).bind fun k S => if k = true then a e S else b e S := rfl
@[simp] theorem mNil_ev (z0 : Ev) (S : Store) : mNil z0 S = .ok [] S := rfl
@[simp] theorem mCons_ev (m : EM) (r : AM) (e : Ev) (S : Store) : mCons m r e S = (m e S).bind fun d S => (r e S).bind fun ds S => .ok (d :: ds) S := rfl
@[simp] theorem mTup_ev (m : AM) (e : Ev) (S : Store) : mTup m e S = (m e S).bind fun ds S => .ok (.tup ds) S := rfl
@[simp] theorem mLst_ev (new : Bool) (m : AM) (e : Ev) (S : Store) : mLst new m e S = (m e S).bind fun ds S => fin new ds S := rfl
@[simp] theorem mDct_ev (z0 : Ev) (S : Store) : mDct z0 S = .ok (.obj S.length) (S ++ [.dct []]) := rfl
@[simp] theorem oNo_ev (z0 : Ev) (S : Store) : oNo z0 S = .ok none S := rfl
@[simp] theorem oAt_ev (m : EM) (e : Ev) (S : Store) : oAt m e S = (m e S).bind fun d S => match d with
  | .int i => .ok (some i) S
  | _ => .stuck := rfl
@[simp] theorem mSl_ev (new : Bool) (a : EM) (lo hi : OM) (e : Ev) (S : Store) : mSl new a lo hi e S = (a e S).bind fun x S => (lo e S).bind fun l S => (hi e S).bind fun h S => slS new S x l h := rfl
@[simp] theorem mCall_ev (F : FM) (as : AM) (e : Ev) (S : Store) : mCall F as e S = (as e S).bind F := rfl
@[simp] theorem mSkip_ev (e : Ev) (S : Store) : mSkip e S = .nx e S := rfl
@[simp] theorem mSeq_ev (a b : SM) (e : Ev) (S : Store) : mSeq a b e S = (a e S).seq b := rfl
@[simp] theorem mCnt_ev (e : Ev) (S : Store) : mCnt e S = .ct e S := rfl
@[simp] theorem mExpr_ev (m : EM) (e : Ev) (S : Store) : mExpr m e S = (m e S).toS e fun _ S => .nx e S := rfl
@[simp] theorem mRet_ev (m : EM) (e : Ev) (S : Store) : mRet m e S = (m e S).toS e fun d S => .rt d S := rfl
@[simp] theorem mIfS_ev (c : TM) (a b : SM) (e : Ev) (S : Store) : mIfS c a b e S = (c e S).toS e fun k S => if k = true then a e S else b e S := rfl
@[simp] theorem gNm_ev (i : Nat) (d : D) (e : Ev) (S : Store) : gNm i d e S = .nx (e.set i d) S := rfl
@[simp] theorem gTp_ev (n : Nat) (g : GsM) (d : D) (e : Ev) (S : Store) : gTp n g d e S = match tupOf d with
  | some ds => if ds.length = n then g ds e S else .stuck
  | none => .stuck := rfl
@[simp] theorem mAsg_ev (m : EM) (g : GM) (e : Ev) (S : Store) : mAsg m g e S = (m e S).toS e fun d S => g d e S := rfl
@[simp] theorem mPar_ev (i j : Nat) (m : AM) (e : Ev) (S : Store) : mPar i j m e S = (m e S).toS e fun ds S => match ds with
  | [a, b] => .nx ((e.set i a).set j b) S
  | _ => .stuck := rfl
@[simp] theorem iRng_ev (as : AM) (e : Ev) (S : Store) : iRng as e S = (as e S).bind fun ds S => match ds with
  | [.int j] => if rngOk j then .ok ⟨intsFrom 0 j.toNat, fun _ => True⟩ S else .stuck
  | [.int i, .int j] => if rngOk i ∧ rngOk j then .ok ⟨intsFrom i (j - i).toNat, fun _ => True⟩ S else .stuck
  | _ => .stuck := rfl
@[simp] theorem mFor_ev (it : IM) (g : GM) (b : SM) (e : Ev) (S : Store) : mFor it g b e S = (it e S).toS e fun w S => forL w.G g b w.ds e S := rfl
@[simp] theorem gSb_ev (o i : EM) (v : D) (e : Ev) (S : Store) : gSb o i v e S = (o e S).toS e fun x S => (i e S).toS e fun y S => match setS S x y v with
  | some S => .nx e S
  | none => .stuck := rfl
@[simp] theorem mAug_ev (i : Nat) (f : Store → D → D → Option D) (m : EM) (e : Ev) (S : Store) : mAug i f m e S = match e.sl[i]? with
  | some (some x) => (m e S).toS e fun y S => (lift2 f S x y).toS e fun z S => .nx (e.set i z) S
  | _ => .stuck := rfl
@[simp] theorem mRaise0_ev (c : Nat) (e : Ev) (S : Store) : mRaise0 c e S = .exc c [] e S := rfl
@[simp] theorem fnInt_ev (ds : List D) (S : Store) : fnInt ds S = match ds with
  | [.int i] => .ok (.int i) S
  | [.bl b] => .ok (.int (if b = true then 1 else 0)) S
  | [.str a] => match PySem.intText? a with
    | some n => if a.length ≤ 640 then .ok (.int n) S else .stuck
    | none => .stuck
  | _ => .stuck := rfl
@[simp] theorem fnLen_ev (ds : List D) (S : Store) : fnLen ds S = match ds with
  | [d] => match lenS S d with
    | some n => .ok (.int n) S
    | none => .stuck
  | _ => .stuck := rfl
@[simp] theorem fnTuple_ev (ds : List D) (S : Store) : fnTuple ds S = match ds with
  | [.tup ds] => .ok (.tup ds) S
  | [d] => match lstOf S d with
    | some ds => .ok (.tup ds) S
    | none => .stuck
  | _ => .stuck := rfl
@[simp] theorem fnStr_ev (ds : List D) (S : Store) : fnStr ds S = match ds with
  | [.int i] => if i.natAbs.log2 < 1920 then .ok (.str (Str.ofString (toString i))) S else .stuck
  | _ => .stuck := rfl
@[simp] theorem fnOrd_ev (ds : List D) (S : Store) : fnOrd ds S = match ds with
  | [.str z] => if z.length = 1 then .ok (.int (z.cps.getD 0 0 : Nat)) S else .stuck
  | _ => .stuck := rfl
@[simp] theorem mBm_ev (T : Ty) (F : FM) (o : EM) (as : AM) (e : Ev) (S : Store) : mBm T F o as e S = (o e S).bind fun x S => match tyS S x with
  | some t => if isTy t T = true then (as e S).bind fun ds S => F (x :: ds) S else .stuck
  | none => .stuck := rfl
@[simp] theorem fnAppend_ev (ds : List D) (S : Store) : fnAppend ds S = match ds with
  | [.obj n, d] => match S[n]? with
    | some (.lst ds) => if ds.length < sizeLine then .ok .non (S.set n (.lst (ds ++ [d]))) else .stuck
    | _ => .stuck
  | _ => .stuck := rfl
@[simp] theorem mRaise2_ev (c f1 f2 : Nat) (as : AM) (e : Ev) (S : Store) : mRaise2 c f1 f2 as e S = (as e S).toS e fun ds S => match ds with
  | [x, y] => .exc c [(f2, y), (f1, x)] e S
  | _ => .stuck := rfl
@[simp] theorem iAny_ev (m : EM) (e : Ev) (S : Store) : iAny m e S = (m e S).bind fun x S => wkA S x := rfl
@[simp] theorem fnMax2_ev (ds : List D) (S : Store) : fnMax2 ds S = match ds with
  | [.int i, .int j] => .ok (.int (if i < j then j else i)) S
  | [.str a, .str b] => .ok (.str (if ltS a b = true then b else a)) S
  | _ => .stuck := rfl
@[simp] theorem fnMin2_ev (ds : List D) (S : Store) : fnMin2 ds S = match ds with
  | [.int i, .int j] => .ok (.int (if j < i then j else i)) S
  | [.str a, .str b] => .ok (.str (if ltS b a = true then b else a)) S
  | _ => .stuck := rfl
@[simp] theorem mTru_ev (m : EM) (e : Ev) (S : Store) : mTru m e S = (m e S).bind fun d S => match truS S d with
  | some b => .ok b S
  | none => .stuck := rfl
@[simp] theorem mTabIn_ev (neg : Bool) (kvs : List (Key × D)) (m : EM) (e : Ev) (S : Store) : mTabIn neg kvs m e S = (m e S).bind fun d S => match keyOf d with
  | some k => .ok (if neg = true then !(getK kvs k).isSome else (getK kvs k).isSome) S
  | none => .stuck := rfl
@[simp] theorem mTabGet_ev (kvs : List (Key × D)) (m : EM) (e : Ev) (S : Store) : mTabGet kvs m e S = (m e S).bind fun d S => match keyOf d with
  | some k => match getK kvs k with
    | some d => .ok d S
    | none => .stuck
  | none => .stuck := rfl
@[simp] theorem mYes_ev (z0 : Ev) (S : Store) : mYes z0 S = .ok true S := rfl
@[simp] theorem mLc_ev (vs : List Nat) (t : LT) (it : IM) (tt : TM) (el : EM) (e : Ev) (S : Store) : mLc vs t it tt el e S = (it e S).bind fun w S1 => (lcL S1.length w.G t (e.wip vs) tt el w.ds (S1 ++ [.lst []])).bind fun _ S2 => .ok (.obj S1.length) S2 := rfl
@[simp] theorem fnAll_ev (ds : List D) (S : Store) : fnAll ds S = match ds with
  | [d] => match lstOf S d with
    | some xs => match blsOf xs with
      | some bs => .ok (.bl (bs.all id)) S
      | none => .stuck
    | none => .stuck
  | _ => .stuck := rfl
@[simp] theorem fnPopD_ev (ds : List D) (S : Store) : fnPopD ds S = match ds with
  | [.obj n, k] => popS S n k none
  | [.obj n, k, x] => popS S n k (some x)
  | _ => .stuck := rfl
@[simp] theorem fnSorted_ev (new : Bool) (ds : List D) (S : Store) : fnSorted new ds S = match ds with
  | [d] => match lstOf S d with
    | some xs => match BS.intsOf xs with
      | some ns => fin new ((sortI ns).map .int) S
      | none => match BS.strsOf xs with
        | some zs => fin new ((sortT zs).map .str) S
        | none => .stuck
    | none => match dctOf S d with
      | some kvs => match keysI kvs with
        | some ns => if ns.length < 64 then fin new ((sortI ns).map .int) S else .stuck
        | none => match keysT kvs with
          | some zs => fin new ((sortT zs).map .str) S
          | none => .stuck
      | none => .stuck
  | _ => .stuck := rfl
@[simp] theorem fnFind2_ev (ds : List D) (S : Store) : fnFind2 ds S = match ds with
  | [.str a, .str b, .int i] => .ok (.int (Txt.find3 a b i)) S
  | _ => .stuck := rfl
@[simp] theorem fnStartswith_ev (ds : List D) (S : Store) : fnStartswith ds S = match ds with
  | [.str a, .str b] => .ok (.bl (Txt.startswith a b)) S
  | _ => .stuck := rfl
@[simp] theorem fnJoin_ev (ds : List D) (S : Store) : fnJoin ds S = match ds with
  | [.str a, d] => match seqOf S d with
    | some ds => match txtsOf ds with
      | some ys => if (ys.map (·.length)).sum + ys.length * a.length ≤ 16777216 then .ok (.str (Str.join a ys)) S else .stuck
      | none => .stuck
    | none => .stuck
  | _ => .stuck := rfl
@[simp] theorem mRepl_ev (y z : Str) (mo : EM) (e : Ev) (S : Store) : mRepl y z mo e S = (mo e S).bind fun d S => match d with
  | .str x => if x.length + (x.length + 1) * z.length ≤ 16777216 then .ok (.str (Txt.replace x y z)) S else .stuck
  | _ => .stuck := rfl
@[simp] theorem mLcX_ev (vs : List Nat) (t : LT) (it : IM) (tt : TM) (el : EM) (e : Ev) (S : Store) : mLcX vs t it tt el e S = (it e S).bind fun w S1 => (lcLX S1.length w.G t (e.wip vs) tt el w.ds (S1 ++ [.lst []])).bind fun _ S2 => .ok (.obj S1.length) S2 := rfl
@[simp] theorem lockS_ev (i : EM) (b : SM) (e : Ev) (S : Store) : lockS i b e S = match i e S with
  | .ok (.obj n) _ => match S[n]? with
    | some o => match lockO o with
      | some o' => RS.unL n (b e (S.set n o'))
      | none => .stuck
    | none => .stuck
  | _ => .stuck := rfl
@[simp] theorem lockE_ev (i : EM) (m : EM) (e : Ev) (S : Store) : lockE i m e S = match i e S with
  | .ok (.obj n) _ => match S[n]? with
    | some o => match lockO o with
      | some o' => R.unL n (m e (S.set n o'))
      | none => .stuck
    | none => .stuck
  | _ => .stuck := rfl
@[simp] theorem fnSplit_ev (new : Bool) (ds : List D) (S : Store) : fnSplit new ds S = match ds with
  | [.str a, .str b] => if (b.length == 0) = false ∧ a.length + 2 ≤ sizeLine then fin new ((Txt.split a b).map .str) S else .stuck
  | _ => .stuck := rfl
@[simp] theorem fnSplitN_ev (new : Bool) (ds : List D) (S : Store) : fnSplitN new ds S = match ds with
  | [.str a, .str b, .int k] => if (b.length == 0) = false ∧ (-(2 ^ 62) ≤ k ∧ k < 2 ^ 62) ∧ a.length + 2 ≤ sizeLine then fin new ((Txt.splitMax a b k).map .str) S else .stuck
  | _ => .stuck := rfl
@[simp] theorem iEnum_ev (as : AM) (e : Ev) (S : Store) : iEnum as e S = (as e S).bind fun ds S => match ds with
  | [x] => match lstW S x with
    | some (ds, G) => .ok ⟨enumD ds, G⟩ S
    | none => .stuck
  | _ => .stuck := rfl
@[simp] theorem iZip_ev (as : AM) (e : Ev) (S : Store) : iZip as e S = (as e S).bind fun ds S => match ds with
  | [.tup xs, .tup ys] => .ok ⟨zipD xs ys, fun _ => True⟩ S
  | [.tup xs, y] => match lstW S y with
    | some (ys, G) => .ok ⟨zipD xs ys, G⟩ S
    | none => .stuck
  | _ => .stuck := rfl
@[simp] theorem mTryQ_ev (b : SM) (e : Ev) (S : Store) : mTryQ b e S = (b e.clr S).nox := rfl
@[simp] theorem mSet_ev (i : Nat) (m : EM) (e : Ev) (S : Store) : mSet i m e S = (m e S).toS e fun d S => .nx (e.set i d) S := rfl
@[simp] theorem mSetI_ev (m o i : EM) (e : Ev) (S : Store) : mSetI m o i e S = (m e S).toS e fun d S => gSb o i d e S := rfl
@[simp] theorem mIx_ev (a b : EM) (e : Ev) (S : Store) : mIx a b e S = (a e S).bind fun x S => (b e S).bind fun y S => lift2 fIx S x y := rfl
@[simp] theorem mIsi_ev (T : Ty) (a : EM) (e : Ev) (S : Store) : mIsi T a e S = mUn (fun S d => (tyS S d).map fun t => .bl (isTy t T)) a e S := rfl
@[simp] theorem den_app (n : Nat) (m : SM) (ds : List D) (S : Store) : den n m ds S = match m ⟨ds.map some ++ List.replicate (n - ds.length) none, []⟩ S with
  | .nx _ S => .ok .non S
  | .rt d S => .ok d S
  | .exc c fs _ S => .exc c fs S
  | _ => .stuck := rfl
@[simp] theorem mjNil_ev (acc : Str) (e : Ev) (S : Store) : mjNil acc e S = .ok (.str acc) S := rfl
@[simp] theorem mjCons_ev (m : EM) (r : JM) (acc : Str) (e : Ev) (S : Store) : mjCons m r acc e S = (m e S).bind fun d S => match d with
  | .str y => if (acc ++ y).length ≤ sizeLine then r (acc ++ y) e S else .stuck
  | _ => .stuck := rfl
end BS
namespace BS
open PySem PySem.Spec PyProof.Rows L2
@[simp] theorem eqS_str (S : Store) (a b : Str) : eqS S (.str a) (.str b) = some (decide (a = b)) := by
  simp [eqS, small, py, pyF, PyData.plain, PyData.depth, PyData.eqv]; by_cases h : a = b <;> simp [h]
@[simp] theorem eqS_int (S : Store) (a b : Int) : eqS S (.int a) (.int b) = some (decide (a = b)) := by
  simp [eqS, small, py, pyF, PyData.plain, PyData.depth, PyData.eqv]; by_cases h : a = b <;> simp [h]
@[simp] theorem eqS_bl (S : Store) (a b : Bool) : eqS S (.bl a) (.bl b) = some (decide (a = b)) := by
  cases a <;> cases b <;> simp [eqS, small, py, pyF, PyData.plain, PyData.depth, PyData.eqv]
@[simp] theorem eqS_non (S : Store) : eqS S .non .non = some true := by
  simp [eqS, small, py, pyF, PyData.plain, PyData.depth, PyData.eqv]
/-- data with no object in it, at most n deep -/
structure Fl (n : Nat) (d : D) : Prop where
  pl : ∀ f, (pyF f d).plain = true
  dp : ∀ f, (pyF f d).depth ≤ n
  eq : ∀ f g, pyF f d = pyF g d
structure FlS (n : Nat) (ds : List D) : Prop where
  pl : ∀ f, PyData.plainAll (pyFs f ds) = true
  dp : ∀ f, PyData.depthAll (pyFs f ds) ≤ n
  eq : ∀ f g, pyFs f ds = pyFs g ds
theorem Fl.non {n : Nat} : Fl n .non := ⟨fun _ => rfl, fun _ => Nat.zero_le _, fun _ _ => rfl⟩
theorem Fl.bl {n : Nat} (b : Bool) : Fl n (.bl b) := ⟨fun _ => rfl, fun _ => by simp [pyF, PyData.depth], fun _ _ => rfl⟩
theorem Fl.int {n : Nat} (b : Int) : Fl n (.int b) := ⟨fun _ => rfl, fun _ => by simp [pyF, PyData.depth], fun _ _ => rfl⟩
theorem Fl.str {n : Nat} (b : Str) : Fl n (.str b) := ⟨fun _ => rfl, fun _ => by simp [pyF, PyData.depth], fun _ _ => rfl⟩
theorem FlS.nil {n : Nat} : FlS n [] := ⟨fun _ => rfl, fun _ => by simp [pyFs, PyData.depthAll], fun _ _ => rfl⟩
theorem FlS.cons {n : Nat} {d : D} {ds : List D} (h : Fl n d) (t : FlS n ds) : FlS n (d :: ds) :=
  ⟨fun f => by simp [pyFs, PyData.plainAll, h.pl f, t.pl f], fun f => by have := h.dp f; have := t.dp f; simp [pyFs, PyData.depthAll]; omega, fun f g => by simp only [pyFs]; rw [h.eq f g, t.eq f g]⟩
theorem Fl.tup {n : Nat} {ds : List D} (h : FlS n ds) : Fl (n + 1) (.tup ds) :=
  ⟨fun f => by simp [pyF, PyData.plain, h.pl f], fun f => by have := h.dp f; simp [pyF, PyData.depth]; omega, fun f g => by simp only [pyF]; rw [h.eq f g]⟩
theorem Fl.lst {n : Nat} {ds : List D} (h : FlS n ds) : Fl (n + 1) (.lst ds) :=
  ⟨fun f => by simp [pyF, PyData.plain, h.pl f], fun f => by have := h.dp f; simp [pyF, PyData.depth]; omega, fun f g => by simp only [pyF]; rw [h.eq f g]⟩
theorem FlS.of {n : Nat} : ∀ {ds : List D}, (∀ d ∈ ds, Fl n d) → FlS n ds
  | [], _ => .nil
  | d :: ds, h => .cons (h d (by simp)) (.of fun x hx => h x (by simp [hx]))
theorem FlS.all {n : Nat} : ∀ {ds : List D}, FlS n ds → ∀ d ∈ ds, Fl n d
  | [], _, _, h => by simp at h
  | d :: ds, t, x, h => by
    have t1 : Fl n d := ⟨fun f => by have := t.pl f; simp [pyFs, PyData.plainAll] at this; exact this.1, fun f => by have := t.dp f; simp [pyFs, PyData.depthAll] at this; omega, fun f g => by have := t.eq f g; simp [pyFs] at this; exact this.1⟩
    have t2 : FlS n ds := ⟨fun f => by have := t.pl f; simp [pyFs, PyData.plainAll] at this; exact this.2, fun f => by have := t.dp f; simp [pyFs, PyData.depthAll] at this; omega, fun f g => by have := t.eq f g; simp [pyFs] at this; exact this.2⟩
    rcases List.mem_cons.mp h with rfl | h
    · exact t1
    · exact t2.all x h
theorem eqS_same {S : Store} {x y : D} (h : py S x = py S y) (p : (py S x).plain = true) (d : (py S x).depth < 100) : eqS S x y = some true := by
  unfold eqS
  rw [← h]
  simp [small, p, d, PySem.SeqAt.eqv_refl_plain]
theorem eqS_refl {n : Nat} (S : Store) {x : D} (h : Fl n x) (hn : n < 100 := by decide) : eqS S x x = some true :=
  eqS_same rfl (h.pl _) (Nat.lt_of_le_of_lt (h.dp _) hn)
/-- two lists of the store with the same items -/
theorem eqS_objs {n : Nat} {S : Store} {i j : Nat} {ds : List D} (hi : S[i]? = some (.lst ds)) (hj : S[j]? = some (.lst ds)) (h : FlS n ds) (hn : n < 99 := by decide) : eqS S (.obj i) (.obj j) = some true := by
  have e : ∀ k, S[k]? = some (.lst ds) → py S (.obj k) = .list (pyFs (pyk 2 S) ds) := fun k hk => by simp [py, pyF, pyk, hk]
  refine eqS_same (by rw [e i hi, e j hj]) ?_ ?_
  · rw [e i hi]; simp [PyData.plain, h.pl]
  · rw [e i hi]; have := h.dp (pyk 2 S); simp [PyData.depth]; omega
theorem rng_ok {n : Nat} (h : n ≤ 1000000000) : rngOk (n : Int) := by
  unfold rngOk
  have e : (2 : Int) ^ 62 = 4611686018427387904 := by decide
  rw [e]; omega
theorem iRng1 {as : AM} {e : Ev} {S S' : Store} {j : Int} (h : as e S = .ok [.int j] S') (r : rngOk j) : iRng as e S = .ok ⟨BS.intsFrom 0 j.toNat, fun _ => True⟩ S' := by
  rw [iRng_ev, h]
  exact if_pos r
theorem iRng2 {as : AM} {e : Ev} {S S' : Store} {i j : Int} (h : as e S = .ok [.int i, .int j] S') (r1 : rngOk i) (r : rngOk j) : iRng as e S = .ok ⟨BS.intsFrom i (j - i).toNat, fun _ => True⟩ S' := by
  rw [iRng_ev, h]
  exact if_pos ⟨r1, r⟩
end BS
namespace BS
open PySem PySem.Spec PyProof.Rows L2
@[simp] theorem lift2_ev (f : Store → D → D → Option D) (S : Store) (x y : D) : lift2 f S x y = match f S x y with
  | some d => .ok d S
  | none => .stuck := rfl
@[simp] theorem fI_int (g : Int → Int → Option D) (S : Store) (i j : Int) : fI g S (.int i) (.int j) = g i j := rfl
@[simp] theorem fAdd_int (S : Store) (i j : Int) : fAdd S (.int i) (.int j) = some (.int (i + j)) := rfl
@[simp] theorem fAdd_str (S : Store) (a b : Str) : fAdd S (.str a) (.str b) = if a.length + b.length ≤ sizeLine then some (.str (a ++ b)) else none := rfl
@[simp] theorem fAdd_tup (S : Store) (a b : List D) : fAdd S (.tup a) (.tup b) = if a.length + b.length ≤ sizeLine then some (.tup (a ++ b)) else none := rfl
@[simp] theorem iAdd_int (S : Store) (i j : Int) : iAdd S (.int i) (.int j) = some (.int (i + j)) := rfl
@[simp] theorem iAdd_str (S : Store) (a b : Str) : iAdd S (.str a) (.str b) = if a.length + b.length ≤ sizeLine then some (.str (a ++ b)) else none := rfl
@[simp] theorem fCmp_int (g h) (S : Store) (i j : Int) : fCmp g h S (.int i) (.int j) = some (.bl (g i j)) := rfl
@[simp] theorem fCmp_str (g h) (S : Store) (i j : Str) : fCmp g h S (.str i) (.str j) = some (.bl (h i j)) := rfl
@[simp] theorem fEq_ev (S : Store) (x y : D) : fEq S x y = (eqS S x y).map .bl := rfl
@[simp] theorem fNe_ev (S : Store) (x y : D) : fNe S x y = (eqS S x y).map fun b => .bl (!b) := rfl
@[simp] theorem fIs_ev (S : Store) (x y : D) : fIs S x y = if isNon y = true then some (.bl (isNon x)) else none := rfl
@[simp] theorem fIsNot_ev (S : Store) (x y : D) : fIsNot S x y = if isNon y = true then some (.bl (!isNon x)) else none := rfl
@[simp] theorem fIn_ev (S : Store) (x y : D) : fIn S x y = (inS S x y).map .bl := rfl
@[simp] theorem fNotIn_ev (S : Store) (x y : D) : fNotIn S x y = (inS S x y).map fun b => .bl (!b) := rfl
@[simp] theorem inS_str (S : Store) (a b : Str) : inS S (.str a) (.str b) = some (inStr a b) := rfl
@[simp] theorem fNeg_int (S : Store) (i : Int) : fNeg S (.int i) = some (.int (-i)) := rfl
@[simp] theorem tyS_non (S : Store) : tyS S .non = some .none := rfl
@[simp] theorem tyS_bl (S : Store) (b : Bool) : tyS S (.bl b) = some .bool := rfl
@[simp] theorem tyS_int (S : Store) (b : Int) : tyS S (.int b) = some .int := rfl
@[simp] theorem tyS_str (S : Store) (b : Str) : tyS S (.str b) = some .str := rfl
@[simp] theorem tyS_tup (S : Store) (b : List D) : tyS S (.tup b) = some .tuple := rfl
@[simp] theorem tyS_lst (S : Store) (b : List D) : tyS S (.lst b) = some .list := rfl
@[simp] theorem isTy_none (a : Ty) : isTy a .none = match a with | .none => true | _ => false := rfl
@[simp] theorem isTy_bool (a : Ty) : isTy a .bool = match a with | .bool => true | _ => false := rfl
@[simp] theorem isTy_int (a : Ty) : isTy a .int = match a with | .int => true | .bool => true | _ => false := rfl
@[simp] theorem isTy_str (a : Ty) : isTy a .str = match a with | .str => true | _ => false := rfl
@[simp] theorem isTy_tuple (a : Ty) : isTy a .tuple = match a with | .tuple => true | _ => false := rfl
@[simp] theorem isTy_list (a : Ty) : isTy a .list = match a with | .list => true | _ => false := rfl
@[simp] theorem isTy_dict (a : Ty) : isTy a .dict = match a with | .dict => true | _ => false := rfl
@[simp] theorem lenS_str (S : Store) (z : Str) : lenS S (.str z) = if z.length ≤ sizeLine then some z.length else none := rfl
@[simp] theorem lenS_tup (S : Store) (ds : List D) : lenS S (.tup ds) = some ds.length := rfl
@[simp] theorem lenS_lst (S : Store) (ds : List D) : lenS S (.lst ds) = some ds.length := rfl
@[simp] theorem lenS_scr (S : Store) (ds : List D) : lenS S (.scr ds) = some ds.length := rfl
@[simp] theorem tupOf_tup (ds : List D) : tupOf (.tup ds) = some ds := rfl
@[simp] theorem lstOf_lst (S : Store) (ds : List D) : lstOf S (.lst ds) = some ds := rfl
@[simp] theorem lstOf_scr (S : Store) (ds : List D) : lstOf S (.scr ds) = some ds := rfl
@[simp] theorem seqOf_tup (S : Store) (ds : List D) : seqOf S (.tup ds) = some ds := rfl
@[simp] theorem seqOf_lst (S : Store) (ds : List D) : seqOf S (.lst ds) = some ds := rfl
@[simp] theorem seqOf_scr (S : Store) (ds : List D) : seqOf S (.scr ds) = some ds := rfl
@[simp] theorem fIx_tup (S : Store) (ds : List D) (i : Int) : fIx S (.tup ds) (.int i) = atI ds i := rfl
@[simp] theorem fIx_lst (S : Store) (ds : List D) (i : Int) : fIx S (.lst ds) (.int i) = atI ds i := rfl
@[simp] theorem fIx_scr (S : Store) (ds : List D) (i : Int) : fIx S (.scr ds) (.int i) = atI ds i := rfl
@[simp] theorem keyOf_int (i : Int) : keyOf (.int i) = some (.inl i) := rfl
@[simp] theorem keyOf_str (i : Str) : keyOf (.str i) = some (.inr i) := rfl
@[simp] theorem truS_non (S : Store) : truS S .non = some false := rfl
@[simp] theorem truS_bl (S : Store) (b : Bool) : truS S (.bl b) = some b := rfl
@[simp] theorem truS_int (S : Store) (b : Int) : truS S (.int b) = some (b != 0) := rfl
@[simp] theorem truS_str (S : Store) (z : Str) : truS S (.str z) = if z.length ≤ sizeLine then some ((z.length : Int) != 0) else none := rfl
@[simp] theorem truS_tup (S : Store) (ds : List D) : truS S (.tup ds) = some (!ds.isEmpty) := rfl
@[simp] theorem truS_lst (S : Store) (ds : List D) : truS S (.lst ds) = some (!ds.isEmpty) := rfl
@[simp] theorem wkA_str (S : Store) (y : Str) : wkA S (.str y) = .ok ⟨signs y, fun _ => True⟩ S := rfl
@[simp] theorem wkA_tup (S : Store) (ds : List D) : wkA S (.tup ds) = .ok ⟨ds, fun _ => True⟩ S := rfl
@[simp] theorem wkA_lst (S : Store) (ds : List D) : wkA S (.lst ds) = .ok ⟨ds, fun _ => True⟩ S := rfl
@[simp] theorem wkA_scr (S : Store) (ds : List D) : wkA S (.scr ds) = .ok ⟨ds, fun _ => True⟩ S := rfl
@[simp] theorem slS_str (new : Bool) (S : Store) (z : Str) (lo hi : Option Int) : slS new S (.str z) lo hi = if z.length ≤ sizeLine then .ok (.str (cutS z lo hi)) S else .stuck := rfl
@[simp] theorem slS_lst (new : Bool) (S : Store) (ds : List D) (lo hi : Option Int) : slS new S (.lst ds) lo hi = fin new (cutD ds lo hi) S := rfl
@[simp] theorem LT_items_one (i : Nat) (d : D) : (LT.one i).items d = some [d] := rfl
@[simp] theorem LT_items_many (is : List Nat) (ds : List D) : (LT.many is).items (.tup ds) = if ds.length = is.length then some ds else none := rfl
@[simp] theorem catS_lst (new : Bool) (S : Store) (xs ys : List D) : catS new S (.lst xs) (.lst ys) = if xs.length + ys.length ≤ sizeLine then fin new (xs ++ ys) S else .stuck := rfl
@[simp] theorem blsOf_map (bs : List Bool) : blsOf (bs.map .bl) = some bs := by
  induction bs with
  | nil => rfl
  | cons b r ih => rw [List.map_cons, blsOf, ih]; rfl
@[simp] theorem tyS_obj (S : Store) (n : Nat) : tyS S (.obj n) = match S[n]? with
  | some (.lst _) => some .list
  | some (.dct _) => some .dict
  | _ => none := rfl
@[simp] theorem lstOf_obj (S : Store) (n : Nat) : lstOf S (.obj n) = match S[n]? with
  | some (.lst ds) => some ds
  | _ => none := rfl
@[simp] theorem lvOf_obj (S : Store) (n : Nat) : lvOf S (.obj n) = match S[n]? with
  | some (.lst ds) => some ds
  | _ => none := rfl
@[simp] theorem lvOf_lst (S : Store) (ds : List D) : lvOf S (.lst ds) = some ds := rfl
@[simp] theorem seqOf_obj (S : Store) (n : Nat) : seqOf S (.obj n) = match S[n]? with
  | some (.lst ds) => some ds
  | _ => none := rfl
@[simp] theorem dctOf_obj (S : Store) (n : Nat) : dctOf S (.obj n) = match S[n]? with
  | some (.dct ds) => some ds
  | _ => none := rfl
@[simp] theorem insOf_obj (S : Store) (n : Nat) : insOf S (.obj n) = match S[n]? with
  | some (.ins c fs) => some (c, fs)
  | _ => none := rfl
@[simp] theorem isIns_obj (c : Nat) (S : Store) (n : Nat) : isIns c S (.obj n) = match S[n]? with
  | some (.ins c' fs) => c' == c
  | _ => false := by
  simp only [isIns, insOf_obj]
  cases S[n]? with
  | none => rfl
  | some o => cases o <;> simp
@[simp] theorem getF_obj (cs : List Nat) (f : Nat) (S : Store) (n : Nat) : getF cs f S (.obj n) = match S[n]? with
  | some (.ins c fs) => if cs.contains c = true then getN fs f else none
  | _ => none := by
  simp only [getF, insOf_obj]
  cases S[n]? with
  | none => rfl
  | some o => cases o <;> simp
@[simp] theorem putF_obj (cs : List Nat) (f : Nat) (S : Store) (n : Nat) (y : D) : putF_ cs f S (.obj n) y = match S[n]? with
  | some (.ins c fs) => if cs.contains c = true ∧ fs.length < 1000 then some (S.set n (.ins c (setN f y fs))) else none
  | _ => none := rfl
@[simp] theorem getN_cons {α : Type} (k : Nat) (v : α) (r : List (Nat × α)) (i : Nat) : getN ((k, v) :: r) i = if k = i then some v else getN r i := rfl
@[simp] theorem getN_nil {α : Type} (i : Nat) : getN ([] : List (Nat × α)) i = none := rfl
@[simp] theorem setN_cons {α : Type} (k : Nat) (v : α) (r : List (Nat × α)) (i : Nat) (w : α) : setN i w ((k, v) :: r) = if k = i then (i, w) :: r else (k, v) :: setN i w r := rfl
@[simp] theorem setN_nil {α : Type} (i : Nat) (w : α) : setN i w ([] : List (Nat × α)) = [(i, w)] := rfl
@[simp] theorem setS_obj (S : Store) (n : Nat) (i v : D) : setS S (.obj n) i v = match S[n]? with
    | some (.lst ds) => match i with
      | .int k => (ixN ds.length k).map fun j => S.set n (.lst (ds.set j v))
      | _ => none
    | some (.dct kvs) => match keyOf i with
      | some k => if kvs.length < sizeLine then some (S.set n (.dct (putD kvs k v))) else none
      | none => none
    | _ => none := rfl
@[simp] theorem delS_obj (S : Store) (n : Nat) (i : D) : delS S (.obj n) i = match S[n]? with
    | some (.dct kvs) => match keyOf i with
      | some k => if (getK kvs k).isSome = true then some (S.set n (.dct (dropD kvs k))) else none
      | none => none
    | _ => none := rfl
@[simp] theorem dctR_obj (S : Store) (n : Nat) : dctR S (.obj n) = match S[n]? with
    | some (.dct kvs) => some kvs
    | some (.lck kvs) => some kvs
    | _ => none := rfl
@[simp] theorem fIx_objs (S : Store) (n : Nat) (z : Str) : fIx S (.obj n) (.str z) = match S[n]? with
    | some (.dct kvs) => getK kvs (.inr z)
    | some (.lck kvs) => getK kvs (.inr z)
    | _ => none := by
  simp only [fIx, dctR_obj]
  cases S[n]? with
  | none => rfl
  | some o => cases o <;> simp
@[simp] theorem fIx_obji (S : Store) (n : Nat) (z : Int) : fIx S (.obj n) (.int z) = match S[n]? with
    | some (.lst ds) => atI ds z
    | some (.dct kvs) => getK kvs (.inl z)
    | some (.lck kvs) => getK kvs (.inl z)
    | _ => none := by
  simp only [fIx, seqOf_obj, dctR_obj]
  cases S[n]? with
  | none => rfl
  | some o => cases o <;> rfl
@[simp] theorem lenS_obj (S : Store) (n : Nat) : lenS S (.obj n) = match S[n]? with
    | some (.lst ds) => some ds.length
    | some (.dct kvs) => some kvs.length
    | _ => none := by
  simp only [lenS, seqOf_obj, dctOf_obj]
  cases S[n]? with
  | none => rfl
  | some o => cases o <;> rfl
@[simp] theorem truS_obj (S : Store) (n : Nat) : truS S (.obj n) = match S[n]? with
    | some (.lst ds) => some (!ds.isEmpty)
    | some (.dct kvs) => some (!kvs.isEmpty)
    | _ => none := by
  simp only [truS, seqOf_obj, dctOf_obj]
  cases S[n]? with
  | none => rfl
  | some o => cases o <;> rfl
@[simp] theorem wkA_obj (S : Store) (n : Nat) : wkA S (.obj n) = match S[n]? with
    | some (.lst ds) => .ok ⟨ds, fun S => S[n]? = some (.lst ds)⟩ S
    | _ => .stuck := rfl
@[simp] theorem inS_obj (S : Store) (x : Str) (n : Nat) (kvs : List (Key × D)) (h : S[n]? = some (.dct kvs)) : inS S (.str x) (.obj n) = some (getK kvs (.inr x)).isSome := by
  simp [inS, dctOf, h, keyOf]
@[simp] theorem inS_obji (S : Store) (x : Int) (n : Nat) (kvs : List (Key × D)) (h : S[n]? = some (.dct kvs)) : inS S (.int x) (.obj n) = some (getK kvs (.inl x)).isSome := by
  simp [inS, dctOf, h, keyOf]
theorem ixN_in {n : Nat} {p : Int} (h0 : 0 ≤ p) (h1 : p < n) : ixN n p = some p.toNat := by
  simp [ixN, h0, h1]
@[simp] theorem atI_nat {α : Type} (xs : List α) (p : Nat) : atI xs (p : Int) = xs[p]? := by
  unfold atI
  by_cases h : p < xs.length
  · rw [ixN_in (Int.natCast_nonneg _) (by omega)]; simp
  · have e : xs[p]? = none := List.getElem?_eq_none (by omega)
    rw [e]
    have h1 : ¬ (p : Int) < xs.length := by omega
    have q : ixN xs.length (p : Int) = none := by unfold ixN; rw [if_pos (Int.natCast_nonneg _), if_neg h1]
    rw [q]; rfl
@[simp] theorem atI_zero {α : Type} (xs : List α) : atI xs (0 : Int) = xs[0]? := atI_nat xs 0
@[simp] theorem atI_one {α : Type} (xs : List α) : atI xs (1 : Int) = xs[1]? := atI_nat xs 1
@[simp] theorem atI_2 {α : Type} (xs : List α) : atI xs (2 : Int) = xs[2]? := atI_nat xs 2
@[simp] theorem atI_3 {α : Type} (xs : List α) : atI xs (3 : Int) = xs[3]? := atI_nat xs 3
@[simp] theorem atI_4 {α : Type} (xs : List α) : atI xs (4 : Int) = xs[4]? := atI_nat xs 4
@[simp] theorem atI_5 {α : Type} (xs : List α) : atI xs (5 : Int) = xs[5]? := atI_nat xs 5
@[simp] theorem atI_6 {α : Type} (xs : List α) : atI xs (6 : Int) = xs[6]? := atI_nat xs 6
@[simp] theorem atI_7 {α : Type} (xs : List α) : atI xs (7 : Int) = xs[7]? := atI_nat xs 7
@[simp] theorem atI_8 {α : Type} (xs : List α) : atI xs (8 : Int) = xs[8]? := atI_nat xs 8
@[simp] theorem atI_9 {α : Type} (xs : List α) : atI xs (9 : Int) = xs[9]? := atI_nat xs 9
@[simp] theorem atI_10 {α : Type} (xs : List α) : atI xs (10 : Int) = xs[10]? := atI_nat xs 10
@[simp] theorem atI_11 {α : Type} (xs : List α) : atI xs (11 : Int) = xs[11]? := atI_nat xs 11
@[simp] theorem atI_12 {α : Type} (xs : List α) : atI xs (12 : Int) = xs[12]? := atI_nat xs 12
@[simp] theorem atI_13 {α : Type} (xs : List α) : atI xs (13 : Int) = xs[13]? := atI_nat xs 13
@[simp] theorem atI_14 {α : Type} (xs : List α) : atI xs (14 : Int) = xs[14]? := atI_nat xs 14
@[simp] theorem atI_15 {α : Type} (xs : List α) : atI xs (15 : Int) = xs[15]? := atI_nat xs 15
@[simp] theorem atI_16 {α : Type} (xs : List α) : atI xs (16 : Int) = xs[16]? := atI_nat xs 16
@[simp] theorem atI_17 {α : Type} (xs : List α) : atI xs (17 : Int) = xs[17]? := atI_nat xs 17
@[simp] theorem atI_18 {α : Type} (xs : List α) : atI xs (18 : Int) = xs[18]? := atI_nat xs 18
@[simp] theorem atI_19 {α : Type} (xs : List α) : atI xs (19 : Int) = xs[19]? := atI_nat xs 19
@[simp] theorem atI_20 {α : Type} (xs : List α) : atI xs (20 : Int) = xs[20]? := atI_nat xs 20
theorem atI_in {α : Type} {xs : List α} {p : Int} (h0 : 0 ≤ p) (h1 : p < xs.length) : ∃ x, x ∈ xs ∧ atI xs p = some x := by
  have h3 : p.toNat < xs.length := by omega
  exact ⟨xs[p.toNat], List.getElem_mem h3, by unfold atI; rw [ixN_in h0 h1]; simp [List.getElem?_eq_getElem h3]⟩
theorem sz : (1000000 : Nat) ≤ sizeLine := by decide
theorem szL {n : Nat} (h : n ≤ 1000000) : n ≤ sizeLine := Nat.le_trans h sz
@[simp] theorem one_len (c : Nat) : (⟨#[c]⟩ : Str).length = 1 := rfl
def RS.ends_ (r : RS) (N : Ev → Store → Prop) (T : D → Store → Prop) : Prop := match r with
  | .nx e S => N e S
  | .rt d S => T d S
  | _ => False
def RS.turns_ (r : RS) (I : Ev → Store → Prop) (N : Ev → Store → Prop) (T : D → Store → Prop) : Prop := match r with
  | .nx e S => I e S
  | .ct e S => I e S
  | .bk e S => N e S
  | .rt d S => T d S
  | _ => False
def R.gives_ {α : Type} (r : R α) (T : α → Store → Prop) : Prop := match r with
  | .ok d S => T d S
  | _ => False
/-- structures, so that nobody runs the program to see what is asked -/
structure RS.ends (r : RS) (N : Ev → Store → Prop) (T : D → Store → Prop) : Prop where
  run : r.ends_ N T
structure RS.turns (r : RS) (I : Ev → Store → Prop) (N : Ev → Store → Prop) (T : D → Store → Prop) : Prop where
  run : r.turns_ I N T
structure R.gives {α : Type} (r : R α) (T : α → Store → Prop) : Prop where
  run : r.gives_ T
section
variable {N I : Ev → Store → Prop} {T : D → Store → Prop}
@[simp] theorem ends_nx (e : Ev) (S : Store) : (RS.nx e S).ends N T = N e S := propext ⟨fun h => h.run, fun h => ⟨h⟩⟩
@[simp] theorem ends_rt (e : D) (S : Store) : (RS.rt e S).ends N T = T e S := propext ⟨fun h => h.run, fun h => ⟨h⟩⟩
@[simp] theorem ends_bk (e : Ev) (S : Store) : (RS.bk e S).ends N T = False := propext ⟨fun h => h.run, fun h => ⟨h⟩⟩
@[simp] theorem ends_ct (e : Ev) (S : Store) : (RS.ct e S).ends N T = False := propext ⟨fun h => h.run, fun h => ⟨h⟩⟩
@[simp] theorem ends_exc (c fs) (e : Ev) (S : Store) : (RS.exc c fs e S).ends N T = False := propext ⟨fun h => h.run, fun h => ⟨h⟩⟩
@[simp] theorem ends_stuck : RS.stuck.ends N T = False := propext ⟨fun h => h.run, fun h => ⟨h⟩⟩
@[simp] theorem turns_nx (e : Ev) (S : Store) : (RS.nx e S).turns I N T = I e S := propext ⟨fun h => h.run, fun h => ⟨h⟩⟩
@[simp] theorem turns_ct (e : Ev) (S : Store) : (RS.ct e S).turns I N T = I e S := propext ⟨fun h => h.run, fun h => ⟨h⟩⟩
@[simp] theorem turns_bk (e : Ev) (S : Store) : (RS.bk e S).turns I N T = N e S := propext ⟨fun h => h.run, fun h => ⟨h⟩⟩
@[simp] theorem turns_rt (e : D) (S : Store) : (RS.rt e S).turns I N T = T e S := propext ⟨fun h => h.run, fun h => ⟨h⟩⟩
@[simp] theorem turns_exc (c fs) (e : Ev) (S : Store) : (RS.exc c fs e S).turns I N T = False := propext ⟨fun h => h.run, fun h => ⟨h⟩⟩
@[simp] theorem turns_stuck : RS.stuck.turns I N T = False := propext ⟨fun h => h.run, fun h => ⟨h⟩⟩
@[simp] theorem gives_ok {α : Type} {T : α → Store → Prop} (d : α) (S : Store) : (R.ok d S).gives T = T d S := propext ⟨fun h => h.run, fun h => ⟨h⟩⟩
@[simp] theorem gives_exc {α : Type} {T : α → Store → Prop} (c fs) (S : Store) : (R.exc c fs S : R α).gives T = False := propext ⟨fun h => h.run, fun h => ⟨h⟩⟩
@[simp] theorem gives_stuck {α : Type} {T : α → Store → Prop} : (R.stuck : R α).gives T = False := propext ⟨fun h => h.run, fun h => ⟨h⟩⟩
theorem gives_iff {α : Type} {T : α → Store → Prop} {r : R α} : r.gives T ↔ ∃ d S, r = .ok d S ∧ T d S := by
  cases r with
  | ok a S => exact ⟨fun h => ⟨a, S, rfl, h.run⟩, fun ⟨_, _, e, h⟩ => by cases e; exact ⟨h⟩⟩
  | exc c fs S => exact ⟨fun h => False.elim h.run, fun ⟨_, _, e, _⟩ => nomatch e⟩
  | stuck => exact ⟨fun h => False.elim h.run, fun ⟨_, _, e, _⟩ => nomatch e⟩
theorem ends_seq {r : RS} {b : SM} (h : r.ends (fun e S => (b e S).ends N T) T) : (r.seq b).ends N T := by
  cases r <;> simp_all
/-- a def's run -/
theorem den_gives {n : Nat} {m : SM} {ds : List D} {S : Store} (h : (m ⟨ds.map some ++ List.replicate (n - ds.length) none, []⟩ S).ends (fun _ S => T .non S) T) : (den n m ds S).gives T := by
  rw [den_app]
  generalize m ⟨ds.map some ++ List.replicate (n - ds.length) none, []⟩ S = r at *
  cases r <;> simp_all
theorem law_of {n : Nat} {m : SM} {ds : List D} (h : (m ⟨ds.map some ++ List.replicate (n - ds.length) none, []⟩ []).ends (fun _ _ => False) (fun d _ => d = .bl true)) : ∃ S, den n m ds [] = .ok (.bl true) S := by
  rw [den_app]
  generalize m ⟨ds.map some ++ List.replicate (n - ds.length) none, []⟩ [] = r at *
  cases r <;> simp_all
end
/-- a loop: I k holds ahead of turn k -/
theorem forL_ends {G : Store → Prop} {g : GM} {b : SM} {N : Ev → Store → Prop} {T : D → Store → Prop} (I : Nat → Ev → Store → Prop) :
    ∀ {ds : List D} {e : Ev} {S : Store}, I 0 e S → (∀ k e S, I k e S → G S) → (∀ k d e S, ds[k]? = some d → I k e S → ((g d e S).seq b).turns (I (k + 1)) N T) → (∀ e S, I ds.length e S → N e S) → (forL G g b ds e S).ends N T
  | [], e, S, h0, hG, hs, hn => by
    unfold forL; rw [if_pos (hG _ _ _ h0), ends_nx]; exact hn _ _ h0
  | d :: ds, e, S, h0, hG, hs, hn => by
    unfold forL; rw [if_pos (hG _ _ _ h0)]
    have h1 := hs 0 d e S rfl h0
    have go : ∀ e S, I 1 e S → (forL G g b ds e S).ends N T := fun e S h =>
      forL_ends (fun k => I (k + 1)) h (fun k e S => hG (k + 1) e S) (fun k d e S hd => hs (k + 1) d e S (by simpa using hd)) hn
    generalize (g d e S).seq b = r at *
    cases r <;> simp_all
theorem ints_at {n k : Nat} {lo : Int} {d : D} (h : (BS.intsFrom lo n)[k]? = some d) : k < n ∧ d = .int (lo + k) := by
  have hk : k < n := by have := (List.getElem?_eq_some_iff.mp h).1; rwa [intsFrom_len] at this
  rw [intsFrom_get n k lo hk] at h
  exact ⟨hk, by cases h; rfl⟩
theorem lcL_run {G : Store → Prop} {t : LT} {e0 : Ev} {tt : TM} {el : EM} (A : Store) (p : D → Bool) (f : D → D) :
    ∀ (ds : List D), (∀ acc B, G (A ++ .lst acc :: B)) →
    (∀ d ∈ ds, ∃ xs, t.items d = some xs ∧ ∀ acc B, (∃ B', tt ⟨setAll e0.sl t.ix xs, []⟩ (A ++ .lst acc :: B) = .ok (p d) (A ++ .lst acc :: B')) ∧ (p d = true → ∃ B', el ⟨setAll e0.sl t.ix xs, []⟩ (A ++ .lst acc :: B) = .ok (f d) (A ++ .lst acc :: B'))) →
    ∀ (acc : List D) (B : Store), acc.length + ds.length ≤ sizeLine → ∃ B', lcL A.length G t e0 tt el ds (A ++ .lst acc :: B) = .ok () (A ++ .lst (acc ++ (ds.filter p).map f) :: B')
  | [], hG, _, acc, B, _ => ⟨B, by unfold lcL; rw [if_pos (hG _ _)]; simp⟩
  | d :: ds, hG, h, acc, B, hl => by
    obtain ⟨xs, hx, hd⟩ := h d (by simp)
    have hl' : acc.length + ds.length + 1 ≤ sizeLine := by simpa [Nat.add_assoc] using hl
    obtain ⟨⟨B1, ht⟩, he⟩ := hd acc B
    unfold lcL
    rw [if_pos (hG _ _), hx]
    dsimp only
    rw [ht, R.nox_ok, R.bind_ok]
    cases hp : p d with
    | false =>
      rw [if_neg (by simp)]
      obtain ⟨B', r⟩ := lcL_run A p f ds hG (fun d hd => h d (by simp [hd])) acc B1 (by omega)
      exact ⟨B', by rw [r, List.filter_cons_of_neg (by simp [hp])]⟩
    | true =>
      rw [if_pos rfl]
      obtain ⟨B2, he⟩ := (hd acc B1).2 hp
      rw [he, R.nox_ok, R.bind_ok]
      have g : (A ++ O.lst acc :: B2)[A.length]? = some (.lst acc) := by simp
      rw [g]
      dsimp only
      rw [if_pos (by omega)]
      have s : (A ++ O.lst acc :: B2).set A.length (.lst (acc ++ [f d])) = A ++ .lst (acc ++ [f d]) :: B2 := by simp
      rw [s]
      obtain ⟨B', r⟩ := lcL_run A p f ds hG (fun d hd => h d (by simp [hd])) (acc ++ [f d]) B2 (by simp; omega)
      exact ⟨B', by rw [r, List.filter_cons_of_pos hp, List.map_cons, List.append_assoc]; rfl⟩
theorem lcL_all {G : Store → Prop} {t : LT} {e0 : Ev} {el : EM} (A : Store) (f : D → D) {ds : List D} (hG : ∀ acc B, G (A ++ .lst acc :: B))
    (h : ∀ d ∈ ds, ∃ xs, t.items d = some xs ∧ ∀ acc B, ∃ B', el ⟨setAll e0.sl t.ix xs, []⟩ (A ++ .lst acc :: B) = .ok (f d) (A ++ .lst acc :: B')) (hl : ds.length ≤ sizeLine) :
    ∃ B', lcL A.length G t e0 mYes el ds (A ++ [.lst []]) = .ok () (A ++ .lst (ds.map f) :: B') := by
  obtain ⟨B', r⟩ := lcL_run (G := G) (t := t) (e0 := e0) (tt := mYes) (el := el) A (fun _ => true) f ds hG (fun d hd => by
    obtain ⟨xs, hx, hd⟩ := h d hd
    exact ⟨xs, hx, fun acc B => ⟨⟨B, rfl⟩, fun _ => hd acc B⟩⟩) [] [] (by simpa using hl)
  exact ⟨B', by rw [r, List.filter_eq_self.mpr (fun _ _ => rfl)]; rfl⟩
theorem lcL_pure {G : Store → Prop} {t : LT} {e0 : Ev} {tt : TM} {el : EM} (A : Store) (p : D → Bool) (f : D → D) :
    ∀ (ds : List D), (∀ acc, G (A ++ [.lst acc])) →
    (∀ d ∈ ds, ∃ xs, t.items d = some xs ∧ ∀ acc, tt ⟨setAll e0.sl t.ix xs, []⟩ (A ++ [.lst acc]) = .ok (p d) (A ++ [.lst acc]) ∧ (p d = true → el ⟨setAll e0.sl t.ix xs, []⟩ (A ++ [.lst acc]) = .ok (f d) (A ++ [.lst acc]))) →
    ∀ (acc : List D), acc.length + ds.length ≤ sizeLine → lcL A.length G t e0 tt el ds (A ++ [.lst acc]) = .ok () (A ++ [.lst (acc ++ (ds.filter p).map f)])
  | [], hG, _, acc, _ => by unfold lcL; rw [if_pos (hG _)]; simp
  | d :: ds, hG, h, acc, hl => by
    obtain ⟨xs, hx, hd⟩ := h d (by simp)
    have hl' : acc.length + ds.length + 1 ≤ sizeLine := by simpa [Nat.add_assoc] using hl
    obtain ⟨ht, he⟩ := hd acc
    unfold lcL
    rw [if_pos (hG _), hx]
    dsimp only
    rw [ht, R.nox_ok, R.bind_ok]
    cases hp : p d with
    | false =>
      rw [if_neg (by simp), lcL_pure A p f ds hG (fun d hd => h d (by simp [hd])) acc (by omega), List.filter_cons_of_neg (by simp [hp])]
    | true =>
      rw [if_pos rfl, he hp, R.nox_ok, R.bind_ok]
      have g : (A ++ [O.lst acc])[A.length]? = some (.lst acc) := by simp
      rw [g]
      dsimp only
      rw [if_pos (by omega)]
      have s : (A ++ [O.lst acc]).set A.length (.lst (acc ++ [f d])) = A ++ [.lst (acc ++ [f d])] := by simp
      rw [s, lcL_pure A p f ds hG (fun d hd => h d (by simp [hd])) (acc ++ [f d]) (by simp; omega), List.filter_cons_of_pos hp, List.map_cons, List.append_assoc]
      rfl
/-- [f x for x in xs], f with no effect -/
theorem lcL_map {G : Store → Prop} {i : Nat} {e0 : Ev} {el : EM} (A : Store) (f : D → D) {ds : List D} (hG : ∀ acc, G (A ++ [.lst acc]))
    (h : ∀ d ∈ ds, ∀ acc, el ⟨e0.sl.set i (some d), []⟩ (A ++ [.lst acc]) = .ok (f d) (A ++ [.lst acc])) (hl : ds.length ≤ sizeLine) :
    lcL A.length G (.one i) e0 mYes el ds (A ++ [.lst []]) = .ok () (A ++ [.lst (ds.map f)]) := by
  have r := lcL_pure (G := G) (t := .one i) (e0 := e0) (tt := mYes) (el := el) A (fun _ => true) f ds hG (fun d hd => ⟨[d], rfl, fun acc => ⟨rfl, fun _ => h d hd acc⟩⟩) [] (by simpa using hl)
  rw [List.filter_eq_self.mpr (fun _ _ => rfl)] at r
  exact r
@[simp] theorem blsOf_mapf {α : Type} (f : α → Bool) (r : List α) : blsOf (r.map fun d => .bl (f d)) = some (r.map f) := by
  rw [← blsOf_map]; simp [Function.comp_def]
theorem sl_from {new : Bool} {S : Store} {ds : List D} (p : Nat) (_ : 0 < p) (hl : p ≤ ds.length) : slS new S (.tup ds) (some (p : Int)) none = .ok (.tup (ds.drop p)) S := by
  have e : HT.sIx ds.length 0 (some (p : Int)) = p := by
    have q : ¬ (p : Int) < 0 := by omega
    simp [HT.sIx, q]; omega
  have e2 : HT.sIx ds.length ds.length none = ds.length := rfl
  show BS.R.ok (D.tup (cutD ds _ _)) S = _
  unfold cutD
  rw [e, e2, List.take_of_length_le (by simp)]
theorem sl_to {new : Bool} {S : Store} {ds : List D} (p : Nat) (hl : p < ds.length) : slS new S (.tup ds) none (some (p : Int)) = .ok (.tup (ds.take p)) S := by
  have e : HT.sIx ds.length ds.length (some (p : Int)) = p := by
    have q : ¬ (p : Int) < 0 := by omega
    simp [HT.sIx, q]; omega
  have e2 : HT.sIx ds.length 0 none = 0 := rfl
  show BS.R.ok (D.tup (cutD ds _ _)) S = _
  unfold cutD
  rw [e, e2]; simp
@[simp] theorem sl_2 {new : Bool} {S : Store} (a b : D) (r : List D) : slS new S (.tup (a :: b :: r)) (some 2) none = .ok (.tup r) S := by
  have := sl_from (new := new) (S := S) (ds := a :: b :: r) 2 (by omega) (by simp)
  simpa using this
@[simp] theorem sl_1 {new : Bool} {S : Store} (a : D) (r : List D) : slS new S (.tup (a :: r)) (some 1) none = .ok (.tup r) S := by
  have := sl_from (new := new) (S := S) (ds := a :: r) 1 (by omega) (by simp)
  simpa using this
def Sm : Nat → D → Prop
  | _, .str z => z.length ≤ 1000000
  | 0, .tup ds => ds = []
  | n + 1, .tup ds => ds.length ≤ 1000000 ∧ ∀ d ∈ ds, Sm n d
  | 0, .lst ds => ds = []
  | n + 1, .lst ds => ds.length ≤ 1000000 ∧ ∀ d ∈ ds, Sm n d
  | _, .obj _ => False
  | _, .scr _ => False
  | _, _ => True
@[simp] theorem Sm_str (n : Nat) (z : Str) : Sm n (.str z) = (z.length ≤ 1000000) := by cases n <;> rfl
@[simp] theorem Sm_int (n : Nat) (z : Int) : Sm n (.int z) = True := by cases n <;> rfl
@[simp] theorem Sm_bl (n : Nat) (z : Bool) : Sm n (.bl z) = True := by cases n <;> rfl
@[simp] theorem Sm_non (n : Nat) : Sm n .non = True := by cases n <;> rfl
@[simp] theorem Sm_obj (n k : Nat) : Sm n (.obj k) = False := by cases n <;> rfl
@[simp] theorem Sm_scr (n : Nat) (k : List D) : Sm n (.scr k) = False := by cases n <;> rfl
@[simp] theorem Sm_tup (n : Nat) (ds : List D) : Sm (n + 1) (.tup ds) = (ds.length ≤ 1000000 ∧ ∀ d ∈ ds, Sm n d) := rfl
@[simp] theorem Sm_tup0 (ds : List D) : Sm 0 (.tup ds) = (ds = []) := rfl
@[simp] theorem Sm_lst (n : Nat) (ds : List D) : Sm (n + 1) (.lst ds) = (ds.length ≤ 1000000 ∧ ∀ d ∈ ds, Sm n d) := rfl
@[simp] theorem Sm_lst0 (ds : List D) : Sm 0 (.lst ds) = (ds = []) := rfl
theorem Sm.up : ∀ {n : Nat} {d : D}, Sm n d → Sm (n + 1) d
  | 0, d, h => by
    cases d <;> simp_all
  | n + 1, d, h => by
    cases d with
    | tup ds => exact ⟨h.1, fun x hx => (h.2 x hx).up⟩
    | lst ds => exact ⟨h.1, fun x hx => (h.2 x hx).up⟩
    | _ => simpa using h
theorem Sm.mono {n m : Nat} {d : D} (h : Sm n d) (l : n ≤ m) : Sm m d := by
  induction l with
  | refl => exact h
  | step _ ih => exact ih.up
theorem Sm.fl : ∀ {n : Nat} {d : D}, Sm n d → Fl (n + 1) d
  | n, .non, _ => .non
  | n, .bl b, _ => .bl b
  | n, .int i, _ => .int i
  | n, .str z, _ => .str z
  | 0, .tup ds, h => by simp at h; subst h; exact .tup .nil
  | 0, .lst ds, h => by simp at h; subst h; exact .lst .nil
  | n + 1, .tup ds, h => .tup (.of fun d hd => (h.2 d hd).fl)
  | n + 1, .lst ds, h => .lst (.of fun d hd => (h.2 d hd).fl)
  | n, .obj _, h => by simp at h
  | n, .scr _, h => by simp at h
def eqD (x y : D) : Bool := PyData.eqv (pyF (fun _ => .none) x) (pyF (fun _ => .none) y)
def eqDs (x y : List D) : Bool := PyData.eqvAll (pyFs (fun _ => .none) x) (pyFs (fun _ => .none) y)
theorem eqS_fl {n m : Nat} (S : Store) {x y : D} (hx : Fl n x) (hy : Fl m y) (hn : n < 100 := by decide) : eqS S x y = some (eqD x y) := by
  unfold eqS
  have h1 : (py S x).plain = true := hx.pl (pyk 3 S)
  have h2 := hy.pl (pyk 3 S)
  have h3 : (py S x).depth ≤ n := hx.dp (pyk 3 S)
  rw [if_pos (by simp [small, h1, h2]; omega)]
  unfold eqD
  rw [hx.eq (fun _ => .none) (pyk 3 S), hy.eq (fun _ => .none) (pyk 3 S)]
theorem eqS_sm {n m : Nat} (S : Store) {x y : D} (hx : Sm n x) (hy : Sm m y) (hn : n < 99 := by decide) : eqS S x y = some (eqD x y) := eqS_fl S hx.fl hy.fl (by omega)
theorem inS_fl {n m : Nat} (S : Store) {x : D} {ys : List D} (hx : Fl n x) (hy : FlS m ys) (hn : n < 100 := by decide) : inS S x (.lst ys) = some (ys.any fun z => eqD z x) := by
  have h1 : (py S x).plain = true := hx.pl (pyk 3 S)
  have h2 := hy.pl (pyk 3 S)
  have h3 : (py S x).depth ≤ n := hx.dp (pyk 3 S)
  have e : (pys S ys).any (fun z => PyData.eqv z (py S x)) = ys.any fun z => eqD z x := by
    have ex : py S x = pyF (fun _ => .none) x := hx.eq _ _
    have : ∀ (ys : List D), FlS m ys → (pys S ys).any (fun z => PyData.eqv z (py S x)) = ys.any fun z => eqD z x := by
      intro ys
      induction ys with
      | nil => intro _; rfl
      | cons y r ih =>
        intro hy
        have a := hy.all y (by simp)
        have ey : pyF (pyk 3 S) y = pyF (fun _ => .none) y := a.eq _ _
        have t : FlS m r := .of fun d hd => hy.all d (by simp [hd])
        have := ih t
        simp only [pys] at this ⊢
        simp only [pyFs, List.any_cons, this]
        rw [ey, ex]; rfl
    exact this ys hy
  simp only [inS, dctOf, seqOf, tupOf, lstOf]
  rw [if_pos (by simp [h1, h2]; omega), e]
@[simp] theorem eqD_non : eqD .non .non = true := by simp [eqD, pyF, PyData.eqv]
@[simp] theorem eqD_str (a b : Str) : eqD (.str a) (.str b) = decide (a = b) := by simp [eqD, pyF, PyData.eqv]; by_cases h : a = b <;> simp [h]
@[simp] theorem eqD_int (a b : Int) : eqD (.int a) (.int b) = decide (a = b) := by simp [eqD, pyF, PyData.eqv]; by_cases h : a = b <;> simp [h]
@[simp] theorem eqD_bl (a b : Bool) : eqD (.bl a) (.bl b) = decide (a = b) := by cases a <;> cases b <;> simp [eqD, pyF, PyData.eqv]
@[simp] theorem eqD_tup (a b : List D) : eqD (.tup a) (.tup b) = eqDs a b := by simp [eqD, eqDs, pyF, PyData.eqv]
@[simp] theorem eqD_lst (a b : List D) : eqD (.lst a) (.lst b) = eqDs a b := by simp [eqD, eqDs, pyF, PyData.eqv]
@[simp] theorem eqDs_nil : eqDs [] [] = true := by simp [eqDs, pyFs, PyData.eqvAll]
@[simp] theorem eqDs_cons (a b : D) (r s : List D) : eqDs (a :: r) (b :: s) = (eqD a b && eqDs r s) := by simp [eqDs, eqD, pyFs, PyData.eqvAll]
@[simp] theorem eqDs_nc (b : D) (s : List D) : eqDs [] (b :: s) = false := by simp [eqDs, eqD, pyFs, PyData.eqvAll]
@[simp] theorem eqDs_cn (b : D) (s : List D) : eqDs (b :: s) [] = false := by simp [eqDs, eqD, pyFs, PyData.eqvAll]
@[simp] theorem eqD_non_bl (b : Bool) : eqD .non (.bl b) = false := by simp [eqD, pyF, PyData.eqv]
@[simp] theorem eqD_non_int (b : Int) : eqD .non (.int b) = false := by simp [eqD, pyF, PyData.eqv]
@[simp] theorem eqD_non_str (b : Str) : eqD .non (.str b) = false := by simp [eqD, pyF, PyData.eqv]
@[simp] theorem eqD_non_tup (b : List D) : eqD .non (.tup b) = false := by simp [eqD, pyF, PyData.eqv]
@[simp] theorem eqD_non_lst (b : List D) : eqD .non (.lst b) = false := by simp [eqD, pyF, PyData.eqv]
@[simp] theorem eqD_bl_non (a : Bool) : eqD (.bl a) .non = false := by simp [eqD, pyF, PyData.eqv]
@[simp] theorem eqD_bl_str (a : Bool) (b : Str) : eqD (.bl a) (.str b) = false := by simp [eqD, pyF, PyData.eqv]
@[simp] theorem eqD_bl_tup (a : Bool) (b : List D) : eqD (.bl a) (.tup b) = false := by simp [eqD, pyF, PyData.eqv]
@[simp] theorem eqD_bl_lst (a : Bool) (b : List D) : eqD (.bl a) (.lst b) = false := by simp [eqD, pyF, PyData.eqv]
@[simp] theorem eqD_int_non (a : Int) : eqD (.int a) .non = false := by simp [eqD, pyF, PyData.eqv]
@[simp] theorem eqD_int_str (a : Int) (b : Str) : eqD (.int a) (.str b) = false := by simp [eqD, pyF, PyData.eqv]
@[simp] theorem eqD_int_tup (a : Int) (b : List D) : eqD (.int a) (.tup b) = false := by simp [eqD, pyF, PyData.eqv]
@[simp] theorem eqD_int_lst (a : Int) (b : List D) : eqD (.int a) (.lst b) = false := by simp [eqD, pyF, PyData.eqv]
@[simp] theorem eqD_str_non (a : Str) : eqD (.str a) .non = false := by simp [eqD, pyF, PyData.eqv]
@[simp] theorem eqD_str_bl (a : Str) (b : Bool) : eqD (.str a) (.bl b) = false := by simp [eqD, pyF, PyData.eqv]
@[simp] theorem eqD_str_int (a : Str) (b : Int) : eqD (.str a) (.int b) = false := by simp [eqD, pyF, PyData.eqv]
@[simp] theorem eqD_str_tup (a : Str) (b : List D) : eqD (.str a) (.tup b) = false := by simp [eqD, pyF, PyData.eqv]
@[simp] theorem eqD_str_lst (a : Str) (b : List D) : eqD (.str a) (.lst b) = false := by simp [eqD, pyF, PyData.eqv]
@[simp] theorem eqD_tup_non (a : List D) : eqD (.tup a) .non = false := by simp [eqD, pyF, PyData.eqv]
@[simp] theorem eqD_tup_bl (a : List D) (b : Bool) : eqD (.tup a) (.bl b) = false := by simp [eqD, pyF, PyData.eqv]
@[simp] theorem eqD_tup_int (a : List D) (b : Int) : eqD (.tup a) (.int b) = false := by simp [eqD, pyF, PyData.eqv]
@[simp] theorem eqD_tup_str (a : List D) (b : Str) : eqD (.tup a) (.str b) = false := by simp [eqD, pyF, PyData.eqv]
@[simp] theorem eqD_tup_lst (a : List D) (b : List D) : eqD (.tup a) (.lst b) = false := by simp [eqD, pyF, PyData.eqv]
@[simp] theorem eqD_lst_non (a : List D) : eqD (.lst a) .non = false := by simp [eqD, pyF, PyData.eqv]
@[simp] theorem eqD_lst_bl (a : List D) (b : Bool) : eqD (.lst a) (.bl b) = false := by simp [eqD, pyF, PyData.eqv]
@[simp] theorem eqD_lst_int (a : List D) (b : Int) : eqD (.lst a) (.int b) = false := by simp [eqD, pyF, PyData.eqv]
@[simp] theorem eqD_lst_str (a : List D) (b : Str) : eqD (.lst a) (.str b) = false := by simp [eqD, pyF, PyData.eqv]
@[simp] theorem eqD_lst_tup (a : List D) (b : List D) : eqD (.lst a) (.tup b) = false := by simp [eqD, pyF, PyData.eqv]
theorem eqD_refl {n : Nat} {d : D} (h : Fl n d) : eqD d d = true := SeqAt.eqv_refl_plain _ (h.pl _)
theorem ltS_irrefl (a : Str) : ltS a a = false := by unfold ltS; simp
theorem inStr_one (c : Nat) (x : Str) : inStr ⟨#[c]⟩ x = decide (c ∈ x.cps.toList) := StrLaws.found_one x c
theorem ltS_one (a b : Nat) : ltS ⟨#[a]⟩ ⟨#[b]⟩ = decide (a < b) := by
  unfold ltS; simp [List.cons_lt_cons_iff]
theorem len_cps (z : Str) : z.cps.toList.length = z.length := by simp [Str.length]
theorem cps_app (a b : Str) : (a ++ b).cps.toList = a.cps.toList ++ b.cps.toList := by
  show (Str.append a b).cps.toList = _
  simp [Str.append]
def wordF (L : Str) : Nat → Str → Int → Str
  | 0, z, _ => z
  | n + 1, z, r => wordF L n (z ++ ⟨#[L.cps.toList.getD (r % L.length).toNat 0]⟩) (r / L.length)
theorem wordF_len (L : Str) : ∀ (n : Nat) (z : Str) (r : Int), (wordF L n z r).length = z.length + n
  | 0, z, r => rfl
  | n + 1, z, r => by rw [wordF, wordF_len L n, Str.length_append, one_len]; omega
theorem wordF_in (L : Str) (hL : 0 < L.length) : ∀ (n : Nat) (z : Str) (r : Int), (∀ c ∈ z.cps.toList, c ∈ L.cps.toList) → ∀ c ∈ (wordF L n z r).cps.toList, c ∈ L.cps.toList
  | 0, z, r, h => h
  | n + 1, z, r, h => by
    rw [wordF]
    refine wordF_in L hL n _ _ fun c hc => ?_
    rw [cps_app] at hc
    rcases List.mem_append.mp hc with hc | hc
    · exact h c hc
    · have h2 : 0 ≤ r % (L.length : Int) := Int.emod_nonneg _ (by omega)
      have h3 : r % (L.length : Int) < L.length := Int.emod_lt_of_pos _ (by omega)
      have hl : (r % L.length).toNat < L.cps.toList.length := by rw [len_cps]; omega
      have e : L.cps.toList.getD (r % L.length).toNat 0 = L.cps.toList[(r % L.length).toNat] := by
        rw [List.getD_eq_getElem?_getD, List.getElem?_eq_getElem hl]; rfl
      have hc' : c = L.cps.toList.getD (r % L.length).toNat 0 := by simpa using hc
      rw [hc', e]
      exact List.getElem_mem hl
theorem ix_word (S : Store) {L : Str} (r : Int) (h0 : 0 < L.length) (h1 : L.length ≤ 1000000) : fIx S (.str L) (.int (r % L.length)) = some (.str ⟨#[L.cps.toList.getD (r % L.length).toNat 0]⟩) := by
  have h2 : 0 ≤ r % (L.length : Int) := Int.emod_nonneg _ (by omega)
  have h3 : r % (L.length : Int) < L.length := Int.emod_lt_of_pos _ (by omega)
  have h4 : (r % (L.length : Int)).toNat < L.cps.toList.length := by rw [len_cps]; omega
  have e : atI L.cps.toList (r % (L.length : Int)) = some (L.cps.toList.getD (r % L.length).toNat 0) := by
    unfold atI
    rw [ixN_in h2 (by rw [len_cps]; exact h3)]
    simp [List.getElem?_eq_getElem h4]
  simp [fIx, szL h1, e, BS.strAt]
def LL : Str := "abcdefghijklmnopqrstuvwxyz"
theorem LL_len : LL.length = 26 := by decide +kernel
def inL (c : Nat) : Bool := decide (c ∈ LL.cps.toList)
def isB (d : D) : Bool := match d with
  | .str z => decide (z.length ≤ 8) && z.cps.toList.all inL
  | _ => false
def isK (d : D) : Bool := match d with
  | .str z => isB (.str z) && decide (z ≠ Str.ofString "")
  | _ => false
def prC (c : Nat) : Bool := decide (32 ≤ c ∧ c ≤ 126 ∧ c ≠ 37)
def isPr (d : D) : Bool := match d with
  | .str z => z.cps.toList.all prC
  | _ => false
def isV (d : D) : Bool := match d with
  | .str z => isPr (.str z) && decide ((z.length : Int) ≤ 40)
  | _ => false
def isI (d : D) (lo hi : Int) : Bool := match d with
  | .int i => decide (lo ≤ i) && decide (i ≤ hi)
  | _ => false
theorem isB_str {d : D} (h : isB d = true) : ∃ z, d = .str z ∧ z.length ≤ 8 := by
  cases d <;> simp_all [isB]
theorem isK_isB {d : D} (h : isK d = true) : isB d = true := by
  cases d <;> simp_all [isB, isK]
end BS
namespace BS
open PySem PySem.Spec PyProof.Rows L2
@[simp] theorem pre_at {α : Type} (P l : List α) (k : Nat) : (P ++ l)[P.length + k]? = l[k]? := by
  rw [List.getElem?_append_right (by omega)]; congr 1; omega
@[simp] theorem pre_at0 {α : Type} (P l : List α) : (P ++ l)[P.length]? = l[0]? := pre_at P l 0
@[simp] theorem pre_set {α : Type} (P l : List α) (k : Nat) (x : α) : (P ++ l).set (P.length + k) x = P ++ l.set k x := by
  rw [List.set_append, if_neg (by omega)]; congr 2; omega
@[simp] theorem pre_set0 {α : Type} (P l : List α) (x : α) : (P ++ l).set P.length x = P ++ l.set 0 x := pre_set P l 0 x
theorem gives_eq {α : Type} {r : R α} {x : α} {S : Store} (h : r.gives fun d S' => d = x ∧ S' = S) : r = .ok x S := by
  obtain ⟨d, S', e, rfl, rfl⟩ := gives_iff.mp h
  exact e
@[simp] theorem eqS_non_bl (S : Store) (b : Bool) : eqS S .non (.bl b) = some false := by rw [eqS_fl (n := 1) (m := 1) S .non (.bl _)]; simp
@[simp] theorem eqS_non_int (S : Store) (b : Int) : eqS S .non (.int b) = some false := by rw [eqS_fl (n := 1) (m := 1) S .non (.int _)]; simp
@[simp] theorem eqS_non_str (S : Store) (b : Str) : eqS S .non (.str b) = some false := by rw [eqS_fl (n := 1) (m := 1) S .non (.str _)]; simp
@[simp] theorem eqS_bl_non (S : Store) (a : Bool) : eqS S (.bl a) .non = some false := by rw [eqS_fl (n := 1) (m := 1) S (.bl _) .non]; simp
@[simp] theorem eqS_bl_str (S : Store) (a : Bool) (b : Str) : eqS S (.bl a) (.str b) = some false := by rw [eqS_fl (n := 1) (m := 1) S (.bl _) (.str _)]; simp
@[simp] theorem eqS_int_non (S : Store) (a : Int) : eqS S (.int a) .non = some false := by rw [eqS_fl (n := 1) (m := 1) S (.int _) .non]; simp
@[simp] theorem eqS_int_str (S : Store) (a : Int) (b : Str) : eqS S (.int a) (.str b) = some false := by rw [eqS_fl (n := 1) (m := 1) S (.int _) (.str _)]; simp
@[simp] theorem eqS_str_non (S : Store) (a : Str) : eqS S (.str a) .non = some false := by rw [eqS_fl (n := 1) (m := 1) S (.str _) .non]; simp
@[simp] theorem eqS_str_bl (S : Store) (a : Str) (b : Bool) : eqS S (.str a) (.bl b) = some false := by rw [eqS_fl (n := 1) (m := 1) S (.str _) (.bl _)]; simp
@[simp] theorem eqS_str_int (S : Store) (a : Str) (b : Int) : eqS S (.str a) (.int b) = some false := by rw [eqS_fl (n := 1) (m := 1) S (.str _) (.int _)]; simp
@[simp] theorem slS_obj (new : Bool) (S : Store) (n : Nat) (lo hi : Option Int) : slS new S (.obj n) lo hi = match S[n]? with
  | some (.lst ds) => fin new (cutD ds lo hi) S
  | _ => .stuck := by
  simp only [slS, lstOf_obj]
  cases S[n]? with
  | none => rfl
  | some o => cases o <;> rfl
@[simp] theorem catS_lobj (new : Bool) (S : Store) (xs : List D) (n : Nat) : catS new S (.lst xs) (.obj n) = match S[n]? with
  | some (.lst ys) => if xs.length + ys.length ≤ sizeLine then fin new (xs ++ ys) S else .stuck
  | _ => .stuck := by
  simp only [catS, lvOf_lst, lvOf_obj]
  cases S[n]? with
  | none => rfl
  | some o => cases o <;> rfl
@[simp] theorem fIsB_bl (S : Store) (a b : Bool) : fIsB S (.bl a) (.bl b) = some (.bl (decide (a = b))) := rfl
@[simp] theorem fIsNotB_bl (S : Store) (a b : Bool) : fIsNotB S (.bl a) (.bl b) = some (.bl (!decide (a = b))) := rfl
section
variable {α : Type} [DecidableEq α]
def getM (m : List (α × D)) (k : α) : Option D := (m.find? fun p => decide (p.1 = k)).map (·.2)
def putM (m : List (α × D)) (k : α) (v : D) : List (α × D) := if (m.any fun p => decide (p.1 = k)) = true then m.map (fun p => if p.1 = k then (p.1, v) else p) else m ++ [(k, v)]
def dropM (m : List (α × D)) (k : α) : List (α × D) := m.filter fun p => decide (p.1 ≠ k)
theorem getM_nil (k : α) : getM [] k = none := rfl
theorem getM_cons (p : α × D) (m : List (α × D)) (k : α) : getM (p :: m) k = if p.1 = k then some p.2 else getM m k := by
  unfold getM
  by_cases h : p.1 = k <;> simp [h]
theorem getM_none {m : List (α × D)} {k : α} : getM m k = none ↔ k ∉ m.map (·.1) := by
  induction m with
  | nil => simp [getM_nil]
  | cons p m ih =>
    rw [getM_cons]
    by_cases h : p.1 = k
    · simp [h]
    · rw [if_neg h, ih, List.map_cons, List.mem_cons]
      exact ⟨fun q z => z.elim (fun z => h z.symm) q, fun q z => q (.inr z)⟩
theorem getM_mem {m : List (α × D)} {k : α} {v : D} (h : getM m k = some v) : (k, v) ∈ m := by
  induction m with
  | nil => simp [getM_nil] at h
  | cons p m ih =>
    rw [getM_cons] at h
    by_cases q : p.1 = k
    · rw [if_pos q] at h; cases h; rw [← q]; simp
    · rw [if_neg q] at h; exact List.mem_cons_of_mem _ (ih h)
theorem getM_some {m : List (α × D)} {k : α} (h : k ∈ m.map (·.1)) : ∃ v, getM m k = some v := by
  cases e : getM m k with
  | some v => exact ⟨v, rfl⟩
  | none => exact absurd h (getM_none.mp e)
theorem any_iff {m : List (α × D)} {k : α} : (m.any fun p => decide (p.1 = k)) = true ↔ k ∈ m.map (·.1) := by
  simp only [List.any_eq_true, decide_eq_true_eq, List.mem_map]
theorem putM_keys (m : List (α × D)) (k : α) (v : D) : (putM m k v).map (·.1) = if k ∈ m.map (·.1) then m.map (·.1) else m.map (·.1) ++ [k] := by
  unfold putM
  by_cases h : k ∈ m.map (·.1)
  · rw [if_pos (any_iff.mpr h), if_pos h, List.map_map]
    apply List.map_congr_left
    intro p _
    simp only [Function.comp]
    split <;> rfl
  · rw [if_neg (fun z => h (any_iff.mp z)), if_neg h, List.map_append]; rfl
theorem putM_nodup {m : List (α × D)} (hm : (m.map (·.1)).Nodup) (k : α) (v : D) : ((putM m k v).map (·.1)).Nodup := by
  rw [putM_keys]
  split
  · exact hm
  · rename_i h
    rw [List.nodup_append]
    refine ⟨hm, by simp, fun a ha b hb => ?_⟩
    rw [List.mem_singleton] at hb
    subst hb
    exact fun z => h (z ▸ ha)
theorem dropM_keys (m : List (α × D)) (k : α) : (dropM m k).map (·.1) = (m.map (·.1)).filter fun x => decide (x ≠ k) := by
  unfold dropM
  induction m with
  | nil => rfl
  | cons p m ih =>
    rw [List.filter_cons, List.map_cons, List.filter_cons]
    by_cases h : p.1 = k
    · simp only [h]; simpa using ih
    · simp only [ne_eq, h, not_false_eq_true, decide_true, if_true, List.map_cons]; rw [← ih]
theorem dropM_nodup {m : List (α × D)} (hm : (m.map (·.1)).Nodup) (k : α) : ((dropM m k).map (·.1)).Nodup := by
  rw [dropM_keys]; exact hm.filter _
theorem putM_mem {m : List (α × D)} {k : α} {v : D} {p : α × D} (h : p ∈ putM m k v) : p = (k, v) ∨ p ∈ m := by
  unfold putM at h
  split at h
  · obtain ⟨q, hq, rfl⟩ := List.mem_map.mp h
    split
    · rename_i e; left; rw [← e]
    · exact .inr hq
  · rcases List.mem_append.mp h with h | h
    · exact .inr h
    · exact .inl (List.mem_singleton.mp h)
theorem putM_len (m : List (α × D)) (k : α) (v : D) : (putM m k v).length ≤ m.length + 1 := by
  unfold putM
  split <;> simp
theorem dropM_len (m : List (α × D)) (k : α) : (dropM m k).length ≤ m.length := List.length_filter_le _ _
theorem dropM_mem {m : List (α × D)} {k : α} {p : α × D} (h : p ∈ dropM m k) : p ∈ m ∧ p.1 ≠ k := by
  have := List.mem_filter.mp h
  exact ⟨this.1, by simpa using this.2⟩
end
/-- a dict with texts as keys, with ints as keys -/
def toS (m : List (Str × D)) : List (Key × D) := m.map fun p => (.inr p.1, p.2)
def toI (m : List (Int × D)) : List (Key × D) := m.map fun p => (.inl p.1, p.2)
@[simp] theorem toS_len (m : List (Str × D)) : (toS m).length = m.length := by simp [toS]
@[simp] theorem toI_len (m : List (Int × D)) : (toI m).length = m.length := by simp [toI]
@[simp] theorem toS_nil : toS [] = [] := rfl
@[simp] theorem toI_nil : toI [] = [] := rfl
@[simp] theorem getK_toS (m : List (Str × D)) (k : Str) : getK (toS m) (.inr k) = getM m k := by
  induction m with
  | nil => rfl
  | cons p m ih =>
    rw [getM_cons]
    unfold getK toS at *
    rw [List.map_cons, List.find?_cons]
    by_cases h : p.1 = k
    · simp [h]
    · have : decide ((Sum.inr p.1 : Key) = Sum.inr k) = false := by simp [h]
      simp only [this]
      rw [if_neg h]; exact ih
@[simp] theorem getK_toI (m : List (Int × D)) (k : Int) : getK (toI m) (.inl k) = getM m k := by
  induction m with
  | nil => rfl
  | cons p m ih =>
    rw [getM_cons]
    unfold getK toI at *
    rw [List.map_cons, List.find?_cons]
    by_cases h : p.1 = k
    · simp [h]
    · have : decide ((Sum.inl p.1 : Key) = Sum.inl k) = false := by simp [h]
      simp only [this]
      rw [if_neg h]; exact ih
@[simp] theorem putD_toS (m : List (Str × D)) (k : Str) (v : D) : putD (toS m) (.inr k) v = toS (putM m k v) := by
  unfold putD putM
  have e : ((toS m).any fun kv => decide (kv.1 = (Sum.inr k : Key))) = m.any fun p => decide (p.1 = k) := by
    unfold toS; rw [List.any_map]; congr 1; funext p; simp
  rw [e]
  split
  · unfold toS
    rw [List.map_map, List.map_map]
    apply List.map_congr_left
    intro p _
    by_cases h : p.1 = k <;> simp [h]
  · simp [toS]
@[simp] theorem putD_toI (m : List (Int × D)) (k : Int) (v : D) : putD (toI m) (.inl k) v = toI (putM m k v) := by
  unfold putD putM
  have e : ((toI m).any fun kv => decide (kv.1 = (Sum.inl k : Key))) = m.any fun p => decide (p.1 = k) := by
    unfold toI; rw [List.any_map]; congr 1; funext p; simp
  rw [e]
  split
  · unfold toI
    rw [List.map_map, List.map_map]
    apply List.map_congr_left
    intro p _
    by_cases h : p.1 = k <;> simp [h]
  · simp [toI]
@[simp] theorem dropD_toS (m : List (Str × D)) (k : Str) : dropD (toS m) (.inr k) = toS (dropM m k) := by
  unfold dropD dropM toS
  rw [List.filter_map]
  congr 1
  apply List.filter_congr
  intro p _
  simp
@[simp] theorem dropD_toI (m : List (Int × D)) (k : Int) : dropD (toI m) (.inl k) = toI (dropM m k) := by
  unfold dropD dropM toI
  rw [List.filter_map]
  congr 1
  apply List.filter_congr
  intro p _
  simp
@[simp] theorem putD_nilS (k : Str) (v : D) : putD [] (.inr k) v = toS (putM [] k v) := putD_toS [] k v
@[simp] theorem putD_nilI (k : Int) (v : D) : putD [] (.inl k) v = toI (putM [] k v) := putD_toI [] k v
theorem keysT_toS (m : List (Str × D)) : keysT (toS m) = some (m.map (·.1)) := by
  induction m with
  | nil => rfl
  | cons p m ih => unfold toS at *; rw [List.map_cons, keysT, ih]; rfl
theorem keysI_toI (m : List (Int × D)) : keysI (toI m) = some (m.map (·.1)) := by
  induction m with
  | nil => rfl
  | cons p m ih => unfold toI at *; rw [List.map_cons, keysI, ih]; rfl
theorem keysI_toS (p : Str × D) (m : List (Str × D)) : keysI (toS (p :: m)) = none := rfl
/-- == of dicts -/
@[simp] theorem fEqD_obj (S : Store) (n m : Nat) : fEqD S (.obj n) (.obj m) = match S[n]? with
  | some (.dct ks) => match S[m]? with
    | some (.dct ls) => if eqK ks ls = true then some (.bl true) else none
    | _ => none
  | _ => none := by
  simp only [fEqD, dctOf_obj]
  cases S[n]? with
  | none => rfl
  | some o => cases o <;> first | rfl | (cases S[m]? with
    | none => rfl
    | some o => cases o <;> rfl)
@[simp] theorem fNeD_obj (S : Store) (n m : Nat) : fNeD S (.obj n) (.obj m) = match S[n]? with
  | some (.dct ks) => match S[m]? with
    | some (.dct ls) => if eqK ks ls = true then some (.bl false) else none
    | _ => none
  | _ => none := by
  simp only [fNeD, dctOf_obj]
  cases S[n]? with
  | none => rfl
  | some o => cases o <;> first | rfl | (cases S[m]? with
    | none => rfl
    | some o => cases o <;> rfl)
@[simp] theorem slRev_tup (new : Bool) (S : Store) (ds : List D) : slRev new S (.tup ds) = .ok (.tup ds.reverse) S := rfl
@[simp] theorem slRev_lst (new : Bool) (S : Store) (ds : List D) : slRev new S (.lst ds) = fin new ds.reverse S := rfl
theorem slRev_obj {new : Bool} {S : Store} {n : Nat} {ds : List D} (h : S[n]? = some (.lst ds)) : slRev new S (.obj n) = fin new ds.reverse S := by
  unfold slRev
  simp only [lstOf_obj, h]
/-- sorted(d) -/
theorem sorted_toS (new : Bool) (S : Store) (n : Nat) (m : List (Str × D)) (h : S[n]? = some (.dct (toS m))) (hl : m.length ≤ 1000000) : fnSorted new [.obj n] S = fin new ((sortT (m.map (·.1))).map .str) S := by
  rw [fnSorted_ev]
  simp only [lstOf_obj, dctOf_obj, h]
  cases m with
  | nil => simp [keysI, sortI, sortT]
  | cons p m =>
    rw [keysI_toS, keysT_toS]
theorem sorted_toI (new : Bool) (S : Store) (n : Nat) (m : List (Int × D)) (h : S[n]? = some (.dct (toI m))) (hl : m.length < 64) : fnSorted new [.obj n] S = fin new ((sortI (m.map (·.1))).map .int) S := by
  rw [fnSorted_ev]
  simp only [lstOf_obj, dctOf_obj, h, keysI_toI]
  simp only [List.length_map]
  rw [if_pos hl]
theorem sortT_mem {zs : List Str} {z : Str} : z ∈ sortT zs ↔ z ∈ zs := (sortT_perm zs).mem_iff
theorem sortT_len (zs : List Str) : (sortT zs).length = zs.length := (sortT_perm zs).length_eq
theorem ltS_of_le_ne {a b : Str} (h : leS a b) (n : a ≠ b) : ltS a b = true := by
  cases e : ltS a b with
  | true => rfl
  | false => exact absurd (leS_anti h e) n
theorem ltS_trans {a b c : Str} (h1 : ltS a b = true) (h2 : ltS b c = true) : ltS a c = true := by
  unfold ltS at *
  simp only [decide_eq_true_eq] at *
  exact List.lt_trans h1 h2
theorem ltS_asymm {a b : Str} (h1 : ltS a b = true) : ltS b a = false := by
  cases e : ltS b a with
  | false => rfl
  | true => have := ltS_trans h1 e; rw [ltS_irrefl] at this; cases this
theorem ltS_emp {b : Str} (h : b ≠ Str.ofString "") : ltS "" b = true := by
  refine ltS_of_le_ne ?_ (fun z => h z.symm)
  unfold leS ltS
  have e : (Str.ofString "").cps.toList = [] := by decide +kernel
  simp [e]
theorem ltS_tri (a b : Str) : ltS a b = true ∨ a = b ∨ ltS b a = true := by
  by_cases h : a = b
  · exact .inr (.inl h)
  · rcases leS_total a b with q | q
    · exact .inl (ltS_of_le_ne q h)
    · exact .inr (.inr (ltS_of_le_ne q fun z => h z.symm))
theorem emp_cps : (Str.ofString "").cps.toList = [] := by decide +kernel
theorem inS_tup {n m : Nat} (S : Store) {x : D} {ys : List D} (hx : Fl n x) (hy : FlS m ys) (hn : n < 100 := by decide) : inS S x (.tup ys) = some (ys.any fun z => eqD z x) := by
  have := inS_fl S hx hy hn
  rw [← this]; rfl
/-- below(one, other) -/
def blw (a b : D) : Bool := match a, b with
  | .str a, .str b => ltS a b
  | .str _, .non => true
  | _, _ => false
@[simp] theorem fIxA_os (S : Store) (n : Nat) (z : Str) : fIxA S (.obj n) (.str z) = match S[n]? with
  | some (.dct kvs) => getK kvs (.inr z)
  | _ => none := by
  cases h : S[n]? with
  | none => simp [fIxA, h]
  | some o => cases o <;> simp [fIxA, h, keyOf]
@[simp] theorem fIxA_oi (S : Store) (n : Nat) (k : Int) : fIxA S (.obj n) (.int k) = match S[n]? with
  | some (.lst ds) => atI ds k
  | some (.dct kvs) => getK kvs (.inl k)
  | _ => none := by
  cases h : S[n]? with
  | none => simp [fIxA, h]
  | some o => cases o <;> simp [fIxA, h, keyOf]
end BS
namespace L_k64
open PySem PySem.Spec PyProof.Rows L2 BS
def topS (i : Nat) : Stmt := PySem.Challenge.pw_boundstone_k64_schedules_read_back.main.body.getD i (.Pass ⟨0, 0, 0, 0⟩)
def nm : Nms := mkNms ["Net", "History", "Sessions", "Shard", "Epochs", "Holdings", "Server", "Routes", "Directory", "Client", "World", "Disk", "Log", "TableError", "BadText", "BadOperation", "BadLetter", "BadShard", "BadRecord", "BadServer", "DiskError", "DiskCrashed", "BadSchedule"] ["line", "reason"] (by decide +kernel)
def c_MOST_KEY : D := .int 8
def c_MOST_VALUE : D := .int 40
def c_MOST_PAGE : D := .int 50
def c_MOST_NUMBER : D := .int 1000000000000
def c_MOST_DIGITS : D := .int 30
def c_MOST_DEPTH : D := .int 10
def c_MOST_LENGTH : D := .int 200000
def c_DIGITS : D := .str "0123456789"
def c_PERCENT : D := .int 37
def c_GREATEST : D := .int 999999999999999999999999999999
def c_MOST_TICKS : D := .int 1000
def c_ACTS : List (Key × D) := [(.inr "tick", .tup [(.str "ticks")]), (.inr "submit", .tup [(.str "client"), (.str "operation")]), (.inr "deliver", .tup [(.str "number")]), (.inr "round", .tup []), (.inr "calm", .tup [(.str "ticks")]), (.inr "lose", .tup [(.str "number")]), (.inr "double", .tup [(.str "number")]), (.inr "move", .tup [(.str "number")]), (.inr "order", .tup [(.str "server"), (.str "letter")]), (.inr "arm", .tup [(.str "server"), (.str "number")]), (.inr "crash", .tup [(.str "server")]), (.inr "restart", .tup [(.str "server"), (.str "number")])]
def c_LETTERS : D := .str "abcdefghijklmnopqrstuvwxyz"
def c_SIZES : List (Key × D) := [(.inr "get", .int 2), (.inr "put", .int 3), (.inr "drop", .int 2), (.inr "swap", .int 4), (.inr "page", .int 3)]
def c_MOST_FIGURES : D := .int 12
theorem bb_all : bootBuiltins "all" = some (.builtin "all") := by decide +kernel
theorem bb_bool : bootBuiltins "bool" = some (.type "bool") := by decide +kernel
theorem bb_int : bootBuiltins "int" = some (.type "int") := by decide +kernel
theorem bb_isinstance : bootBuiltins "isinstance" = some (.builtin "isinstance") := by decide +kernel
theorem bb_len : bootBuiltins "len" = some (.builtin "len") := by decide +kernel
theorem bb_list : bootBuiltins "list" = some (.type "list") := by decide +kernel
theorem bb_max : bootBuiltins "max" = some (.builtin "max") := by decide +kernel
theorem bb_min : bootBuiltins "min" = some (.builtin "min") := by decide +kernel
theorem bb_ord : bootBuiltins "ord" = some (.builtin "ord") := by decide +kernel
theorem bb_sorted : bootBuiltins "sorted" = some (.builtin "sorted") := by decide +kernel
theorem bb_str : bootBuiltins "str" = some (.type "str") := by decide +kernel
theorem bb_tuple : bootBuiltins "tuple" = some (.type "tuple") := by decide +kernel
theorem cl_BadSchedule : nm.cls 22 = "BadSchedule" := by decide +kernel
theorem cl_BadText : nm.cls 14 = "BadText" := by decide +kernel
theorem fl_line : nm.fld 0 = "line" := by decide +kernel
theorem fl_reason : nm.fld 1 = "reason" := by decide +kernel
section
variable {P : Program} {w : World} {K : PySem.W.Frag} {mg : Str → Option Value} {base : Heap}
abbrev s_is_printable : Stmt := (topS 15)
theorem sc_is_printable : FnScope ["value", "character"] ["value"] (defScope s_is_printable) := ⟨rfl, rfl, rfl, by decide +kernel, rfl, by decide +kernel, by decide +kernel⟩
theorem va_is_printable : locAll [0, 1] ["value", "character"] (defScope s_is_printable) = true := by decide +kernel
theorem ga_is_printable : glAll ["ord", "PERCENT", "isinstance", "str"] (defScope s_is_printable) = true := by decide +kernel
noncomputable def lb_is_printable_0 : SM :=
  (mIfS (mOr (mBl (mBin fLt (mVar 1) (mC (.str " ")))) (mOr (mBl (mBin fGt (mVar 1) (mC (.str "~")))) (mBl (mBin fEq (mCall fnOrd (mCons (mVar 1) mNil)) (mC c_PERCENT))))) (mRet (mC (.bl false))) mSkip)
noncomputable def m_is_printable : SM :=
  (mSeq (mIfS (mNot (mBl (mIsi .str (mVar 0)))) (mRet (mC (.bl false))) mSkip)
    (mSeq (mFor (iAny (mVar 0)) (gNm 1) lb_is_printable_0)
    (mRet (mC (.bl true)))))
noncomputable def V_is_printable : FM := den 2 m_is_printable
theorem ok_is_printable {f : Addr} {fd : FuncData} (F : Fun K "is_printable" "is_printable" s_is_printable f fd)
    (n_ord : mg "ord" = none)
    (g_PERCENT : GC K mg "PERCENT" c_PERCENT)
    (n_isinstance : mg "isinstance" = none)
    (n_str : mg "str" = none) :
    FnOk P w K mg base (L2.CX P w) 1 f fd ["value"] (spD nm K mg 1 V_is_printable) :=
  den_ok2 (nms := nm) (m := m_is_printable) F sc_is_printable va_is_printable ga_is_printable (fun cdv A outer s H E hr nd hh hl hv hg hc hp => (mb_cons (ms_if (mt_not (mt_val (me_isi .str (me_var 0 hv) (gl_at hg 2) n_isinstance (gl_at hg 3) n_str bb_isinstance bb_str))) (mb_one (ms_ret me_bl)) mb_nil)
    (mb_cons (ms_for hp hc (mi_any (me_var 0 hv)) (mg_name 1 nd hl) (gok_nm 1) (mb_one (ms_if (MW.mt (mw_or (mt_cmp o_lt (me_var 1 hv) me_str (nomark _)) (mw_or (mt_cmp o_gt (me_var 1 hv) me_str (nomark _)) (mw_or1 (mt_cmp (o_eq hh) (me_callB c_ord (gl_at hg 0) n_ord bb_ord (ma_cons (me_var 1 hv) ma_nil)) (me_gc g_PERCENT (gl_at hg 1)) (nomark _)))))) (mb_one (ms_ret me_bl)) mb_nil)))
    (mb_one (ms_ret me_bl))))) rfl rfl
abbrev s_is_integer : Stmt := (topS 16)
theorem sc_is_integer : FnScope ["value", "least", "greatest"] ["value", "least", "greatest"] (defScope s_is_integer) := ⟨rfl, rfl, rfl, by decide +kernel, rfl, by decide +kernel, by decide +kernel⟩
theorem va_is_integer : locAll [0, 1, 2] ["value", "least", "greatest"] (defScope s_is_integer) = true := by decide +kernel
theorem ga_is_integer : glAll ["isinstance", "int", "bool"] (defScope s_is_integer) = true := by decide +kernel
noncomputable def m_is_integer : SM :=
  (mSeq (mIfS (mOr (mNot (mBl (mIsi .int (mVar 0)))) (mBl (mIsi .bool (mVar 0)))) (mRet (mC (.bl false))) mSkip)
    (mRet (mAndV (mBin fLe (mVar 1) (mVar 0)) (mBin fLe (mVar 0) (mVar 2)))))
noncomputable def V_is_integer : FM := den 3 m_is_integer
theorem ok_is_integer {f : Addr} {fd : FuncData} (F : Fun K "is_integer" "is_integer" s_is_integer f fd)
    (n_isinstance : mg "isinstance" = none)
    (n_int : mg "int" = none)
    (n_bool : mg "bool" = none) :
    FnOk P w K mg base (L2.CX P w) 1 f fd ["value", "least", "greatest"] (spD nm K mg 3 V_is_integer) :=
  den_ok2 (nms := nm) (m := m_is_integer) F sc_is_integer va_is_integer ga_is_integer (fun cdv A outer s H E hr nd hh hl hv hg hc hp => (mb_cons (ms_if (MW.mt (mw_or (mt_not (mt_val (me_isi .int (me_var 0 hv) (gl_at hg 0) n_isinstance (gl_at hg 1) n_int bb_isinstance bb_int))) (mw_or1 (mt_val (me_isi .bool (me_var 0 hv) (gl_at hg 0) n_isinstance (gl_at hg 2) n_bool bb_isinstance bb_bool))))) (mb_one (ms_ret me_bl)) mb_nil)
    (mb_one (ms_ret (me_and (me_cmp o_le (me_var 1 hv) (me_var 0 hv) (nomark _)) (me_one (me_cmp o_le (me_var 0 hv) (me_var 2 hv) (nomark _)))))))) rfl rfl
abbrev s__written : Stmt := (topS 17)
theorem sc__written : FnScope ["value", "depth", "item"] ["value", "depth"] (defScope s__written) := ⟨rfl, rfl, rfl, by decide +kernel, rfl, by decide +kernel, by decide +kernel⟩
abbrev lcx__written_0 : Scope := (lcOf (kid (kid (kid (skid (stm (subs (stm (defBody s__written) 2)) 1) 0) 0) 1) 1))
theorem lcb__written_0 : blkC ["value", "depth", "item"] (defScope s__written) lcx__written_0 [("item", 2)] = true := by decide +kernel
theorem lcv__written_0 : visAll [1, 2] ["value", "depth", "item"] (relS lcx__written_0 (defScope s__written)) = true := by decide +kernel
theorem lcg__written_0 : glAll ["_written"] (relS lcx__written_0 (defScope s__written)) = true := by decide +kernel
theorem lcl__written_0_0 : (relS lcx__written_0 (defScope s__written)).names.lookup ("item" : Str) = some NameKind.local := by decide +kernel
theorem va__written : locAll [0, 1] ["value", "depth", "item"] (defScope s__written) = true := by decide +kernel
theorem ga__written : glAll ["str", "GREATEST", "is_integer", "BadText", "isinstance", "tuple", "MOST_DEPTH", "is_printable"] (defScope s__written) = true := by decide +kernel
noncomputable def m__written (R__written : FM) : SM :=
  (mSeq (mIfS (mBl (mBin fIs (mVar 0) (mC .non))) (mRet (mC (.str "*"))) mSkip)
    (mSeq (mIfS (mBl (mIsi .str (mVar 0))) (mSeq (mIfS (mNot (mBl (mCall V_is_printable (mCons (mVar 0) mNil)))) (mRaise0 14) mSkip)
    (mRet (mBin fAdd (mBin fAdd (mC (.str "'")) (mRepl "'" "''" (mVar 0))) (mC (.str "'"))))) mSkip)
    (mSeq (mIfS (mBl (mIsi .tuple (mVar 0))) (mSeq (mIfS (mBl (mBin fGe (mVar 1) (mC c_MOST_DEPTH))) (mRaise0 14) mSkip)
    (mRet (mBin fAdd (mBin fAdd (mC (.str "(")) (mBm .str fnJoin (mC (.str ",")) (mCons (mLc [2] (LT.one 2) (iAny (mVar 0)) mYes (mCall R__written (mCons (mVar 2) (mCons (mBin fAdd (mVar 1) (mC (.int 1))) mNil)))) mNil))) (mC (.str ")"))))) mSkip)
    (mSeq (mIfS (mNot (mBl (mCall V_is_integer (mCons (mVar 0) (mCons (mUn fNeg (mC c_GREATEST)) (mCons (mC c_GREATEST) mNil)))))) (mRaise0 14) mSkip)
    (mRet (mCall fnStr (mCons (mVar 0) mNil)))))))
theorem ok__written {kk : Nat} (hk : 1 ≤ kk) {R__written : FM} {f : Addr} {fd : FuncData} (F : Fun K "_written" "_written" s__written f fd)
    (n_str : mg "str" = none)
    (d_is_integer : DefOk P w K mg base nm 1 "is_integer" 3 V_is_integer)
    (g_GREATEST : GC K mg "GREATEST" c_GREATEST)
    (e_BadText : ExcOk K mg "BadText")
    (n_isinstance : mg "isinstance" = none)
    (n_tuple : mg "tuple" = none)
    (d__written : DefOk P w K mg base nm kk "_written" 2 R__written)
    (g_MOST_DEPTH : GC K mg "MOST_DEPTH" c_MOST_DEPTH)
    (d_is_printable : DefOk P w K mg base nm 1 "is_printable" 1 V_is_printable) :
    FnOk P w K mg base (L2.CX P w) (kk + 1) f fd ["value", "depth"] (spD nm K mg 2 (den 3 (m__written R__written))) :=
  den_ok2 (nms := nm) (P := P) (w := w) (m := m__written R__written) F sc__written va__written ga__written (fun cdv A outer s H E hr nd hh hl hv hg hc hp => (mb_cons (ms_if (mt_cmp o_is (me_var 0 hv) me_non (nomark _)) (mb_one (ms_ret me_str)) mb_nil)
    (mb_cons (ms_if (mt_val (me_isi .str (me_var 0 hv) (gl_at hg 4) n_isinstance (gl_at hg 0) n_str bb_isinstance bb_str)) (mb_cons (ms_if (mt_not (mt_val (me_call d_is_printable (hr.mono (by omega)) (gl_at hg 7) (ma_cons (me_var 0 hv) ma_nil)))) (mb_one (ms_raise0 e_BadText hc (gl_at hg 3) cl_BadText)) mb_nil)
    (mb_one (ms_ret (me_bin o_add (me_catRepl (me_var 0 hv)) me_str)))) mb_nil)
    (mb_cons (ms_if (mt_val (me_isi .tuple (me_var 0 hv) (gl_at hg 4) n_isinstance (gl_at hg 5) n_tuple bb_isinstance bb_tuple)) (mb_cons (ms_if (mt_cmp o_ge (me_var 1 hv) (me_gc g_MOST_DEPTH (gl_at hg 6)) (nomark _)) (mb_one (ms_raise0 e_BadText hc (gl_at hg 3) cl_BadText)) mb_nil)
    (mb_one (ms_ret (me_bin o_add (me_bin o_add me_str (me_bm (T := .str) PySem.F.plainAttrs_str PySem.F.slot_str_join PySem.F.type_str_join t_join me_str (ma_cons (me_lc (LT.one 2) hc nd (mi_any (me_var 0 hv)) (blkOk_by lcb__written_0) rfl (by simp) (fun s1 H1 C cl fp => (pg_one 2 nd rfl (.inl lcl__written_0_0) (.inr lcl__written_0_0))) (fun s1 H1 C cl fp => by
    have hvb : visAll [1, 2] (Cx.blk (cxOf (L2.CX P w) P w K mg base ["value", "depth", "item"] "_written" (defScope s__written) f cdv A outer s H E) s1 H1 lcx__written_0 (compEnvC lcx__written_0 cl C (cxOf (L2.CX P w) P w K mg base ["value", "depth", "item"] "_written" (defScope s__written) f cdv A outer s H E).env) fp).N (Cx.blk (cxOf (L2.CX P w) P w K mg base ["value", "depth", "item"] "_written" (defScope s__written) f cdv A outer s H E) s1 H1 lcx__written_0 (compEnvC lcx__written_0 cl C (cxOf (L2.CX P w) P w K mg base ["value", "depth", "item"] "_written" (defScope s__written) f cdv A outer s H E).env) fp).env.scope = true := lcv__written_0
    have hgb : glAll ["_written"] (Cx.blk (cxOf (L2.CX P w) P w K mg base ["value", "depth", "item"] "_written" (defScope s__written) f cdv A outer s H E) s1 H1 lcx__written_0 (compEnvC lcx__written_0 cl C (cxOf (L2.CX P w) P w K mg base ["value", "depth", "item"] "_written" (defScope s__written) f cdv A outer s H E).env) fp).env.scope = true := lcg__written_0
    exact mts_nil) (fun s1 H1 C cl fp => by
    have hvb : visAll [1, 2] (Cx.blk (cxOf (L2.CX P w) P w K mg base ["value", "depth", "item"] "_written" (defScope s__written) f cdv A outer s H E) s1 H1 lcx__written_0 (compEnvC lcx__written_0 cl C (cxOf (L2.CX P w) P w K mg base ["value", "depth", "item"] "_written" (defScope s__written) f cdv A outer s H E).env) fp).N (Cx.blk (cxOf (L2.CX P w) P w K mg base ["value", "depth", "item"] "_written" (defScope s__written) f cdv A outer s H E) s1 H1 lcx__written_0 (compEnvC lcx__written_0 cl C (cxOf (L2.CX P w) P w K mg base ["value", "depth", "item"] "_written" (defScope s__written) f cdv A outer s H E).env) fp).env.scope = true := lcv__written_0
    have hgb : glAll ["_written"] (Cx.blk (cxOf (L2.CX P w) P w K mg base ["value", "depth", "item"] "_written" (defScope s__written) f cdv A outer s H E) s1 H1 lcx__written_0 (compEnvC lcx__written_0 cl C (cxOf (L2.CX P w) P w K mg base ["value", "depth", "item"] "_written" (defScope s__written) f cdv A outer s H E).env) fp).env.scope = true := lcg__written_0
    exact (me_call d__written hr (gl_at hgb 0) (ma_cons (me_var 2 hvb) (ma_cons (me_bin o_add (me_var 1 hvb) me_int) ma_nil))))) ma_nil))) me_str)))) mb_nil)
    (mb_cons (ms_if (mt_not (mt_val (me_call d_is_integer (hr.mono (by omega)) (gl_at hg 2) (ma_cons (me_var 0 hv) (ma_cons (me_neg (me_gc g_GREATEST (gl_at hg 1))) (ma_cons (me_gc g_GREATEST (gl_at hg 1)) ma_nil)))))) (mb_one (ms_raise0 e_BadText hc (gl_at hg 3) cl_BadText)) mb_nil)
    (mb_one (ms_ret (me_callT c_str (gl_at hg 0) n_str bb_str (ma_cons (me_var 0 hv) ma_nil))))))))) rfl rfl
noncomputable def VR__written : Nat → FM
  | 0 => fun _ _ => .stuck
  | j + 1 => den 3 (m__written (VR__written j))
noncomputable def V__written : FM := VR__written 16
abbrev s_encode : Stmt := (topS 18)
theorem sc_encode : FnScope ["value", "text"] ["value"] (defScope s_encode) := ⟨rfl, rfl, rfl, by decide +kernel, rfl, by decide +kernel, by decide +kernel⟩
theorem va_encode : locAll [0, 1] ["value", "text"] (defScope s_encode) = true := by decide +kernel
theorem ga_encode : glAll ["len", "MOST_LENGTH", "BadText", "_written"] (defScope s_encode) = true := by decide +kernel
noncomputable def m_encode : SM :=
  (mSeq (mSet 1 (mCall V__written (mCons (mVar 0) (mCons (mC (.int 0)) mNil))))
    (mSeq (mIfS (mBl (mBin fGt (mCall fnLen (mCons (mVar 1) mNil)) (mC c_MOST_LENGTH))) (mRaise0 14) mSkip)
    (mRet (mVar 1))))
noncomputable def V_encode : FM := den 2 m_encode
theorem ok_encode {f : Addr} {fd : FuncData} (F : Fun K "encode" "encode" s_encode f fd)
    (n_len : mg "len" = none)
    (g_MOST_LENGTH : GC K mg "MOST_LENGTH" c_MOST_LENGTH)
    (e_BadText : ExcOk K mg "BadText")
    (d__written : DefOk P w K mg base nm 17 "_written" 2 V__written) :
    FnOk P w K mg base (L2.CX P w) 18 f fd ["value"] (spD nm K mg 1 V_encode) :=
  den_ok2 (nms := nm) (m := m_encode) F sc_encode va_encode ga_encode (fun cdv A outer s H E hr nd hh hl hv hg hc hp => (mb_cons (ms_set 1 nd hl (me_call d__written (hr.mono (by decide)) (gl_at hg 3) (ma_cons (me_var 0 hv) (ma_cons me_int ma_nil))))
    (mb_cons (ms_if (mt_cmp o_gt (me_callB c_len (gl_at hg 0) n_len bb_len (ma_cons (me_var 1 hv) ma_nil)) (me_gc g_MOST_LENGTH (gl_at hg 1)) (nomark _)) (mb_one (ms_raise0 e_BadText hc (gl_at hg 2) cl_BadText)) mb_nil)
    (mb_one (ms_ret (me_var 1 hv)))))) rfl rfl
abbrev s__read_string : Stmt := (topS 19)
theorem sc__read_string : FnScope ["text", "start", "parts", "index", "end"] ["text", "start"] (defScope s__read_string) := ⟨rfl, rfl, rfl, by decide +kernel, rfl, by decide +kernel, by decide +kernel⟩
theorem va__read_string : locAll [0, 1, 2, 3, 4] ["text", "start", "parts", "index", "end"] (defScope s__read_string) = true := by decide +kernel
theorem ga__read_string : glAll ["BadText"] (defScope s__read_string) = true := by decide +kernel
noncomputable def lb__read_string_0 : SM :=
  (mSeq (mSet 4 (mBm .str fnFind2 (mVar 0) (mCons (mC (.str "'")) (mCons (mVar 3) mNil))))
    (mSeq (mIfS (mBl (mBin fLt (mVar 4) (mC (.int 0)))) (mRaise0 14) mSkip)
    (mSeq (mExpr (mBm .list fnAppend (mVar 2) (mCons (mSl false (mVar 0) (oAt (mVar 3)) (oAt (mVar 4))) mNil)))
    (mSeq (mIfS (mBl (mBin fNe (mSl false (mVar 0) (oAt (mBin fAdd (mVar 4) (mC (.int 1)))) (oAt (mBin fAdd (mVar 4) (mC (.int 2))))) (mC (.str "'")))) (mRet (mTup (mCons (mBm .str fnJoin (mC (.str "")) (mCons (mVar 2) mNil)) (mCons (mBin fAdd (mVar 4) (mC (.int 1))) mNil)))) mSkip)
    (mSeq (mExpr (mBm .list fnAppend (mVar 2) (mCons (mC (.str "'")) mNil)))
    (mSet 3 (mBin fAdd (mVar 4) (mC (.int 2)))))))))
noncomputable def m__read_string : SM :=
  (mSeq (mSet 2 (mLst true mNil))
    (mSeq (mSet 3 (mBin fAdd (mVar 1) (mC (.int 1))))
    (mWhile 1000000 (mBl (mC (.bl true))) lb__read_string_0)))
noncomputable def V__read_string : FM := den 5 m__read_string
theorem ok__read_string {f : Addr} {fd : FuncData} (F : Fun K "_read_string" "_read_string" s__read_string f fd)
    (e_BadText : ExcOk K mg "BadText") :
    FnOk P w K mg base (L2.CX P w) 1 f fd ["text", "start"] (spD nm K mg 2 V__read_string) :=
  den_ok2 (nms := nm) (P := P) (w := w) (m := m__read_string) F sc__read_string va__read_string ga__read_string (fun cdv A outer s H E hr nd hh hl hv hg hc hp => (mb_cons (ms_set 2 nd hl (me_lst true ma_nil))
    (mb_cons (ms_set 3 nd hl (me_bin o_add (me_var 1 hv) me_int))
    (mb_one (ms_while 1000000 hp (mt_val me_bl) (mb_cons (ms_set 4 nd hl (me_bm (T := .str) PySem.F.plainAttrs_str PySem.F.slot_str_find PySem.F.type_str_find t_find2 (me_var 0 hv) (ma_cons me_str (ma_cons (me_var 3 hv) ma_nil))))
    (mb_cons (ms_if (mt_cmp o_lt (me_var 4 hv) me_int (nomark _)) (mb_one (ms_raise0 e_BadText hc (gl_at hg 0) cl_BadText)) mb_nil)
    (mb_cons (ms_expr (me_bm (T := .list) PySem.F.plainAttrs_list PySem.F.slot_list_append PySem.F.type_list_append t_append (me_var 2 hv) (ma_cons (me_sl false (me_var 0 hv) (mo_at (me_var 3 hv)) (mo_at (me_var 4 hv))) ma_nil)))
    (mb_cons (ms_if (mt_cmp (o_ne hh) (me_sl false (me_var 0 hv) (mo_at (me_bin o_add (me_var 4 hv) me_int)) (mo_at (me_bin o_add (me_var 4 hv) me_int))) me_str (nomark _)) (mb_one (ms_ret (me_tup (ma_cons (me_bm (T := .str) PySem.F.plainAttrs_str PySem.F.slot_str_join PySem.F.type_str_join t_join me_str (ma_cons (me_var 2 hv) ma_nil)) (ma_cons (me_bin o_add (me_var 4 hv) me_int) ma_nil))))) mb_nil)
    (mb_cons (ms_expr (me_bm (T := .list) PySem.F.plainAttrs_list PySem.F.slot_list_append PySem.F.type_list_append t_append (me_var 2 hv) (ma_cons me_str ma_nil)))
    (mb_one (ms_set 3 nd hl (me_bin o_add (me_var 4 hv) me_int))))))))))))) rfl rfl
abbrev s__read_integer : Stmt := (topS 20)
theorem sc__read_integer : FnScope ["text", "start", "index", "first", "count"] ["text", "start"] (defScope s__read_integer) := ⟨rfl, rfl, rfl, by decide +kernel, rfl, by decide +kernel, by decide +kernel⟩
theorem va__read_integer : locAll [0, 1, 2, 3, 4] ["text", "start", "index", "first", "count"] (defScope s__read_integer) = true := by decide +kernel
theorem ga__read_integer : glAll ["int", "BadText", "MOST_DIGITS", "len", "DIGITS"] (defScope s__read_integer) = true := by decide +kernel
noncomputable def lb__read_integer_0 : SM :=
  (mAug 2 iAdd (mC (.int 1)))
noncomputable def m__read_integer : SM :=
  (mSeq (mSet 2 (mVar 1))
    (mSeq (mIfS (mBl (mBin fEq (mSl false (mVar 0) (oAt (mVar 2)) (oAt (mBin fAdd (mVar 2) (mC (.int 1))))) (mC (.str "-")))) (mAug 2 iAdd (mC (.int 1))) mSkip)
    (mSeq (mSet 3 (mVar 2))
    (mSeq (mWhile 1000000 (mAnd (mBl (mBin fLt (mVar 2) (mCall fnLen (mCons (mVar 0) mNil)))) (mAnd (mBl (mBin fLe (mBin fSub (mVar 2) (mVar 3)) (mC c_MOST_DIGITS))) (mBl (mBin fIn (mIx (mVar 0) (mVar 2)) (mC c_DIGITS))))) lb__read_integer_0)
    (mSeq (mSet 4 (mBin fSub (mVar 2) (mVar 3)))
    (mSeq (mIfS (mOr (mBl (mBin fEq (mVar 4) (mC (.int 0)))) (mBl (mBin fGt (mVar 4) (mC c_MOST_DIGITS)))) (mRaise0 14) mSkip)
    (mSeq (mIfS (mAnd (mBl (mBin fEq (mIx (mVar 0) (mVar 3)) (mC (.str "0")))) (mOr (mBl (mBin fGt (mVar 4) (mC (.int 1)))) (mBl (mBin fGt (mVar 3) (mVar 1))))) (mRaise0 14) mSkip)
    (mRet (mTup (mCons (mCall fnInt (mCons (mSl false (mVar 0) (oAt (mVar 1)) (oAt (mVar 2))) mNil)) (mCons (mVar 2) mNil)))))))))))
noncomputable def V__read_integer : FM := den 5 m__read_integer
theorem ok__read_integer {f : Addr} {fd : FuncData} (F : Fun K "_read_integer" "_read_integer" s__read_integer f fd)
    (n_int : mg "int" = none)
    (e_BadText : ExcOk K mg "BadText")
    (g_MOST_DIGITS : GC K mg "MOST_DIGITS" c_MOST_DIGITS)
    (n_len : mg "len" = none)
    (g_DIGITS : GC K mg "DIGITS" c_DIGITS) :
    FnOk P w K mg base (L2.CX P w) 1 f fd ["text", "start"] (spD nm K mg 2 V__read_integer) :=
  den_ok2 (nms := nm) (P := P) (w := w) (m := m__read_integer) F sc__read_integer va__read_integer ga__read_integer (fun cdv A outer s H E hr nd hh hl hv hg hc hp => (mb_cons (ms_set 2 nd hl (me_var 1 hv))
    (mb_cons (ms_if (mt_cmp (o_eq hh) (me_sl false (me_var 0 hv) (mo_at (me_var 2 hv)) (mo_at (me_bin o_add (me_var 2 hv) me_int))) me_str (nomark _)) (mb_one (ms_aug 2 nd hl i_add me_int)) mb_nil)
    (mb_cons (ms_set 3 nd hl (me_var 2 hv))
    (mb_cons (ms_while 1000000 hp (MW.mt (mw_and (mt_cmp o_lt (me_var 2 hv) (me_callB c_len (gl_at hg 3) n_len bb_len (ma_cons (me_var 0 hv) ma_nil)) (nomark _)) (mw_and (mt_cmp o_le (me_bin o_sub (me_var 2 hv) (me_var 3 hv)) (me_gc g_MOST_DIGITS (gl_at hg 2)) (nomark _)) (mw_and1 (mt_cmp (o_in hh) (me_ix hh (me_var 0 hv) (me_var 2 hv)) (me_gc g_DIGITS (gl_at hg 4)) (by rfl)))))) (mb_one (ms_aug 2 nd hl i_add me_int)))
    (mb_cons (ms_set 4 nd hl (me_bin o_sub (me_var 2 hv) (me_var 3 hv)))
    (mb_cons (ms_if (MW.mt (mw_or (mt_cmp (o_eq hh) (me_var 4 hv) me_int (nomark _)) (mw_or1 (mt_cmp o_gt (me_var 4 hv) (me_gc g_MOST_DIGITS (gl_at hg 2)) (nomark _))))) (mb_one (ms_raise0 e_BadText hc (gl_at hg 1) cl_BadText)) mb_nil)
    (mb_cons (ms_if (MW.mt (mw_and (mt_cmp (o_eq hh) (me_ix hh (me_var 0 hv) (me_var 3 hv)) me_str (nomark _)) (mw_and1 (MW.mt (mw_or (mt_cmp o_gt (me_var 4 hv) me_int (nomark _)) (mw_or1 (mt_cmp o_gt (me_var 3 hv) (me_var 1 hv) (nomark _)))))))) (mb_one (ms_raise0 e_BadText hc (gl_at hg 1) cl_BadText)) mb_nil)
    (mb_one (ms_ret (me_tup (ma_cons (me_callT c_int (gl_at hg 0) n_int bb_int (ma_cons (me_sl false (me_var 0 hv) (mo_at (me_var 1 hv)) (mo_at (me_var 2 hv))) ma_nil)) (ma_cons (me_var 2 hv) ma_nil))))))))))))) rfl rfl
abbrev s__read_tuple : Stmt := (topS 21)
theorem sc__read_tuple : FnScope ["text", "start", "depth", "found", "index", "value", "sign"] ["text", "start", "depth"] (defScope s__read_tuple) := ⟨rfl, rfl, rfl, by decide +kernel, rfl, by decide +kernel, by decide +kernel⟩
theorem va__read_tuple : locAll [0, 1, 2, 3, 4, 5, 6] ["text", "start", "depth", "found", "index", "value", "sign"] (defScope s__read_tuple) = true := by decide +kernel
theorem ga__read_tuple : glAll ["BadText", "tuple", "_read", "MOST_DEPTH"] (defScope s__read_tuple) = true := by decide +kernel
noncomputable def lb__read_tuple_0 (R__read_tuple R__read : FM) : SM :=
  (mSeq (mAsg (mCall R__read (mCons (mVar 0) (mCons (mBin fAdd (mVar 4) (mC (.int 1))) (mCons (mBin fAdd (mVar 2) (mC (.int 1))) mNil)))) (gTp 2 (gsCons (gNm 5) (gsCons (gNm 4) gsNil))))
    (mSeq (mExpr (mBm .list fnAppend (mVar 3) (mCons (mVar 5) mNil)))
    (mSeq (mSet 6 (mSl false (mVar 0) (oAt (mVar 4)) (oAt (mBin fAdd (mVar 4) (mC (.int 1))))))
    (mSeq (mIfS (mBl (mBin fEq (mVar 6) (mC (.str ")")))) (mRet (mTup (mCons (mCall fnTuple (mCons (mVar 3) mNil)) (mCons (mBin fAdd (mVar 4) (mC (.int 1))) mNil)))) mSkip)
    (mIfS (mBl (mBin fNe (mVar 6) (mC (.str ",")))) (mRaise0 14) mSkip)))))
noncomputable def m__read_tuple (R__read_tuple R__read : FM) : SM :=
  (mSeq (mIfS (mBl (mBin fGe (mVar 2) (mC c_MOST_DEPTH))) (mRaise0 14) mSkip)
    (mSeq (mIfS (mBl (mBin fEq (mSl false (mVar 0) (oAt (mBin fAdd (mVar 1) (mC (.int 1)))) (oAt (mBin fAdd (mVar 1) (mC (.int 2))))) (mC (.str ")")))) (mRet (mTup (mCons (mTup mNil) (mCons (mBin fAdd (mVar 1) (mC (.int 2))) mNil)))) mSkip)
    (mSeq (mSet 3 (mLst true mNil))
    (mSeq (mSet 4 (mVar 1))
    (mWhile 1000000 (mBl (mC (.bl true))) (lb__read_tuple_0 R__read_tuple R__read))))))
theorem ok__read_tuple {kk : Nat} (hk : 1 ≤ kk) {R__read_tuple R__read : FM} {f : Addr} {fd : FuncData} (F : Fun K "_read_tuple" "_read_tuple" s__read_tuple f fd)
    (e_BadText : ExcOk K mg "BadText")
    (n_tuple : mg "tuple" = none)
    (d__read : DefOk P w K mg base nm kk "_read" 3 R__read)
    (g_MOST_DEPTH : GC K mg "MOST_DEPTH" c_MOST_DEPTH) :
    FnOk P w K mg base (L2.CX P w) (kk + 1) f fd ["text", "start", "depth"] (spD nm K mg 3 (den 7 (m__read_tuple R__read_tuple R__read))) :=
  den_ok2 (nms := nm) (P := P) (w := w) (m := m__read_tuple R__read_tuple R__read) F sc__read_tuple va__read_tuple ga__read_tuple (fun cdv A outer s H E hr nd hh hl hv hg hc hp => (mb_cons (ms_if (mt_cmp o_ge (me_var 2 hv) (me_gc g_MOST_DEPTH (gl_at hg 3)) (nomark _)) (mb_one (ms_raise0 e_BadText hc (gl_at hg 0) cl_BadText)) mb_nil)
    (mb_cons (ms_if (mt_cmp (o_eq hh) (me_sl false (me_var 0 hv) (mo_at (me_bin o_add (me_var 1 hv) me_int)) (mo_at (me_bin o_add (me_var 1 hv) me_int))) me_str (nomark _)) (mb_one (ms_ret (me_tup (ma_cons (me_tup ma_nil) (ma_cons (me_bin o_add (me_var 1 hv) me_int) ma_nil))))) mb_nil)
    (mb_cons (ms_set 3 nd hl (me_lst true ma_nil))
    (mb_cons (ms_set 4 nd hl (me_var 1 hv))
    (mb_one (ms_while 1000000 hp (mt_val me_bl) (mb_cons (ms_asg (me_call d__read hr (gl_at hg 2) (ma_cons (me_var 0 hv) (ma_cons (me_bin o_add (me_var 4 hv) me_int) (ma_cons (me_bin o_add (me_var 2 hv) me_int) ma_nil)))) (mg_tup hc 2 (mgs_cons (mg_name 5 nd hl) (mgs_cons (mg_name 4 nd hl) mgs_nil))) (gok_tp (gsok_cons (gok_nm 5) (gsok_cons (gok_nm 4) gsok_nil))))
    (mb_cons (ms_expr (me_bm (T := .list) PySem.F.plainAttrs_list PySem.F.slot_list_append PySem.F.type_list_append t_append (me_var 3 hv) (ma_cons (me_var 5 hv) ma_nil)))
    (mb_cons (ms_set 6 nd hl (me_sl false (me_var 0 hv) (mo_at (me_var 4 hv)) (mo_at (me_bin o_add (me_var 4 hv) me_int))))
    (mb_cons (ms_if (mt_cmp (o_eq hh) (me_var 6 hv) me_str (nomark _)) (mb_one (ms_ret (me_tup (ma_cons (me_callT c_tuple (gl_at hg 1) n_tuple bb_tuple (ma_cons (me_var 3 hv) ma_nil)) (ma_cons (me_bin o_add (me_var 4 hv) me_int) ma_nil))))) mb_nil)
    (mb_one (ms_if (mt_cmp (o_ne hh) (me_var 6 hv) me_str (nomark _)) (mb_one (ms_raise0 e_BadText hc (gl_at hg 0) cl_BadText)) mb_nil))))))))))))) rfl rfl
abbrev s__read : Stmt := (topS 22)
theorem sc__read : FnScope ["text", "start", "depth", "sign"] ["text", "start", "depth"] (defScope s__read) := ⟨rfl, rfl, rfl, by decide +kernel, rfl, by decide +kernel, by decide +kernel⟩
theorem va__read : locAll [0, 1, 2, 3] ["text", "start", "depth", "sign"] (defScope s__read) = true := by decide +kernel
theorem ga__read : glAll ["_read_integer", "_read_tuple", "_read_string"] (defScope s__read) = true := by decide +kernel
noncomputable def m__read (R__read_tuple R__read : FM) : SM :=
  (mSeq (mSet 3 (mSl false (mVar 0) (oAt (mVar 1)) (oAt (mBin fAdd (mVar 1) (mC (.int 1))))))
    (mSeq (mIfS (mBl (mBin fEq (mVar 3) (mC (.str "*")))) (mRet (mTup (mCons (mC .non) (mCons (mBin fAdd (mVar 1) (mC (.int 1))) mNil)))) mSkip)
    (mSeq (mIfS (mBl (mBin fEq (mVar 3) (mC (.str "'")))) (mRet (mCall V__read_string (mCons (mVar 0) (mCons (mVar 1) mNil)))) mSkip)
    (mSeq (mIfS (mBl (mBin fEq (mVar 3) (mC (.str "(")))) (mRet (mCall R__read_tuple (mCons (mVar 0) (mCons (mVar 1) (mCons (mVar 2) mNil))))) mSkip)
    (mRet (mCall V__read_integer (mCons (mVar 0) (mCons (mVar 1) mNil))))))))
theorem ok__read {kk : Nat} (hk : 1 ≤ kk) {R__read_tuple R__read : FM} {f : Addr} {fd : FuncData} (F : Fun K "_read" "_read" s__read f fd)
    (d__read_integer : DefOk P w K mg base nm 1 "_read_integer" 2 V__read_integer)
    (d__read_tuple : DefOk P w K mg base nm kk "_read_tuple" 3 R__read_tuple)
    (d__read_string : DefOk P w K mg base nm 1 "_read_string" 2 V__read_string) :
    FnOk P w K mg base (L2.CX P w) (kk + 1) f fd ["text", "start", "depth"] (spD nm K mg 3 (den 4 (m__read R__read_tuple R__read))) :=
  den_ok2 (nms := nm) (P := P) (w := w) (m := m__read R__read_tuple R__read) F sc__read va__read ga__read (fun cdv A outer s H E hr nd hh hl hv hg hc hp => (mb_cons (ms_set 3 nd hl (me_sl false (me_var 0 hv) (mo_at (me_var 1 hv)) (mo_at (me_bin o_add (me_var 1 hv) me_int))))
    (mb_cons (ms_if (mt_cmp (o_eq hh) (me_var 3 hv) me_str (nomark _)) (mb_one (ms_ret (me_tup (ma_cons me_non (ma_cons (me_bin o_add (me_var 1 hv) me_int) ma_nil))))) mb_nil)
    (mb_cons (ms_if (mt_cmp (o_eq hh) (me_var 3 hv) me_str (nomark _)) (mb_one (ms_ret (me_call d__read_string (hr.mono (by omega)) (gl_at hg 2) (ma_cons (me_var 0 hv) (ma_cons (me_var 1 hv) ma_nil))))) mb_nil)
    (mb_cons (ms_if (mt_cmp (o_eq hh) (me_var 3 hv) me_str (nomark _)) (mb_one (ms_ret (me_call d__read_tuple hr (gl_at hg 1) (ma_cons (me_var 0 hv) (ma_cons (me_var 1 hv) (ma_cons (me_var 2 hv) ma_nil)))))) mb_nil)
    (mb_one (ms_ret (me_call d__read_integer (hr.mono (by omega)) (gl_at hg 0) (ma_cons (me_var 0 hv) (ma_cons (me_var 1 hv) ma_nil)))))))))) rfl rfl
noncomputable def VP__read_tuple__read : Nat → FM × FM
  | 0 => (fun _ _ => .stuck, fun _ _ => .stuck)
  | j + 1 => (den 7 (m__read_tuple (VP__read_tuple__read j).1 (VP__read_tuple__read j).2), den 4 (m__read (VP__read_tuple__read j).1 (VP__read_tuple__read j).2))
noncomputable def VR__read_tuple (j : Nat) : FM := (VP__read_tuple__read j).1
noncomputable def VR__read (j : Nat) : FM := (VP__read_tuple__read j).2
theorem VR__read_tuple_succ (j : Nat) : VR__read_tuple (j + 1) = den 7 (m__read_tuple (VR__read_tuple j) (VR__read j)) := rfl
theorem VR__read_succ (j : Nat) : VR__read (j + 1) = den 4 (m__read (VR__read_tuple j) (VR__read j)) := rfl
noncomputable def V__read_tuple : FM := VR__read_tuple 24
noncomputable def V__read : FM := VR__read 24
abbrev s_decode : Stmt := (topS 23)
theorem sc_decode : FnScope ["text", "value", "end"] ["text"] (defScope s_decode) := ⟨rfl, rfl, rfl, by decide +kernel, rfl, by decide +kernel, by decide +kernel⟩
theorem va_decode : locAll [0, 1, 2] ["text", "value", "end"] (defScope s_decode) = true := by decide +kernel
theorem ga_decode : glAll ["len", "BadText", "_read", "is_printable", "MOST_LENGTH"] (defScope s_decode) = true := by decide +kernel
noncomputable def m_decode : SM :=
  (mSeq (mIfS (mOr (mNot (mBl (mCall V_is_printable (mCons (mVar 0) mNil)))) (mBl (mBin fGt (mCall fnLen (mCons (mVar 0) mNil)) (mC c_MOST_LENGTH)))) (mRaise0 14) mSkip)
    (mSeq (mAsg (mCall V__read (mCons (mVar 0) (mCons (mC (.int 0)) (mCons (mC (.int 0)) mNil)))) (gTp 2 (gsCons (gNm 1) (gsCons (gNm 2) gsNil))))
    (mSeq (mIfS (mBl (mBin fNe (mVar 2) (mCall fnLen (mCons (mVar 0) mNil)))) (mRaise0 14) mSkip)
    (mRet (mVar 1)))))
noncomputable def V_decode : FM := den 3 m_decode
theorem ok_decode {f : Addr} {fd : FuncData} (F : Fun K "decode" "decode" s_decode f fd)
    (n_len : mg "len" = none)
    (e_BadText : ExcOk K mg "BadText")
    (d__read : DefOk P w K mg base nm 25 "_read" 3 V__read)
    (d_is_printable : DefOk P w K mg base nm 1 "is_printable" 1 V_is_printable)
    (g_MOST_LENGTH : GC K mg "MOST_LENGTH" c_MOST_LENGTH) :
    FnOk P w K mg base (L2.CX P w) 26 f fd ["text"] (spD nm K mg 1 V_decode) :=
  den_ok2 (nms := nm) (m := m_decode) F sc_decode va_decode ga_decode (fun cdv A outer s H E hr nd hh hl hv hg hc hp => (mb_cons (ms_if (MW.mt (mw_or (mt_not (mt_val (me_call d_is_printable (hr.mono (by decide)) (gl_at hg 3) (ma_cons (me_var 0 hv) ma_nil)))) (mw_or1 (mt_cmp o_gt (me_callB c_len (gl_at hg 0) n_len bb_len (ma_cons (me_var 0 hv) ma_nil)) (me_gc g_MOST_LENGTH (gl_at hg 4)) (nomark _))))) (mb_one (ms_raise0 e_BadText hc (gl_at hg 1) cl_BadText)) mb_nil)
    (mb_cons (ms_asg (me_call d__read (hr.mono (by decide)) (gl_at hg 2) (ma_cons (me_var 0 hv) (ma_cons me_int (ma_cons me_int ma_nil)))) (mg_tup hc 2 (mgs_cons (mg_name 1 nd hl) (mgs_cons (mg_name 2 nd hl) mgs_nil))) (gok_tp (gsok_cons (gok_nm 1) (gsok_cons (gok_nm 2) gsok_nil))))
    (mb_cons (ms_if (mt_cmp (o_ne hh) (me_var 2 hv) (me_callB c_len (gl_at hg 0) n_len bb_len (ma_cons (me_var 0 hv) ma_nil)) (nomark _)) (mb_one (ms_raise0 e_BadText hc (gl_at hg 1) cl_BadText)) mb_nil)
    (mb_one (ms_ret (me_var 1 hv))))))) rfl rfl
abbrev s_BadSchedule___init__ : Stmt := (inClass (topS 3) 0)
theorem sc_BadSchedule___init__ : FnScope ["self", "line", "reason"] ["self", "line", "reason"] (defScope s_BadSchedule___init__) := ⟨rfl, rfl, rfl, by decide +kernel, rfl, by decide +kernel, by decide +kernel⟩
theorem ok_BadSchedule___init__ {f : Addr} {fd : FuncData} (F : Fun K "__init__" "BadSchedule.__init__" s_BadSchedule___init__ f fd) : FnOk P w K mg base (L2.CX P w) 1 f fd ["self", "line", "reason"] (spX2 K (nm.fld 0) (nm.fld 1)) :=
  exc2_den F sc_BadSchedule___init__ fun cdv A outer s H E => pss_cons (ps_ost (pv 0) (pv 1)) (pss_one (ps_ost (pv 0) (pv 2)))
abbrev s_check_act : Stmt := (topS 27)
theorem sc_check_act : FnScope ["act", "kinds", "kind", "item"] ["act"] (defScope s_check_act) := ⟨rfl, rfl, rfl, by decide +kernel, rfl, by decide +kernel, by decide +kernel⟩
theorem va_check_act : locAll [0, 1, 2, 3] ["act", "kinds", "kind", "item"] (defScope s_check_act) = true := by decide +kernel
theorem ga_check_act : glAll ["zip", "MOST_NUMBER", "is_integer", "BadSchedule", "MOST_TICKS", "len", "ACTS", "isinstance", "tuple", "str"] (defScope s_check_act) = true := by decide +kernel
noncomputable def lb_check_act_0 : SM :=
  (mSeq (mIfS (mAnd (mBl (mBin fEq (mVar 2) (mC (.str "ticks")))) (mNot (mBl (mCall V_is_integer (mCons (mVar 3) (mCons (mC (.int 1)) (mCons (mC c_MOST_TICKS) mNil))))))) (mRaise2 22 0 1 (mCons (mC (.int 0)) (mCons (mC (.str "number")) mNil))) mSkip)
    (mIfS (mAnd (mBl (mBin fEq (mVar 2) (mC (.str "number")))) (mNot (mBl (mCall V_is_integer (mCons (mVar 3) (mCons (mC (.int 0)) (mCons (mC c_MOST_NUMBER) mNil))))))) (mRaise2 22 0 1 (mCons (mC (.int 0)) (mCons (mC (.str "number")) mNil))) mSkip))
noncomputable def m_check_act : SM :=
  (mSeq (mIfS (mOr (mNot (mBl (mIsi .tuple (mVar 0)))) (mOr (mBl (mBin fEq (mVar 0) (mTup mNil))) (mOr (mNot (mBl (mIsi .str (mIx (mVar 0) (mC (.int 0)))))) (mTabIn true c_ACTS (mIx (mVar 0) (mC (.int 0))))))) (mRaise2 22 0 1 (mCons (mC (.int 0)) (mCons (mC (.str "act")) mNil))) mSkip)
    (mSeq (mSet 1 (mTabGet c_ACTS (mIx (mVar 0) (mC (.int 0)))))
    (mSeq (mIfS (mBl (mBin fNe (mCall fnLen (mCons (mVar 0) mNil)) (mBin fAdd (mCall fnLen (mCons (mVar 1) mNil)) (mC (.int 1))))) (mRaise2 22 0 1 (mCons (mC (.int 0)) (mCons (mC (.str "act")) mNil))) mSkip)
    (mFor (iZip (mCons (mVar 1) (mCons (mSl false (mVar 0) (oAt (mC (.int 1))) oNo) mNil))) (gTp 2 (gsCons (gNm 2) (gsCons (gNm 3) gsNil))) lb_check_act_0))))
noncomputable def V_check_act : FM := den 4 m_check_act
theorem ok_check_act {f : Addr} {fd : FuncData} (F : Fun K "check_act" "check_act" s_check_act f fd)
    (n_zip : mg "zip" = none)
    (d_is_integer : DefOk P w K mg base nm 1 "is_integer" 3 V_is_integer)
    (g_MOST_NUMBER : GC K mg "MOST_NUMBER" c_MOST_NUMBER)
    (e_BadSchedule : Exc2Ok P w K mg base nm 1 22 0 1)
    (g_MOST_TICKS : GC K mg "MOST_TICKS" c_MOST_TICKS)
    (n_len : mg "len" = none)
    (t_ACTS : TC P w K mg "ACTS" c_ACTS)
    (n_isinstance : mg "isinstance" = none)
    (n_tuple : mg "tuple" = none)
    (n_str : mg "str" = none) :
    FnOk P w K mg base (L2.CX P w) 3 f fd ["act"] (spD nm K mg 1 V_check_act) :=
  den_ok2 (nms := nm) (m := m_check_act) F sc_check_act va_check_act ga_check_act (fun cdv A outer s H E hr nd hh hl hv hg hc hp => (mb_cons (ms_if (MW.mt (mw_or (mt_not (mt_val (me_isi .tuple (me_var 0 hv) (gl_at hg 7) n_isinstance (gl_at hg 8) n_tuple bb_isinstance bb_tuple))) (mw_or (mt_cmp (o_eq hh) (me_var 0 hv) (me_tup ma_nil) (nomark _)) (mw_or (mt_not (mt_val (me_isi .str (me_ix hh (me_var 0 hv) me_int) (gl_at hg 7) n_isinstance (gl_at hg 9) n_str bb_isinstance bb_str))) (mw_or1 (mt_tabinN hh t_ACTS (gl_at hg 6) (me_ix hh (me_var 0 hv) me_int))))))) (mb_one (ms_raise2 e_BadSchedule (hr.mono (by decide)) hc (gl_at hg 3) (ma_cons me_int (ma_cons me_str ma_nil)) cl_BadSchedule)) mb_nil)
    (mb_cons (ms_set 1 nd hl (me_tabget hh t_ACTS (gl_at hg 6) (me_ix hh (me_var 0 hv) me_int)))
    (mb_cons (ms_if (mt_cmp (o_ne hh) (me_callB c_len (gl_at hg 5) n_len bb_len (ma_cons (me_var 0 hv) ma_nil)) (me_bin o_add (me_callB c_len (gl_at hg 5) n_len bb_len (ma_cons (me_var 1 hv) ma_nil)) me_int) (nomark _)) (mb_one (ms_raise2 e_BadSchedule (hr.mono (by decide)) hc (gl_at hg 3) (ma_cons me_int (ma_cons me_str ma_nil)) cl_BadSchedule)) mb_nil)
    (mb_one (ms_for hp hc (mi_zip (gl_at hg 0) n_zip (ma_cons (me_var 1 hv) (ma_cons (me_sl false (me_var 0 hv) (mo_at me_int) mo_no) ma_nil))) (mg_tup hc 2 (mgs_cons (mg_name 2 nd hl) (mgs_cons (mg_name 3 nd hl) mgs_nil))) (gok_tp (gsok_cons (gok_nm 2) (gsok_cons (gok_nm 3) gsok_nil))) (mb_cons (ms_if (MW.mt (mw_and (mt_cmp (o_eq hh) (me_var 2 hv) me_str (nomark _)) (mw_and1 (mt_not (mt_val (me_call d_is_integer (hr.mono (by decide)) (gl_at hg 2) (ma_cons (me_var 3 hv) (ma_cons me_int (ma_cons (me_gc g_MOST_TICKS (gl_at hg 4)) ma_nil))))))))) (mb_one (ms_raise2 e_BadSchedule (hr.mono (by decide)) hc (gl_at hg 3) (ma_cons me_int (ma_cons me_str ma_nil)) cl_BadSchedule)) mb_nil)
    (mb_one (ms_if (MW.mt (mw_and (mt_cmp (o_eq hh) (me_var 2 hv) me_str (nomark _)) (mw_and1 (mt_not (mt_val (me_call d_is_integer (hr.mono (by decide)) (gl_at hg 2) (ma_cons (me_var 3 hv) (ma_cons me_int (ma_cons (me_gc g_MOST_NUMBER (gl_at hg 1)) ma_nil))))))))) (mb_one (ms_raise2 e_BadSchedule (hr.mono (by decide)) hc (gl_at hg 3) (ma_cons me_int (ma_cons me_str ma_nil)) cl_BadSchedule)) mb_nil))))))))) rfl rfl
abbrev s_is_bound : Stmt := (topS 30)
theorem sc_is_bound : FnScope ["value", "character"] ["value"] (defScope s_is_bound) := ⟨rfl, rfl, rfl, by decide +kernel, rfl, by decide +kernel, by decide +kernel⟩
theorem va_is_bound : locAll [0, 1] ["value", "character"] (defScope s_is_bound) = true := by decide +kernel
theorem ga_is_bound : glAll ["LETTERS", "isinstance", "str", "len", "MOST_KEY"] (defScope s_is_bound) = true := by decide +kernel
noncomputable def lb_is_bound_0 : SM :=
  (mIfS (mBl (mBin fNotIn (mVar 1) (mC c_LETTERS))) (mRet (mC (.bl false))) mSkip)
noncomputable def m_is_bound : SM :=
  (mSeq (mIfS (mOr (mNot (mBl (mIsi .str (mVar 0)))) (mBl (mBin fGt (mCall fnLen (mCons (mVar 0) mNil)) (mC c_MOST_KEY)))) (mRet (mC (.bl false))) mSkip)
    (mSeq (mFor (iAny (mVar 0)) (gNm 1) lb_is_bound_0)
    (mRet (mC (.bl true)))))
noncomputable def V_is_bound : FM := den 2 m_is_bound
theorem ok_is_bound {f : Addr} {fd : FuncData} (F : Fun K "is_bound" "is_bound" s_is_bound f fd)
    (g_LETTERS : GC K mg "LETTERS" c_LETTERS)
    (n_isinstance : mg "isinstance" = none)
    (n_str : mg "str" = none)
    (n_len : mg "len" = none)
    (g_MOST_KEY : GC K mg "MOST_KEY" c_MOST_KEY) :
    FnOk P w K mg base (L2.CX P w) 1 f fd ["value"] (spD nm K mg 1 V_is_bound) :=
  den_ok2 (nms := nm) (m := m_is_bound) F sc_is_bound va_is_bound ga_is_bound (fun cdv A outer s H E hr nd hh hl hv hg hc hp => (mb_cons (ms_if (MW.mt (mw_or (mt_not (mt_val (me_isi .str (me_var 0 hv) (gl_at hg 1) n_isinstance (gl_at hg 2) n_str bb_isinstance bb_str))) (mw_or1 (mt_cmp o_gt (me_callB c_len (gl_at hg 3) n_len bb_len (ma_cons (me_var 0 hv) ma_nil)) (me_gc g_MOST_KEY (gl_at hg 4)) (nomark _))))) (mb_one (ms_ret me_bl)) mb_nil)
    (mb_cons (ms_for hp hc (mi_any (me_var 0 hv)) (mg_name 1 nd hl) (gok_nm 1) (mb_one (ms_if (mt_cmp (o_notin hh) (me_var 1 hv) (me_gc g_LETTERS (gl_at hg 0)) (by rfl)) (mb_one (ms_ret me_bl)) mb_nil)))
    (mb_one (ms_ret me_bl))))) rfl rfl
abbrev s_is_key : Stmt := (topS 31)
theorem sc_is_key : FnScope ["value"] ["value"] (defScope s_is_key) := ⟨rfl, rfl, rfl, by decide +kernel, rfl, by decide +kernel, by decide +kernel⟩
theorem va_is_key : locAll [0] ["value"] (defScope s_is_key) = true := by decide +kernel
theorem ga_is_key : glAll ["is_bound"] (defScope s_is_key) = true := by decide +kernel
noncomputable def m_is_key : SM :=
  (mRet (mAndV (mCall V_is_bound (mCons (mVar 0) mNil)) (mBin fNe (mVar 0) (mC (.str "")))))
noncomputable def V_is_key : FM := den 1 m_is_key
theorem ok_is_key {f : Addr} {fd : FuncData} (F : Fun K "is_key" "is_key" s_is_key f fd)
    (d_is_bound : DefOk P w K mg base nm 1 "is_bound" 1 V_is_bound) :
    FnOk P w K mg base (L2.CX P w) 2 f fd ["value"] (spD nm K mg 1 V_is_key) :=
  den_ok2 (nms := nm) (m := m_is_key) F sc_is_key va_is_key ga_is_key (fun cdv A outer s H E hr nd hh hl hv hg hc hp => (mb_one (ms_ret (me_and (me_call d_is_bound (hr.mono (by decide)) (gl_at hg 0) (ma_cons (me_var 0 hv) ma_nil)) (me_one (me_cmp (o_ne hh) (me_var 0 hv) me_str (nomark _))))))) rfl rfl
abbrev s_is_value : Stmt := (topS 34)
theorem sc_is_value : FnScope ["value"] ["value"] (defScope s_is_value) := ⟨rfl, rfl, rfl, by decide +kernel, rfl, by decide +kernel, by decide +kernel⟩
theorem va_is_value : locAll [0] ["value"] (defScope s_is_value) = true := by decide +kernel
theorem ga_is_value : glAll ["is_printable", "len", "MOST_VALUE"] (defScope s_is_value) = true := by decide +kernel
noncomputable def m_is_value : SM :=
  (mRet (mAndV (mCall V_is_printable (mCons (mVar 0) mNil)) (mBin fLe (mCall fnLen (mCons (mVar 0) mNil)) (mC c_MOST_VALUE))))
noncomputable def V_is_value : FM := den 1 m_is_value
theorem ok_is_value {f : Addr} {fd : FuncData} (F : Fun K "is_value" "is_value" s_is_value f fd)
    (d_is_printable : DefOk P w K mg base nm 1 "is_printable" 1 V_is_printable)
    (n_len : mg "len" = none)
    (g_MOST_VALUE : GC K mg "MOST_VALUE" c_MOST_VALUE) :
    FnOk P w K mg base (L2.CX P w) 2 f fd ["value"] (spD nm K mg 1 V_is_value) :=
  den_ok2 (nms := nm) (m := m_is_value) F sc_is_value va_is_value ga_is_value (fun cdv A outer s H E hr nd hh hl hv hg hc hp => (mb_one (ms_ret (me_and (me_call d_is_printable (hr.mono (by decide)) (gl_at hg 0) (ma_cons (me_var 0 hv) ma_nil)) (me_one (me_cmp o_le (me_callB c_len (gl_at hg 1) n_len bb_len (ma_cons (me_var 0 hv) ma_nil)) (me_gc g_MOST_VALUE (gl_at hg 2)) (nomark _))))))) rfl rfl
abbrev s_is_operation : Stmt := (topS 35)
theorem sc_is_operation : FnScope ["value", "item"] ["value"] (defScope s_is_operation) := ⟨rfl, rfl, rfl, by decide +kernel, rfl, by decide +kernel, by decide +kernel⟩
abbrev lcx_is_operation_0 : Scope := (lcOf (kid (skid (stm (defBody s_is_operation) 4) 0) 1))
theorem lcb_is_operation_0 : blkC ["value", "item"] (defScope s_is_operation) lcx_is_operation_0 [("item", 1)] = true := by decide +kernel
theorem lcv_is_operation_0 : visAll [1] ["value", "item"] (relS lcx_is_operation_0 (defScope s_is_operation)) = true := by decide +kernel
theorem lcg_is_operation_0 : glAll ["is_value"] (relS lcx_is_operation_0 (defScope s_is_operation)) = true := by decide +kernel
theorem lcl_is_operation_0_0 : (relS lcx_is_operation_0 (defScope s_is_operation)).names.lookup ("item" : Str) = some NameKind.local := by decide +kernel
theorem va_is_operation : locAll [0] ["value", "item"] (defScope s_is_operation) = true := by decide +kernel
theorem ga_is_operation : glAll ["all", "is_key", "is_bound", "MOST_PAGE", "is_integer", "SIZES", "len", "isinstance", "tuple", "str"] (defScope s_is_operation) = true := by decide +kernel
noncomputable def m_is_operation : SM :=
  (mSeq (mIfS (mOr (mNot (mBl (mIsi .tuple (mVar 0)))) (mOr (mBl (mBin fLt (mCall fnLen (mCons (mVar 0) mNil)) (mC (.int 2)))) (mNot (mBl (mIsi .str (mIx (mVar 0) (mC (.int 0)))))))) (mRet (mC (.bl false))) mSkip)
    (mSeq (mIfS (mOr (mTabIn true c_SIZES (mIx (mVar 0) (mC (.int 0)))) (mBl (mBin fNe (mCall fnLen (mCons (mVar 0) mNil)) (mTabGet c_SIZES (mIx (mVar 0) (mC (.int 0))))))) (mRet (mC (.bl false))) mSkip)
    (mSeq (mIfS (mBl (mBin fEq (mIx (mVar 0) (mC (.int 0))) (mC (.str "page")))) (mRet (mAndV (mCall V_is_bound (mCons (mIx (mVar 0) (mC (.int 1))) mNil)) (mCall V_is_integer (mCons (mIx (mVar 0) (mC (.int 2))) (mCons (mC (.int 1)) (mCons (mC c_MOST_PAGE) mNil)))))) mSkip)
    (mSeq (mIfS (mNot (mBl (mCall V_is_key (mCons (mIx (mVar 0) (mC (.int 1))) mNil)))) (mRet (mC (.bl false))) mSkip)
    (mRet (mCall fnAll (mCons (mLc [1] (LT.one 1) (iAny (mSl false (mVar 0) (oAt (mC (.int 2))) oNo)) mYes (mCall V_is_value (mCons (mVar 1) mNil))) mNil)))))))
noncomputable def V_is_operation : FM := den 2 m_is_operation
theorem ok_is_operation {f : Addr} {fd : FuncData} (F : Fun K "is_operation" "is_operation" s_is_operation f fd)
    (d_is_value : DefOk P w K mg base nm 2 "is_value" 1 V_is_value)
    (n_all : mg "all" = none)
    (d_is_key : DefOk P w K mg base nm 2 "is_key" 1 V_is_key)
    (d_is_bound : DefOk P w K mg base nm 1 "is_bound" 1 V_is_bound)
    (d_is_integer : DefOk P w K mg base nm 1 "is_integer" 3 V_is_integer)
    (g_MOST_PAGE : GC K mg "MOST_PAGE" c_MOST_PAGE)
    (t_SIZES : TC P w K mg "SIZES" c_SIZES)
    (n_len : mg "len" = none)
    (n_isinstance : mg "isinstance" = none)
    (n_tuple : mg "tuple" = none)
    (n_str : mg "str" = none) :
    FnOk P w K mg base (L2.CX P w) 3 f fd ["value"] (spD nm K mg 1 V_is_operation) :=
  den_ok2 (nms := nm) (m := m_is_operation) F sc_is_operation va_is_operation ga_is_operation (fun cdv A outer s H E hr nd hh hl hv hg hc hp => (mb_cons (ms_if (MW.mt (mw_or (mt_not (mt_val (me_isi .tuple (me_var 0 hv) (gl_at hg 7) n_isinstance (gl_at hg 8) n_tuple bb_isinstance bb_tuple))) (mw_or (mt_cmp o_lt (me_callB c_len (gl_at hg 6) n_len bb_len (ma_cons (me_var 0 hv) ma_nil)) me_int (nomark _)) (mw_or1 (mt_not (mt_val (me_isi .str (me_ix hh (me_var 0 hv) me_int) (gl_at hg 7) n_isinstance (gl_at hg 9) n_str bb_isinstance bb_str))))))) (mb_one (ms_ret me_bl)) mb_nil)
    (mb_cons (ms_if (MW.mt (mw_or (mt_tabinN hh t_SIZES (gl_at hg 5) (me_ix hh (me_var 0 hv) me_int)) (mw_or1 (mt_cmp (o_ne hh) (me_callB c_len (gl_at hg 6) n_len bb_len (ma_cons (me_var 0 hv) ma_nil)) (me_tabget hh t_SIZES (gl_at hg 5) (me_ix hh (me_var 0 hv) me_int)) (nomark _))))) (mb_one (ms_ret me_bl)) mb_nil)
    (mb_cons (ms_if (mt_cmp (o_eq hh) (me_ix hh (me_var 0 hv) me_int) me_str (nomark _)) (mb_one (ms_ret (me_and (me_call d_is_bound (hr.mono (by decide)) (gl_at hg 2) (ma_cons (me_ix hh (me_var 0 hv) me_int) ma_nil)) (me_one (me_call d_is_integer (hr.mono (by decide)) (gl_at hg 4) (ma_cons (me_ix hh (me_var 0 hv) me_int) (ma_cons me_int (ma_cons (me_gc g_MOST_PAGE (gl_at hg 3)) ma_nil)))))))) mb_nil)
    (mb_cons (ms_if (mt_not (mt_val (me_call d_is_key (hr.mono (by decide)) (gl_at hg 1) (ma_cons (me_ix hh (me_var 0 hv) me_int) ma_nil)))) (mb_one (ms_ret me_bl)) mb_nil)
    (mb_one (ms_ret (me_callB (c_all hc) (gl_at hg 0) n_all bb_all (ma_cons (me_lc (LT.one 1) hc nd (mi_any (me_sl false (me_var 0 hv) (mo_at me_int) mo_no)) (blkOk_by lcb_is_operation_0) rfl (by simp) (fun s1 H1 C cl fp => (pg_one 1 nd rfl (.inl lcl_is_operation_0_0) (.inr lcl_is_operation_0_0))) (fun s1 H1 C cl fp => by
    have hvb : visAll [1] (Cx.blk (cxOf (L2.CX P w) P w K mg base ["value", "item"] "is_operation" (defScope s_is_operation) f cdv A outer s H E) s1 H1 lcx_is_operation_0 (compEnvC lcx_is_operation_0 cl C (cxOf (L2.CX P w) P w K mg base ["value", "item"] "is_operation" (defScope s_is_operation) f cdv A outer s H E).env) fp).N (Cx.blk (cxOf (L2.CX P w) P w K mg base ["value", "item"] "is_operation" (defScope s_is_operation) f cdv A outer s H E) s1 H1 lcx_is_operation_0 (compEnvC lcx_is_operation_0 cl C (cxOf (L2.CX P w) P w K mg base ["value", "item"] "is_operation" (defScope s_is_operation) f cdv A outer s H E).env) fp).env.scope = true := lcv_is_operation_0
    have hgb : glAll ["is_value"] (Cx.blk (cxOf (L2.CX P w) P w K mg base ["value", "item"] "is_operation" (defScope s_is_operation) f cdv A outer s H E) s1 H1 lcx_is_operation_0 (compEnvC lcx_is_operation_0 cl C (cxOf (L2.CX P w) P w K mg base ["value", "item"] "is_operation" (defScope s_is_operation) f cdv A outer s H E).env) fp).env.scope = true := lcg_is_operation_0
    exact mts_nil) (fun s1 H1 C cl fp => by
    have hvb : visAll [1] (Cx.blk (cxOf (L2.CX P w) P w K mg base ["value", "item"] "is_operation" (defScope s_is_operation) f cdv A outer s H E) s1 H1 lcx_is_operation_0 (compEnvC lcx_is_operation_0 cl C (cxOf (L2.CX P w) P w K mg base ["value", "item"] "is_operation" (defScope s_is_operation) f cdv A outer s H E).env) fp).N (Cx.blk (cxOf (L2.CX P w) P w K mg base ["value", "item"] "is_operation" (defScope s_is_operation) f cdv A outer s H E) s1 H1 lcx_is_operation_0 (compEnvC lcx_is_operation_0 cl C (cxOf (L2.CX P w) P w K mg base ["value", "item"] "is_operation" (defScope s_is_operation) f cdv A outer s H E).env) fp).env.scope = true := lcv_is_operation_0
    have hgb : glAll ["is_value"] (Cx.blk (cxOf (L2.CX P w) P w K mg base ["value", "item"] "is_operation" (defScope s_is_operation) f cdv A outer s H E) s1 H1 lcx_is_operation_0 (compEnvC lcx_is_operation_0 cl C (cxOf (L2.CX P w) P w K mg base ["value", "item"] "is_operation" (defScope s_is_operation) f cdv A outer s H E).env) fp).env.scope = true := lcg_is_operation_0
    exact (me_call d_is_value (hr.mono (by decide)) (gl_at hgb 0) (ma_cons (me_var 1 hvb) ma_nil)))) ma_nil))))))))) rfl rfl
abbrev s_number_of : Stmt := (topS 38)
theorem sc_number_of : FnScope ["word", "character"] ["word"] (defScope s_number_of) := ⟨rfl, rfl, rfl, by decide +kernel, rfl, by decide +kernel, by decide +kernel⟩
theorem va_number_of : locAll [0, 1] ["word", "character"] (defScope s_number_of) = true := by decide +kernel
theorem ga_number_of : glAll ["int", "len", "MOST_FIGURES"] (defScope s_number_of) = true := by decide +kernel
noncomputable def lb_number_of_0 : SM :=
  (mIfS (mBl (mBin fNotIn (mVar 1) (mC (.str "0123456789")))) (mRet (mC .non)) mSkip)
noncomputable def m_number_of : SM :=
  (mSeq (mIfS (mOr (mBl (mBin fEq (mVar 0) (mC (.str "")))) (mBl (mBin fGt (mCall fnLen (mCons (mVar 0) mNil)) (mC c_MOST_FIGURES)))) (mRet (mC .non)) mSkip)
    (mSeq (mFor (iAny (mVar 0)) (gNm 1) lb_number_of_0)
    (mSeq (mIfS (mAnd (mBl (mBin fEq (mIx (mVar 0) (mC (.int 0))) (mC (.str "0")))) (mBl (mBin fNe (mVar 0) (mC (.str "0"))))) (mRet (mC .non)) mSkip)
    (mRet (mCall fnInt (mCons (mVar 0) mNil))))))
noncomputable def V_number_of : FM := den 2 m_number_of
theorem ok_number_of {f : Addr} {fd : FuncData} (F : Fun K "number_of" "number_of" s_number_of f fd)
    (n_int : mg "int" = none)
    (n_len : mg "len" = none)
    (g_MOST_FIGURES : GC K mg "MOST_FIGURES" c_MOST_FIGURES) :
    FnOk P w K mg base (L2.CX P w) 1 f fd ["word"] (spD nm K mg 1 V_number_of) :=
  den_ok2 (nms := nm) (m := m_number_of) F sc_number_of va_number_of ga_number_of (fun cdv A outer s H E hr nd hh hl hv hg hc hp => (mb_cons (ms_if (MW.mt (mw_or (mt_cmp (o_eq hh) (me_var 0 hv) me_str (nomark _)) (mw_or1 (mt_cmp o_gt (me_callB c_len (gl_at hg 1) n_len bb_len (ma_cons (me_var 0 hv) ma_nil)) (me_gc g_MOST_FIGURES (gl_at hg 2)) (nomark _))))) (mb_one (ms_ret me_non)) mb_nil)
    (mb_cons (ms_for hp hc (mi_any (me_var 0 hv)) (mg_name 1 nd hl) (gok_nm 1) (mb_one (ms_if (mt_cmp (o_notin hh) (me_var 1 hv) me_str (by rfl)) (mb_one (ms_ret me_non)) mb_nil)))
    (mb_cons (ms_if (MW.mt (mw_and (mt_cmp (o_eq hh) (me_ix hh (me_var 0 hv) me_int) me_str (nomark _)) (mw_and1 (mt_cmp (o_ne hh) (me_var 0 hv) me_str (nomark _))))) (mb_one (ms_ret me_non)) mb_nil)
    (mb_one (ms_ret (me_callT c_int (gl_at hg 0) n_int bb_int (ma_cons (me_var 0 hv) ma_nil)))))))) rfl rfl
abbrev s__client_of : Stmt := (topS 39)
theorem sc__client_of : FnScope ["word", "number"] ["word"] (defScope s__client_of) := ⟨rfl, rfl, rfl, by decide +kernel, rfl, by decide +kernel, by decide +kernel⟩
theorem va__client_of : locAll [0, 1] ["word", "number"] (defScope s__client_of) = true := by decide +kernel
theorem ga__client_of : glAll ["number_of"] (defScope s__client_of) = true := by decide +kernel
noncomputable def m__client_of : SM :=
  (mSeq (mSet 1 (mCall V_number_of (mCons (mSl false (mVar 0) (oAt (mC (.int 1))) oNo) mNil)))
    (mSeq (mIfS (mOr (mBl (mBin fNe (mSl false (mVar 0) oNo (oAt (mC (.int 1)))) (mC (.str "-")))) (mOr (mBl (mBin fIs (mVar 1) (mC .non))) (mBl (mBin fEq (mVar 1) (mC (.int 0)))))) (mRet (mC .non)) mSkip)
    (mRet (mUn fNeg (mVar 1)))))
noncomputable def V__client_of : FM := den 2 m__client_of
theorem ok__client_of {f : Addr} {fd : FuncData} (F : Fun K "_client_of" "_client_of" s__client_of f fd)
    (d_number_of : DefOk P w K mg base nm 1 "number_of" 1 V_number_of) :
    FnOk P w K mg base (L2.CX P w) 2 f fd ["word"] (spD nm K mg 1 V__client_of) :=
  den_ok2 (nms := nm) (m := m__client_of) F sc__client_of va__client_of ga__client_of (fun cdv A outer s H E hr nd hh hl hv hg hc hp => (mb_cons (ms_set 1 nd hl (me_call d_number_of (hr.mono (by decide)) (gl_at hg 0) (ma_cons (me_sl false (me_var 0 hv) (mo_at me_int) mo_no) ma_nil)))
    (mb_cons (ms_if (MW.mt (mw_or (mt_cmp (o_ne hh) (me_sl false (me_var 0 hv) mo_no (mo_at me_int)) me_str (nomark _)) (mw_or (mt_cmp o_is (me_var 1 hv) me_non (nomark _)) (mw_or1 (mt_cmp (o_eq hh) (me_var 1 hv) me_int (nomark _)))))) (mb_one (ms_ret me_non)) mb_nil)
    (mb_one (ms_ret (me_neg (me_var 1 hv))))))) rfl rfl
abbrev s__value_of : Stmt := (topS 40)
theorem sc__value_of : FnScope ["kind", "text", "line", "value"] ["kind", "text", "line"] (defScope s__value_of) := ⟨rfl, rfl, rfl, by decide +kernel, rfl, by decide +kernel, by decide +kernel⟩
theorem va__value_of : locAll [0, 1, 2, 3] ["kind", "text", "line", "value"] (defScope s__value_of) = true := by decide +kernel
theorem ga__value_of : glAll ["isinstance", "tuple", "is_operation", "BadSchedule", "decode"] (defScope s__value_of) = true := by decide +kernel
noncomputable def m__value_of : SM :=
  (mSeq (mTryQ (mSet 3 (mCall V_decode (mCons (mVar 1) mNil))))
    (mSeq (mIfS (mOr (mNot (mBl (mIsi .tuple (mVar 3)))) (mAnd (mBl (mBin fEq (mVar 0) (mC (.str "operation")))) (mNot (mBl (mCall V_is_operation (mCons (mVar 3) mNil)))))) (mRaise2 22 0 1 (mCons (mVar 2) (mCons (mC (.str "text")) mNil))) mSkip)
    (mRet (mVar 3))))
noncomputable def V__value_of : FM := den 4 m__value_of
theorem ok__value_of {f : Addr} {fd : FuncData} (F : Fun K "_value_of" "_value_of" s__value_of f fd)
    (n_isinstance : mg "isinstance" = none)
    (n_tuple : mg "tuple" = none)
    (d_is_operation : DefOk P w K mg base nm 3 "is_operation" 1 V_is_operation)
    (e_BadSchedule : Exc2Ok P w K mg base nm 1 22 0 1)
    (d_decode : DefOk P w K mg base nm 26 "decode" 1 V_decode) :
    FnOk P w K mg base (L2.CX P w) 27 f fd ["kind", "text", "line"] (spD nm K mg 3 V__value_of) :=
  den_ok2 (nms := nm) (m := m__value_of) F sc__value_of va__value_of ga__value_of (fun cdv A outer s H E hr nd hh hl hv hg hc hp => (mb_cons (ms_tryQ (fun pn xe hp => (mb_one (ms_set 3 nd hl (me_call d_decode (hr.mono (by decide)) (glT (gl_at hg 4)) (ma_cons (me_var 1 hv) ma_nil))))))
    (mb_cons (ms_if (MW.mt (mw_or (mt_not (mt_val (me_isi .tuple (me_var 3 hv) (gl_at hg 0) n_isinstance (gl_at hg 1) n_tuple bb_isinstance bb_tuple))) (mw_or1 (MW.mt (mw_and (mt_cmp (o_eq hh) (me_var 0 hv) me_str (nomark _)) (mw_and1 (mt_not (mt_val (me_call d_is_operation (hr.mono (by decide)) (gl_at hg 2) (ma_cons (me_var 3 hv) ma_nil)))))))))) (mb_one (ms_raise2 e_BadSchedule (hr.mono (by decide)) hc (gl_at hg 3) (ma_cons (me_var 2 hv) (ma_cons me_str ma_nil)) cl_BadSchedule)) mb_nil)
    (mb_one (ms_ret (me_var 3 hv)))))) rfl rfl
abbrev s__item_of : Stmt := (topS 41)
theorem sc__item_of : FnScope ["kind", "word", "line", "number"] ["kind", "word", "line"] (defScope s__item_of) := ⟨rfl, rfl, rfl, by decide +kernel, rfl, by decide +kernel, by decide +kernel⟩
theorem va__item_of : locAll [0, 1, 2, 3] ["kind", "word", "line", "number"] (defScope s__item_of) = true := by decide +kernel
theorem ga__item_of : glAll ["BadSchedule", "_client_of", "number_of", "_value_of"] (defScope s__item_of) = true := by decide +kernel
noncomputable def m__item_of : SM :=
  (mSeq (mIfS (mBl (mBin fIn (mVar 0) (mTup (mCons (mC (.str "operation")) (mCons (mC (.str "letter")) mNil))))) (mRet (mCall V__value_of (mCons (mVar 0) (mCons (mVar 1) (mCons (mVar 2) mNil))))) mSkip)
    (mSeq (mIfS (mBl (mBin fEq (mVar 0) (mC (.str "client")))) (mSet 3 (mCall V__client_of (mCons (mVar 1) mNil))) (mSet 3 (mCall V_number_of (mCons (mVar 1) mNil))))
    (mSeq (mIfS (mBl (mBin fIs (mVar 3) (mC .non))) (mRaise2 22 0 1 (mCons (mVar 2) (mCons (mC (.str "number")) mNil))) mSkip)
    (mRet (mVar 3)))))
noncomputable def V__item_of : FM := den 4 m__item_of
theorem ok__item_of {f : Addr} {fd : FuncData} (F : Fun K "_item_of" "_item_of" s__item_of f fd)
    (e_BadSchedule : Exc2Ok P w K mg base nm 1 22 0 1)
    (d__client_of : DefOk P w K mg base nm 2 "_client_of" 1 V__client_of)
    (d_number_of : DefOk P w K mg base nm 1 "number_of" 1 V_number_of)
    (d__value_of : DefOk P w K mg base nm 27 "_value_of" 3 V__value_of) :
    FnOk P w K mg base (L2.CX P w) 28 f fd ["kind", "word", "line"] (spD nm K mg 3 V__item_of) :=
  den_ok2 (nms := nm) (m := m__item_of) F sc__item_of va__item_of ga__item_of (fun cdv A outer s H E hr nd hh hl hv hg hc hp => (mb_cons (ms_if (mt_cmp (o_in hh) (me_var 0 hv) (me_tup (ma_cons me_str (ma_cons me_str ma_nil))) (by rfl)) (mb_one (ms_ret (me_call d__value_of (hr.mono (by decide)) (gl_at hg 3) (ma_cons (me_var 0 hv) (ma_cons (me_var 1 hv) (ma_cons (me_var 2 hv) ma_nil)))))) mb_nil)
    (mb_cons (ms_if (mt_cmp (o_eq hh) (me_var 0 hv) me_str (nomark _)) (mb_one (ms_set 3 nd hl (me_call d__client_of (hr.mono (by decide)) (gl_at hg 1) (ma_cons (me_var 1 hv) ma_nil)))) (mb_one (ms_set 3 nd hl (me_call d_number_of (hr.mono (by decide)) (gl_at hg 2) (ma_cons (me_var 1 hv) ma_nil)))))
    (mb_cons (ms_if (mt_cmp o_is (me_var 3 hv) me_non (nomark _)) (mb_one (ms_raise2 e_BadSchedule (hr.mono (by decide)) hc (gl_at hg 0) (ma_cons (me_var 2 hv) (ma_cons me_str ma_nil)) cl_BadSchedule)) mb_nil)
    (mb_one (ms_ret (me_var 3 hv))))))) rfl rfl
abbrev s__act_of : Stmt := (topS 42)
theorem sc__act_of : FnScope ["text", "line", "words", "kinds", "act", "kind", "word"] ["text", "line"] (defScope s__act_of) := ⟨rfl, rfl, rfl, by decide +kernel, rfl, by decide +kernel, by decide +kernel⟩
theorem va__act_of : locAll [0, 1, 2, 3, 4, 5, 6] ["text", "line", "words", "kinds", "act", "kind", "word"] (defScope s__act_of) = true := by decide +kernel
theorem ga__act_of : glAll ["tuple", "zip", "_item_of", "len", "BadSchedule", "ACTS"] (defScope s__act_of) = true := by decide +kernel
noncomputable def lb__act_of_0 : SM :=
  (mExpr (mBm .list fnAppend (mVar 4) (mCons (mCall V__item_of (mCons (mVar 5) (mCons (mVar 6) (mCons (mVar 1) mNil)))) mNil)))
noncomputable def m__act_of : SM :=
  (mSeq (mSet 2 (mBm .str (fnSplit false) (mVar 0) (mCons (mC (.str " ")) mNil)))
    (mSeq (mIfS (mTabIn true c_ACTS (mIx (mVar 2) (mC (.int 0)))) (mRaise2 22 0 1 (mCons (mVar 1) (mCons (mC (.str "verb")) mNil))) mSkip)
    (mSeq (mSet 3 (mTabGet c_ACTS (mIx (mVar 2) (mC (.int 0)))))
    (mSeq (mIfS (mAnd (mBl (mBin fNe (mVar 3) (mTup mNil))) (mBl (mBin fIn (mIx (mVar 3) (mUn fNeg (mC (.int 1)))) (mTup (mCons (mC (.str "operation")) (mCons (mC (.str "letter")) mNil)))))) (mSet 2 (mBm .str (fnSplitN false) (mVar 0) (mCons (mC (.str " ")) (mCons (mCall fnLen (mCons (mVar 3) mNil)) mNil)))) mSkip)
    (mSeq (mIfS (mBl (mBin fNe (mCall fnLen (mCons (mVar 2) mNil)) (mBin fAdd (mCall fnLen (mCons (mVar 3) mNil)) (mC (.int 1))))) (mRaise2 22 0 1 (mCons (mVar 1) (mCons (mC (.str "count")) mNil))) mSkip)
    (mSeq (mSet 4 (mLst true (mCons (mIx (mVar 2) (mC (.int 0))) mNil)))
    (mSeq (mFor (iZip (mCons (mVar 3) (mCons (mSl false (mVar 2) (oAt (mC (.int 1))) oNo) mNil))) (gTp 2 (gsCons (gNm 5) (gsCons (gNm 6) gsNil))) lb__act_of_0)
    (mRet (mCall fnTuple (mCons (mVar 4) mNil))))))))))
noncomputable def V__act_of : FM := den 7 m__act_of
theorem ok__act_of {f : Addr} {fd : FuncData} (F : Fun K "_act_of" "_act_of" s__act_of f fd)
    (n_tuple : mg "tuple" = none)
    (n_zip : mg "zip" = none)
    (d__item_of : DefOk P w K mg base nm 28 "_item_of" 3 V__item_of)
    (n_len : mg "len" = none)
    (e_BadSchedule : Exc2Ok P w K mg base nm 1 22 0 1)
    (t_ACTS : TC P w K mg "ACTS" c_ACTS) :
    FnOk P w K mg base (L2.CX P w) 29 f fd ["text", "line"] (spD nm K mg 2 V__act_of) :=
  den_ok2 (nms := nm) (m := m__act_of) F sc__act_of va__act_of ga__act_of (fun cdv A outer s H E hr nd hh hl hv hg hc hp => (mb_cons (ms_set 2 nd hl (me_bm (T := .str) PySem.F.plainAttrs_str PySem.F.slot_str_split PySem.F.type_str_split (t_split false) (me_var 0 hv) (ma_cons me_str ma_nil)))
    (mb_cons (ms_if (mt_tabinN hh t_ACTS (gl_at hg 5) (me_ix hh (me_var 2 hv) me_int)) (mb_one (ms_raise2 e_BadSchedule (hr.mono (by decide)) hc (gl_at hg 4) (ma_cons (me_var 1 hv) (ma_cons me_str ma_nil)) cl_BadSchedule)) mb_nil)
    (mb_cons (ms_set 3 nd hl (me_tabget hh t_ACTS (gl_at hg 5) (me_ix hh (me_var 2 hv) me_int)))
    (mb_cons (ms_if (MW.mt (mw_and (mt_cmp (o_ne hh) (me_var 3 hv) (me_tup ma_nil) (nomark _)) (mw_and1 (mt_cmp (o_in hh) (me_ix hh (me_var 3 hv) (me_neg me_int)) (me_tup (ma_cons me_str (ma_cons me_str ma_nil))) (by rfl))))) (mb_one (ms_set 2 nd hl (me_bm (T := .str) PySem.F.plainAttrs_str PySem.F.slot_str_split PySem.F.type_str_split (t_splitN false) (me_var 0 hv) (ma_cons me_str (ma_cons (me_callB c_len (gl_at hg 3) n_len bb_len (ma_cons (me_var 3 hv) ma_nil)) ma_nil))))) mb_nil)
    (mb_cons (ms_if (mt_cmp (o_ne hh) (me_callB c_len (gl_at hg 3) n_len bb_len (ma_cons (me_var 2 hv) ma_nil)) (me_bin o_add (me_callB c_len (gl_at hg 3) n_len bb_len (ma_cons (me_var 3 hv) ma_nil)) me_int) (nomark _)) (mb_one (ms_raise2 e_BadSchedule (hr.mono (by decide)) hc (gl_at hg 4) (ma_cons (me_var 1 hv) (ma_cons me_str ma_nil)) cl_BadSchedule)) mb_nil)
    (mb_cons (ms_set 4 nd hl (me_lst true (ma_cons (me_ix hh (me_var 2 hv) me_int) ma_nil)))
    (mb_cons (ms_for hp hc (mi_zip (gl_at hg 1) n_zip (ma_cons (me_var 3 hv) (ma_cons (me_sl false (me_var 2 hv) (mo_at me_int) mo_no) ma_nil))) (mg_tup hc 2 (mgs_cons (mg_name 5 nd hl) (mgs_cons (mg_name 6 nd hl) mgs_nil))) (gok_tp (gsok_cons (gok_nm 5) (gsok_cons (gok_nm 6) gsok_nil))) (mb_one (ms_expr (me_bm (T := .list) PySem.F.plainAttrs_list PySem.F.slot_list_append PySem.F.type_list_append t_append (me_var 4 hv) (ma_cons (me_call d__item_of (hr.mono (by decide)) (gl_at hg 2) (ma_cons (me_var 5 hv) (ma_cons (me_var 6 hv) (ma_cons (me_var 1 hv) ma_nil)))) ma_nil)))))
    (mb_one (ms_ret (me_callT c_tuple (gl_at hg 0) n_tuple bb_tuple (ma_cons (me_var 4 hv) ma_nil)))))))))))) rfl rfl
abbrev s__world_of : Stmt := (topS 43)
theorem sc__world_of : FnScope ["words", "line", "servers", "clients"] ["words", "line"] (defScope s__world_of) := ⟨rfl, rfl, rfl, by decide +kernel, rfl, by decide +kernel, by decide +kernel⟩
theorem va__world_of : locAll [0, 1, 2, 3] ["words", "line", "servers", "clients"] (defScope s__world_of) = true := by decide +kernel
theorem ga__world_of : glAll ["BadSchedule", "number_of", "len"] (defScope s__world_of) = true := by decide +kernel
noncomputable def m__world_of : SM :=
  (mSeq (mIfS (mBl (mBin fNe (mCall fnLen (mCons (mVar 0) mNil)) (mC (.int 3)))) (mRaise2 22 0 1 (mCons (mVar 1) (mCons (mC (.str "count")) mNil))) mSkip)
    (mSeq (mPar 2 3 (mCons (mCall V_number_of (mCons (mIx (mVar 0) (mC (.int 1))) mNil)) (mCons (mCall V_number_of (mCons (mIx (mVar 0) (mC (.int 2))) mNil)) mNil)))
    (mSeq (mIfS (mOr (mBl (mBin fIs (mVar 2) (mC .non))) (mBl (mBin fIs (mVar 3) (mC .non)))) (mRaise2 22 0 1 (mCons (mVar 1) (mCons (mC (.str "number")) mNil))) mSkip)
    (mRet (mTup (mCons (mVar 2) (mCons (mVar 3) mNil)))))))
noncomputable def V__world_of : FM := den 4 m__world_of
theorem ok__world_of {f : Addr} {fd : FuncData} (F : Fun K "_world_of" "_world_of" s__world_of f fd)
    (e_BadSchedule : Exc2Ok P w K mg base nm 1 22 0 1)
    (d_number_of : DefOk P w K mg base nm 1 "number_of" 1 V_number_of)
    (n_len : mg "len" = none) :
    FnOk P w K mg base (L2.CX P w) 3 f fd ["words", "line"] (spD nm K mg 2 V__world_of) :=
  den_ok2 (nms := nm) (m := m__world_of) F sc__world_of va__world_of ga__world_of (fun cdv A outer s H E hr nd hh hl hv hg hc hp => (mb_cons (ms_if (mt_cmp (o_ne hh) (me_callB c_len (gl_at hg 2) n_len bb_len (ma_cons (me_var 0 hv) ma_nil)) me_int (nomark _)) (mb_one (ms_raise2 e_BadSchedule (hr.mono (by decide)) hc (gl_at hg 0) (ma_cons (me_var 1 hv) (ma_cons me_str ma_nil)) cl_BadSchedule)) mb_nil)
    (mb_cons (ms_par 2 3 hc nd (ma_cons (me_call d_number_of (hr.mono (by decide)) (gl_at hg 1) (ma_cons (me_ix hh (me_var 0 hv) me_int) ma_nil)) (ma_cons (me_call d_number_of (hr.mono (by decide)) (gl_at hg 1) (ma_cons (me_ix hh (me_var 0 hv) me_int) ma_nil)) ma_nil)))
    (mb_cons (ms_if (MW.mt (mw_or (mt_cmp o_is (me_var 2 hv) me_non (nomark _)) (mw_or1 (mt_cmp o_is (me_var 3 hv) me_non (nomark _))))) (mb_one (ms_raise2 e_BadSchedule (hr.mono (by decide)) hc (gl_at hg 0) (ma_cons (me_var 1 hv) (ma_cons me_str ma_nil)) cl_BadSchedule)) mb_nil)
    (mb_one (ms_ret (me_tup (ma_cons (me_var 2 hv) (ma_cons (me_var 3 hv) ma_nil))))))))) rfl rfl
abbrev s_parse_schedule : Stmt := (topS 44)
theorem sc_parse_schedule : FnScope ["text", "found", "acts", "index", "row", "line", "words", "servers", "clients"] ["text"] (defScope s_parse_schedule) := ⟨rfl, rfl, rfl, by decide +kernel, rfl, by decide +kernel, by decide +kernel⟩
theorem va_parse_schedule : locAll [0, 1, 2, 3, 4, 5, 6, 7, 8] ["text", "found", "acts", "index", "row", "line", "words", "servers", "clients"] (defScope s_parse_schedule) = true := by decide +kernel
theorem ga_parse_schedule : glAll ["BadSchedule", "enumerate", "_world_of", "_act_of", "is_printable"] (defScope s_parse_schedule) = true := by decide +kernel
noncomputable def lb_parse_schedule_0 : SM :=
  (mSeq (mSet 5 (mBin fAdd (mVar 3) (mC (.int 1))))
    (mSeq (mIfS (mNot (mBl (mCall V_is_printable (mCons (mVar 4) mNil)))) (mRaise2 22 0 1 (mCons (mVar 5) (mCons (mC (.str "character")) mNil))) mSkip)
    (mSeq (mIfS (mOr (mBl (mBin fEq (mVar 4) (mC (.str "")))) (mBl (mBm .str fnStartswith (mVar 4) (mCons (mC (.str "#")) mNil)))) mCnt mSkip)
    (mSeq (mSet 6 (mBm .str (fnSplit false) (mVar 4) (mCons (mC (.str " ")) mNil)))
    (mSeq (mIfS (mBl (mBin fEq (mBin fEq (mIx (mVar 6) (mC (.int 0))) (mC (.str "world"))) (mBin fIsNot (mVar 1) (mC .non)))) (mRaise2 22 0 1 (mCons (mVar 5) (mCons (mC (.str "world")) mNil))) mSkip)
    (mIfS (mBl (mBin fIs (mVar 1) (mC .non))) (mSeq (mAsg (mCall V__world_of (mCons (mVar 6) (mCons (mVar 5) mNil))) (gTp 2 (gsCons (gNm 7) (gsCons (gNm 8) gsNil))))
    (mSet 1 (mTup (mCons (mVar 5) (mCons (mVar 7) (mCons (mVar 8) mNil)))))) (mExpr (mBm .list fnAppend (mVar 2) (mCons (mTup (mCons (mVar 5) (mCons (mCall V__act_of (mCons (mVar 4) (mCons (mVar 5) mNil))) mNil))) mNil)))))))))
noncomputable def m_parse_schedule : SM :=
  (mSeq (mSet 1 (mC .non))
    (mSeq (mSet 2 (mLst true mNil))
    (mSeq (mFor (iEnum (mCons (mBm .str (fnSplit false) (mVar 0) (mCons (mC (.str "\n")) mNil)) mNil)) (gTp 2 (gsCons (gNm 3) (gsCons (gNm 4) gsNil))) lb_parse_schedule_0)
    (mSeq (mIfS (mBl (mBin fIs (mVar 1) (mC .non))) (mRaise2 22 0 1 (mCons (mC (.int 0)) (mCons (mC (.str "world")) mNil))) mSkip)
    (mRet (mTup (mCons (mIx (mVar 1) (mC (.int 0))) (mCons (mIx (mVar 1) (mC (.int 1))) (mCons (mIx (mVar 1) (mC (.int 2))) (mCons (mVar 2) mNil))))))))))
noncomputable def V_parse_schedule : FM := den 9 m_parse_schedule
theorem ok_parse_schedule {f : Addr} {fd : FuncData} (F : Fun K "parse_schedule" "parse_schedule" s_parse_schedule f fd)
    (e_BadSchedule : Exc2Ok P w K mg base nm 1 22 0 1)
    (n_enumerate : mg "enumerate" = none)
    (d__world_of : DefOk P w K mg base nm 3 "_world_of" 2 V__world_of)
    (d__act_of : DefOk P w K mg base nm 29 "_act_of" 2 V__act_of)
    (d_is_printable : DefOk P w K mg base nm 1 "is_printable" 1 V_is_printable) :
    FnOk P w K mg base (L2.CX P w) 30 f fd ["text"] (spD nm K mg 1 V_parse_schedule) :=
  den_ok2 (nms := nm) (m := m_parse_schedule) F sc_parse_schedule va_parse_schedule ga_parse_schedule (fun cdv A outer s H E hr nd hh hl hv hg hc hp => (mb_cons (ms_set 1 nd hl me_non)
    (mb_cons (ms_set 2 nd hl (me_lst true ma_nil))
    (mb_cons (ms_for hp hc (mi_enum (gl_at hg 1) n_enumerate (ma_cons (me_bm (T := .str) PySem.F.plainAttrs_str PySem.F.slot_str_split PySem.F.type_str_split (t_split false) (me_var 0 hv) (ma_cons me_str ma_nil)) ma_nil)) (mg_tup hc 2 (mgs_cons (mg_name 3 nd hl) (mgs_cons (mg_name 4 nd hl) mgs_nil))) (gok_tp (gsok_cons (gok_nm 3) (gsok_cons (gok_nm 4) gsok_nil))) (mb_cons (ms_set 5 nd hl (me_bin o_add (me_var 3 hv) me_int))
    (mb_cons (ms_if (mt_not (mt_val (me_call d_is_printable (hr.mono (by decide)) (gl_at hg 4) (ma_cons (me_var 4 hv) ma_nil)))) (mb_one (ms_raise2 e_BadSchedule (hr.mono (by decide)) hc (gl_at hg 0) (ma_cons (me_var 5 hv) (ma_cons me_str ma_nil)) cl_BadSchedule)) mb_nil)
    (mb_cons (ms_if (MW.mt (mw_or (mt_cmp (o_eq hh) (me_var 4 hv) me_str (nomark _)) (mw_or1 (mt_val (me_bm (T := .str) PySem.F.plainAttrs_str PySem.F.slot_str_startswith PySem.F.type_str_startswith t_startswith (me_var 4 hv) (ma_cons me_str ma_nil)))))) (mb_one ms_cnt) mb_nil)
    (mb_cons (ms_set 6 nd hl (me_bm (T := .str) PySem.F.plainAttrs_str PySem.F.slot_str_split PySem.F.type_str_split (t_split false) (me_var 4 hv) (ma_cons me_str ma_nil)))
    (mb_cons (ms_if (mt_cmp (o_eq hh) (me_cmp (o_eq hh) (me_ix hh (me_var 6 hv) me_int) me_str (nomark _)) (me_cmp o_isnot (me_var 1 hv) me_non (nomark _)) (nomark _)) (mb_one (ms_raise2 e_BadSchedule (hr.mono (by decide)) hc (gl_at hg 0) (ma_cons (me_var 5 hv) (ma_cons me_str ma_nil)) cl_BadSchedule)) mb_nil)
    (mb_one (ms_if (mt_cmp o_is (me_var 1 hv) me_non (nomark _)) (mb_cons (ms_asg (me_call d__world_of (hr.mono (by decide)) (gl_at hg 2) (ma_cons (me_var 6 hv) (ma_cons (me_var 5 hv) ma_nil))) (mg_tup hc 2 (mgs_cons (mg_name 7 nd hl) (mgs_cons (mg_name 8 nd hl) mgs_nil))) (gok_tp (gsok_cons (gok_nm 7) (gsok_cons (gok_nm 8) gsok_nil))))
    (mb_one (ms_set 1 nd hl (me_tup (ma_cons (me_var 5 hv) (ma_cons (me_var 7 hv) (ma_cons (me_var 8 hv) ma_nil))))))) (mb_one (ms_expr (me_bm (T := .list) PySem.F.plainAttrs_list PySem.F.slot_list_append PySem.F.type_list_append t_append (me_var 2 hv) (ma_cons (me_tup (ma_cons (me_var 5 hv) (ma_cons (me_call d__act_of (hr.mono (by decide)) (gl_at hg 3) (ma_cons (me_var 4 hv) (ma_cons (me_var 5 hv) ma_nil))) ma_nil))) ma_nil))))))))))))
    (mb_cons (ms_if (mt_cmp o_is (me_var 1 hv) me_non (nomark _)) (mb_one (ms_raise2 e_BadSchedule (hr.mono (by decide)) hc (gl_at hg 0) (ma_cons me_int (ma_cons me_str ma_nil)) cl_BadSchedule)) mb_nil)
    (mb_one (ms_ret (me_tup (ma_cons (me_ix hh (me_var 1 hv) me_int) (ma_cons (me_ix hh (me_var 1 hv) me_int) (ma_cons (me_ix hh (me_var 1 hv) me_int) (ma_cons (me_var 2 hv) ma_nil)))))))))))) rfl rfl
abbrev s__line_of : Stmt := (topS 45)
theorem sc__line_of : FnScope ["act", "words", "kind", "item"] ["act"] (defScope s__line_of) := ⟨rfl, rfl, rfl, by decide +kernel, rfl, by decide +kernel, by decide +kernel⟩
theorem va__line_of : locAll [0, 1, 2, 3] ["act", "words", "kind", "item"] (defScope s__line_of) = true := by decide +kernel
theorem ga__line_of : glAll ["ACTS", "zip", "encode", "str"] (defScope s__line_of) = true := by decide +kernel
noncomputable def lb__line_of_0 : SM :=
  (mIfS (mBl (mBin fIn (mVar 2) (mTup (mCons (mC (.str "operation")) (mCons (mC (.str "letter")) mNil))))) (mExpr (mBm .list fnAppend (mVar 1) (mCons (mCall V_encode (mCons (mVar 3) mNil)) mNil))) (mExpr (mBm .list fnAppend (mVar 1) (mCons (mCall fnStr (mCons (mVar 3) mNil)) mNil))))
noncomputable def m__line_of : SM :=
  (mSeq (mSet 1 (mLst true (mCons (mIx (mVar 0) (mC (.int 0))) mNil)))
    (mSeq (mFor (iZip (mCons (mTabGet c_ACTS (mIx (mVar 0) (mC (.int 0)))) (mCons (mSl false (mVar 0) (oAt (mC (.int 1))) oNo) mNil))) (gTp 2 (gsCons (gNm 2) (gsCons (gNm 3) gsNil))) lb__line_of_0)
    (mRet (mBm .str fnJoin (mC (.str " ")) (mCons (mVar 1) mNil)))))
noncomputable def V__line_of : FM := den 4 m__line_of
theorem ok__line_of {f : Addr} {fd : FuncData} (F : Fun K "_line_of" "_line_of" s__line_of f fd)
    (n_zip : mg "zip" = none)
    (t_ACTS : TC P w K mg "ACTS" c_ACTS)
    (d_encode : DefOk P w K mg base nm 18 "encode" 1 V_encode)
    (n_str : mg "str" = none) :
    FnOk P w K mg base (L2.CX P w) 19 f fd ["act"] (spD nm K mg 1 V__line_of) :=
  den_ok2 (nms := nm) (m := m__line_of) F sc__line_of va__line_of ga__line_of (fun cdv A outer s H E hr nd hh hl hv hg hc hp => (mb_cons (ms_set 1 nd hl (me_lst true (ma_cons (me_ix hh (me_var 0 hv) me_int) ma_nil)))
    (mb_cons (ms_for hp hc (mi_zip (gl_at hg 1) n_zip (ma_cons (me_tabget hh t_ACTS (gl_at hg 0) (me_ix hh (me_var 0 hv) me_int)) (ma_cons (me_sl false (me_var 0 hv) (mo_at me_int) mo_no) ma_nil))) (mg_tup hc 2 (mgs_cons (mg_name 2 nd hl) (mgs_cons (mg_name 3 nd hl) mgs_nil))) (gok_tp (gsok_cons (gok_nm 2) (gsok_cons (gok_nm 3) gsok_nil))) (mb_one (ms_if (mt_cmp (o_in hh) (me_var 2 hv) (me_tup (ma_cons me_str (ma_cons me_str ma_nil))) (by rfl)) (mb_one (ms_expr (me_bm (T := .list) PySem.F.plainAttrs_list PySem.F.slot_list_append PySem.F.type_list_append t_append (me_var 1 hv) (ma_cons (me_call d_encode (hr.mono (by decide)) (gl_at hg 2) (ma_cons (me_var 3 hv) ma_nil)) ma_nil)))) (mb_one (ms_expr (me_bm (T := .list) PySem.F.plainAttrs_list PySem.F.slot_list_append PySem.F.type_list_append t_append (me_var 1 hv) (ma_cons (me_callT c_str (gl_at hg 3) n_str bb_str (ma_cons (me_var 3 hv) ma_nil)) ma_nil)))))))
    (mb_one (ms_ret (me_bm (T := .str) PySem.F.plainAttrs_str PySem.F.slot_str_join PySem.F.type_str_join t_join me_str (ma_cons (me_var 1 hv) ma_nil))))))) rfl rfl
abbrev s_act_line : Stmt := (topS 46)
theorem sc_act_line : FnScope ["act", "line", "fits"] ["act"] (defScope s_act_line) := ⟨rfl, rfl, rfl, by decide +kernel, rfl, by decide +kernel, by decide +kernel⟩
theorem va_act_line : locAll [0, 1, 2] ["act", "line", "fits"] (defScope s_act_line) = true := by decide +kernel
theorem ga_act_line : glAll ["BadSchedule", "_act_of", "_line_of", "check_act"] (defScope s_act_line) = true := by decide +kernel
noncomputable def m_act_line : SM :=
  (mSeq (mTryQ (mSeq (mExpr (mCall V_check_act (mCons (mVar 0) mNil)))
    (mSeq (mSet 1 (mCall V__line_of (mCons (mVar 0) mNil)))
    (mSet 2 (mBin fEq (mCall V__act_of (mCons (mVar 1) (mCons (mC (.int 0)) mNil))) (mVar 0))))))
    (mSeq (mIfS (mNot (mTru (mVar 2))) (mRaise2 22 0 1 (mCons (mC (.int 0)) (mCons (mC (.str "act")) mNil))) mSkip)
    (mRet (mVar 1))))
noncomputable def V_act_line : FM := den 3 m_act_line
theorem ok_act_line {f : Addr} {fd : FuncData} (F : Fun K "act_line" "act_line" s_act_line f fd)
    (e_BadSchedule : Exc2Ok P w K mg base nm 1 22 0 1)
    (d__act_of : DefOk P w K mg base nm 29 "_act_of" 2 V__act_of)
    (d__line_of : DefOk P w K mg base nm 19 "_line_of" 1 V__line_of)
    (d_check_act : DefOk P w K mg base nm 3 "check_act" 1 V_check_act) :
    FnOk P w K mg base (L2.CX P w) 30 f fd ["act"] (spD nm K mg 1 V_act_line) :=
  den_ok2 (nms := nm) (m := m_act_line) F sc_act_line va_act_line ga_act_line (fun cdv A outer s H E hr nd hh hl hv hg hc hp => (mb_cons (ms_tryQ (fun pn xe hp => (mb_cons (ms_expr (me_call d_check_act (hr.mono (by decide)) (glT (gl_at hg 3)) (ma_cons (me_var 0 hv) ma_nil)))
    (mb_cons (ms_set 1 nd hl (me_call d__line_of (hr.mono (by decide)) (glT (gl_at hg 2)) (ma_cons (me_var 0 hv) ma_nil)))
    (mb_one (ms_set 2 nd hl (me_cmp (o_eq hh) (me_call d__act_of (hr.mono (by decide)) (glT (gl_at hg 1)) (ma_cons (me_var 1 hv) (ma_cons me_int ma_nil))) (me_var 0 hv) (nomark _))))))))
    (mb_cons (ms_if (mt_not (mt_tru (me_var 2 hv))) (mb_one (ms_raise2 e_BadSchedule (hr.mono (by decide)) hc (gl_at hg 0) (ma_cons me_int (ma_cons me_str ma_nil)) cl_BadSchedule)) mb_nil)
    (mb_one (ms_ret (me_var 1 hv)))))) rfl rfl
abbrev s__law_cell : Stmt := (topS 48)
theorem sc__law_cell : FnScope ["_law_script", "_law_k"] ["_law_script", "_law_k"] (defScope s__law_cell) := ⟨rfl, rfl, rfl, by decide +kernel, rfl, by decide +kernel, by decide +kernel⟩
theorem va__law_cell : locAll [0, 1] ["_law_script", "_law_k"] (defScope s__law_cell) = true := by decide +kernel
theorem ga__law_cell : glAll ["len", "int"] (defScope s__law_cell) = true := by decide +kernel
noncomputable def m__law_cell : SM :=
  (mSeq (mIfS (mBl (mBin fLt (mVar 1) (mCall fnLen (mCons (mVar 0) mNil)))) (mRet (mCall fnInt (mCons (mIx (mVar 0) (mVar 1)) mNil))) mSkip)
    (mRet (mC (.int 0))))
noncomputable def V__law_cell : FM := den 2 m__law_cell
theorem ok__law_cell {f : Addr} {fd : FuncData} (F : Fun K "_law_cell" "_law_cell" s__law_cell f fd)
    (n_len : mg "len" = none)
    (n_int : mg "int" = none) :
    FnOk P w K mg base (L2.CX P w) 1 f fd ["_law_script", "_law_k"] (spD nm K mg 2 V__law_cell) :=
  den_ok2 (nms := nm) (m := m__law_cell) F sc__law_cell va__law_cell ga__law_cell (fun cdv A outer s H E hr nd hh hl hv hg hc hp => (mb_cons (ms_if (mt_cmp o_lt (me_var 1 hv) (me_callB c_len (gl_at hg 0) n_len bb_len (ma_cons (me_var 0 hv) ma_nil)) (nomark _)) (mb_one (ms_ret (me_callT c_int (gl_at hg 1) n_int bb_int (ma_cons (me_ix hh (me_var 0 hv) (me_var 1 hv)) ma_nil)))) mb_nil)
    (mb_one (ms_ret me_int)))) rfl rfl
abbrev s__law_rich : Stmt := (topS 49)
theorem sc__law_rich : FnScope ["_law_cell_here", "_law_k", "_law_mixed"] ["_law_cell_here", "_law_k"] (defScope s__law_rich) := ⟨rfl, rfl, rfl, by decide +kernel, rfl, by decide +kernel, by decide +kernel⟩
theorem va__law_rich : locAll [0, 1, 2] ["_law_cell_here", "_law_k", "_law_mixed"] (defScope s__law_rich) = true := by decide +kernel
theorem ga__law_rich : glAll ["int"] (defScope s__law_rich) = true := by decide +kernel
noncomputable def m__law_rich : SM :=
  (mSeq (mIfS (mBl (mBin fGe (mVar 0) (mBin fPow (mC (.int 10)) (mC (.int 18))))) (mRet (mCall fnInt (mCons (mVar 0) mNil))) mSkip)
    (mSeq (mSet 2 (mBin fMod (mCall fnInt (mCons (mBin fAdd (mBin fAdd (mBin fMul (mVar 0) (mC (.int 48271))) (mBin fMul (mVar 1) (mC (.int 69621)))) (mC (.int 11))) mNil)) (mC (.int 2147483647))))
    (mRet (mBin fAdd (mBin fMul (mVar 2) (mC (.int 2147483629))) (mBin fMod (mCall fnInt (mCons (mBin fAdd (mBin fMul (mVar 2) (mC (.int 16807))) (mVar 0)) mNil)) (mC (.int 2147483629)))))))
noncomputable def V__law_rich : FM := den 3 m__law_rich
theorem ok__law_rich {f : Addr} {fd : FuncData} (F : Fun K "_law_rich" "_law_rich" s__law_rich f fd)
    (n_int : mg "int" = none) :
    FnOk P w K mg base (L2.CX P w) 1 f fd ["_law_cell_here", "_law_k"] (spD nm K mg 2 V__law_rich) :=
  den_ok2 (nms := nm) (m := m__law_rich) F sc__law_rich va__law_rich ga__law_rich (fun cdv A outer s H E hr nd hh hl hv hg hc hp => (mb_cons (ms_if (mt_cmp o_ge (me_var 0 hv) (me_bin o_pow me_int me_int) (nomark _)) (mb_one (ms_ret (me_callT c_int (gl_at hg 0) n_int bb_int (ma_cons (me_var 0 hv) ma_nil)))) mb_nil)
    (mb_cons (ms_set 2 nd hl (me_bin o_mod (me_callT c_int (gl_at hg 0) n_int bb_int (ma_cons (me_bin o_add (me_bin o_add (me_bin o_mul (me_var 0 hv) me_int) (me_bin o_mul (me_var 1 hv) me_int)) me_int) ma_nil)) me_int))
    (mb_one (ms_ret (me_bin o_add (me_bin o_mul (me_var 2 hv) me_int) (me_bin o_mod (me_callT c_int (gl_at hg 0) n_int bb_int (ma_cons (me_bin o_add (me_bin o_mul (me_var 2 hv) me_int) (me_var 0 hv)) ma_nil)) me_int))))))) rfl rfl
abbrev s__law_word : Stmt := (topS 50)
theorem sc__law_word : FnScope ["_law_size", "_law_chars", "_law_seed", "_law_word_here", "_law_rest", "_law_k"] ["_law_size", "_law_chars", "_law_seed"] (defScope s__law_word) := ⟨rfl, rfl, rfl, by decide +kernel, rfl, by decide +kernel, by decide +kernel⟩
theorem va__law_word : locAll [0, 1, 2, 3, 4, 5] ["_law_size", "_law_chars", "_law_seed", "_law_word_here", "_law_rest", "_law_k"] (defScope s__law_word) = true := by decide +kernel
theorem ga__law_word : glAll ["range", "len", "int"] (defScope s__law_word) = true := by decide +kernel
noncomputable def lb__law_word_0 : SM :=
  (mSeq (mSet 3 (mBin fAdd (mVar 3) (mIx (mVar 1) (mBin fMod (mCall fnInt (mCons (mVar 4) mNil)) (mCall fnLen (mCons (mVar 1) mNil))))))
    (mSet 4 (mBin fDiv (mVar 4) (mCall fnLen (mCons (mVar 1) mNil)))))
noncomputable def m__law_word : SM :=
  (mSeq (mSet 3 (mC (.str "")))
    (mSeq (mSet 4 (mCall fnInt (mCons (mVar 2) mNil)))
    (mSeq (mFor (iRng (mCons (mVar 0) mNil)) (gNm 5) lb__law_word_0)
    (mRet (mVar 3)))))
noncomputable def V__law_word : FM := den 6 m__law_word
theorem ok__law_word {f : Addr} {fd : FuncData} (F : Fun K "_law_word" "_law_word" s__law_word f fd)
    (n_range : mg "range" = none)
    (n_len : mg "len" = none)
    (n_int : mg "int" = none) :
    FnOk P w K mg base (L2.CX P w) 1 f fd ["_law_size", "_law_chars", "_law_seed"] (spD nm K mg 3 V__law_word) :=
  den_ok2 (nms := nm) (m := m__law_word) F sc__law_word va__law_word ga__law_word (fun cdv A outer s H E hr nd hh hl hv hg hc hp => (mb_cons (ms_set 3 nd hl me_str)
    (mb_cons (ms_set 4 nd hl (me_callT c_int (gl_at hg 2) n_int bb_int (ma_cons (me_var 2 hv) ma_nil)))
    (mb_cons (ms_for hp hc (mi_range1 (gl_at hg 0) n_range (ma_cons (me_var 0 hv) ma_nil)) (mg_name 5 nd hl) (gok_nm 5) (mb_cons (ms_set 3 nd hl (me_bin o_add (me_var 3 hv) (me_ix hh (me_var 1 hv) (me_bin o_mod (me_callT c_int (gl_at hg 2) n_int bb_int (ma_cons (me_var 4 hv) ma_nil)) (me_callB c_len (gl_at hg 1) n_len bb_len (ma_cons (me_var 1 hv) ma_nil))))))
    (mb_one (ms_set 4 nd hl (me_bin o_div (me_var 4 hv) (me_callB c_len (gl_at hg 1) n_len bb_len (ma_cons (me_var 1 hv) ma_nil)))))))
    (mb_one (ms_ret (me_var 3 hv))))))) rfl rfl
abbrev s__law_key : Stmt := (topS 51)
theorem sc__law_key : FnScope ["_law_rich_here"] ["_law_rich_here"] (defScope s__law_key) := ⟨rfl, rfl, rfl, by decide +kernel, rfl, by decide +kernel, by decide +kernel⟩
theorem va__law_key : locAll [0] ["_law_rich_here"] (defScope s__law_key) = true := by decide +kernel
theorem ga__law_key : glAll ["_law_word", "int"] (defScope s__law_key) = true := by decide +kernel
noncomputable def m__law_key : SM :=
  (mSeq (mIfS (mBl (mBin fLt (mBin fMod (mCall fnInt (mCons (mVar 0) mNil)) (mC (.int 4))) (mC (.int 3)))) (mRet (mIx (mLst false (mCons (mC (.str "a")) (mCons (mC (.str "b")) (mCons (mC (.str "c")) (mCons (mC (.str "d")) (mCons (mC (.str "k")) (mCons (mC (.str "m")) (mCons (mC (.str "kk")) (mCons (mC (.str "z")) mNil))))))))) (mBin fMod (mBin fDiv (mVar 0) (mC (.int 4))) (mC (.int 8))))) mSkip)
    (mRet (mCall V__law_word (mCons (mBin fAdd (mC (.int 1)) (mBin fMod (mBin fDiv (mVar 0) (mC (.int 4))) (mC (.int 8)))) (mCons (mC (.str "abcdefghijklmnopqrstuvwxyz")) (mCons (mBin fDiv (mVar 0) (mC (.int 32))) mNil))))))
noncomputable def V__law_key : FM := den 1 m__law_key
theorem ok__law_key {f : Addr} {fd : FuncData} (F : Fun K "_law_key" "_law_key" s__law_key f fd)
    (d__law_word : DefOk P w K mg base nm 1 "_law_word" 3 V__law_word)
    (n_int : mg "int" = none) :
    FnOk P w K mg base (L2.CX P w) 2 f fd ["_law_rich_here"] (spD nm K mg 1 V__law_key) :=
  den_ok2 (nms := nm) (m := m__law_key) F sc__law_key va__law_key ga__law_key (fun cdv A outer s H E hr nd hh hl hv hg hc hp => (mb_cons (ms_if (mt_cmp o_lt (me_bin o_mod (me_callT c_int (gl_at hg 1) n_int bb_int (ma_cons (me_var 0 hv) ma_nil)) me_int) me_int (nomark _)) (mb_one (ms_ret (me_ix hh (me_lst false (ma_cons me_str (ma_cons me_str (ma_cons me_str (ma_cons me_str (ma_cons me_str (ma_cons me_str (ma_cons me_str (ma_cons me_str ma_nil))))))))) (me_bin o_mod (me_bin o_div (me_var 0 hv) me_int) me_int)))) mb_nil)
    (mb_one (ms_ret (me_call d__law_word (hr.mono (by decide)) (gl_at hg 0) (ma_cons (me_bin o_add me_int (me_bin o_mod (me_bin o_div (me_var 0 hv) me_int) me_int)) (ma_cons me_str (ma_cons (me_bin o_div (me_var 0 hv) me_int) ma_nil)))))))) rfl rfl
abbrev s__law_bound : Stmt := (topS 52)
theorem sc__law_bound : FnScope ["_law_rich_here"] ["_law_rich_here"] (defScope s__law_bound) := ⟨rfl, rfl, rfl, by decide +kernel, rfl, by decide +kernel, by decide +kernel⟩
theorem va__law_bound : locAll [0] ["_law_rich_here"] (defScope s__law_bound) = true := by decide +kernel
theorem ga__law_bound : glAll ["_law_key", "int"] (defScope s__law_bound) = true := by decide +kernel
noncomputable def m__law_bound : SM :=
  (mSeq (mIfS (mBl (mBin fEq (mBin fMod (mCall fnInt (mCons (mVar 0) mNil)) (mC (.int 6))) (mC (.int 5)))) (mRet (mC (.str ""))) mSkip)
    (mRet (mCall V__law_key (mCons (mBin fDiv (mVar 0) (mC (.int 6))) mNil))))
noncomputable def V__law_bound : FM := den 1 m__law_bound
theorem ok__law_bound {f : Addr} {fd : FuncData} (F : Fun K "_law_bound" "_law_bound" s__law_bound f fd)
    (d__law_key : DefOk P w K mg base nm 2 "_law_key" 1 V__law_key)
    (n_int : mg "int" = none) :
    FnOk P w K mg base (L2.CX P w) 3 f fd ["_law_rich_here"] (spD nm K mg 1 V__law_bound) :=
  den_ok2 (nms := nm) (m := m__law_bound) F sc__law_bound va__law_bound ga__law_bound (fun cdv A outer s H E hr nd hh hl hv hg hc hp => (mb_cons (ms_if (mt_cmp (o_eq hh) (me_bin o_mod (me_callT c_int (gl_at hg 1) n_int bb_int (ma_cons (me_var 0 hv) ma_nil)) me_int) me_int (nomark _)) (mb_one (ms_ret me_str)) mb_nil)
    (mb_one (ms_ret (me_call d__law_key (hr.mono (by decide)) (gl_at hg 0) (ma_cons (me_bin o_div (me_var 0 hv) me_int) ma_nil)))))) rfl rfl
abbrev s__law_value : Stmt := (topS 53)
theorem sc__law_value : FnScope ["_law_rich_here", "_law_chars"] ["_law_rich_here"] (defScope s__law_value) := ⟨rfl, rfl, rfl, by decide +kernel, rfl, by decide +kernel, by decide +kernel⟩
theorem va__law_value : locAll [0, 1] ["_law_rich_here", "_law_chars"] (defScope s__law_value) = true := by decide +kernel
theorem ga__law_value : glAll ["_law_word", "int"] (defScope s__law_value) = true := by decide +kernel
noncomputable def m__law_value : SM :=
  (mSeq (mIfS (mBl (mBin fLt (mBin fMod (mCall fnInt (mCons (mVar 0) mNil)) (mC (.int 4))) (mC (.int 3)))) (mRet (mIx (mLst false (mCons (mC (.str "x")) (mCons (mC (.str "y")) (mCons (mC (.str "")) mNil)))) (mBin fMod (mBin fDiv (mVar 0) (mC (.int 4))) (mC (.int 3))))) mSkip)
    (mSeq (mSet 1 (mC (.str " !\"#$&'()*+,-./0123456789:;<=>?@ABCDEFGHIJKLMNOPQRSTUVWXYZ[\\]^_`abcdefghijklmnopqrstuvwxyz{|}~")))
    (mRet (mCall V__law_word (mCons (mBin fMod (mBin fDiv (mVar 0) (mC (.int 4))) (mC (.int 41))) (mCons (mVar 1) (mCons (mBin fDiv (mVar 0) (mC (.int 164))) mNil)))))))
noncomputable def V__law_value : FM := den 2 m__law_value
theorem ok__law_value {f : Addr} {fd : FuncData} (F : Fun K "_law_value" "_law_value" s__law_value f fd)
    (d__law_word : DefOk P w K mg base nm 1 "_law_word" 3 V__law_word)
    (n_int : mg "int" = none) :
    FnOk P w K mg base (L2.CX P w) 2 f fd ["_law_rich_here"] (spD nm K mg 1 V__law_value) :=
  den_ok2 (nms := nm) (m := m__law_value) F sc__law_value va__law_value ga__law_value (fun cdv A outer s H E hr nd hh hl hv hg hc hp => (mb_cons (ms_if (mt_cmp o_lt (me_bin o_mod (me_callT c_int (gl_at hg 1) n_int bb_int (ma_cons (me_var 0 hv) ma_nil)) me_int) me_int (nomark _)) (mb_one (ms_ret (me_ix hh (me_lst false (ma_cons me_str (ma_cons me_str (ma_cons me_str ma_nil)))) (me_bin o_mod (me_bin o_div (me_var 0 hv) me_int) me_int)))) mb_nil)
    (mb_cons (ms_set 1 nd hl me_str)
    (mb_one (ms_ret (me_call d__law_word (hr.mono (by decide)) (gl_at hg 0) (ma_cons (me_bin o_mod (me_bin o_div (me_var 0 hv) me_int) me_int) (ma_cons (me_var 1 hv) (ma_cons (me_bin o_div (me_var 0 hv) me_int) ma_nil))))))))) rfl rfl
abbrev s__law_range : Stmt := (topS 54)
theorem sc__law_range : FnScope ["_law_rich_here", "_law_one", "_law_other"] ["_law_rich_here"] (defScope s__law_range) := ⟨rfl, rfl, rfl, by decide +kernel, rfl, by decide +kernel, by decide +kernel⟩
theorem va__law_range : locAll [0, 1, 2] ["_law_rich_here", "_law_one", "_law_other"] (defScope s__law_range) = true := by decide +kernel
theorem ga__law_range : glAll ["max", "min", "_law_bound"] (defScope s__law_range) = true := by decide +kernel
noncomputable def m__law_range : SM :=
  (mSeq (mSet 1 (mCall V__law_bound (mCons (mVar 0) mNil)))
    (mSeq (mSet 2 (mCall V__law_bound (mCons (mBin fDiv (mVar 0) (mC (.int 1000))) mNil)))
    (mSeq (mIfS (mOr (mBl (mBin fEq (mVar 1) (mVar 2))) (mBl (mBin fEq (mBin fMod (mBin fDiv (mVar 0) (mC (.int 7))) (mC (.int 5))) (mC (.int 0))))) (mRet (mTup (mCons (mVar 1) (mCons (mC .non) mNil)))) mSkip)
    (mRet (mTup (mCons (mCall fnMin2 (mCons (mVar 1) (mCons (mVar 2) mNil))) (mCons (mCall fnMax2 (mCons (mVar 1) (mCons (mVar 2) mNil))) mNil)))))))
noncomputable def V__law_range : FM := den 3 m__law_range
theorem ok__law_range {f : Addr} {fd : FuncData} (F : Fun K "_law_range" "_law_range" s__law_range f fd)
    (n_max : mg "max" = none)
    (n_min : mg "min" = none)
    (d__law_bound : DefOk P w K mg base nm 3 "_law_bound" 1 V__law_bound) :
    FnOk P w K mg base (L2.CX P w) 4 f fd ["_law_rich_here"] (spD nm K mg 1 V__law_range) :=
  den_ok2 (nms := nm) (m := m__law_range) F sc__law_range va__law_range ga__law_range (fun cdv A outer s H E hr nd hh hl hv hg hc hp => (mb_cons (ms_set 1 nd hl (me_call d__law_bound (hr.mono (by decide)) (gl_at hg 2) (ma_cons (me_var 0 hv) ma_nil)))
    (mb_cons (ms_set 2 nd hl (me_call d__law_bound (hr.mono (by decide)) (gl_at hg 2) (ma_cons (me_bin o_div (me_var 0 hv) me_int) ma_nil)))
    (mb_cons (ms_if (MW.mt (mw_or (mt_cmp (o_eq hh) (me_var 1 hv) (me_var 2 hv) (nomark _)) (mw_or1 (mt_cmp (o_eq hh) (me_bin o_mod (me_bin o_div (me_var 0 hv) me_int) me_int) me_int (nomark _))))) (mb_one (ms_ret (me_tup (ma_cons (me_var 1 hv) (ma_cons me_non ma_nil))))) mb_nil)
    (mb_one (ms_ret (me_tup (ma_cons (me_callB (c_min2 hc) (gl_at hg 1) n_min bb_min (ma_cons (me_var 1 hv) (ma_cons (me_var 2 hv) ma_nil))) (ma_cons (me_callB (c_max2 hc) (gl_at hg 0) n_max bb_max (ma_cons (me_var 1 hv) (ma_cons (me_var 2 hv) ma_nil))) ma_nil))))))))) rfl rfl
abbrev s__law_operation : Stmt := (topS 55)
theorem sc__law_operation : FnScope ["_law_rich_here", "_law_kind", "_law_rest", "_law_limit", "_law_key_here"] ["_law_rich_here"] (defScope s__law_operation) := ⟨rfl, rfl, rfl, by decide +kernel, rfl, by decide +kernel, by decide +kernel⟩
theorem va__law_operation : locAll [0, 1, 2, 3, 4] ["_law_rich_here", "_law_kind", "_law_rest", "_law_limit", "_law_key_here"] (defScope s__law_operation) = true := by decide +kernel
theorem ga__law_operation : glAll ["_law_value", "_law_key", "_law_bound"] (defScope s__law_operation) = true := by decide +kernel
noncomputable def m__law_operation : SM :=
  (mSeq (mSet 1 (mIx (mLst false (mCons (mC (.str "get")) (mCons (mC (.str "put")) (mCons (mC (.str "drop")) (mCons (mC (.str "swap")) (mCons (mC (.str "page")) (mCons (mC (.str "put")) mNil))))))) (mBin fMod (mVar 0) (mC (.int 6)))))
    (mSeq (mSet 2 (mBin fDiv (mVar 0) (mC (.int 6))))
    (mSeq (mIfS (mBl (mBin fEq (mVar 1) (mC (.str "page")))) (mSeq (mSet 3 (mBin fAdd (mC (.int 1)) (mBin fMod (mBin fDiv (mVar 2) (mC (.int 500))) (mC (.int 3)))))
    (mSeq (mIfS (mBl (mBin fEq (mBin fMod (mBin fDiv (mVar 2) (mC (.int 1500))) (mC (.int 4))) (mC (.int 0)))) (mSet 3 (mBin fAdd (mC (.int 1)) (mBin fMod (mBin fDiv (mVar 2) (mC (.int 6000))) (mC (.int 50))))) mSkip)
    (mRet (mTup (mCons (mVar 1) (mCons (mCall V__law_bound (mCons (mVar 2) mNil)) (mCons (mVar 3) mNil))))))) mSkip)
    (mSeq (mSet 4 (mCall V__law_key (mCons (mVar 2) mNil)))
    (mSeq (mIfS (mBl (mBin fEq (mVar 1) (mC (.str "put")))) (mRet (mTup (mCons (mVar 1) (mCons (mVar 4) (mCons (mCall V__law_value (mCons (mBin fDiv (mVar 2) (mC (.int 500))) mNil)) mNil))))) mSkip)
    (mSeq (mIfS (mBl (mBin fEq (mVar 1) (mC (.str "swap")))) (mRet (mTup (mCons (mVar 1) (mCons (mVar 4) (mCons (mCall V__law_value (mCons (mBin fDiv (mVar 2) (mC (.int 500))) mNil)) (mCons (mCall V__law_value (mCons (mBin fDiv (mVar 2) (mC (.int 7000))) mNil)) mNil)))))) mSkip)
    (mRet (mTup (mCons (mVar 1) (mCons (mVar 4) mNil))))))))))
noncomputable def V__law_operation : FM := den 5 m__law_operation
theorem ok__law_operation {f : Addr} {fd : FuncData} (F : Fun K "_law_operation" "_law_operation" s__law_operation f fd)
    (d__law_value : DefOk P w K mg base nm 2 "_law_value" 1 V__law_value)
    (d__law_key : DefOk P w K mg base nm 2 "_law_key" 1 V__law_key)
    (d__law_bound : DefOk P w K mg base nm 3 "_law_bound" 1 V__law_bound) :
    FnOk P w K mg base (L2.CX P w) 4 f fd ["_law_rich_here"] (spD nm K mg 1 V__law_operation) :=
  den_ok2 (nms := nm) (m := m__law_operation) F sc__law_operation va__law_operation ga__law_operation (fun cdv A outer s H E hr nd hh hl hv hg hc hp => (mb_cons (ms_set 1 nd hl (me_ix hh (me_lst false (ma_cons me_str (ma_cons me_str (ma_cons me_str (ma_cons me_str (ma_cons me_str (ma_cons me_str ma_nil))))))) (me_bin o_mod (me_var 0 hv) me_int)))
    (mb_cons (ms_set 2 nd hl (me_bin o_div (me_var 0 hv) me_int))
    (mb_cons (ms_if (mt_cmp (o_eq hh) (me_var 1 hv) me_str (nomark _)) (mb_cons (ms_set 3 nd hl (me_bin o_add me_int (me_bin o_mod (me_bin o_div (me_var 2 hv) me_int) me_int)))
    (mb_cons (ms_if (mt_cmp (o_eq hh) (me_bin o_mod (me_bin o_div (me_var 2 hv) me_int) me_int) me_int (nomark _)) (mb_one (ms_set 3 nd hl (me_bin o_add me_int (me_bin o_mod (me_bin o_div (me_var 2 hv) me_int) me_int)))) mb_nil)
    (mb_one (ms_ret (me_tup (ma_cons (me_var 1 hv) (ma_cons (me_call d__law_bound (hr.mono (by decide)) (gl_at hg 2) (ma_cons (me_var 2 hv) ma_nil)) (ma_cons (me_var 3 hv) ma_nil)))))))) mb_nil)
    (mb_cons (ms_set 4 nd hl (me_call d__law_key (hr.mono (by decide)) (gl_at hg 1) (ma_cons (me_var 2 hv) ma_nil)))
    (mb_cons (ms_if (mt_cmp (o_eq hh) (me_var 1 hv) me_str (nomark _)) (mb_one (ms_ret (me_tup (ma_cons (me_var 1 hv) (ma_cons (me_var 4 hv) (ma_cons (me_call d__law_value (hr.mono (by decide)) (gl_at hg 0) (ma_cons (me_bin o_div (me_var 2 hv) me_int) ma_nil)) ma_nil)))))) mb_nil)
    (mb_cons (ms_if (mt_cmp (o_eq hh) (me_var 1 hv) me_str (nomark _)) (mb_one (ms_ret (me_tup (ma_cons (me_var 1 hv) (ma_cons (me_var 4 hv) (ma_cons (me_call d__law_value (hr.mono (by decide)) (gl_at hg 0) (ma_cons (me_bin o_div (me_var 2 hv) me_int) ma_nil)) (ma_cons (me_call d__law_value (hr.mono (by decide)) (gl_at hg 0) (ma_cons (me_bin o_div (me_var 2 hv) me_int) ma_nil)) ma_nil))))))) mb_nil)
    (mb_one (ms_ret (me_tup (ma_cons (me_var 1 hv) (ma_cons (me_var 4 hv) ma_nil)))))))))))) rfl rfl
abbrev s__law_answer : Stmt := (topS 56)
theorem sc__law_answer : FnScope ["_law_rich_here", "_law_kind", "_law_rest", "_law_keys", "_law_k", "_law_following", "_law_key_here"] ["_law_rich_here"] (defScope s__law_answer) := ⟨rfl, rfl, rfl, by decide +kernel, rfl, by decide +kernel, by decide +kernel⟩
abbrev lcx__law_answer_0 : Scope := (lcOf (kid (kid (skid (stm (defBody s__law_answer) 8) 0) 1) 1))
theorem lcb__law_answer_0 : blkC ["_law_rich_here", "_law_kind", "_law_rest", "_law_keys", "_law_k", "_law_following", "_law_key_here"] (defScope s__law_answer) lcx__law_answer_0 [("_law_key_here", 6)] = true := by decide +kernel
theorem lcv__law_answer_0 : visAll [3, 6] ["_law_rich_here", "_law_kind", "_law_rest", "_law_keys", "_law_k", "_law_following", "_law_key_here"] (relS lcx__law_answer_0 (defScope s__law_answer)) = true := by decide +kernel
theorem lcg__law_answer_0 : glAll [] (relS lcx__law_answer_0 (defScope s__law_answer)) = true := by decide +kernel
theorem lcl__law_answer_0_0 : (relS lcx__law_answer_0 (defScope s__law_answer)).names.lookup ("_law_key_here" : Str) = some NameKind.local := by decide +kernel
theorem va__law_answer : locAll [0, 1, 2, 3, 4, 5] ["_law_rich_here", "_law_kind", "_law_rest", "_law_keys", "_law_k", "_law_following", "_law_key_here"] (defScope s__law_answer) = true := by decide +kernel
theorem ga__law_answer : glAll ["sorted", "tuple", "range", "_law_value", "_law_key"] (defScope s__law_answer) = true := by decide +kernel
noncomputable def lb__law_answer_0 : SM :=
  (mSetI (mCall V__law_value (mCons (mBin fAdd (mBin fDiv (mVar 2) (mC (.int 300))) (mVar 4)) mNil)) (mVar 3) (mCall V__law_key (mCons (mBin fAdd (mBin fDiv (mVar 2) (mC (.int 4))) (mBin fMul (mC (.int 137)) (mVar 4))) mNil)))
noncomputable def m__law_answer : SM :=
  (mSeq (mSet 1 (mIx (mLst false (mCons (mC (.str "value")) (mCons (mC (.str "none")) (mCons (mC (.str "done")) (mCons (mC (.str "other")) (mCons (mC (.str "page")) (mCons (mC (.str "page")) mNil))))))) (mBin fMod (mVar 0) (mC (.int 6)))))
    (mSeq (mSet 2 (mBin fDiv (mVar 0) (mC (.int 6))))
    (mSeq (mIfS (mOr (mBl (mBin fEq (mVar 1) (mC (.str "value")))) (mBl (mBin fEq (mVar 1) (mC (.str "other"))))) (mRet (mTup (mCons (mVar 1) (mCons (mCall V__law_value (mCons (mVar 2) mNil)) mNil)))) mSkip)
    (mSeq (mIfS (mBl (mBin fNe (mVar 1) (mC (.str "page")))) (mRet (mTup (mCons (mVar 1) mNil))) mSkip)
    (mSeq (mSet 3 mDct)
    (mSeq (mFor (iRng (mCons (mBin fMod (mVar 2) (mC (.int 4))) mNil)) (gNm 4) lb__law_answer_0)
    (mSeq (mSet 5 (mC .non))
    (mSeq (mIfS (mBl (mBin fEq (mBin fMod (mBin fDiv (mVar 2) (mC (.int 7))) (mC (.int 3))) (mC (.int 0)))) (mSeq (mSet 5 (mC (.str "zzzzzzzz")))
    (mExpr (mBm .dict fnPopD (mVar 3) (mCons (mC (.str "zzzzzzzz")) (mCons (mC .non) mNil))))) mSkip)
    (mRet (mTup (mCons (mVar 1) (mCons (mCall fnTuple (mCons (mLc [6] (LT.one 6) (iAny (mCall (fnSorted false) (mCons (mVar 3) mNil))) mYes (mTup (mCons (mVar 6) (mCons (mIx (mVar 3) (mVar 6)) mNil)))) mNil)) (mCons (mVar 5) mNil)))))))))))))
noncomputable def V__law_answer : FM := den 7 m__law_answer
theorem ok__law_answer {f : Addr} {fd : FuncData} (F : Fun K "_law_answer" "_law_answer" s__law_answer f fd)
    (n_sorted : mg "sorted" = none)
    (n_tuple : mg "tuple" = none)
    (n_range : mg "range" = none)
    (d__law_value : DefOk P w K mg base nm 2 "_law_value" 1 V__law_value)
    (d__law_key : DefOk P w K mg base nm 2 "_law_key" 1 V__law_key) :
    FnOk P w K mg base (L2.CX P w) 3 f fd ["_law_rich_here"] (spD nm K mg 1 V__law_answer) :=
  den_ok2 (nms := nm) (m := m__law_answer) F sc__law_answer va__law_answer ga__law_answer (fun cdv A outer s H E hr nd hh hl hv hg hc hp => (mb_cons (ms_set 1 nd hl (me_ix hh (me_lst false (ma_cons me_str (ma_cons me_str (ma_cons me_str (ma_cons me_str (ma_cons me_str (ma_cons me_str ma_nil))))))) (me_bin o_mod (me_var 0 hv) me_int)))
    (mb_cons (ms_set 2 nd hl (me_bin o_div (me_var 0 hv) me_int))
    (mb_cons (ms_if (MW.mt (mw_or (mt_cmp (o_eq hh) (me_var 1 hv) me_str (nomark _)) (mw_or1 (mt_cmp (o_eq hh) (me_var 1 hv) me_str (nomark _))))) (mb_one (ms_ret (me_tup (ma_cons (me_var 1 hv) (ma_cons (me_call d__law_value (hr.mono (by decide)) (gl_at hg 3) (ma_cons (me_var 2 hv) ma_nil)) ma_nil))))) mb_nil)
    (mb_cons (ms_if (mt_cmp (o_ne hh) (me_var 1 hv) me_str (nomark _)) (mb_one (ms_ret (me_tup (ma_cons (me_var 1 hv) ma_nil)))) mb_nil)
    (mb_cons (ms_set 3 nd hl me_dct)
    (mb_cons (ms_for hp hc (mi_range1 (gl_at hg 2) n_range (ma_cons (me_bin o_mod (me_var 2 hv) me_int) ma_nil)) (mg_name 4 nd hl) (gok_nm 4) (mb_one (ms_setI hh (me_var 3 hv) (me_call d__law_key (hr.mono (by decide)) (gl_at hg 4) (ma_cons (me_bin o_add (me_bin o_div (me_var 2 hv) me_int) (me_bin o_mul me_int (me_var 4 hv))) ma_nil)) (me_call d__law_value (hr.mono (by decide)) (gl_at hg 3) (ma_cons (me_bin o_add (me_bin o_div (me_var 2 hv) me_int) (me_var 4 hv)) ma_nil)))))
    (mb_cons (ms_set 5 nd hl me_non)
    (mb_cons (ms_if (mt_cmp (o_eq hh) (me_bin o_mod (me_bin o_div (me_var 2 hv) me_int) me_int) me_int (nomark _)) (mb_cons (ms_set 5 nd hl me_str)
    (mb_one (ms_expr (me_bm (T := .dict) PySem.F.plainAttrs_dict PySem.F.slot_dict_pop PySem.F.type_dict_pop t_popD (me_var 3 hv) (ma_cons me_str (ma_cons me_non ma_nil)))))) mb_nil)
    (mb_one (ms_ret (me_tup (ma_cons (me_var 1 hv) (ma_cons (me_callT c_tuple (gl_at hg 1) n_tuple bb_tuple (ma_cons (me_lc (LT.one 6) hc nd (mi_any (me_callB (c_sorted false hc) (gl_at hg 0) n_sorted bb_sorted (ma_cons (me_var 3 hv) ma_nil))) (blkOk_by lcb__law_answer_0) rfl (by simp) (fun s1 H1 C cl fp => (pg_one 6 nd rfl (.inl lcl__law_answer_0_0) (.inr lcl__law_answer_0_0))) (fun s1 H1 C cl fp => by
    have hvb : visAll [3, 6] (Cx.blk (cxOf (L2.CX P w) P w K mg base ["_law_rich_here", "_law_kind", "_law_rest", "_law_keys", "_law_k", "_law_following", "_law_key_here"] "_law_answer" (defScope s__law_answer) f cdv A outer s H E) s1 H1 lcx__law_answer_0 (compEnvC lcx__law_answer_0 cl C (cxOf (L2.CX P w) P w K mg base ["_law_rich_here", "_law_kind", "_law_rest", "_law_keys", "_law_k", "_law_following", "_law_key_here"] "_law_answer" (defScope s__law_answer) f cdv A outer s H E).env) fp).N (Cx.blk (cxOf (L2.CX P w) P w K mg base ["_law_rich_here", "_law_kind", "_law_rest", "_law_keys", "_law_k", "_law_following", "_law_key_here"] "_law_answer" (defScope s__law_answer) f cdv A outer s H E) s1 H1 lcx__law_answer_0 (compEnvC lcx__law_answer_0 cl C (cxOf (L2.CX P w) P w K mg base ["_law_rich_here", "_law_kind", "_law_rest", "_law_keys", "_law_k", "_law_following", "_law_key_here"] "_law_answer" (defScope s__law_answer) f cdv A outer s H E).env) fp).env.scope = true := lcv__law_answer_0
    have hgb : glAll [] (Cx.blk (cxOf (L2.CX P w) P w K mg base ["_law_rich_here", "_law_kind", "_law_rest", "_law_keys", "_law_k", "_law_following", "_law_key_here"] "_law_answer" (defScope s__law_answer) f cdv A outer s H E) s1 H1 lcx__law_answer_0 (compEnvC lcx__law_answer_0 cl C (cxOf (L2.CX P w) P w K mg base ["_law_rich_here", "_law_kind", "_law_rest", "_law_keys", "_law_k", "_law_following", "_law_key_here"] "_law_answer" (defScope s__law_answer) f cdv A outer s H E).env) fp).env.scope = true := lcg__law_answer_0
    exact mts_nil) (fun s1 H1 C cl fp => by
    have hvb : visAll [3, 6] (Cx.blk (cxOf (L2.CX P w) P w K mg base ["_law_rich_here", "_law_kind", "_law_rest", "_law_keys", "_law_k", "_law_following", "_law_key_here"] "_law_answer" (defScope s__law_answer) f cdv A outer s H E) s1 H1 lcx__law_answer_0 (compEnvC lcx__law_answer_0 cl C (cxOf (L2.CX P w) P w K mg base ["_law_rich_here", "_law_kind", "_law_rest", "_law_keys", "_law_k", "_law_following", "_law_key_here"] "_law_answer" (defScope s__law_answer) f cdv A outer s H E).env) fp).N (Cx.blk (cxOf (L2.CX P w) P w K mg base ["_law_rich_here", "_law_kind", "_law_rest", "_law_keys", "_law_k", "_law_following", "_law_key_here"] "_law_answer" (defScope s__law_answer) f cdv A outer s H E) s1 H1 lcx__law_answer_0 (compEnvC lcx__law_answer_0 cl C (cxOf (L2.CX P w) P w K mg base ["_law_rich_here", "_law_kind", "_law_rest", "_law_keys", "_law_k", "_law_following", "_law_key_here"] "_law_answer" (defScope s__law_answer) f cdv A outer s H E).env) fp).env.scope = true := lcv__law_answer_0
    have hgb : glAll [] (Cx.blk (cxOf (L2.CX P w) P w K mg base ["_law_rich_here", "_law_kind", "_law_rest", "_law_keys", "_law_k", "_law_following", "_law_key_here"] "_law_answer" (defScope s__law_answer) f cdv A outer s H E) s1 H1 lcx__law_answer_0 (compEnvC lcx__law_answer_0 cl C (cxOf (L2.CX P w) P w K mg base ["_law_rich_here", "_law_kind", "_law_rest", "_law_keys", "_law_k", "_law_following", "_law_key_here"] "_law_answer" (defScope s__law_answer) f cdv A outer s H E).env) fp).env.scope = true := lcg__law_answer_0
    exact (me_tup (ma_cons (me_var 6 hvb) (ma_cons (me_ix hh (me_var 3 hvb) (me_var 6 hvb)) ma_nil))))) ma_nil)) (ma_cons (me_var 5 hv) ma_nil))))))))))))))) rfl rfl
abbrev s__law_rows : Stmt := (topS 57)
theorem sc__law_rows : FnScope ["_law_rich_here", "_law_rows_here", "_law_k", "_law_rest", "_law_client"] ["_law_rich_here"] (defScope s__law_rows) := ⟨rfl, rfl, rfl, by decide +kernel, rfl, by decide +kernel, by decide +kernel⟩
abbrev lcx__law_rows_0 : Scope := (lcOf (kid (skid (stm (defBody s__law_rows) 2) 0) 1))
theorem lcb__law_rows_0 : blkC ["_law_rich_here", "_law_rows_here", "_law_k", "_law_rest", "_law_client"] (defScope s__law_rows) lcx__law_rows_0 [("_law_client", 4)] = true := by decide +kernel
theorem lcv__law_rows_0 : visAll [1, 4] ["_law_rich_here", "_law_rows_here", "_law_k", "_law_rest", "_law_client"] (relS lcx__law_rows_0 (defScope s__law_rows)) = true := by decide +kernel
theorem lcg__law_rows_0 : glAll [] (relS lcx__law_rows_0 (defScope s__law_rows)) = true := by decide +kernel
theorem lcl__law_rows_0_0 : (relS lcx__law_rows_0 (defScope s__law_rows)).names.lookup ("_law_client" : Str) = some NameKind.local := by decide +kernel
theorem va__law_rows : locAll [0, 1, 2, 3] ["_law_rich_here", "_law_rows_here", "_law_k", "_law_rest", "_law_client"] (defScope s__law_rows) = true := by decide +kernel
theorem ga__law_rows : glAll ["sorted", "tuple", "range", "_law_answer"] (defScope s__law_rows) = true := by decide +kernel
noncomputable def lb__law_rows_0 : SM :=
  (mSeq (mSet 3 (mBin fAdd (mBin fDiv (mVar 0) (mC (.int 4))) (mBin fMul (mC (.int 1009)) (mVar 2))))
    (mSetI (mTup (mCons (mBin fAdd (mC (.int 1)) (mBin fMod (mBin fDiv (mVar 3) (mC (.int 100))) (mC (.int 20)))) (mCons (mCall V__law_answer (mCons (mBin fDiv (mVar 3) (mC (.int 2000))) mNil)) mNil))) (mVar 1) (mBin fSub (mUn fNeg (mC (.int 1))) (mBin fMod (mVar 3) (mC (.int 100))))))
noncomputable def m__law_rows : SM :=
  (mSeq (mSet 1 mDct)
    (mSeq (mFor (iRng (mCons (mBin fMod (mVar 0) (mC (.int 4))) mNil)) (gNm 2) lb__law_rows_0)
    (mRet (mCall fnTuple (mCons (mLc [4] (LT.one 4) (iAny (mCall (fnSorted false) (mCons (mVar 1) mNil))) mYes (mTup (mCons (mVar 4) (mCons (mIx (mIx (mVar 1) (mVar 4)) (mC (.int 0))) (mCons (mIx (mIx (mVar 1) (mVar 4)) (mC (.int 1))) mNil))))) mNil)))))
noncomputable def V__law_rows : FM := den 5 m__law_rows
theorem ok__law_rows {f : Addr} {fd : FuncData} (F : Fun K "_law_rows" "_law_rows" s__law_rows f fd)
    (n_sorted : mg "sorted" = none)
    (n_tuple : mg "tuple" = none)
    (n_range : mg "range" = none)
    (d__law_answer : DefOk P w K mg base nm 3 "_law_answer" 1 V__law_answer) :
    FnOk P w K mg base (L2.CX P w) 4 f fd ["_law_rich_here"] (spD nm K mg 1 V__law_rows) :=
  den_ok2 (nms := nm) (m := m__law_rows) F sc__law_rows va__law_rows ga__law_rows (fun cdv A outer s H E hr nd hh hl hv hg hc hp => (mb_cons (ms_set 1 nd hl me_dct)
    (mb_cons (ms_for hp hc (mi_range1 (gl_at hg 2) n_range (ma_cons (me_bin o_mod (me_var 0 hv) me_int) ma_nil)) (mg_name 2 nd hl) (gok_nm 2) (mb_cons (ms_set 3 nd hl (me_bin o_add (me_bin o_div (me_var 0 hv) me_int) (me_bin o_mul me_int (me_var 2 hv))))
    (mb_one (ms_setI hh (me_var 1 hv) (me_bin o_sub (me_neg me_int) (me_bin o_mod (me_var 3 hv) me_int)) (me_tup (ma_cons (me_bin o_add me_int (me_bin o_mod (me_bin o_div (me_var 3 hv) me_int) me_int)) (ma_cons (me_call d__law_answer (hr.mono (by decide)) (gl_at hg 3) (ma_cons (me_bin o_div (me_var 3 hv) me_int) ma_nil)) ma_nil)))))))
    (mb_one (ms_ret (me_callT c_tuple (gl_at hg 1) n_tuple bb_tuple (ma_cons (me_lc (LT.one 4) hc nd (mi_any (me_callB (c_sorted false hc) (gl_at hg 0) n_sorted bb_sorted (ma_cons (me_var 1 hv) ma_nil))) (blkOk_by lcb__law_rows_0) rfl (by simp) (fun s1 H1 C cl fp => (pg_one 4 nd rfl (.inl lcl__law_rows_0_0) (.inr lcl__law_rows_0_0))) (fun s1 H1 C cl fp => by
    have hvb : visAll [1, 4] (Cx.blk (cxOf (L2.CX P w) P w K mg base ["_law_rich_here", "_law_rows_here", "_law_k", "_law_rest", "_law_client"] "_law_rows" (defScope s__law_rows) f cdv A outer s H E) s1 H1 lcx__law_rows_0 (compEnvC lcx__law_rows_0 cl C (cxOf (L2.CX P w) P w K mg base ["_law_rich_here", "_law_rows_here", "_law_k", "_law_rest", "_law_client"] "_law_rows" (defScope s__law_rows) f cdv A outer s H E).env) fp).N (Cx.blk (cxOf (L2.CX P w) P w K mg base ["_law_rich_here", "_law_rows_here", "_law_k", "_law_rest", "_law_client"] "_law_rows" (defScope s__law_rows) f cdv A outer s H E) s1 H1 lcx__law_rows_0 (compEnvC lcx__law_rows_0 cl C (cxOf (L2.CX P w) P w K mg base ["_law_rich_here", "_law_rows_here", "_law_k", "_law_rest", "_law_client"] "_law_rows" (defScope s__law_rows) f cdv A outer s H E).env) fp).env.scope = true := lcv__law_rows_0
    have hgb : glAll [] (Cx.blk (cxOf (L2.CX P w) P w K mg base ["_law_rich_here", "_law_rows_here", "_law_k", "_law_rest", "_law_client"] "_law_rows" (defScope s__law_rows) f cdv A outer s H E) s1 H1 lcx__law_rows_0 (compEnvC lcx__law_rows_0 cl C (cxOf (L2.CX P w) P w K mg base ["_law_rich_here", "_law_rows_here", "_law_k", "_law_rest", "_law_client"] "_law_rows" (defScope s__law_rows) f cdv A outer s H E).env) fp).env.scope = true := lcg__law_rows_0
    exact mts_nil) (fun s1 H1 C cl fp => by
    have hvb : visAll [1, 4] (Cx.blk (cxOf (L2.CX P w) P w K mg base ["_law_rich_here", "_law_rows_here", "_law_k", "_law_rest", "_law_client"] "_law_rows" (defScope s__law_rows) f cdv A outer s H E) s1 H1 lcx__law_rows_0 (compEnvC lcx__law_rows_0 cl C (cxOf (L2.CX P w) P w K mg base ["_law_rich_here", "_law_rows_here", "_law_k", "_law_rest", "_law_client"] "_law_rows" (defScope s__law_rows) f cdv A outer s H E).env) fp).N (Cx.blk (cxOf (L2.CX P w) P w K mg base ["_law_rich_here", "_law_rows_here", "_law_k", "_law_rest", "_law_client"] "_law_rows" (defScope s__law_rows) f cdv A outer s H E) s1 H1 lcx__law_rows_0 (compEnvC lcx__law_rows_0 cl C (cxOf (L2.CX P w) P w K mg base ["_law_rich_here", "_law_rows_here", "_law_k", "_law_rest", "_law_client"] "_law_rows" (defScope s__law_rows) f cdv A outer s H E).env) fp).env.scope = true := lcv__law_rows_0
    have hgb : glAll [] (Cx.blk (cxOf (L2.CX P w) P w K mg base ["_law_rich_here", "_law_rows_here", "_law_k", "_law_rest", "_law_client"] "_law_rows" (defScope s__law_rows) f cdv A outer s H E) s1 H1 lcx__law_rows_0 (compEnvC lcx__law_rows_0 cl C (cxOf (L2.CX P w) P w K mg base ["_law_rich_here", "_law_rows_here", "_law_k", "_law_rest", "_law_client"] "_law_rows" (defScope s__law_rows) f cdv A outer s H E).env) fp).env.scope = true := lcg__law_rows_0
    exact (me_tup (ma_cons (me_var 4 hvb) (ma_cons (me_ix hh (me_ix hh (me_var 1 hvb) (me_var 4 hvb)) me_int) (ma_cons (me_ix hh (me_ix hh (me_var 1 hvb) (me_var 4 hvb)) me_int) ma_nil)))))) ma_nil))))))) rfl rfl
abbrev s__law_pairs : Stmt := (topS 58)
theorem sc__law_pairs : FnScope ["_law_low", "_law_high", "_law_rich_here", "_law_items", "_law_k", "_law_key_here"] ["_law_low", "_law_high", "_law_rich_here"] (defScope s__law_pairs) := ⟨rfl, rfl, rfl, by decide +kernel, rfl, by decide +kernel, by decide +kernel⟩
abbrev lcx__law_pairs_0 : Scope := (lcOf (kid (skid (stm (defBody s__law_pairs) 2) 0) 1))
theorem lcb__law_pairs_0 : blkC ["_law_low", "_law_high", "_law_rich_here", "_law_items", "_law_k", "_law_key_here"] (defScope s__law_pairs) lcx__law_pairs_0 [("_law_key_here", 5)] = true := by decide +kernel
theorem lcv__law_pairs_0 : visAll [3, 5] ["_law_low", "_law_high", "_law_rich_here", "_law_items", "_law_k", "_law_key_here"] (relS lcx__law_pairs_0 (defScope s__law_pairs)) = true := by decide +kernel
theorem lcg__law_pairs_0 : glAll [] (relS lcx__law_pairs_0 (defScope s__law_pairs)) = true := by decide +kernel
theorem lcl__law_pairs_0_0 : (relS lcx__law_pairs_0 (defScope s__law_pairs)).names.lookup ("_law_key_here" : Str) = some NameKind.local := by decide +kernel
theorem va__law_pairs : locAll [0, 1, 2, 3, 4, 5] ["_law_low", "_law_high", "_law_rich_here", "_law_items", "_law_k", "_law_key_here"] (defScope s__law_pairs) = true := by decide +kernel
theorem ga__law_pairs : glAll ["sorted", "tuple", "range", "_law_value", "_law_key"] (defScope s__law_pairs) = true := by decide +kernel
noncomputable def lb__law_pairs_0 : SM :=
  (mSeq (mSet 5 (mCall V__law_key (mCons (mBin fAdd (mBin fDiv (mVar 2) (mC (.int 6))) (mBin fMul (mC (.int 211)) (mVar 4))) mNil)))
    (mIfS (mAnd (mBl (mBin fGe (mVar 5) (mVar 0))) (mOr (mBl (mBin fIs (mVar 1) (mC .non))) (mBl (mBin fLt (mVar 5) (mVar 1))))) (mSetI (mCall V__law_value (mCons (mBin fAdd (mBin fDiv (mVar 2) (mC (.int 1000))) (mVar 4)) mNil)) (mVar 3) (mVar 5)) mSkip))
noncomputable def m__law_pairs : SM :=
  (mSeq (mSet 3 mDct)
    (mSeq (mFor (iRng (mCons (mBin fMod (mVar 2) (mC (.int 6))) mNil)) (gNm 4) lb__law_pairs_0)
    (mRet (mCall fnTuple (mCons (mLc [5] (LT.one 5) (iAny (mCall (fnSorted false) (mCons (mVar 3) mNil))) mYes (mTup (mCons (mVar 5) (mCons (mIx (mVar 3) (mVar 5)) mNil)))) mNil)))))
noncomputable def V__law_pairs : FM := den 6 m__law_pairs
theorem ok__law_pairs {f : Addr} {fd : FuncData} (F : Fun K "_law_pairs" "_law_pairs" s__law_pairs f fd)
    (n_sorted : mg "sorted" = none)
    (n_tuple : mg "tuple" = none)
    (n_range : mg "range" = none)
    (d__law_value : DefOk P w K mg base nm 2 "_law_value" 1 V__law_value)
    (d__law_key : DefOk P w K mg base nm 2 "_law_key" 1 V__law_key) :
    FnOk P w K mg base (L2.CX P w) 3 f fd ["_law_low", "_law_high", "_law_rich_here"] (spD nm K mg 3 V__law_pairs) :=
  den_ok2 (nms := nm) (m := m__law_pairs) F sc__law_pairs va__law_pairs ga__law_pairs (fun cdv A outer s H E hr nd hh hl hv hg hc hp => (mb_cons (ms_set 3 nd hl me_dct)
    (mb_cons (ms_for hp hc (mi_range1 (gl_at hg 2) n_range (ma_cons (me_bin o_mod (me_var 2 hv) me_int) ma_nil)) (mg_name 4 nd hl) (gok_nm 4) (mb_cons (ms_set 5 nd hl (me_call d__law_key (hr.mono (by decide)) (gl_at hg 4) (ma_cons (me_bin o_add (me_bin o_div (me_var 2 hv) me_int) (me_bin o_mul me_int (me_var 4 hv))) ma_nil)))
    (mb_one (ms_if (MW.mt (mw_and (mt_cmp o_ge (me_var 5 hv) (me_var 0 hv) (nomark _)) (mw_and1 (MW.mt (mw_or (mt_cmp o_is (me_var 1 hv) me_non (nomark _)) (mw_or1 (mt_cmp o_lt (me_var 5 hv) (me_var 1 hv) (nomark _)))))))) (mb_one (ms_setI hh (me_var 3 hv) (me_var 5 hv) (me_call d__law_value (hr.mono (by decide)) (gl_at hg 3) (ma_cons (me_bin o_add (me_bin o_div (me_var 2 hv) me_int) (me_var 4 hv)) ma_nil)))) mb_nil))))
    (mb_one (ms_ret (me_callT c_tuple (gl_at hg 1) n_tuple bb_tuple (ma_cons (me_lc (LT.one 5) hc nd (mi_any (me_callB (c_sorted false hc) (gl_at hg 0) n_sorted bb_sorted (ma_cons (me_var 3 hv) ma_nil))) (blkOk_by lcb__law_pairs_0) rfl (by simp) (fun s1 H1 C cl fp => (pg_one 5 nd rfl (.inl lcl__law_pairs_0_0) (.inr lcl__law_pairs_0_0))) (fun s1 H1 C cl fp => by
    have hvb : visAll [3, 5] (Cx.blk (cxOf (L2.CX P w) P w K mg base ["_law_low", "_law_high", "_law_rich_here", "_law_items", "_law_k", "_law_key_here"] "_law_pairs" (defScope s__law_pairs) f cdv A outer s H E) s1 H1 lcx__law_pairs_0 (compEnvC lcx__law_pairs_0 cl C (cxOf (L2.CX P w) P w K mg base ["_law_low", "_law_high", "_law_rich_here", "_law_items", "_law_k", "_law_key_here"] "_law_pairs" (defScope s__law_pairs) f cdv A outer s H E).env) fp).N (Cx.blk (cxOf (L2.CX P w) P w K mg base ["_law_low", "_law_high", "_law_rich_here", "_law_items", "_law_k", "_law_key_here"] "_law_pairs" (defScope s__law_pairs) f cdv A outer s H E) s1 H1 lcx__law_pairs_0 (compEnvC lcx__law_pairs_0 cl C (cxOf (L2.CX P w) P w K mg base ["_law_low", "_law_high", "_law_rich_here", "_law_items", "_law_k", "_law_key_here"] "_law_pairs" (defScope s__law_pairs) f cdv A outer s H E).env) fp).env.scope = true := lcv__law_pairs_0
    have hgb : glAll [] (Cx.blk (cxOf (L2.CX P w) P w K mg base ["_law_low", "_law_high", "_law_rich_here", "_law_items", "_law_k", "_law_key_here"] "_law_pairs" (defScope s__law_pairs) f cdv A outer s H E) s1 H1 lcx__law_pairs_0 (compEnvC lcx__law_pairs_0 cl C (cxOf (L2.CX P w) P w K mg base ["_law_low", "_law_high", "_law_rich_here", "_law_items", "_law_k", "_law_key_here"] "_law_pairs" (defScope s__law_pairs) f cdv A outer s H E).env) fp).env.scope = true := lcg__law_pairs_0
    exact mts_nil) (fun s1 H1 C cl fp => by
    have hvb : visAll [3, 5] (Cx.blk (cxOf (L2.CX P w) P w K mg base ["_law_low", "_law_high", "_law_rich_here", "_law_items", "_law_k", "_law_key_here"] "_law_pairs" (defScope s__law_pairs) f cdv A outer s H E) s1 H1 lcx__law_pairs_0 (compEnvC lcx__law_pairs_0 cl C (cxOf (L2.CX P w) P w K mg base ["_law_low", "_law_high", "_law_rich_here", "_law_items", "_law_k", "_law_key_here"] "_law_pairs" (defScope s__law_pairs) f cdv A outer s H E).env) fp).N (Cx.blk (cxOf (L2.CX P w) P w K mg base ["_law_low", "_law_high", "_law_rich_here", "_law_items", "_law_k", "_law_key_here"] "_law_pairs" (defScope s__law_pairs) f cdv A outer s H E) s1 H1 lcx__law_pairs_0 (compEnvC lcx__law_pairs_0 cl C (cxOf (L2.CX P w) P w K mg base ["_law_low", "_law_high", "_law_rich_here", "_law_items", "_law_k", "_law_key_here"] "_law_pairs" (defScope s__law_pairs) f cdv A outer s H E).env) fp).env.scope = true := lcv__law_pairs_0
    have hgb : glAll [] (Cx.blk (cxOf (L2.CX P w) P w K mg base ["_law_low", "_law_high", "_law_rich_here", "_law_items", "_law_k", "_law_key_here"] "_law_pairs" (defScope s__law_pairs) f cdv A outer s H E) s1 H1 lcx__law_pairs_0 (compEnvC lcx__law_pairs_0 cl C (cxOf (L2.CX P w) P w K mg base ["_law_low", "_law_high", "_law_rich_here", "_law_items", "_law_k", "_law_key_here"] "_law_pairs" (defScope s__law_pairs) f cdv A outer s H E).env) fp).env.scope = true := lcg__law_pairs_0
    exact (me_tup (ma_cons (me_var 5 hvb) (ma_cons (me_ix hh (me_var 3 hvb) (me_var 5 hvb)) ma_nil))))) ma_nil))))))) rfl rfl
abbrev s__law_letter : Stmt := (topS 59)
theorem sc__law_letter : FnScope ["_law_rich_here", "_law_kinds", "_law_kind", "_law_rest", "_law_number", "_law_low", "_law_high", "_law_at"] ["_law_rich_here"] (defScope s__law_letter) := ⟨rfl, rfl, rfl, by decide +kernel, rfl, by decide +kernel, by decide +kernel⟩
theorem va__law_letter : locAll [0, 1, 2, 3, 4, 5, 6, 7] ["_law_rich_here", "_law_kinds", "_law_kind", "_law_rest", "_law_number", "_law_low", "_law_high", "_law_at"] (defScope s__law_letter) = true := by decide +kernel
theorem ga__law_letter : glAll ["_law_rows", "_law_pairs", "_law_bound", "len", "_law_range", "_law_answer", "_law_operation"] (defScope s__law_letter) = true := by decide +kernel
noncomputable def m__law_letter : SM :=
  (mSeq (mSet 1 (mLst false (mCons (mC (.str "ask")) (mCons (mC (.str "where")) (mCons (mC (.str "answer")) (mCons (mC (.str "elsewhere")) (mCons (mC (.str "there")) (mCons (mC (.str "move")) (mCons (mC (.str "split")) (mCons (mC (.str "join")) (mCons (mC (.str "have")) (mCons (mC (.str "content")) (mCons (mC (.str "receipt")) mNil)))))))))))))
    (mSeq (mSet 2 (mIx (mVar 1) (mBin fMod (mVar 0) (mC (.int 11)))))
    (mSeq (mSet 3 (mBin fDiv (mVar 0) (mC (.int 11))))
    (mSeq (mSet 4 (mBin fAdd (mC (.int 1)) (mBin fMod (mVar 3) (mC (.int 30)))))
    (mSeq (mIfS (mBl (mBin fEq (mVar 2) (mC (.str "where")))) (mRet (mTup (mCons (mVar 2) (mCons (mCall V__law_bound (mCons (mVar 3) mNil)) mNil)))) mSkip)
    (mSeq (mIfS (mBl (mBin fEq (mVar 2) (mC (.str "ask")))) (mRet (mTup (mCons (mVar 2) (mCons (mVar 4) (mCons (mCall V__law_operation (mCons (mBin fDiv (mVar 3) (mC (.int 30))) mNil)) mNil))))) mSkip)
    (mSeq (mIfS (mBl (mBin fEq (mVar 2) (mC (.str "answer")))) (mRet (mTup (mCons (mVar 2) (mCons (mVar 4) (mCons (mCall V__law_answer (mCons (mBin fDiv (mVar 3) (mC (.int 30))) mNil)) mNil))))) mSkip)
    (mSeq (mIfS (mBl (mBin fEq (mVar 2) (mC (.str "elsewhere")))) (mRet (mTup (mCons (mVar 2) (mCons (mVar 4) mNil)))) mSkip)
    (mSeq (mAsg (mCall V__law_range (mCons (mBin fDiv (mVar 3) (mC (.int 30))) mNil)) (gTp 2 (gsCons (gNm 5) (gsCons (gNm 6) gsNil))))
    (mSeq (mIfS (mBl (mBin fEq (mVar 2) (mC (.str "join")))) (mSeq (mIfS (mOr (mBl (mBin fIs (mVar 6) (mC .non))) (mBl (mBin fEq (mVar 6) (mC (.str "zzzzzzzz"))))) (mRet (mTup (mCons (mVar 2) (mCons (mC (.str "")) (mCons (mC (.str "m")) (mCons (mVar 4) (mCons (mVar 6) (mCons (mBin fAdd (mC (.int 1)) (mBin fMod (mBin fDiv (mVar 3) (mC (.int 900))) (mC (.int 9)))) mNil)))))))) mSkip)
    (mRet (mTup (mCons (mVar 2) (mCons (mVar 5) (mCons (mVar 6) (mCons (mVar 4) (mCons (mC .non) (mCons (mBin fAdd (mC (.int 1)) (mBin fMod (mBin fDiv (mVar 3) (mC (.int 900))) (mC (.int 9)))) mNil))))))))) mSkip)
    (mSeq (mIfS (mOr (mBl (mBin fEq (mVar 2) (mC (.str "there")))) (mBl (mBin fEq (mVar 2) (mC (.str "move"))))) (mRet (mTup (mCons (mVar 2) (mCons (mVar 5) (mCons (mVar 6) (mCons (mVar 4) (mCons (mBin fMod (mBin fDiv (mVar 3) (mC (.int 900))) (mC (.int 3))) mNil))))))) mSkip)
    (mSeq (mIfS (mBl (mBin fEq (mVar 2) (mC (.str "split")))) (mSeq (mSet 7 (mIf (mBl (mBin fLt (mCall fnLen (mCons (mVar 5) mNil)) (mC (.int 8)))) (mBin fAdd (mVar 5) (mC (.str "a"))) (mC (.str "zzzzzzzz"))))
    (mRet (mTup (mCons (mVar 2) (mCons (mVar 5) (mCons (mVar 6) (mCons (mVar 4) (mCons (mVar 7) mNil)))))))) mSkip)
    (mSeq (mIfS (mBl (mBin fEq (mVar 2) (mC (.str "have")))) (mRet (mTup (mCons (mVar 2) (mCons (mVar 5) (mCons (mVar 6) (mCons (mVar 4) (mCons (mBin fMod (mBin fDiv (mVar 3) (mC (.int 900))) (mC (.int 9))) (mCons (mCall V__law_bound (mCons (mBin fDiv (mVar 3) (mC (.int 9000))) mNil)) mNil)))))))) mSkip)
    (mSeq (mIfS (mBl (mBin fEq (mVar 2) (mC (.str "content")))) (mRet (mTup (mCons (mVar 2) (mCons (mVar 5) (mCons (mVar 6) (mCons (mVar 4) (mCons (mCall V__law_pairs (mCons (mVar 5) (mCons (mVar 6) (mCons (mBin fDiv (mVar 3) (mC (.int 900))) mNil)))) (mCons (mCall V__law_rows (mCons (mBin fDiv (mVar 3) (mC (.int 5000))) mNil)) mNil)))))))) mSkip)
    (mRet (mTup (mCons (mVar 2) (mCons (mVar 5) (mCons (mVar 6) (mCons (mVar 4) mNil))))))))))))))))))))
noncomputable def V__law_letter : FM := den 8 m__law_letter
theorem ok__law_letter {f : Addr} {fd : FuncData} (F : Fun K "_law_letter" "_law_letter" s__law_letter f fd)
    (d__law_rows : DefOk P w K mg base nm 4 "_law_rows" 1 V__law_rows)
    (d__law_pairs : DefOk P w K mg base nm 3 "_law_pairs" 3 V__law_pairs)
    (d__law_bound : DefOk P w K mg base nm 3 "_law_bound" 1 V__law_bound)
    (n_len : mg "len" = none)
    (d__law_range : DefOk P w K mg base nm 4 "_law_range" 1 V__law_range)
    (d__law_answer : DefOk P w K mg base nm 3 "_law_answer" 1 V__law_answer)
    (d__law_operation : DefOk P w K mg base nm 4 "_law_operation" 1 V__law_operation) :
    FnOk P w K mg base (L2.CX P w) 5 f fd ["_law_rich_here"] (spD nm K mg 1 V__law_letter) :=
  den_ok2 (nms := nm) (m := m__law_letter) F sc__law_letter va__law_letter ga__law_letter (fun cdv A outer s H E hr nd hh hl hv hg hc hp => (mb_cons (ms_set 1 nd hl (me_lst false (ma_cons me_str (ma_cons me_str (ma_cons me_str (ma_cons me_str (ma_cons me_str (ma_cons me_str (ma_cons me_str (ma_cons me_str (ma_cons me_str (ma_cons me_str (ma_cons me_str ma_nil)))))))))))))
    (mb_cons (ms_set 2 nd hl (me_ix hh (me_var 1 hv) (me_bin o_mod (me_var 0 hv) me_int)))
    (mb_cons (ms_set 3 nd hl (me_bin o_div (me_var 0 hv) me_int))
    (mb_cons (ms_set 4 nd hl (me_bin o_add me_int (me_bin o_mod (me_var 3 hv) me_int)))
    (mb_cons (ms_if (mt_cmp (o_eq hh) (me_var 2 hv) me_str (nomark _)) (mb_one (ms_ret (me_tup (ma_cons (me_var 2 hv) (ma_cons (me_call d__law_bound (hr.mono (by decide)) (gl_at hg 2) (ma_cons (me_var 3 hv) ma_nil)) ma_nil))))) mb_nil)
    (mb_cons (ms_if (mt_cmp (o_eq hh) (me_var 2 hv) me_str (nomark _)) (mb_one (ms_ret (me_tup (ma_cons (me_var 2 hv) (ma_cons (me_var 4 hv) (ma_cons (me_call d__law_operation (hr.mono (by decide)) (gl_at hg 6) (ma_cons (me_bin o_div (me_var 3 hv) me_int) ma_nil)) ma_nil)))))) mb_nil)
    (mb_cons (ms_if (mt_cmp (o_eq hh) (me_var 2 hv) me_str (nomark _)) (mb_one (ms_ret (me_tup (ma_cons (me_var 2 hv) (ma_cons (me_var 4 hv) (ma_cons (me_call d__law_answer (hr.mono (by decide)) (gl_at hg 5) (ma_cons (me_bin o_div (me_var 3 hv) me_int) ma_nil)) ma_nil)))))) mb_nil)
    (mb_cons (ms_if (mt_cmp (o_eq hh) (me_var 2 hv) me_str (nomark _)) (mb_one (ms_ret (me_tup (ma_cons (me_var 2 hv) (ma_cons (me_var 4 hv) ma_nil))))) mb_nil)
    (mb_cons (ms_asg (me_call d__law_range (hr.mono (by decide)) (gl_at hg 4) (ma_cons (me_bin o_div (me_var 3 hv) me_int) ma_nil)) (mg_tup hc 2 (mgs_cons (mg_name 5 nd hl) (mgs_cons (mg_name 6 nd hl) mgs_nil))) (gok_tp (gsok_cons (gok_nm 5) (gsok_cons (gok_nm 6) gsok_nil))))
    (mb_cons (ms_if (mt_cmp (o_eq hh) (me_var 2 hv) me_str (nomark _)) (mb_cons (ms_if (MW.mt (mw_or (mt_cmp o_is (me_var 6 hv) me_non (nomark _)) (mw_or1 (mt_cmp (o_eq hh) (me_var 6 hv) me_str (nomark _))))) (mb_one (ms_ret (me_tup (ma_cons (me_var 2 hv) (ma_cons me_str (ma_cons me_str (ma_cons (me_var 4 hv) (ma_cons (me_var 6 hv) (ma_cons (me_bin o_add me_int (me_bin o_mod (me_bin o_div (me_var 3 hv) me_int) me_int)) ma_nil))))))))) mb_nil)
    (mb_one (ms_ret (me_tup (ma_cons (me_var 2 hv) (ma_cons (me_var 5 hv) (ma_cons (me_var 6 hv) (ma_cons (me_var 4 hv) (ma_cons me_non (ma_cons (me_bin o_add me_int (me_bin o_mod (me_bin o_div (me_var 3 hv) me_int) me_int)) ma_nil)))))))))) mb_nil)
    (mb_cons (ms_if (MW.mt (mw_or (mt_cmp (o_eq hh) (me_var 2 hv) me_str (nomark _)) (mw_or1 (mt_cmp (o_eq hh) (me_var 2 hv) me_str (nomark _))))) (mb_one (ms_ret (me_tup (ma_cons (me_var 2 hv) (ma_cons (me_var 5 hv) (ma_cons (me_var 6 hv) (ma_cons (me_var 4 hv) (ma_cons (me_bin o_mod (me_bin o_div (me_var 3 hv) me_int) me_int) ma_nil)))))))) mb_nil)
    (mb_cons (ms_if (mt_cmp (o_eq hh) (me_var 2 hv) me_str (nomark _)) (mb_cons (ms_set 7 nd hl (me_if (mt_cmp o_lt (me_callB c_len (gl_at hg 3) n_len bb_len (ma_cons (me_var 5 hv) ma_nil)) me_int (nomark _)) (me_bin o_add (me_var 5 hv) me_str) me_str))
    (mb_one (ms_ret (me_tup (ma_cons (me_var 2 hv) (ma_cons (me_var 5 hv) (ma_cons (me_var 6 hv) (ma_cons (me_var 4 hv) (ma_cons (me_var 7 hv) ma_nil))))))))) mb_nil)
    (mb_cons (ms_if (mt_cmp (o_eq hh) (me_var 2 hv) me_str (nomark _)) (mb_one (ms_ret (me_tup (ma_cons (me_var 2 hv) (ma_cons (me_var 5 hv) (ma_cons (me_var 6 hv) (ma_cons (me_var 4 hv) (ma_cons (me_bin o_mod (me_bin o_div (me_var 3 hv) me_int) me_int) (ma_cons (me_call d__law_bound (hr.mono (by decide)) (gl_at hg 2) (ma_cons (me_bin o_div (me_var 3 hv) me_int) ma_nil)) ma_nil))))))))) mb_nil)
    (mb_cons (ms_if (mt_cmp (o_eq hh) (me_var 2 hv) me_str (nomark _)) (mb_one (ms_ret (me_tup (ma_cons (me_var 2 hv) (ma_cons (me_var 5 hv) (ma_cons (me_var 6 hv) (ma_cons (me_var 4 hv) (ma_cons (me_call d__law_pairs (hr.mono (by decide)) (gl_at hg 1) (ma_cons (me_var 5 hv) (ma_cons (me_var 6 hv) (ma_cons (me_bin o_div (me_var 3 hv) me_int) ma_nil)))) (ma_cons (me_call d__law_rows (hr.mono (by decide)) (gl_at hg 0) (ma_cons (me_bin o_div (me_var 3 hv) me_int) ma_nil)) ma_nil))))))))) mb_nil)
    (mb_one (ms_ret (me_tup (ma_cons (me_var 2 hv) (ma_cons (me_var 5 hv) (ma_cons (me_var 6 hv) (ma_cons (me_var 4 hv) ma_nil)))))))))))))))))))))) rfl rfl
abbrev s__law_act : Stmt := (topS 60)
theorem sc__law_act : FnScope ["_law_rich_here", "_law_kinds", "_law_kind", "_law_rest", "_law_number"] ["_law_rich_here"] (defScope s__law_act) := ⟨rfl, rfl, rfl, by decide +kernel, rfl, by decide +kernel, by decide +kernel⟩
theorem va__law_act : locAll [0, 1, 2, 3, 4] ["_law_rich_here", "_law_kinds", "_law_kind", "_law_rest", "_law_number"] (defScope s__law_act) = true := by decide +kernel
theorem ga__law_act : glAll ["_law_letter", "_law_operation"] (defScope s__law_act) = true := by decide +kernel
noncomputable def m__law_act : SM :=
  (mSeq (mSet 1 (mLst false (mCons (mC (.str "tick")) (mCons (mC (.str "submit")) (mCons (mC (.str "deliver")) (mCons (mC (.str "round")) (mCons (mC (.str "calm")) (mCons (mC (.str "lose")) (mCons (mC (.str "double")) (mCons (mC (.str "move")) (mCons (mC (.str "order")) (mCons (mC (.str "arm")) (mCons (mC (.str "crash")) (mCons (mC (.str "restart")) mNil))))))))))))))
    (mSeq (mSet 2 (mIx (mVar 1) (mBin fMod (mVar 0) (mC (.int 12)))))
    (mSeq (mSet 3 (mBin fDiv (mVar 0) (mC (.int 12))))
    (mSeq (mSet 4 (mBin fMod (mVar 3) (mC (.int 20))))
    (mSeq (mIfS (mBl (mBin fEq (mBin fMod (mBin fDiv (mVar 3) (mC (.int 20))) (mC (.int 5))) (mC (.int 0)))) (mSet 4 (mBin fMod (mBin fDiv (mVar 3) (mC (.int 100))) (mBin fPow (mC (.int 10)) (mC (.int 12))))) mSkip)
    (mSeq (mIfS (mBl (mBin fEq (mVar 2) (mC (.str "round")))) (mRet (mTup (mCons (mVar 2) mNil))) mSkip)
    (mSeq (mIfS (mOr (mBl (mBin fEq (mVar 2) (mC (.str "tick")))) (mBl (mBin fEq (mVar 2) (mC (.str "calm"))))) (mRet (mTup (mCons (mVar 2) (mCons (mBin fAdd (mC (.int 1)) (mBin fMod (mVar 4) (mC (.int 1000)))) mNil)))) mSkip)
    (mSeq (mIfS (mBl (mBin fEq (mVar 2) (mC (.str "submit")))) (mRet (mTup (mCons (mVar 2) (mCons (mBin fSub (mUn fNeg (mC (.int 1))) (mBin fMod (mVar 4) (mBin fSub (mBin fPow (mC (.int 10)) (mC (.int 12))) (mC (.int 1))))) (mCons (mCall V__law_operation (mCons (mBin fDiv (mVar 3) (mC (.int 100))) mNil)) mNil))))) mSkip)
    (mSeq (mIfS (mBl (mBin fEq (mVar 2) (mC (.str "order")))) (mRet (mTup (mCons (mVar 2) (mCons (mVar 4) (mCons (mCall V__law_letter (mCons (mBin fDiv (mVar 3) (mC (.int 20))) mNil)) mNil))))) mSkip)
    (mSeq (mIfS (mOr (mBl (mBin fEq (mVar 2) (mC (.str "arm")))) (mBl (mBin fEq (mVar 2) (mC (.str "restart"))))) (mRet (mTup (mCons (mVar 2) (mCons (mBin fMod (mBin fDiv (mVar 3) (mC (.int 20))) (mC (.int 31))) (mCons (mVar 4) mNil))))) mSkip)
    (mRet (mTup (mCons (mVar 2) (mCons (mVar 4) mNil))))))))))))))
noncomputable def V__law_act : FM := den 5 m__law_act
theorem ok__law_act {f : Addr} {fd : FuncData} (F : Fun K "_law_act" "_law_act" s__law_act f fd)
    (d__law_letter : DefOk P w K mg base nm 5 "_law_letter" 1 V__law_letter)
    (d__law_operation : DefOk P w K mg base nm 4 "_law_operation" 1 V__law_operation) :
    FnOk P w K mg base (L2.CX P w) 6 f fd ["_law_rich_here"] (spD nm K mg 1 V__law_act) :=
  den_ok2 (nms := nm) (m := m__law_act) F sc__law_act va__law_act ga__law_act (fun cdv A outer s H E hr nd hh hl hv hg hc hp => (mb_cons (ms_set 1 nd hl (me_lst false (ma_cons me_str (ma_cons me_str (ma_cons me_str (ma_cons me_str (ma_cons me_str (ma_cons me_str (ma_cons me_str (ma_cons me_str (ma_cons me_str (ma_cons me_str (ma_cons me_str (ma_cons me_str ma_nil))))))))))))))
    (mb_cons (ms_set 2 nd hl (me_ix hh (me_var 1 hv) (me_bin o_mod (me_var 0 hv) me_int)))
    (mb_cons (ms_set 3 nd hl (me_bin o_div (me_var 0 hv) me_int))
    (mb_cons (ms_set 4 nd hl (me_bin o_mod (me_var 3 hv) me_int))
    (mb_cons (ms_if (mt_cmp (o_eq hh) (me_bin o_mod (me_bin o_div (me_var 3 hv) me_int) me_int) me_int (nomark _)) (mb_one (ms_set 4 nd hl (me_bin o_mod (me_bin o_div (me_var 3 hv) me_int) (me_bin o_pow me_int me_int)))) mb_nil)
    (mb_cons (ms_if (mt_cmp (o_eq hh) (me_var 2 hv) me_str (nomark _)) (mb_one (ms_ret (me_tup (ma_cons (me_var 2 hv) ma_nil)))) mb_nil)
    (mb_cons (ms_if (MW.mt (mw_or (mt_cmp (o_eq hh) (me_var 2 hv) me_str (nomark _)) (mw_or1 (mt_cmp (o_eq hh) (me_var 2 hv) me_str (nomark _))))) (mb_one (ms_ret (me_tup (ma_cons (me_var 2 hv) (ma_cons (me_bin o_add me_int (me_bin o_mod (me_var 4 hv) me_int)) ma_nil))))) mb_nil)
    (mb_cons (ms_if (mt_cmp (o_eq hh) (me_var 2 hv) me_str (nomark _)) (mb_one (ms_ret (me_tup (ma_cons (me_var 2 hv) (ma_cons (me_bin o_sub (me_neg me_int) (me_bin o_mod (me_var 4 hv) (me_bin o_sub (me_bin o_pow me_int me_int) me_int))) (ma_cons (me_call d__law_operation (hr.mono (by decide)) (gl_at hg 1) (ma_cons (me_bin o_div (me_var 3 hv) me_int) ma_nil)) ma_nil)))))) mb_nil)
    (mb_cons (ms_if (mt_cmp (o_eq hh) (me_var 2 hv) me_str (nomark _)) (mb_one (ms_ret (me_tup (ma_cons (me_var 2 hv) (ma_cons (me_var 4 hv) (ma_cons (me_call d__law_letter (hr.mono (by decide)) (gl_at hg 0) (ma_cons (me_bin o_div (me_var 3 hv) me_int) ma_nil)) ma_nil)))))) mb_nil)
    (mb_cons (ms_if (MW.mt (mw_or (mt_cmp (o_eq hh) (me_var 2 hv) me_str (nomark _)) (mw_or1 (mt_cmp (o_eq hh) (me_var 2 hv) me_str (nomark _))))) (mb_one (ms_ret (me_tup (ma_cons (me_var 2 hv) (ma_cons (me_bin o_mod (me_bin o_div (me_var 3 hv) me_int) me_int) (ma_cons (me_var 4 hv) ma_nil)))))) mb_nil)
    (mb_one (ms_ret (me_tup (ma_cons (me_var 2 hv) (ma_cons (me_var 4 hv) ma_nil)))))))))))))))) rfl rfl
abbrev s__law_line : Stmt := (topS 61)
theorem sc__law_line : FnScope ["_law_act_here", "_law_words", "_law_item"] ["_law_act_here"] (defScope s__law_line) := ⟨rfl, rfl, rfl, by decide +kernel, rfl, by decide +kernel, by decide +kernel⟩
theorem va__law_line : locAll [0, 1, 2] ["_law_act_here", "_law_words", "_law_item"] (defScope s__law_line) = true := by decide +kernel
theorem ga__law_line : glAll ["isinstance", "tuple", "encode", "str"] (defScope s__law_line) = true := by decide +kernel
noncomputable def lb__law_line_0 : SM :=
  (mIfS (mBl (mIsi .tuple (mVar 2))) (mExpr (mBm .list fnAppend (mVar 1) (mCons (mCall V_encode (mCons (mVar 2) mNil)) mNil))) (mExpr (mBm .list fnAppend (mVar 1) (mCons (mCall fnStr (mCons (mVar 2) mNil)) mNil))))
noncomputable def m__law_line : SM :=
  (mSeq (mSet 1 (mLst true (mCons (mIx (mVar 0) (mC (.int 0))) mNil)))
    (mSeq (mFor (iAny (mSl false (mVar 0) (oAt (mC (.int 1))) oNo)) (gNm 2) lb__law_line_0)
    (mRet (mBm .str fnJoin (mC (.str " ")) (mCons (mVar 1) mNil)))))
noncomputable def V__law_line : FM := den 3 m__law_line
theorem ok__law_line {f : Addr} {fd : FuncData} (F : Fun K "_law_line" "_law_line" s__law_line f fd)
    (n_isinstance : mg "isinstance" = none)
    (n_tuple : mg "tuple" = none)
    (d_encode : DefOk P w K mg base nm 18 "encode" 1 V_encode)
    (n_str : mg "str" = none) :
    FnOk P w K mg base (L2.CX P w) 19 f fd ["_law_act_here"] (spD nm K mg 1 V__law_line) :=
  den_ok2 (nms := nm) (m := m__law_line) F sc__law_line va__law_line ga__law_line (fun cdv A outer s H E hr nd hh hl hv hg hc hp => (mb_cons (ms_set 1 nd hl (me_lst true (ma_cons (me_ix hh (me_var 0 hv) me_int) ma_nil)))
    (mb_cons (ms_for hp hc (mi_any (me_sl false (me_var 0 hv) (mo_at me_int) mo_no)) (mg_name 2 nd hl) (gok_nm 2) (mb_one (ms_if (mt_val (me_isi .tuple (me_var 2 hv) (gl_at hg 0) n_isinstance (gl_at hg 1) n_tuple bb_isinstance bb_tuple)) (mb_one (ms_expr (me_bm (T := .list) PySem.F.plainAttrs_list PySem.F.slot_list_append PySem.F.type_list_append t_append (me_var 1 hv) (ma_cons (me_call d_encode (hr.mono (by decide)) (gl_at hg 2) (ma_cons (me_var 2 hv) ma_nil)) ma_nil)))) (mb_one (ms_expr (me_bm (T := .list) PySem.F.plainAttrs_list PySem.F.slot_list_append PySem.F.type_list_append t_append (me_var 1 hv) (ma_cons (me_callT c_str (gl_at hg 3) n_str bb_str (ma_cons (me_var 2 hv) ma_nil)) ma_nil)))))))
    (mb_one (ms_ret (me_bm (T := .str) PySem.F.plainAttrs_str PySem.F.slot_str_join PySem.F.type_str_join t_join me_str (ma_cons (me_var 1 hv) ma_nil))))))) rfl rfl
abbrev s__law_skipped : Stmt := (topS 62)
theorem sc__law_skipped : FnScope ["_law_rich_here"] ["_law_rich_here"] (defScope s__law_skipped) := ⟨rfl, rfl, rfl, by decide +kernel, rfl, by decide +kernel, by decide +kernel⟩
theorem va__law_skipped : locAll [0] ["_law_rich_here"] (defScope s__law_skipped) = true := by decide +kernel
theorem ga__law_skipped : glAll [] (defScope s__law_skipped) = true := by decide +kernel
noncomputable def m__law_skipped : SM :=
  (mRet (mIx (mLst false (mCons (mC (.str "")) (mCons (mC (.str "#")) (mCons (mC (.str "# world 1 1")) (mCons (mC (.str "#tick 1")) mNil))))) (mBin fMod (mVar 0) (mC (.int 4)))))
noncomputable def V__law_skipped : FM := den 1 m__law_skipped
theorem ok__law_skipped {f : Addr} {fd : FuncData} (F : Fun K "_law_skipped" "_law_skipped" s__law_skipped f fd) :
    FnOk P w K mg base (L2.CX P w) 1 f fd ["_law_rich_here"] (spD nm K mg 1 V__law_skipped) :=
  den_ok2 (nms := nm) (m := m__law_skipped) F sc__law_skipped va__law_skipped ga__law_skipped (fun cdv A outer s H E hr nd hh hl hv hg hc hp => (mb_one (ms_ret (me_ix hh (me_lst false (ma_cons me_str (ma_cons me_str (ma_cons me_str (ma_cons me_str ma_nil))))) (me_bin o_mod (me_var 0 hv) me_int))))) rfl rfl
abbrev s_law : Stmt := (topS 63)
theorem sc_law : FnScope ["_law_script", "_law_rich_here", "_law_servers", "_law_clients", "_law_rows_here", "_law_k", "_law_at", "_law_due", "_law_act_here", "_law_line_here", "_law_actual", "_law_told"] ["_law_script"] (defScope s_law) := ⟨rfl, rfl, rfl, by decide +kernel, rfl, by decide +kernel, by decide +kernel⟩
theorem va_law : locAll [0, 1, 2, 3, 4, 5, 6, 7, 8, 9, 10, 11] ["_law_script", "_law_rich_here", "_law_servers", "_law_clients", "_law_rows_here", "_law_k", "_law_at", "_law_due", "_law_act_here", "_law_line_here", "_law_actual", "_law_told"] (defScope s_law) = true := by decide +kernel
theorem ga_law : glAll ["isinstance", "tuple", "list", "len", "parse_schedule", "range", "act_line", "check_act", "_law_line", "_law_act", "_law_skipped", "_law_rich", "str", "_law_cell"] (defScope s_law) = true := by decide +kernel
noncomputable def lb_law_0 : SM :=
  (mIfS (mOr (mNot (mBl (mIsi .tuple (mVar 11)))) (mNot (mBl (mIsi .tuple (mIx (mVar 11) (mC (.int 1))))))) (mRet (mC (.bl false))) mSkip)
noncomputable def lb_law_1 : SM :=
  (mSeq (mSet 1 (mCall V__law_rich (mCons (mIx (mVar 0) (mVar 5)) (mCons (mVar 5) mNil))))
    (mSeq (mIfS (mBl (mBin fEq (mBin fMod (mVar 1) (mC (.int 5))) (mC (.int 0)))) (mExpr (mBm .list fnAppend (mVar 4) (mCons (mCall V__law_skipped (mCons (mBin fDiv (mVar 1) (mC (.int 5))) mNil)) mNil))) mSkip)
    (mSeq (mSet 8 (mCall V__law_act (mCons (mBin fDiv (mVar 1) (mC (.int 5))) mNil)))
    (mSeq (mSet 9 (mCall V__law_line (mCons (mVar 8) mNil)))
    (mSeq (mIfS (mOr (mBl (mBin fNe (mCall V_act_line (mCons (mVar 8) mNil)) (mVar 9))) (mBl (mBin fIsNot (mCall V_check_act (mCons (mVar 8) mNil)) (mC .non)))) (mRet (mC (.bl false))) mSkip)
    (mSeq (mExpr (mBm .list fnAppend (mVar 4) (mCons (mVar 9) mNil)))
    (mExpr (mBm .list fnAppend (mVar 7) (mCons (mTup (mCons (mCall fnLen (mCons (mVar 4) mNil)) (mCons (mVar 8) mNil))) mNil)))))))))
noncomputable def lb_law_2 : SM :=
  (mExpr (mBm .list fnAppend (mVar 4) (mCons (mCall V__law_skipped (mCons (mBin fAdd (mBin fDiv (mCall V__law_cell (mCons (mVar 0) (mCons (mC (.int 1)) mNil))) (mC (.int 3))) (mVar 5)) mNil)) mNil)))
noncomputable def m_law : SM :=
  (mSeq (mSet 1 (mCall V__law_rich (mCons (mCall V__law_cell (mCons (mVar 0) (mCons (mC (.int 0)) mNil))) (mCons (mC (.int 0)) mNil))))
    (mSeq (mSet 2 (mBin fMod (mVar 1) (mC (.int 30))))
    (mSeq (mSet 3 (mBin fMod (mBin fDiv (mVar 1) (mC (.int 30))) (mBin fPow (mC (.int 10)) (mC (.int 12)))))
    (mSeq (mSet 4 (mLst true mNil))
    (mSeq (mFor (iRng (mCons (mBin fMod (mCall V__law_cell (mCons (mVar 0) (mCons (mC (.int 1)) mNil))) (mC (.int 3))) mNil)) (gNm 5) lb_law_2)
    (mSeq (mExpr (mBm .list fnAppend (mVar 4) (mCons (mBin fAdd (mBin fAdd (mBin fAdd (mC (.str "world ")) (mCall fnStr (mCons (mVar 2) mNil))) (mC (.str " "))) (mCall fnStr (mCons (mVar 3) mNil))) mNil)))
    (mSeq (mSet 6 (mCall fnLen (mCons (mVar 4) mNil)))
    (mSeq (mSet 7 (mLst true mNil))
    (mSeq (mFor (iRng (mCons (mC (.int 2)) (mCons (mCall fnLen (mCons (mVar 0) mNil)) mNil))) (gNm 5) lb_law_1)
    (mSeq (mSet 10 (mCall V_parse_schedule (mCons (mBm .str fnJoin (mC (.str "\n")) (mCons (mVar 4) mNil)) mNil)))
    (mSeq (mIfS (mOr (mNot (mBl (mIsi .tuple (mVar 10)))) (mOr (mBl (mBin fNe (mCall fnLen (mCons (mVar 10) mNil)) (mC (.int 4)))) (mBl (mBin fNe (mSl false (mVar 10) oNo (oAt (mC (.int 3)))) (mTup (mCons (mVar 6) (mCons (mVar 2) (mCons (mVar 3) mNil)))))))) (mRet (mC (.bl false))) mSkip)
    (mSeq (mIfS (mNot (mBl (mIsi .list (mIx (mVar 10) (mC (.int 3)))))) (mRet (mC (.bl false))) mSkip)
    (mSeq (mFor (iAny (mIx (mVar 10) (mC (.int 3)))) (gNm 11) lb_law_0)
    (mRet (mBin fEq (mIx (mVar 10) (mC (.int 3))) (mVar 7))))))))))))))))
noncomputable def V_law : FM := den 12 m_law
theorem ok_law {f : Addr} {fd : FuncData} (F : Fun K "law" "law" s_law f fd)
    (n_isinstance : mg "isinstance" = none)
    (n_tuple : mg "tuple" = none)
    (n_list : mg "list" = none)
    (n_len : mg "len" = none)
    (d_parse_schedule : DefOk P w K mg base nm 30 "parse_schedule" 1 V_parse_schedule)
    (n_range : mg "range" = none)
    (d_act_line : DefOk P w K mg base nm 30 "act_line" 1 V_act_line)
    (d_check_act : DefOk P w K mg base nm 3 "check_act" 1 V_check_act)
    (d__law_line : DefOk P w K mg base nm 19 "_law_line" 1 V__law_line)
    (d__law_act : DefOk P w K mg base nm 6 "_law_act" 1 V__law_act)
    (d__law_skipped : DefOk P w K mg base nm 1 "_law_skipped" 1 V__law_skipped)
    (d__law_rich : DefOk P w K mg base nm 1 "_law_rich" 2 V__law_rich)
    (n_str : mg "str" = none)
    (d__law_cell : DefOk P w K mg base nm 1 "_law_cell" 2 V__law_cell) :
    FnOk P w K mg base (L2.CX P w) 31 f fd ["_law_script"] (spD nm K mg 1 V_law) :=
  den_ok2 (nms := nm) (m := m_law) F sc_law va_law ga_law (fun cdv A outer s H E hr nd hh hl hv hg hc hp => (mb_cons (ms_set 1 nd hl (me_call d__law_rich (hr.mono (by decide)) (gl_at hg 11) (ma_cons (me_call d__law_cell (hr.mono (by decide)) (gl_at hg 13) (ma_cons (me_var 0 hv) (ma_cons me_int ma_nil))) (ma_cons me_int ma_nil))))
    (mb_cons (ms_set 2 nd hl (me_bin o_mod (me_var 1 hv) me_int))
    (mb_cons (ms_set 3 nd hl (me_bin o_mod (me_bin o_div (me_var 1 hv) me_int) (me_bin o_pow me_int me_int)))
    (mb_cons (ms_set 4 nd hl (me_lst true ma_nil))
    (mb_cons (ms_for hp hc (mi_range1 (gl_at hg 5) n_range (ma_cons (me_bin o_mod (me_call d__law_cell (hr.mono (by decide)) (gl_at hg 13) (ma_cons (me_var 0 hv) (ma_cons me_int ma_nil))) me_int) ma_nil)) (mg_name 5 nd hl) (gok_nm 5) (mb_one (ms_expr (me_bm (T := .list) PySem.F.plainAttrs_list PySem.F.slot_list_append PySem.F.type_list_append t_append (me_var 4 hv) (ma_cons (me_call d__law_skipped (hr.mono (by decide)) (gl_at hg 10) (ma_cons (me_bin o_add (me_bin o_div (me_call d__law_cell (hr.mono (by decide)) (gl_at hg 13) (ma_cons (me_var 0 hv) (ma_cons me_int ma_nil))) me_int) (me_var 5 hv)) ma_nil)) ma_nil)))))
    (mb_cons (ms_expr (me_bm (T := .list) PySem.F.plainAttrs_list PySem.F.slot_list_append PySem.F.type_list_append t_append (me_var 4 hv) (ma_cons (me_bin o_add (me_bin o_add (me_bin o_add me_str (me_callT c_str (gl_at hg 12) n_str bb_str (ma_cons (me_var 2 hv) ma_nil))) me_str) (me_callT c_str (gl_at hg 12) n_str bb_str (ma_cons (me_var 3 hv) ma_nil))) ma_nil)))
    (mb_cons (ms_set 6 nd hl (me_callB c_len (gl_at hg 3) n_len bb_len (ma_cons (me_var 4 hv) ma_nil)))
    (mb_cons (ms_set 7 nd hl (me_lst true ma_nil))
    (mb_cons (ms_for hp hc (mi_range2 (gl_at hg 5) n_range (ma_cons me_int (ma_cons (me_callB c_len (gl_at hg 3) n_len bb_len (ma_cons (me_var 0 hv) ma_nil)) ma_nil))) (mg_name 5 nd hl) (gok_nm 5) (mb_cons (ms_set 1 nd hl (me_call d__law_rich (hr.mono (by decide)) (gl_at hg 11) (ma_cons (me_ix hh (me_var 0 hv) (me_var 5 hv)) (ma_cons (me_var 5 hv) ma_nil))))
    (mb_cons (ms_if (mt_cmp (o_eq hh) (me_bin o_mod (me_var 1 hv) me_int) me_int (nomark _)) (mb_one (ms_expr (me_bm (T := .list) PySem.F.plainAttrs_list PySem.F.slot_list_append PySem.F.type_list_append t_append (me_var 4 hv) (ma_cons (me_call d__law_skipped (hr.mono (by decide)) (gl_at hg 10) (ma_cons (me_bin o_div (me_var 1 hv) me_int) ma_nil)) ma_nil)))) mb_nil)
    (mb_cons (ms_set 8 nd hl (me_call d__law_act (hr.mono (by decide)) (gl_at hg 9) (ma_cons (me_bin o_div (me_var 1 hv) me_int) ma_nil)))
    (mb_cons (ms_set 9 nd hl (me_call d__law_line (hr.mono (by decide)) (gl_at hg 8) (ma_cons (me_var 8 hv) ma_nil)))
    (mb_cons (ms_if (MW.mt (mw_or (mt_cmp (o_ne hh) (me_call d_act_line (hr.mono (by decide)) (gl_at hg 6) (ma_cons (me_var 8 hv) ma_nil)) (me_var 9 hv) (nomark _)) (mw_or1 (mt_cmp o_isnot (me_call d_check_act (hr.mono (by decide)) (gl_at hg 7) (ma_cons (me_var 8 hv) ma_nil)) me_non (nomark _))))) (mb_one (ms_ret me_bl)) mb_nil)
    (mb_cons (ms_expr (me_bm (T := .list) PySem.F.plainAttrs_list PySem.F.slot_list_append PySem.F.type_list_append t_append (me_var 4 hv) (ma_cons (me_var 9 hv) ma_nil)))
    (mb_one (ms_expr (me_bm (T := .list) PySem.F.plainAttrs_list PySem.F.slot_list_append PySem.F.type_list_append t_append (me_var 7 hv) (ma_cons (me_tup (ma_cons (me_callB c_len (gl_at hg 3) n_len bb_len (ma_cons (me_var 4 hv) ma_nil)) (ma_cons (me_var 8 hv) ma_nil))) ma_nil)))))))))))
    (mb_cons (ms_set 10 nd hl (me_call d_parse_schedule (hr.mono (by decide)) (gl_at hg 4) (ma_cons (me_bm (T := .str) PySem.F.plainAttrs_str PySem.F.slot_str_join PySem.F.type_str_join t_join me_str (ma_cons (me_var 4 hv) ma_nil)) ma_nil)))
    (mb_cons (ms_if (MW.mt (mw_or (mt_not (mt_val (me_isi .tuple (me_var 10 hv) (gl_at hg 0) n_isinstance (gl_at hg 1) n_tuple bb_isinstance bb_tuple))) (mw_or (mt_cmp (o_ne hh) (me_callB c_len (gl_at hg 3) n_len bb_len (ma_cons (me_var 10 hv) ma_nil)) me_int (nomark _)) (mw_or1 (mt_cmp (o_ne hh) (me_sl false (me_var 10 hv) mo_no (mo_at me_int)) (me_tup (ma_cons (me_var 6 hv) (ma_cons (me_var 2 hv) (ma_cons (me_var 3 hv) ma_nil)))) (nomark _)))))) (mb_one (ms_ret me_bl)) mb_nil)
    (mb_cons (ms_if (mt_not (mt_val (me_isi .list (me_ix hh (me_var 10 hv) me_int) (gl_at hg 0) n_isinstance (gl_at hg 2) n_list bb_isinstance bb_list))) (mb_one (ms_ret me_bl)) mb_nil)
    (mb_cons (ms_for hp hc (mi_any (me_ix hh (me_var 10 hv) me_int)) (mg_name 11 nd hl) (gok_nm 11) (mb_one (ms_if (MW.mt (mw_or (mt_not (mt_val (me_isi .tuple (me_var 11 hv) (gl_at hg 0) n_isinstance (gl_at hg 1) n_tuple bb_isinstance bb_tuple))) (mw_or1 (mt_not (mt_val (me_isi .tuple (me_ix hh (me_var 11 hv) me_int) (gl_at hg 0) n_isinstance (gl_at hg 1) n_tuple bb_isinstance bb_tuple)))))) (mb_one (ms_ret me_bl)) mb_nil)))
    (mb_one (ms_ret (me_cmp (o_eq hh) (me_ix hh (me_var 10 hv) me_int) (me_var 7 hv) (nomark _)))))))))))))))))) rfl rfl
end
end L_k64
namespace L_k64
open PySem PySem.Spec PyProof.Rows L2 BS
theorem prin_scan (S : Store) (x : Option D) : ∀ (cs : List Nat) (y : Option D), ∃ y', forL (fun _ => True) (gNm 1) lb_is_printable_0 (cs.map BS.strAt) ⟨[x, y], []⟩ S = if cs.all prC = true then .nx ⟨[x, y'], []⟩ S else .rt (.bl false) S
  | [], y => ⟨y, by rw [List.map_nil, forL_nil]; rfl⟩
  | c :: cs, y => by
    obtain ⟨y', e⟩ := prin_scan S x cs (some (BS.strAt c))
    refine ⟨y', ?_⟩
    have h1 : ltS ⟨#[c]⟩ " " = decide (c < 32) := ltS_one c 32
    have h2 : ltS "~" ⟨#[c]⟩ = decide (126 < c) := ltS_one 126 c
    have step : (gNm 1 (BS.strAt c) ⟨[x, y], []⟩ S).seq lb_is_printable_0 = if prC c = true then .nx ⟨[x, some (BS.strAt c)], []⟩ S else .rt (.bl false) S := by
      by_cases a1 : c < 32
      · have p : prC c = false := by simp [prC]; omega
        simp [lb_is_printable_0, BS.strAt, h1, a1, p]
      · by_cases a2 : 126 < c
        · have p : prC c = false := by simp [prC]; omega
          simp [lb_is_printable_0, BS.strAt, h1, a1, h2, a2, p]
        · by_cases a3 : c = 37
          · have p : prC c = false := by simp [prC]; omega
            subst a3
            simp [lb_is_printable_0, BS.strAt, h1, a1, h2, a2, p, c_PERCENT]
          · have p : prC c = true := by simp [prC]; omega
            have a4 : ¬ (c : Int) = 37 := by omega
            simp [lb_is_printable_0, BS.strAt, h1, a1, h2, a2, p, c_PERCENT, a4]
    rw [List.map_cons, forL_cons, step]
    cases h : prC c with
    | true => rw [if_pos rfl, RS.loop_nx, e]; simp [h]
    | false => rw [if_neg (by simp), RS.loop_rt]; simp [h]
theorem prin_eq {n : Nat} {d : D} (h : Sm n d) (S : Store) : V_is_printable [d] S = .ok (.bl (isPr d)) S := by
  cases d with
  | str z =>
    obtain ⟨y', e⟩ := prin_scan S (some (.str z)) z.cps.toList none
    cases ha : z.cps.toList.all prC <;> rw [ha] at e <;>
    simp (config := { implicitDefEqProofs := false }) [V_is_printable, m_is_printable, BS.signs, e, isPr, ha]
  | obj k => simp at h
  | scr k => simp at h
  | _ => simp (config := { implicitDefEqProofs := false }) [V_is_printable, m_is_printable, isPr]
theorem value_eq {n : Nat} {d : D} (h : Sm n d) (S : Store) : V_is_value [d] S = .ok (.bl (isV d)) S := by
  have hb := prin_eq h S
  cases d with
  | str z =>
    simp at h
    have l1 : z.length ≤ sizeLine := szL h
    cases hB : isPr (.str z) <;> rw [hB] at hb <;> simp (config := { implicitDefEqProofs := false }) [V_is_value, m_is_value, hb, isV, hB, l1, c_MOST_VALUE]
  | obj k => simp at h
  | scr k => simp at h
  | _ => simp (config := { implicitDefEqProofs := false }) [V_is_value, m_is_value, hb, isPr, isV]
theorem int_eq {n : Nat} {d : D} (h : Sm n d) (lo hi : Int) (S : Store) : V_is_integer [d, .int lo, .int hi] S = .ok (.bl (isI d lo hi)) S := by
  cases d with
  | int i => cases q : decide (lo ≤ i) <;> simp (config := { implicitDefEqProofs := false }) [V_is_integer, m_is_integer, isI, q]
  | obj k => simp at h
  | scr k => simp at h
  | _ => simp (config := { implicitDefEqProofs := false }) [V_is_integer, m_is_integer, isI]
abbrev chs (z : Str) : List Nat := z.cps.toList
def ofL (l : List Nat) : Str := ⟨l.toArray⟩
theorem chs_ofL (l : List Nat) : chs (ofL l) = l := rfl
theorem ofL_chs (z : Str) : ofL (chs z) = z := TL.mk_tl z
theorem ofL_len (l : List Nat) : (ofL l).length = l.length := by unfold ofL Str.length; simp
theorem chs_len (z : Str) : (chs z).length = z.length := len_cps z
theorem ofL_app (a b : List Nat) : ofL a ++ ofL b = ofL (a ++ b) := TL.ext_tl (by rw [TL.tl_append]; rfl)
theorem ofL_inj {a b : List Nat} (h : ofL a = ofL b) : a = b := congrArg chs h
theorem szL' {n : Nat} (h : n ≤ 16777216) : n ≤ sizeLine := h
theorem chs_app (a b : Str) : chs (a ++ b) = chs a ++ chs b := cps_app a b
theorem lit1 (s : String) (c : Nat) (h : s.toList.map Char.toNat = [c]) : Str.ofString s = ofL [c] := TL.ext_tl (by rw [TL.tl_ofString, h]; rfl)
theorem litL (s : String) (l : List Nat) (h : s.toList.map Char.toNat = l) : Str.ofString s = ofL l := TL.ext_tl (by rw [TL.tl_ofString, h]; rfl)
theorem cut_nn (z : Str) (p q : Nat) : cutS z (some (p : Int)) (some (q : Int)) = ofL (((chs z).drop p).take (q - p)) := by
  unfold cutS
  rw [HT.sIx_nat, HT.sIx_nat]
  apply congrArg ofL
  have hn := chs_len z
  by_cases hp : p ≤ z.length
  · rw [Nat.min_eq_left hp]
    by_cases hq : q ≤ z.length
    · rw [Nat.min_eq_left hq]
    · have hd : ((chs z).drop p).length = z.length - p := by rw [List.length_drop, hn]
      rw [Nat.min_eq_right (by omega), List.take_of_length_le (by rw [hd]; exact Nat.le_refl _), List.take_of_length_le (by rw [hd]; omega)]
  · rw [Nat.min_eq_right (Nat.le_of_not_le hp), List.drop_eq_nil_of_le (by omega : (chs z).length ≤ p), List.drop_eq_nil_of_le (by omega : (chs z).length ≤ z.length)]
    simp
theorem cut_one (z : Str) (p : Nat) : cutS z (some (p : Int)) (some ((p : Int) + 1)) = ofL (((chs z).drop p).take 1) := by
  have := cut_nn z p (p + 1)
  rw [show p + 1 - p = 1 by omega] at this
  exact this
theorem cut_one' (z : Str) (p : Nat) : cutS z (some ((p : Int) + 1)) (some ((p : Int) + 2)) = ofL (((chs z).drop (p + 1)).take 1) := by
  have := cut_nn z (p + 1) (p + 2)
  rw [show p + 2 - (p + 1) = 1 by omega] at this
  exact this
/-- a sign at a place is told by the cut of one -/
theorem ofL_eq_iff (a b : List Nat) : ofL a = ofL b ↔ a = b := ⟨ofL_inj, fun h => by rw [h]⟩
theorem take1_eq (l : List Nat) (c : Nat) : l.take 1 = [c] ↔ l.head? = some c := by
  cases l with
  | nil => simp
  | cons a r => simp
theorem range'_split' {lo n a : Nat} {pre post : List Nat} (h : List.range' lo n = pre ++ a :: post) : lo ≤ a ∧ ∀ k, lo ≤ k → k < a → k ∈ pre := by
  have hL : n = pre.length + (post.length + 1) := by
    have := congrArg List.length h
    simpa using this
  have hlen : lo + pre.length = a := by
    have h1 : (List.range' lo n)[pre.length]? = some a := by rw [h]; simp
    rw [List.getElem?_range' (by omega)] at h1
    simpa using h1
  refine ⟨by omega, fun k h1 hk => ?_⟩
  have h2 : (List.range' lo n)[k - lo]? = pre[k - lo]? := by rw [h, List.getElem?_append_left (by omega)]
  rw [List.getElem?_range' (by omega)] at h2
  have h3 : pre[k - lo]? = some k := by rw [← h2]; simp; omega
  exact List.mem_of_getElem? h3
theorem find_nat (z : Str) (c p : Nat) (hp : p ≤ z.length) : (Txt.find3 z (ofL [c]) (p : Int) = -1 ∧ c ∉ (chs z).drop p) ∨ ∃ a r, (chs z).drop p = a ++ c :: r ∧ c ∉ a ∧ Txt.find3 z (ofL [c]) (p : Int) = ((p + a.length : Nat) : Int) := by
  have hf : PySem.fromIndex z.length (p : Int) = p := by unfold PySem.fromIndex; rw [if_neg (by omega)]; omega
  have hn := chs_len z
  unfold Txt.find3
  rw [hf, StrLaws.occ_eq]
  rcases StrLaws.occ_first z (ofL [c]) z.length 1 (Nat.le_refl _) (List.range' p (z.length + 1 - p)) p (fun i hi => by simp [List.mem_range'] at hi; omega) with ⟨h0, hno⟩ | ⟨pre, a, post, e, h0, ha, hno⟩
  · refine .inl ⟨by rw [h0], fun hm => ?_⟩
    obtain ⟨j, hj⟩ := List.getElem?_of_mem hm
    rw [List.getElem?_drop] at hj
    have hlt : p + j < z.length := by
      have := (List.getElem?_eq_some_iff.mp hj).1
      omega
    exact hno (p + j) (by simp [List.mem_range']; omega) ((StrLaws.subAt_one z c (p + j)).mpr hj)
  · obtain ⟨h1, h2⟩ := range'_split' e
    have hat : (chs z)[a]? = some c := (StrLaws.subAt_one z c a).mp ha
    have hlt : a < (chs z).length := (List.getElem?_eq_some_iff.mp hat).1
    refine .inr ⟨((chs z).drop p).take (a - p), (chs z).drop (a + 1), ?_, ?_, ?_⟩
    · have e1 : ((chs z).drop p).drop (a - p) = c :: (chs z).drop (a + 1) := by
        rw [List.drop_drop, show p + (a - p) = a by omega, List.drop_eq_getElem_cons hlt]
        rw [List.getElem?_eq_getElem hlt] at hat
        rw [Option.some.inj hat]
      rw [← e1, List.take_append_drop]
    · intro hm
      obtain ⟨j, hj⟩ := List.getElem?_of_mem hm
      have hja : j < a - p := by
        have := (List.getElem?_eq_some_iff.mp hj).1
        rw [List.length_take] at this
        omega
      rw [List.getElem?_take_of_lt hja, List.getElem?_drop] at hj
      exact hno (p + j) (h2 _ (by omega) (by omega)) ((StrLaws.subAt_one z c (p + j)).mpr hj)
    · generalize (forIn (List.range' p (z.length + 1 - p)) ((#[] : Array Nat), p) (StrLaws.occBody z (ofL [c]) z.length 1)).run.fst = arr at h0
      have h3 : arr.toList[0]? = some a := by simpa using h0
      have e2 : p + (((chs z).drop p).take (a - p)).length = a := by rw [List.length_take, List.length_drop]; omega
      rw [e2]
      cases hL : arr.toList with
      | nil => rw [hL] at h3; cases h3
      | cons b t => rw [hL] at h3; simp at h3; rw [h3]
def txI (i : Int) : List Nat := chs (Str.ofString (toString i))
theorem txI_nat (n : Nat) : txI (n : Int) = TL.numL n := TL.tl_num n
theorem txI_neg (n : Nat) (h : 0 < n) : txI (-(n : Int)) = 45 :: TL.numL n := by
  obtain ⟨m, rfl⟩ : ∃ m, n = m + 1 := ⟨n - 1, by omega⟩
  unfold txI
  rw [show chs (Str.ofString (toString (-((m + 1 : Nat) : Int)))) = TL.tl (Str.ofString (toString (-((m + 1 : Nat) : Int)))) from rfl, TL.tl_ofString]
  rw [show (toString (-((m + 1 : Nat) : Int))) = "-" ++ Nat.repr (m + 1) from rfl, String.toList_append, List.map_append]
  show [45] ++ (Nat.repr (m + 1)).toList.map Char.toNat = 45 :: (Nat.toDigits 10 (m + 1)).map Char.toNat
  rw [Nat.toList_repr]
  rfl
def tx : Nat → D → List Nat
  | _, .non => [42]
  | _, .int i => txI i
  | _, .str z => 39 :: (StrLaws.dbl 39 (chs z) ++ [39])
  | n + 1, .tup ds => 40 :: (TL.joinL [44] (ds.map (tx n)) ++ [41])
  | _, _ => []
def Pv : Nat → D → Prop
  | _, .non => True
  | _, .int i => i.natAbs < 10 ^ 30
  | _, .str z => ∀ c ∈ chs z, prC c = true
  | n + 1, .tup ds => ∀ d ∈ ds, Pv n d
  | _, _ => False
@[simp] theorem tx_non (n : Nat) : tx n .non = [42] := by cases n <;> rfl
@[simp] theorem tx_int (n : Nat) (i : Int) : tx n (.int i) = txI i := by cases n <;> rfl
@[simp] theorem tx_str (n : Nat) (z : Str) : tx n (.str z) = 39 :: (StrLaws.dbl 39 (chs z) ++ [39]) := by cases n <;> rfl
@[simp] theorem tx_tup (n : Nat) (ds : List D) : tx (n + 1) (.tup ds) = 40 :: (TL.joinL [44] (ds.map (tx n)) ++ [41]) := rfl
@[simp] theorem Pv_non (n : Nat) : Pv n .non = True := by cases n <;> rfl
@[simp] theorem Pv_int (n : Nat) (i : Int) : Pv n (.int i) = (i.natAbs < 10 ^ 30) := by cases n <;> rfl
@[simp] theorem Pv_str (n : Nat) (z : Str) : Pv n (.str z) = (∀ c ∈ chs z, prC c = true) := by cases n <;> rfl
@[simp] theorem Pv_tup (n : Nat) (ds : List D) : Pv (n + 1) (.tup ds) = (∀ d ∈ ds, Pv n d) := rfl
theorem Pv_cases {n : Nat} {d : D} (h : Pv n d) : d = .non ∨ (∃ i : Int, d = .int i ∧ i.natAbs < 10 ^ 30) ∨ (∃ z, d = .str z ∧ ∀ c ∈ chs z, prC c = true) ∨ ∃ m ds, n = m + 1 ∧ d = .tup ds ∧ ∀ x ∈ ds, Pv m x := by
  cases d with
  | non => exact .inl rfl
  | int i => exact .inr (.inl ⟨i, rfl, by simpa using h⟩)
  | str z => exact .inr (.inr (.inl ⟨z, rfl, by simpa using h⟩))
  | tup ds =>
    cases n with
    | zero => exact absurd h (by simp [Pv])
    | succ m => exact .inr (.inr (.inr ⟨m, ds, rfl, rfl, by simpa using h⟩))
  | _ => cases n <;> exact absurd h (by simp [Pv])
theorem Pv_mono : ∀ {n m : Nat} {d : D}, Pv n d → n ≤ m → Pv m d
  | n, m, d, h, hl => by
    rcases Pv_cases h with rfl | ⟨i, rfl, hi⟩ | ⟨z, rfl, hz⟩ | ⟨k, ds, rfl, rfl, hd⟩
    · simp
    · rw [Pv_int]; exact hi
    · rw [Pv_str]; exact hz
    · obtain ⟨j, rfl⟩ : ∃ j, m = j + 1 := ⟨m - 1, by omega⟩
      rw [Pv_tup]
      exact fun x hx => Pv_mono (hd x hx) (by omega)
theorem tx_mono : ∀ {n m : Nat} {d : D}, Pv n d → n ≤ m → tx m d = tx n d
  | n, m, d, h, hl => by
    rcases Pv_cases h with rfl | ⟨i, rfl, hi⟩ | ⟨z, rfl, hz⟩ | ⟨k, ds, rfl, rfl, hd⟩
    · simp
    · simp
    · simp
    · obtain ⟨j, rfl⟩ : ∃ j, m = j + 1 := ⟨m - 1, by omega⟩
      have e : ds.map (tx j) = ds.map (tx k) := List.map_congr_left fun x hx => tx_mono (hd x hx) (by omega)
      rw [tx_tup, tx_tup, e]
def isDg (c : Nat) : Bool := decide (48 ≤ c ∧ c ≤ 57)
def rsL : List Nat → Option (List Nat × List Nat)
  | [] => none
  | [c] => if c = 39 then some ([], []) else none
  | c :: d :: r => if c = 39 then (if d = 39 then (rsL r).map fun p => (39 :: p.1, p.2) else some ([], d :: r)) else (rsL (d :: r)).map fun p => (c :: p.1, p.2)
def rdD (neg : Bool) (M1 ds : List Nat) : Option (D × List Nat) :=
  if ds.length = 0 ∨ 30 < ds.length then none
  else if ds.head? = some 48 ∧ (1 < ds.length ∨ neg = true) then none
  else some (.int (if neg = true then -((NumText.digitsVal ds : Nat) : Int) else (NumText.digitsVal ds : Nat)), M1.drop ds.length)
def rdI (M : List Nat) : Option (D × List Nat) :=
  if M.head? = some 45 then rdD true M.tail ((M.tail.take 31).takeWhile isDg) else rdD false M ((M.take 31).takeWhile isDg)
theorem rdD_some {neg : Bool} {M1 ds : List Nat} {d : D} {r : List Nat} (h : rdD neg M1 ds = some (d, r)) : ds.length ≠ 0 ∧ ds.length ≤ 30 ∧ ¬ (ds.head? = some 48 ∧ (1 < ds.length ∨ neg = true)) ∧ d = .int (if neg = true then -((NumText.digitsVal ds : Nat) : Int) else (NumText.digitsVal ds : Nat)) ∧ r = M1.drop ds.length := by
  unfold rdD at h
  by_cases h1 : ds.length = 0 ∨ 30 < ds.length
  · rw [if_pos h1] at h; cases h
  · rw [if_neg h1] at h
    by_cases h2 : ds.head? = some 48 ∧ (1 < ds.length ∨ neg = true)
    · rw [if_pos h2] at h; cases h
    · rw [if_neg h2] at h
      have e := Option.some.inj h
      exact ⟨by omega, by omega, h2, (congrArg Prod.fst e).symm, (congrArg Prod.snd e).symm⟩
theorem rev_ind {P : List Nat → Prop} (h0 : P []) (h1 : ∀ l c, P l → P (l ++ [c])) : ∀ (n : Nat) (l : List Nat), l.length = n → P l
  | 0, l, h => by rw [List.eq_nil_of_length_eq_zero h]; exact h0
  | n + 1, l, h => by
    rcases List.eq_nil_or_concat l with rfl | ⟨L, b, rfl⟩
    · exact h0
    · rw [List.concat_eq_append] at h ⊢
      exact h1 L b (rev_ind h0 h1 n L (by simpa using h))
def rdT (f : List Nat → Option (D × List Nat)) : Nat → List Nat → Option (List D × List Nat)
  | 0, _ => none
  | m + 1, M => (f M).bind fun p => if p.2.head? = some 41 then some ([p.1], p.2.tail) else if p.2.head? = some 44 then (rdT f m p.2.tail).map fun q => (p.1 :: q.1, q.2) else none
def rdH (t : List Nat → Option (D × List Nat)) (M : List Nat) : Option (D × List Nat) :=
  if M.head? = some 42 then some (.non, M.tail) else if M.head? = some 39 then (rsL M.tail).map fun p => (.str (ofL p.1), p.2)
  else if M.head? = some 40 then t M.tail else rdI M
def rd : Nat → List Nat → Option (D × List Nat)
  | 0, M => rdH (fun _ => none) M
  | n + 1, M => rdH (fun r => if r.head? = some 41 then some (.tup [], r.tail) else (rdT (rd n) (r.length + 1) r).map fun p => (.tup p.1, p.2)) M
theorem rsL_sound : ∀ {M : List Nat} {z r : List Nat}, rsL M = some (z, r) → M = StrLaws.dbl 39 z ++ 39 :: r ∧ r.head? ≠ some 39
  | [], z, r, h => by simp [rsL] at h
  | [c], z, r, h => by
    unfold rsL at h
    split at h
    · rename_i e; cases h; subst e; exact ⟨rfl, by simp⟩
    · cases h
  | c :: d :: M, z, r, h => by
    unfold rsL at h
    split at h
    · rename_i e; subst e
      split at h
      · rename_i e; subst e
        obtain ⟨p, hp, e⟩ := Option.map_eq_some_iff.mp h
        cases e
        obtain ⟨h1, h2⟩ := rsL_sound (z := p.1) (r := p.2) hp
        exact ⟨by rw [h1]; simp [StrLaws.dbl], h2⟩
      · rename_i hn; cases h
        exact ⟨rfl, by simpa using hn⟩
    · rename_i hn
      obtain ⟨p, hp, e⟩ := Option.map_eq_some_iff.mp h
      cases e
      obtain ⟨h1, h2⟩ := rsL_sound (z := p.1) (r := p.2) hp
      exact ⟨by rw [h1]; simp [StrLaws.dbl, hn], h2⟩
theorem rsL_full : ∀ {z r : List Nat}, r.head? ≠ some 39 → rsL (StrLaws.dbl 39 z ++ 39 :: r) = some (z, r)
  | [], [], h => rfl
  | [], d :: r, h => by
    have hd : d ≠ 39 := by simpa using h
    show rsL (39 :: d :: r) = _
    unfold rsL
    rw [if_pos rfl, if_neg hd]
  | c :: z, r, h => by
    have ih := rsL_full (z := z) h
    by_cases e : c = 39
    · subst e
      have e1 : StrLaws.dbl 39 (39 :: z) ++ 39 :: r = 39 :: 39 :: (StrLaws.dbl 39 z ++ 39 :: r) := by simp [StrLaws.dbl]
      rw [e1]
      unfold rsL
      rw [if_pos rfl, if_pos rfl, ih]
      rfl
    · have e1 : StrLaws.dbl 39 (c :: z) ++ 39 :: r = c :: (StrLaws.dbl 39 z ++ 39 :: r) := by simp [StrLaws.dbl, e]
      rw [e1]
      cases hM : StrLaws.dbl 39 z ++ 39 :: r with
      | nil => simp at hM
      | cons d q =>
        rw [hM] at ih
        unfold rsL
        rw [if_neg e, ih]
        rfl
theorem isDg_iff (c : Nat) : isDg c = true ↔ 48 ≤ c ∧ c ≤ 57 := by simp [isDg]
/-- digits without a zero in front are the number's own -/
theorem numL_head {n : Nat} (h : 0 < n) : ∃ c l, TL.numL n = c :: l ∧ c ≠ 48 := by
  induction n using Nat.strongRecOn with
  | _ n ih =>
    by_cases hn : n < 10
    · exact ⟨48 + n, [], TL.numL_lt hn, by omega⟩
    · obtain ⟨c, l, e, hc⟩ := ih (n / 10) (by omega) (by omega)
      exact ⟨c, l ++ [48 + n % 10], by rw [TL.numL_step (by omega), e]; rfl, hc⟩
theorem numL_of : ∀ {ds : List Nat}, (∀ c ∈ ds, isDg c = true) → ds ≠ [] → (ds.head? = some 48 → ds.length = 1) → TL.numL (NumText.digitsVal ds) = ds := by
  intro ds
  refine rev_ind (P := fun ds => (∀ c ∈ ds, isDg c = true) → ds ≠ [] → (ds.head? = some 48 → ds.length = 1) → TL.numL (NumText.digitsVal ds) = ds) ?_ (fun l c ih => ?_) _ ds rfl
  · intro _ h; exact absurd rfl h
  · intro hd hne hh
    have hc := (isDg_iff c).mp (hd c (by simp))
    have ev : NumText.digitsVal (l ++ [c]) = NumText.digitsVal l * 10 + (c - 48) := by
      unfold NumText.digitsVal
      rw [List.foldl_append]
      rfl
    by_cases hl : l = []
    · subst hl
      rw [ev]
      show TL.numL (0 * 10 + (c - 48)) = [c]
      rw [TL.numL_lt (by omega)]
      congr 1; omega
    · have h48 : l.head? ≠ some 48 := fun e => by
        have := hh (by rw [List.head?_append, e]; rfl)
        rw [List.length_append] at this
        exact hl (List.eq_nil_of_length_eq_zero (by simpa using this))
      have e1 := ih (fun x hx => hd x (List.mem_append_left _ hx)) hl (fun e => absurd e h48)
      have hpos : 0 < NumText.digitsVal l := by
        rcases Nat.eq_zero_or_pos (NumText.digitsVal l) with h0 | h0
        · rw [h0, TL.numL_lt (by omega)] at e1
          exact absurd (by rw [← e1]; rfl) h48
        · exact h0
      rw [ev, TL.numL_step (by omega), show (NumText.digitsVal l * 10 + (c - 48)) / 10 = NumText.digitsVal l by omega, show (NumText.digitsVal l * 10 + (c - 48)) % 10 = c - 48 by omega, e1]
      congr 2; omega
theorem digitsVal_lt : ∀ {ds : List Nat}, (∀ c ∈ ds, isDg c = true) → NumText.digitsVal ds < 10 ^ ds.length := by
  intro ds
  refine rev_ind (P := fun ds => (∀ c ∈ ds, isDg c = true) → NumText.digitsVal ds < 10 ^ ds.length) ?_ (fun l c ih => ?_) _ ds rfl
  · intro _; decide
  · intro hd
    have hc := (isDg_iff c).mp (hd c (by simp))
    have h1 := ih fun x hx => hd x (List.mem_append_left _ hx)
    have ev : NumText.digitsVal (l ++ [c]) = NumText.digitsVal l * 10 + (c - 48) := by
      unfold NumText.digitsVal
      rw [List.foldl_append]
      rfl
    rw [ev, List.length_append, List.length_singleton, Nat.pow_succ]
    omega
theorem takeWhile_all' {l : List Nat} : ∀ c ∈ l.takeWhile isDg, isDg c = true := fun c hc => by
  induction l with
  | nil => simp at hc
  | cons a r ih =>
    rw [List.takeWhile_cons] at hc
    split at hc
    · rcases List.mem_cons.mp hc with rfl | h
      · assumption
      · exact ih h
    · simp at hc
theorem take_tw (l : List Nat) (k : Nat) : l = (l.take k).takeWhile isDg ++ l.drop ((l.take k).takeWhile isDg).length := by
  have h : (l.take k).takeWhile isDg <+: l := (List.takeWhile_prefix _).trans (List.take_prefix _ _)
  generalize (l.take k).takeWhile isDg = w at *
  obtain ⟨t, e⟩ := h
  subst e
  rw [List.drop_left]
theorem rdI_sound {M : List Nat} {d : D} {r : List Nat} (h : rdI M = some (d, r)) : ∃ i : Int, d = .int i ∧ i.natAbs < 10 ^ 30 ∧ M = txI i ++ r := by
  unfold rdI at h
  by_cases hn : M.head? = some 45
  · rw [if_pos hn] at h
    obtain ⟨M1, rfl⟩ : ∃ M1, M = 45 :: M1 := by
      cases M with
      | nil => simp at hn
      | cons a r => exact ⟨r, by simp at hn; rw [hn]⟩
    rw [List.tail_cons] at h
    obtain ⟨h1, h2, h3, rfl, rfl⟩ := rdD_some h
    have ha := takeWhile_all' (l := M1.take 31)
    have hs := take_tw M1 31
    generalize (M1.take 31).takeWhile isDg = ds at *
    have hne : ds ≠ [] := fun e => by subst e; simp at h1
    have h48 : ds.head? ≠ some 48 := fun e => h3 ⟨e, .inr rfl⟩
    have hv := numL_of ha hne (fun e => absurd e h48)
    have hlt := digitsVal_lt ha
    have hpos : 0 < NumText.digitsVal ds := by
      rcases Nat.eq_zero_or_pos (NumText.digitsVal ds) with h0 | h0
      · rw [h0, TL.numL_lt (by omega)] at hv
        exact absurd (by rw [← hv]; rfl) h48
      · exact h0
    have hp : 10 ^ ds.length ≤ 10 ^ 30 := Nat.pow_le_pow_right (by decide) (by omega)
    refine ⟨_, rfl, by rw [if_pos rfl]; omega, ?_⟩
    rw [if_pos rfl, txI_neg _ hpos, hv, List.cons_append, ← hs]
  · rw [if_neg hn] at h
    obtain ⟨h1, h2, h3, rfl, rfl⟩ := rdD_some h
    have ha := takeWhile_all' (l := M.take 31)
    have hs := take_tw M 31
    generalize (M.take 31).takeWhile isDg = ds at *
    have hne : ds ≠ [] := fun e => by subst e; simp at h1
    have hv := numL_of ha hne (fun e => by
      have : ¬ 1 < ds.length := fun w => h3 ⟨e, .inl w⟩
      omega)
    have hlt := digitsVal_lt ha
    have hp : 10 ^ ds.length ≤ 10 ^ 30 := Nat.pow_le_pow_right (by decide) (by omega)
    refine ⟨_, rfl, by rw [if_neg (by simp)]; omega, ?_⟩
    rw [if_neg (by simp), txI_nat, hv, ← hs]
/-- what may stand behind a value -/
def fol (r : List Nat) : Prop := ∀ c, r.head? = some c → c = 44 ∨ c = 41
theorem fol_nil : fol [] := fun c h => by simp at h
theorem fol_44 (r : List Nat) : fol (44 :: r) := fun c h => .inl (by simpa using h.symm)
theorem fol_41 (r : List Nat) : fol (41 :: r) := fun c h => .inr (by simpa using h.symm)
theorem tw_app {ds r : List Nat} (h : ∀ c ∈ ds, isDg c = true) (hl : ds.length ≤ 30) (hr : fol r) : ((ds ++ r).take 31).takeWhile isDg = ds := by
  rw [List.take_append, List.take_of_length_le (by omega), List.takeWhile_append_of_pos h]
  have : (r.take (31 - ds.length)).takeWhile isDg = [] := by
    obtain ⟨k, hk⟩ : ∃ k, 31 - ds.length = k + 1 := ⟨30 - ds.length, by omega⟩
    rw [hk]
    cases r with
    | nil => rfl
    | cons c r =>
      have hc := hr c rfl
      have : isDg c = false := by rcases hc with rfl | rfl <;> decide
      rw [List.take_succ_cons, List.takeWhile_cons_of_neg (by rw [this]; simp)]
  rw [this, List.append_nil]
theorem numL_dg (n : Nat) : ∀ c ∈ TL.numL n, isDg c = true := fun c hc => (isDg_iff c).mpr (TL.numL_digits n c hc)
theorem rdI_full {i : Int} (hi : i.natAbs < 10 ^ 30) {r : List Nat} (hr : fol r) : rdI (txI i ++ r) = some (.int i, r) := by
  by_cases h0 : 0 ≤ i
  · obtain ⟨n, rfl⟩ := Int.eq_ofNat_of_zero_le h0
    have hn : n < 10 ^ 30 := by simpa using hi
    have hl := TL.numL_len (by decide : 0 < 30) hn
    have hd := numL_dg n
    have hne := TL.numL_ne n
    have hv := TL.numL_val n
    have h48 : (TL.numL n).head? = some 48 → (TL.numL n).length = 1 := fun e => by
      rcases Nat.eq_zero_or_pos n with rfl | h
      · rw [TL.numL_lt (by omega)]; rfl
      · obtain ⟨c, l, e1, hc⟩ := numL_head h
        rw [e1] at e; exact absurd (by simpa using e) hc
    rw [txI_nat]
    generalize TL.numL n = ds at *
    have hh : (ds ++ r).head? ≠ some 45 := fun e => by
      cases ds with
      | nil => exact hne rfl
      | cons c l =>
        have := (isDg_iff c).mp (hd c (List.mem_cons_self ..))
        simp at e; omega
    unfold rdI rdD
    simp only [hh, Bool.false_eq_true, if_false, tw_app hd hl hr, List.drop_left, hv, or_false]
    have h1 : ¬ (ds.length = 0 ∨ 30 < ds.length) := by
      have : ds.length ≠ 0 := fun e => hne (List.eq_nil_of_length_eq_zero e)
      omega
    have h2 : ¬ (ds.head? = some 48 ∧ 1 < ds.length) := fun ⟨a, b⟩ => by have := h48 a; omega
    rw [if_neg h1, if_neg h2]
  · obtain ⟨n, rfl⟩ : ∃ n : Nat, i = -(n : Int) := ⟨i.natAbs, by omega⟩
    have hn : n < 10 ^ 30 := by simpa using hi
    have hp : 0 < n := by omega
    have hl := TL.numL_len (by decide : 0 < 30) hn
    have hd := numL_dg n
    have hne := TL.numL_ne n
    have hv := TL.numL_val n
    have h48 : (TL.numL n).head? ≠ some 48 := fun e => by
      obtain ⟨c, l, e1, hc⟩ := numL_head hp
      rw [e1] at e; exact absurd (by simpa using e) hc
    rw [txI_neg n hp]
    generalize TL.numL n = ds at *
    unfold rdI rdD
    simp only [List.cons_append, List.head?_cons, if_true, List.tail_cons, tw_app hd hl hr, List.drop_left, hv, or_true, and_true]
    have h1 : ¬ (ds.length = 0 ∨ 30 < ds.length) := by
      have : ds.length ≠ 0 := fun e => hne (List.eq_nil_of_length_eq_zero e)
      omega
    rw [if_neg h1, if_neg h48]
theorem txI_head (i : Int) : ∃ c l, txI i = c :: l ∧ c ≠ 42 ∧ c ≠ 39 ∧ c ≠ 40 ∧ c ≠ 41 := by
  by_cases h0 : 0 ≤ i
  · obtain ⟨n, rfl⟩ := Int.eq_ofNat_of_zero_le h0
    rw [txI_nat]
    cases e : TL.numL n with
    | nil => exact absurd e (TL.numL_ne n)
    | cons c l =>
      have := TL.numL_digits n c (by rw [e]; exact List.mem_cons_self ..)
      exact ⟨c, l, rfl, by omega, by omega, by omega, by omega⟩
  · obtain ⟨n, rfl⟩ : ∃ n : Nat, i = -(n : Int) := ⟨i.natAbs, by omega⟩
    exact ⟨45, _, txI_neg n (by omega), by decide, by decide, by decide, by decide⟩
theorem tx_head {n : Nat} {d : D} (h : Pv n d) : ∃ c l, tx n d = c :: l ∧ c ≠ 41 := by
  rcases Pv_cases h with rfl | ⟨i, rfl, hi⟩ | ⟨z, rfl, hz⟩ | ⟨k, ds, rfl, rfl, hd⟩
  · exact ⟨42, [], by simp, by decide⟩
  · obtain ⟨c, l, e, _, _, _, h4⟩ := txI_head i
    exact ⟨c, l, by simpa using e, h4⟩
  · exact ⟨39, _, by rw [tx_str], by decide⟩
  · exact ⟨40, _, by rw [tx_tup], by decide⟩
theorem joinL_cons (p : List Nat) (ps : List (List Nat)) : TL.joinL [44] (p :: ps) = p ++ (if ps = [] then [] else 44 :: TL.joinL [44] ps) := by
  cases ps with
  | nil => simp [TL.joinL]
  | cons q r => rfl
theorem rdT_sound {f : List Nat → Option (D × List Nat)} {Q : D → Prop} {g : D → List Nat} {C : List Nat → Prop} (hC : ∀ a b, C (a ++ b) → C b) (hC1 : ∀ a b, C (a :: b) → C b) (hf : ∀ M d r, C M → f M = some (d, r) → Q d ∧ M = g d ++ r) :
    ∀ {m : Nat} {M r : List Nat} {ds : List D}, C M → rdT f m M = some (ds, r) → ds ≠ [] ∧ (∀ d ∈ ds, Q d) ∧ M = TL.joinL [44] (ds.map g) ++ 41 :: r
  | 0, M, r, ds, _, h => by simp [rdT] at h
  | m + 1, M, r, ds, c, h => by
    unfold rdT at h
    obtain ⟨⟨d, r1⟩, h1, h2⟩ := Option.bind_eq_some_iff.mp h
    obtain ⟨q1, e1⟩ := hf M d r1 c h1
    simp only at h2
    split at h2
    · rename_i hh
      cases h2
      obtain ⟨r2, rfl⟩ : ∃ r2, r1 = 41 :: r2 := by
        cases r1 with
        | nil => simp at hh
        | cons a r => exact ⟨r, by simp at hh; rw [hh]⟩
      exact ⟨by simp, by simpa using q1, by rw [e1]; simp [TL.joinL]⟩
    · split at h2
      · rename_i hh
        obtain ⟨⟨ds', r'⟩, h3, e3⟩ := Option.map_eq_some_iff.mp h2
        cases e3
        obtain ⟨r2, rfl⟩ : ∃ r2, r1 = 44 :: r2 := by
          cases r1 with
          | nil => simp at hh
          | cons a r => exact ⟨r, by simp at hh; rw [hh]⟩
        have c2 : C r2 := hC1 _ _ (hC (g d) _ (e1 ▸ c))
        obtain ⟨n1, n2, n3⟩ := rdT_sound hC hC1 hf (m := m) c2 h3
        refine ⟨by simp, fun x hx => ?_, ?_⟩
        · rcases List.mem_cons.mp hx with rfl | hx
          · exact q1
          · exact n2 x hx
        · have n3' : r2 = TL.joinL [44] (ds'.map g) ++ 41 :: r' := n3
          rw [e1, n3', List.map_cons, joinL_cons, if_neg (fun e => n1 (List.map_eq_nil_iff.mp e))]
          simp
      · cases h2
theorem rdT_full {f : List Nat → Option (D × List Nat)} {g : D → List Nat} : ∀ {m : Nat} {ds : List D} {r : List Nat}, ds ≠ [] → (∀ d ∈ ds, ∀ r, fol r → f (g d ++ r) = some (d, r)) → ds.length ≤ m → rdT f m (TL.joinL [44] (ds.map g) ++ 41 :: r) = some (ds, r)
  | 0, d :: ds, r, _, _, h => by simp at h
  | _, [], r, h, _, _ => absurd rfl h
  | m + 1, [d], r, _, hf, _ => by
    unfold rdT
    rw [show TL.joinL [44] ([d].map g) = g d from rfl, hf d (by simp) _ (fol_41 r)]
    simp
  | m + 1, d :: d' :: ds, r, _, hf, hl => by
    have ih := rdT_full (m := m) (ds := d' :: ds) (r := r) (by simp) (fun x hx => hf x (List.mem_cons_of_mem _ hx)) (by simp at hl ⊢; omega)
    unfold rdT
    rw [List.map_cons, joinL_cons, if_neg (by simp), List.append_assoc, List.cons_append, hf d (by simp) _ (fol_44 _)]
    rw [List.map_cons] at ih
    simp [ih]
def Prn (M : List Nat) : Prop := ∀ c ∈ M, prC c = true
theorem Prn.app {a b : List Nat} (h : Prn (a ++ b)) : Prn b := fun c hc => h c (List.mem_append_right _ hc)
theorem Prn.tl {a : Nat} {b : List Nat} (h : Prn (a :: b)) : Prn b := fun c hc => h c (List.mem_cons_of_mem _ hc)
theorem dbl_mem (c x : Nat) (l : List Nat) : x ∈ StrLaws.dbl c l ↔ x ∈ l := by
  induction l with
  | nil => simp [StrLaws.dbl]
  | cons a r ih => unfold StrLaws.dbl; split <;> simp [ih]
theorem rdH_sound {n : Nat} {t : List Nat → Option (D × List Nat)} (ht : ∀ r d q, Prn r → t r = some (d, q) → Pv n d ∧ 40 :: r = tx n d ++ q) {M : List Nat} {d : D} {q : List Nat} (hM : Prn M) (h : rdH t M = some (d, q)) : Pv n d ∧ M = tx n d ++ q := by
  have dec : ∀ c, M.head? = some c → M = c :: M.tail := fun c hc => by
    cases M with
    | nil => simp at hc
    | cons a r => simp at hc; rw [hc]; rfl
  unfold rdH at h
  split at h
  · rename_i hh; cases h; exact ⟨by simp, by simpa using dec _ hh⟩
  · split at h
    · rename_i hh
      obtain ⟨⟨z, r⟩, h1, e⟩ := Option.map_eq_some_iff.mp h
      cases e
      obtain ⟨h2, _⟩ := rsL_sound h1
      have e2 := dec _ hh
      rw [h2] at e2
      refine ⟨?_, ?_⟩
      · rw [Pv_str, chs_ofL]
        intro c hc
        refine hM c ?_
        rw [e2]
        exact List.mem_cons_of_mem _ (List.mem_append_left _ ((dbl_mem 39 c z).mpr hc))
      · rw [tx_str, chs_ofL]
        simpa using e2
    · split at h
      · rename_i hh
        have e2 := dec _ hh
        rw [e2] at hM
        obtain ⟨h1, h2⟩ := ht _ _ _ hM.tl h
        exact ⟨h1, by rw [← h2]; exact e2⟩
      · obtain ⟨i, rfl, h1, h2⟩ := rdI_sound h
        exact ⟨by rw [Pv_int]; exact h1, by rw [tx_int]; exact h2⟩
theorem rd_sound : ∀ {n : Nat} {M : List Nat} {d : D} {q : List Nat}, Prn M → rd n M = some (d, q) → Pv n d ∧ M = tx n d ++ q
  | 0, M, d, q, hM, h => rdH_sound (fun _ _ _ _ e => by simp at e) hM h
  | n + 1, M, d, q, hM, h => rdH_sound (fun r d q hr e => by
      split at e
      · rename_i hh; cases e
        refine ⟨by simp, ?_⟩
        cases r with
        | nil => simp at hh
        | cons a r => simp at hh; subst hh; simp [TL.joinL]
      · obtain ⟨⟨ds, r'⟩, h1, e2⟩ := Option.map_eq_some_iff.mp e
        cases e2
        obtain ⟨_, h3, h4⟩ := rdT_sound (Q := Pv n) (g := tx n) (C := Prn) (fun a b => Prn.app) (fun a b => Prn.tl) (fun M d r c => rd_sound c) hr h1
        exact ⟨h3, by rw [h4, tx_tup]; simp⟩) hM h
theorem tx_len_pos {n : Nat} {d : D} (h : Pv n d) : 0 < (tx n d).length := by
  obtain ⟨c, l, e, _⟩ := tx_head h
  rw [e]; simp
theorem joinL_len {g : D → List Nat} : ∀ {ds : List D}, (∀ d ∈ ds, 0 < (g d).length) → ds.length ≤ (TL.joinL [44] (ds.map g)).length
  | [], _ => Nat.le_refl _
  | [d], h => h d (by simp)
  | d :: d' :: ds, h => by
    have ih := joinL_len (ds := d' :: ds) fun x hx => h x (List.mem_cons_of_mem _ hx)
    have h1 := h d (by simp)
    rw [List.map_cons, joinL_cons, if_neg (by simp), List.length_append, List.length_cons]
    simp only [List.length_cons] at ih ⊢
    omega
theorem rd_full : ∀ {n : Nat} {d : D} {r : List Nat}, Pv n d → fol r → rd n (tx n d ++ r) = some (d, r) := by
  have base : ∀ (n : Nat) (t : List Nat → Option (D × List Nat)) (d : D) (r : List Nat), Pv n d → fol r → (∀ ds, d = .tup ds → t ((tx n d).tail ++ r) = some (d, r)) → rdH t (tx n d ++ r) = some (d, r) := by
    intro n t d r h hr ht
    rcases Pv_cases h with rfl | ⟨i, rfl, hi⟩ | ⟨z, rfl, hz⟩ | ⟨k, ds, rfl, rfl, hd⟩
    · simp [rdH]
    · obtain ⟨c, l, e, h1, h2, h3, h4⟩ := txI_head i
      have := rdI_full hi hr
      rw [tx_int]
      unfold rdH
      rw [e] at this ⊢
      simp only [List.cons_append, List.head?_cons, Option.some.injEq, h1, h2, h3, if_false] at this ⊢
      exact this
    · have hh : r.head? ≠ some 39 := fun e => by rcases hr _ e with h | h <;> cases h
      have := rsL_full (z := chs z) hh
      rw [tx_str]
      unfold rdH
      simp [this, ofL_chs]
    · have h1 := ht ds rfl
      rw [tx_tup] at h1 ⊢
      unfold rdH
      simpa using h1
  intro n
  induction n with
  | zero =>
    intro d r h hr
    exact base 0 _ d r h hr fun ds e => by subst e; exact absurd h (by simp [Pv])
  | succ n ih =>
    intro d r h hr
    refine base (n + 1) _ d r h hr fun ds e => ?_
    subst e
    rw [Pv_tup] at h
    rw [tx_tup, List.tail_cons]
    cases ds with
    | nil => simp [TL.joinL]
    | cons d ds =>
      have hh : ((TL.joinL [44] ((d :: ds).map (tx n)) ++ [41]) ++ r).head? ≠ some 41 := by
        obtain ⟨c, l, e, hc⟩ := tx_head (h d (by simp))
        rw [List.map_cons, joinL_cons, e]
        simpa using hc
      rw [if_neg hh]
      have hl := joinL_len (ds := d :: ds) (g := tx n) fun x hx => tx_len_pos (h x hx)
      have := rdT_full (f := rd n) (g := tx n) (m := ((TL.joinL [44] ((d :: ds).map (tx n)) ++ [41]) ++ r).length + 1) (ds := d :: ds) (r := r) (by simp) (fun x hx r hr => ih (h x hx) hr) (by simp only [List.length_append]; omega)
      rw [show (TL.joinL [44] ((d :: ds).map (tx n)) ++ [41]) ++ r = TL.joinL [44] ((d :: ds).map (tx n)) ++ 41 :: r by simp] at this ⊢
      rw [this]
      rfl
/-- the value of a text -/
def dec (M : List Nat) : Option D := match rd 10 M with
  | some (d, []) => some d
  | _ => none
theorem dec_iff {M : List Nat} (hM : Prn M) (d : D) : dec M = some d ↔ Pv 10 d ∧ M = tx 10 d := by
  unfold dec
  constructor
  · intro h
    split at h
    · rename_i d' e; cases h
      obtain ⟨h1, h2⟩ := rd_sound hM e
      exact ⟨h1, by simpa using h2⟩
    · cases h
  · rintro ⟨h1, rfl⟩
    have := rd_full h1 fol_nil
    rw [List.append_nil] at this
    rw [this]
theorem lq : Str.ofString "'" = ofL [39] := lit1 "'" 39 rfl
theorem lqq : Str.ofString "''" = ofL [39, 39] := litL "''" [39, 39] rfl
theorem lstar : Str.ofString "*" = ofL [42] := lit1 "*" 42 rfl
theorem lopen : Str.ofString "(" = ofL [40] := lit1 "(" 40 rfl
theorem lclose : Str.ofString ")" = ofL [41] := lit1 ")" 41 rfl
theorem lcomma : Str.ofString "," = ofL [44] := lit1 "," 44 rfl
theorem dbl_len (c : Nat) (l : List Nat) : l.length ≤ (StrLaws.dbl c l).length ∧ (StrLaws.dbl c l).length ≤ 2 * l.length := by
  induction l with
  | nil => exact ⟨Nat.le_refl _, Nat.le_refl _⟩
  | cons a r ih => unfold StrLaws.dbl; split <;> simp only [List.length_cons] <;> omega
theorem repl_q (z : Str) : Txt.replace z (ofL [39]) (ofL [39, 39]) = ofL (StrLaws.dbl 39 (chs z)) := replace_dbl z _ _ 39 rfl rfl
theorem log2_small {n : Nat} (h : n < 10 ^ 30) : n.log2 < 1920 := by
  rcases Nat.eq_zero_or_pos n with rfl | hp
  · decide
  · exact (Nat.log2_lt (by omega)).mpr (Nat.lt_trans h (by decide))
theorem joinL_sum : ∀ (ps : List (List Nat)), ps ≠ [] → (TL.joinL [44] ps).length + 1 = (ps.map (·.length)).sum + ps.length
  | [], h => absurd rfl h
  | [p], _ => by simp [TL.joinL]
  | p :: q :: r, _ => by
    have ih := joinL_sum (q :: r) (by simp)
    rw [joinL_cons, if_neg (by simp), List.length_append, List.length_cons]
    simp only [List.map_cons, List.sum_cons, List.length_cons] at ih ⊢
    omega
theorem joinL_ge {ps : List (List Nat)} {p : List Nat} (h : p ∈ ps) : p.length ≤ (TL.joinL [44] ps).length := by
  have hs := joinL_sum ps (List.ne_nil_of_mem h)
  have : p.length + (ps.length - 1) ≤ (ps.map (·.length)).sum + ps.length - 1 := by
    have h1 : p.length ≤ (ps.map (·.length)).sum := by
      clear hs
      induction ps with
      | nil => simp at h
      | cons a r ih =>
        rcases List.mem_cons.mp h with rfl | h
        · simp
        · have := ih h; simp only [List.map_cons, List.sum_cons]; omega
    have : 0 < ps.length := List.length_pos_of_mem h
    omega
  have : 0 < ps.length := List.length_pos_of_mem h
  omega
theorem prin_str (z : Str) (S : Store) (h : ∀ c ∈ chs z, prC c = true) : V_is_printable [.str z] S = .ok (.bl true) S := by
  obtain ⟨y', e⟩ := prin_scan S (some (.str z)) z.cps.toList none
  rw [List.all_eq_true.mpr h] at e
  simp (config := { implicitDefEqProofs := false }) [V_is_printable, m_is_printable, BS.signs, e]
theorem prin_not (z : Str) (S : Store) (h : ¬ ∀ c ∈ chs z, prC c = true) : V_is_printable [.str z] S = .ok (.bl false) S := by
  obtain ⟨y', e⟩ := prin_scan S (some (.str z)) z.cps.toList none
  have h1 : z.cps.toList.all prC = false := by
    cases q : z.cps.toList.all prC
    · rfl
    · exact absurd (List.all_eq_true.mp q) h
  rw [h1] at e
  simp (config := { implicitDefEqProofs := false }) [V_is_printable, m_is_printable, BS.signs, e]
theorem strs_back (ys : List Str) : txtsOf (ys.map D.str) = some ys := by
  induction ys with
  | nil => rfl
  | cons a r ih => show (txtsOf (r.map D.str)).map _ = _; rw [ih]; rfl
theorem join_ofL (ps : List (List Nat)) : Str.join (ofL [44]) (ps.map ofL) = ofL (TL.joinL [44] ps) := by
  refine TL.ext_tl ?_
  rw [TL.tl_join]
  have : (ps.map ofL).map TL.tl = ps := by rw [List.map_map]; simp [Function.comp_def, TL.tl, ofL]
  rw [this]
  rfl
theorem len_ofL2 (a b : List Nat) : (ofL a ++ ofL b).length = a.length + b.length := by rw [ofL_app, ofL_len, List.length_append]
theorem wr_str (R : FM) (z : Str) (k : Nat) (S : Store) (h : ∀ c ∈ chs z, prC c = true) (hl : z.length ≤ 1000000) : den 3 (m__written R) [.str z, .int k] S = .ok (.str (ofL (39 :: (StrLaws.dbl 39 (chs z) ++ [39])))) S := by
  have hp := prin_str z S h
  have hr := repl_q z
  have hd := dbl_len 39 (chs z)
  rw [chs_len] at hd
  have e2 : (ofL [39, 39]).length = 2 := rfl
  have e1 : (ofL [39]).length = 1 := rfl
  have c1 : z.length + (z.length + 1) * 2 ≤ 16777216 := by omega
  have l0 : (ofL (StrLaws.dbl 39 (chs z))).length ≤ 2 * z.length := by rw [ofL_len]; exact hd.2
  have l1 : 1 + (ofL (StrLaws.dbl 39 (chs z))).length ≤ sizeLine := szL' (by omega)
  have l2 : (ofL [39] ++ ofL (StrLaws.dbl 39 (chs z))).length + 1 ≤ sizeLine := szL' (by rw [len_ofL2]; simp only [List.length_singleton]; omega)
  have fin : ofL [39] ++ ofL (StrLaws.dbl 39 (chs z)) ++ ofL [39] = ofL (39 :: (StrLaws.dbl 39 (chs z) ++ [39])) := by rw [ofL_app, ofL_app]; rfl
  simp (config := { implicitDefEqProofs := false }) [m__written, hp, lq, lqq, hr, e1, e2, c1, l1, l2, fin]
theorem wr_int (R : FM) (i : Int) (k : Nat) (S : Store) (h : i.natAbs < 10 ^ 30) : den 3 (m__written R) [.int i, .int k] S = .ok (.str (ofL (txI i))) S := by
  have h1 := int_eq (n := 0) (d := .int i) (by simp) (-(10 ^ 30 - 1)) (10 ^ 30 - 1) S
  have hi : isI (.int i) (-(10 ^ 30 - 1)) (10 ^ 30 - 1) = true := by
    have : i.natAbs < 1000000000000000000000000000000 := h
    simp only [isI, decide_eq_true_eq, Bool.and_eq_true]
    omega
  rw [hi] at h1
  simp (config := { implicitDefEqProofs := false }) at h1
  have h2 := log2_small h
  have h3 : Str.ofString i.repr = ofL (txI i) := (ofL_chs (Str.ofString (toString i))).symm
  simp (config := { implicitDefEqProofs := false }) [m__written, c_GREATEST, h1, h2, h3]
theorem wr_non (R : FM) (k : Nat) (S : Store) : den 3 (m__written R) [.non, .int k] S = .ok (.str (ofL [42])) S := by
  simp (config := { implicitDefEqProofs := false }) [m__written, lstar]
theorem wr_ok : ∀ (j : Nat) {n k : Nat} {d : D}, Pv n d → n < j → k + n ≤ 10 → (tx n d).length ≤ 1000000 → ∀ S, ∃ T, VR__written j [d, .int k] S = .ok (.str (ofL (tx n d))) (S ++ T)
  | 0, n, k, d, _, h, _, _, S => absurd h (Nat.not_lt_zero _)
  | j + 1, n, k, d, hp, hj, hk, hl, S => by
    show ∃ T, den 3 (m__written (VR__written j)) [d, .int k] S = _
    rcases Pv_cases hp with rfl | ⟨i, rfl, hi⟩ | ⟨z, rfl, hz⟩ | ⟨m, ds, rfl, rfl, hd⟩
    · exact ⟨[], by rw [wr_non, List.append_nil, tx_non]⟩
    · exact ⟨[], by rw [wr_int _ _ _ _ hi, List.append_nil, tx_int]⟩
    · rw [tx_str] at hl ⊢
      have hd := dbl_len 39 (chs z)
      rw [chs_len] at hd
      exact ⟨[], by rw [wr_str _ _ _ _ hz (by simp only [List.length_cons, List.length_append] at hl; omega), List.append_nil]⟩
    · rw [tx_tup] at hl ⊢
      simp only [List.length_cons, List.length_append, List.length_nil] at hl
      have hdl : ds.length ≤ (TL.joinL [44] (ds.map (tx m))).length := joinL_len fun x hx => tx_len_pos (hd x hx)
      obtain ⟨B, lc⟩ := lcL_all (G := fun _ => True) (t := .one 2) (e0 := ⟨[some (.tup ds), some (.int k), none], []⟩) (el := mCall (VR__written j) (mCons (mVar 2) (mCons (mBin fAdd (mVar 1) (mC (.int 1))) mNil))) S (fun d => .str (ofL (tx m d))) (ds := ds) (fun _ _ => True.intro) (fun d hx => ⟨[d], rfl, fun acc B => by
        obtain ⟨T, e⟩ := wr_ok j (k := k + 1) (hd d hx) (by omega) (by omega) (by have := joinL_ge (List.mem_map_of_mem (f := tx m) hx); omega) (S ++ .lst acc :: B)
        refine ⟨B ++ T, ?_⟩
        rw [show ((k + 1 : Nat) : Int) = (k : Int) + 1 by omega] at e
        simp (config := { implicitDefEqProofs := false }) [e, LT.ix, setAll]⟩) (szL (by omega))
      have hs : ((ds.map fun d => ofL (tx m d)).map (·.length)).sum + (ds.map fun d => ofL (tx m d)).length * (ofL [44]).length ≤ 16777216 := by
        rw [List.map_map]
        have e1 : ((fun x : Str => x.length) ∘ fun d => ofL (tx m d)) = (fun l : List Nat => l.length) ∘ tx m := by funext d; simp [ofL_len]
        have e3 : (ofL [44]).length = 1 := rfl
        rw [e1, e3, List.length_map, Nat.mul_one, ← List.map_map]
        cases ds with
        | nil => simp
        | cons d ds =>
          have := joinL_sum ((d :: ds).map (tx m)) (by simp)
          rw [List.length_map] at this
          omega
      have hb : txtsOf (ds.map fun d => D.str (ofL (tx m d))) = some (ds.map fun d => ofL (tx m d)) := by
        have := strs_back (ds.map fun d => ofL (tx m d))
        rw [List.map_map] at this
        exact this
      have hj2 : Str.join (ofL [44]) (ds.map fun d => ofL (tx m d)) = ofL (TL.joinL [44] (ds.map (tx m))) := by
        have := join_ofL (ds.map (tx m))
        rw [List.map_map] at this
        exact this
      have hk1 : ¬ (10 : Int) ≤ k := by omega
      have e1 : (ofL [40]).length = 1 := rfl
      have e4 : (ofL [41]).length = 1 := rfl
      generalize TL.joinL [44] (ds.map (tx m)) = J at *
      have l1 : 1 + (ofL J).length ≤ sizeLine := szL' (by rw [ofL_len]; omega)
      have l2 : (ofL [40] ++ ofL J).length + 1 ≤ sizeLine := szL' (by rw [len_ofL2]; simp only [List.length_singleton]; omega)
      have fin : ofL [40] ++ ofL J ++ ofL [41] = ofL (40 :: (J ++ [41])) := by rw [ofL_app, ofL_app]; rfl
      generalize (ds.map fun d => ofL (tx m d)) = ys at *
      generalize (ds.map fun d => D.str (ofL (tx m d))) = zs at *
      refine ⟨.lst zs :: B, ?_⟩
      simp (config := { implicitDefEqProofs := false }) [m__written, lopen, lclose, lcomma, hk1, c_MOST_DEPTH, mLc, mLcX, Ev.wip, lc, lcX_of lc, hb, hs, hj2, e1, e4, l1, l2, fin]
theorem enc_ok {n : Nat} {d : D} (h : Pv n d) (hn : n ≤ 10) (hl : (tx n d).length ≤ 200000) (S : Store) : ∃ T, V_encode [d] S = .ok (.str (ofL (tx n d))) (S ++ T) := by
  obtain ⟨T, e⟩ := wr_ok 16 (k := 0) h (by omega) (by omega) (by omega) S
  have e' : V__written [d, .int 0] S = .ok (.str (ofL (tx n d))) (S ++ T) := e
  have l1 : (ofL (tx n d)).length ≤ sizeLine := szL' (by rw [ofL_len]; omega)
  have l2 : ¬ (200000 : Int) < ((ofL (tx n d)).length : Int) := by rw [ofL_len]; omega
  generalize ofL (tx n d) = t at *
  exact ⟨T, by simp (config := { implicitDefEqProofs := false }) [V_encode, m_encode, e', l1, l2, c_MOST_LENGTH]⟩
end L_k64
namespace L_k64
open PySem PySem.Spec PyProof.Rows L2 BS
theorem take1_is (l : List Nat) (c : Nat) : (ofL (l.take 1) = ofL [c]) = (l.head? = some c) := propext ((ofL_eq_iff _ _).trans (take1_eq l c))
theorem drop_suf {L a r : List Nat} {p : Nat} (h : L.drop p = a ++ r) (hp : p ≤ L.length) : L.length - r.length = p + a.length ∧ L.drop (p + a.length) = r := by
  have hl := congrArg List.length h
  rw [List.length_drop, List.length_append] at hl
  refine ⟨by omega, ?_⟩
  rw [← List.drop_drop, h, List.drop_left]
theorem rsL_none : ∀ {M : List Nat}, 39 ∉ M → rsL M = none
  | [], _ => rfl
  | [c], h => by unfold rsL; rw [if_neg (fun e => h (by simp [e]))]
  | c :: d :: r, h => by
    have ih := rsL_none (M := d :: r) fun e => h (List.mem_cons_of_mem _ e)
    unfold rsL
    rw [if_neg (fun e => h (by simp [e])), ih]
    rfl
theorem rsL_free : ∀ {a M : List Nat}, 39 ∉ a → rsL (a ++ M) = (rsL M).map fun p => (a ++ p.1, p.2)
  | [], M, _ => by rw [List.nil_append]; cases rsL M <;> rfl
  | c :: a, M, h => by
    have ih := rsL_free (a := a) (M := M) fun e => h (List.mem_cons_of_mem _ e)
    have hc : c ≠ 39 := fun e => h (by simp [e])
    have step : rsL (c :: (a ++ M)) = (rsL (a ++ M)).map fun p => (c :: p.1, p.2) := by
      cases hM : a ++ M with
      | nil => unfold rsL; rw [if_neg hc]; rfl
      | cons d r => conv => lhs; unfold rsL
                    rw [if_neg hc]
    rw [List.cons_append, step, ih, Option.map_map]
    rfl
theorem rsL_quote (r : List Nat) : rsL (39 :: r) = if r.head? = some 39 then (rsL r.tail).map fun p => (39 :: p.1, p.2) else some ([], r) := by
  cases r with
  | nil => rfl
  | cons d r =>
    conv => lhs; unfold rsL
    rw [if_pos rfl]
    by_cases h : d = 39
    · rw [if_pos h, if_pos (by simp [h]), List.tail_cons]
    · rw [if_neg h, if_neg (by simpa using h)]
theorem join_emp (ys : List Str) : Str.join "" ys = ofL (ys.map chs).flatten := by
  refine TL.ext_tl ?_
  rw [TL.tl_join]
  have e : TL.tl "" = [] := rfl
  rw [e]
  show TL.joinL [] (ys.map chs) = (ys.map chs).flatten
  generalize ys.map chs = ps
  induction ps with
  | nil => rfl
  | cons p ps ih =>
    cases ps with
    | nil => simp [TL.joinL]
    | cons q r => show p ++ ([] ++ TL.joinL [] (q :: r)) = _; rw [ih]; rfl
theorem sum_chs (ys : List Str) : (ys.map (·.length)).sum = (ys.map chs).flatten.length := by
  induction ys with
  | nil => rfl
  | cons a r ih => simp only [List.map_cons, List.sum_cons, List.flatten_cons, List.length_append, ih, chs_len]
def outS (L : List Nat) (o : Option (List Nat × List Nat)) (pre : List Nat) (r : RS) (S : Store) : Prop := match o with
  | some (y, q) => ∃ ps, r = .rt (.tup [.str (ofL (pre ++ y)), .int ((L.length - q.length : Nat) : Int)]) (S ++ [.lst ps])
  | none => ∃ ps e, r = .exc 14 [] e (S ++ [.lst ps])
theorem str_loop (z : Str) (hz : z.length ≤ 1000000) (p : D) (S : Store) : ∀ (m f idx : Nat) (acc : List Str) (x4 : Option D), idx ≤ (chs z).length → ((chs z).drop idx).length < m → m ≤ f → (acc.map chs).flatten.length + ((chs z).drop idx).length ≤ 1000000 → acc.length + 2 * ((chs z).drop idx).length ≤ 2000000 →
    outS (chs z) (rsL ((chs z).drop idx)) (acc.map chs).flatten (whileL (mBl (mC (.bl true))) lb__read_string_0 f ⟨[some (.str z), some p, some (.obj S.length), some (.int idx), x4], []⟩ (S ++ [.lst (acc.map .str)])) S
  | 0, f, idx, acc, x4, _, h, _, _, _ => absurd h (Nat.not_lt_zero _)
  | m + 1, 0, idx, acc, x4, _, h, hf, _, _ => by omega
  | m + 1, f + 1, idx, acc, x4, hi, h, hf, hs, ha => by
    have hzl : z.length ≤ sizeLine := szL hz
    have hal : acc.length < sizeLine := Nat.lt_of_lt_of_le (by omega : acc.length < 16777216) (szL' (Nat.le_refl _))
    have hal2 : acc.length + 1 < sizeLine := Nat.lt_of_lt_of_le (by omega : acc.length + 1 < 16777216) (szL' (Nat.le_refl _))
    unfold whileL
    rcases find_nat z 39 idx (by rw [← chs_len]; exact hi) with ⟨hf1, hn⟩ | ⟨a, r, e, ha2, hf1⟩
    · rw [rsL_none hn]
      refine ⟨acc.map .str, ⟨[some (.str z), some p, some (.obj S.length), some (.int idx), some (.int (-1))], []⟩, ?_⟩
      simp (config := { implicitDefEqProofs := false }) [lb__read_string_0, lq, hf1]
    · obtain ⟨h1, h2⟩ := drop_suf (a := a ++ [39]) (r := r) (by rw [e]; simp) hi
      simp only [List.length_append, List.length_singleton] at h1 h2
      have cut1 : cutS z (some (idx : Int)) (some ((idx + a.length : Nat) : Int)) = ofL a := by
        rw [cut_nn, e, show idx + a.length - idx = a.length by omega, List.take_left]
      have cut2 : cutS z (some (((idx + a.length : Nat) : Int) + 1)) (some (((idx + a.length : Nat) : Int) + 2)) = ofL (r.take 1) := by
        rw [cut_one', show idx + a.length + 1 = idx + (a.length + 1) by omega, h2]
      have hneg : ¬ ((idx + a.length : Nat) : Int) < 0 := by omega
      have hlen : ((chs z).drop idx).length = a.length + (r.length + 1) := by rw [e]; simp
      rw [e, rsL_free ha2, rsL_quote]
      have c1 : (acc.map chs).flatten ++ a = ((acc ++ [ofL a]).map chs).flatten := by simp [chs_ofL]
      generalize hk : idx + a.length = k at *
      have hk1 : ((k : Int) + 1) = ((k + 1 : Nat) : Int) := by omega
      have hk2 : ((k : Int) + 2) = ((k + 2 : Nat) : Int) := by omega
      by_cases hq : r.head? = some 39
      · obtain ⟨r2, rfl⟩ : ∃ r2, r = 39 :: r2 := by
          cases r with
          | nil => simp at hq
          | cons c r => exact ⟨r, by simp at hq; rw [hq]⟩
        obtain ⟨g1, g2⟩ := drop_suf (a := a ++ [39, 39]) (r := r2) (by rw [e]; simp) hi
        simp only [List.length_append, List.length_cons, List.length_nil] at g1 g2
        rw [if_pos hq, List.tail_cons, Option.map_map]
        have g2' : (chs z).drop (k + 2) = r2 := by rw [show k + 2 = idx + (a.length + (0 + 1 + 1)) by omega]; exact g2
        have hlen2 : ((chs z).drop idx).length = a.length + (r2.length + 2) := by rw [hlen, List.length_cons]
        have hlen3 : (chs z).length - idx = a.length + (r2.length + 2) := by rw [← List.length_drop]; exact hlen2
        have ef : ((acc ++ [ofL a, ofL [39]]).map chs).flatten = (acc.map chs).flatten ++ (a ++ [39]) := by simp [chs_ofL]
        have ih := str_loop z hz p S m f (k + 2) (acc ++ [ofL a, ofL [39]]) (some (.int k)) (by omega) (by rw [g2']; omega) (by omega) (by rw [g2', ef, List.length_append, List.length_append, List.length_singleton]; omega) (by rw [g2', List.length_append, List.length_cons, List.length_singleton]; omega)
        rw [g2'] at ih
        have body : (lb__read_string_0 ⟨[some (.str z), some p, some (.obj S.length), some (.int idx), x4], []⟩ (S ++ [.lst (acc.map .str)])) = .nx ⟨[some (.str z), some p, some (.obj S.length), some (.int ((k : Int) + 2)), some (.int k)], []⟩ (S ++ [.lst ((acc ++ [ofL a, ofL [39]]).map .str)]) := by
          have tq : (ofL ((39 :: r2).take 1) = ofL [39]) = True := by rw [take1_is]; simp
          generalize ofL ((39 :: r2).take 1) = tt at *
          generalize ofL a = aa at *
          simp (config := { implicitDefEqProofs := false }) [lb__read_string_0, lq, hf1, hneg, hzl, cut1, cut2, tq, hal, hal2]
        rw [hk2] at body
        rw [show (mBl (mC (.bl true)) ⟨[some (.str z), some p, some (.obj S.length), some (.int idx), x4], []⟩ (S ++ [.lst (acc.map .str)])) = .ok true (S ++ [.lst (acc.map .str)]) from rfl, R.toS_ok, if_pos rfl, body, RS.loop_nx]
        unfold outS at ih ⊢
        cases hr : rsL r2 with
        | none => rw [hr] at ih; exact ih
        | some v =>
          rw [hr] at ih
          obtain ⟨ps, ih⟩ := ih
          refine ⟨ps, ?_⟩
          rw [ih]
          simp [chs_ofL]
      · rw [if_neg hq]
        have tq : (ofL (r.take 1) = ofL [39]) = False := by rw [take1_is]; exact eq_false hq
        generalize ofL (r.take 1) = tt at *
        have hb : txtsOf (acc.map D.str ++ [D.str (ofL a)]) = some (acc ++ [ofL a]) := by
          have := strs_back (acc ++ [ofL a])
          simpa using this
        have hsum : ((acc ++ [ofL a]).map (·.length)).sum + (acc ++ [ofL a]).length * (Str.ofString "").length ≤ 16777216 := by
          have e0 : (Str.ofString "").length = 0 := rfl
          rw [sum_chs, ← c1, e0, List.length_append]
          omega
        have hj : Str.join (Str.ofString "") (acc ++ [ofL a]) = ofL ((acc.map chs).flatten ++ a) := by rw [c1]; exact join_emp _
        refine ⟨acc.map .str ++ [.str (ofL a)], ?_⟩
        rw [show (chs z).length - r.length = k + 1 by omega]
        generalize hys : acc ++ [ofL a] = ys at *
        generalize ofL a = aa at *
        simp (config := { implicitDefEqProofs := false }) [lb__read_string_0, lq, hf1, hneg, hzl, cut1, cut2, tq, hal, hb, hsum, hj]
def outV (L : List Nat) (o : Option (D × List Nat)) (r : R D) (S : Store) : Prop := match o with
  | some (d, q) => ∃ T, r = .ok (.tup [d, .int ((L.length - q.length : Nat) : Int)]) (S ++ T)
  | none => ∃ T, r = .exc 14 [] (S ++ T)
theorem rs_ok (z : Str) (hz : z.length ≤ 200000) (p : Nat) (hp : p + 1 ≤ (chs z).length) (S : Store) : outV (chs z) ((rsL ((chs z).drop (p + 1))).map fun v => (.str (ofL v.1), v.2)) (V__read_string [.str z, .int p] S) S := by
  have hl : ((chs z).drop (p + 1)).length ≤ 200000 := by rw [List.length_drop, chs_len]; omega
  have h := str_loop z (by omega) (.int p) S (((chs z).drop (p + 1)).length + 1) 1000000 (p + 1) [] none hp (by omega) (by omega) (by simp only [List.map_nil, List.flatten_nil, List.length_nil]; omega) (by simp only [List.length_nil]; omega)
  rw [show (((p + 1 : Nat)) : Int) = (p : Int) + 1 by omega] at h
  generalize rsL ((chs z).drop (p + 1)) = o at *
  cases o with
  | none =>
    obtain ⟨ps, e, h⟩ := h
    exact ⟨[.lst ps], by simp only [List.map_nil] at h; simp (config := { implicitDefEqProofs := false }) [V__read_string, m__read_string, mWhile, h]⟩
  | some v =>
    obtain ⟨ps, h⟩ := h
    exact ⟨[.lst ps], by
      simp only [List.map_nil, List.flatten_nil, List.nil_append] at h ⊢
      generalize (chs z).length - v.2.length = k at *
      simp (config := { implicitDefEqProofs := false }) [V__read_string, m__read_string, mWhile, h]⟩
theorem fIx_chs (S : Store) (z : Str) (hz : z.length ≤ 16777216) (k : Nat) : fIx S (.str z) (.int (k : Int)) = ((chs z)[k]?).map BS.strAt := by
  unfold fIx
  simp [szL' hz]
theorem dig_in (c : Nat) : inStr ⟨#[c]⟩ (Str.ofString "0123456789") = isDg c := by
  rw [inStr_one]
  have e : (Str.ofString "0123456789").cps.toList = [48, 49, 50, 51, 52, 53, 54, 55, 56, 57] := by rw [show (Str.ofString "0123456789").cps.toList = TL.tl (Str.ofString "0123456789") from rfl, TL.tl_ofString]; rfl
  rw [e]
  unfold isDg
  congr 1
  simp only [List.mem_cons, List.not_mem_nil, or_false, eq_iff_iff]
  omega
theorem tw_get {l : List Nat} {k : Nat} (h : k < (l.takeWhile isDg).length) : ∃ c, l[k]? = some c ∧ isDg c = true := by
  have hp := List.takeWhile_prefix isDg (l := l)
  obtain ⟨t, e⟩ := hp
  have h1 : l[k]? = (l.takeWhile isDg)[k]? := by
    conv => lhs; rw [← e]
    rw [List.getElem?_append_left h]
  refine ⟨(l.takeWhile isDg)[k], by rw [h1, List.getElem?_eq_getElem h], takeWhile_all' _ (List.getElem_mem h)⟩
theorem tw_stop (l : List Nat) : ∀ c, l[(l.takeWhile isDg).length]? = some c → isDg c = false := by
  induction l with
  | nil => intro c h; simp at h
  | cons a r ih =>
    intro c h
    rw [List.takeWhile_cons] at h
    by_cases ha : isDg a = true
    · rw [if_pos ha] at h
      exact ih c (by simpa using h)
    · rw [if_neg ha] at h
      have : a = c := by simpa using h
      subst this
      simpa using ha
theorem int_loop (z : Str) (hz : z.length ≤ 200000) (p : D) (fst : Nat) (x4 : Option D) (S : Store) (hf : fst ≤ (chs z).length) : ∀ (m f k : Nat), m + k = ((((chs z).drop fst).take 31).takeWhile isDg).length → m < f →
    whileL (mAnd (mBl (mBin fLt (mVar 2) (mCall fnLen (mCons (mVar 0) mNil)))) (mAnd (mBl (mBin fLe (mBin fSub (mVar 2) (mVar 3)) (mC c_MOST_DIGITS))) (mBl (mBin fIn (mIx (mVar 0) (mVar 2)) (mC c_DIGITS))))) lb__read_integer_0 f ⟨[some (.str z), some p, some (.int ((fst + k : Nat) : Int)), some (.int (fst : Int)), x4], []⟩ S
      = .nx ⟨[some (.str z), some p, some (.int ((fst + ((((chs z).drop fst).take 31).takeWhile isDg).length : Nat) : Int)), some (.int (fst : Int)), x4], []⟩ S
  | m, 0, k, _, h => absurd h (Nat.not_lt_zero _)
  | 0, f + 1, k, hk, _ => by
    have hzl : z.length ≤ sizeLine := szL (by omega)
    have hn := chs_len z
    rw [Nat.zero_add] at hk
    unfold whileL
    rw [← hk]
    by_cases a : fst + k < z.length
    · have a' : ((fst + k : Nat) : Int) < (z.length : Int) := by omega
      by_cases b : k ≤ 30
      · have b' : ((fst + k : Nat) : Int) - (fst : Int) ≤ 30 := by omega
        have hlt : fst + k < (chs z).length := by omega
        have hc := tw_stop (((chs z).drop fst).take 31) (chs z)[fst + k] (by
          rw [← hk, List.getElem?_take_of_lt (by omega), List.getElem?_drop, List.getElem?_eq_getElem hlt])
        have hx := fIx_chs S z (by omega) (fst + k)
        rw [List.getElem?_eq_getElem hlt] at hx
        have hd := dig_in (chs z)[fst + k]
        rw [hc] at hd
        generalize (chs z)[fst + k] = c at *
        generalize fst + k = i at *
        simp (config := { implicitDefEqProofs := false }) [c_MOST_DIGITS, c_DIGITS, hzl, a', b', hx, hd, BS.strAt]
      · have b' : ¬ ((fst + k : Nat) : Int) - (fst : Int) ≤ 30 := by omega
        generalize fst + k = i at *
        simp (config := { implicitDefEqProofs := false }) [c_MOST_DIGITS, c_DIGITS, hzl, a', b']
    · have a' : ¬ ((fst + k : Nat) : Int) < (z.length : Int) := by omega
      generalize fst + k = i at *
      simp (config := { implicitDefEqProofs := false }) [c_MOST_DIGITS, c_DIGITS, hzl, a']
  | m + 1, f + 1, k, hk, hm => by
    have hzl : z.length ≤ sizeLine := szL (by omega)
    have hn := chs_len z
    have hlt : k < ((((chs z).drop fst).take 31).takeWhile isDg).length := by omega
    obtain ⟨c, h1, h2⟩ := tw_get hlt
    have h31 : k < 31 := by
      have := (List.getElem?_eq_some_iff.mp h1).1
      rw [List.length_take] at this
      omega
    rw [List.getElem?_take_of_lt h31, List.getElem?_drop] at h1
    have hlt2 := (List.getElem?_eq_some_iff.mp h1).1
    have ih := int_loop z hz p fst x4 S hf m f (k + 1) (by omega) (by omega)
    have hx := fIx_chs S z (by omega) (fst + k)
    rw [h1] at hx
    have hd := dig_in c
    rw [h2] at hd
    have a' : ((fst + k : Nat) : Int) < (z.length : Int) := by omega
    have b' : ((fst + k : Nat) : Int) - (fst : Int) ≤ 30 := by omega
    rw [show ((fst + (k + 1) : Nat) : Int) = ((fst + k : Nat) : Int) + 1 by omega] at ih
    unfold whileL
    generalize fst + ((((chs z).drop fst).take 31).takeWhile isDg).length = N at *
    generalize fst + k = i at *
    simp (config := { implicitDefEqProofs := false }) [c_MOST_DIGITS, c_DIGITS, hzl, a', b', hx, hd, BS.strAt, lb__read_integer_0] at ih ⊢
    exact ih
noncomputable def ri_rest : SM :=
    (mSeq (mSet 3 (mVar 2))
    (mSeq (mWhile 1000000 (mAnd (mBl (mBin fLt (mVar 2) (mCall fnLen (mCons (mVar 0) mNil)))) (mAnd (mBl (mBin fLe (mBin fSub (mVar 2) (mVar 3)) (mC c_MOST_DIGITS))) (mBl (mBin fIn (mIx (mVar 0) (mVar 2)) (mC c_DIGITS))))) lb__read_integer_0)
    (mSeq (mSet 4 (mBin fSub (mVar 2) (mVar 3)))
    (mSeq (mIfS (mOr (mBl (mBin fEq (mVar 4) (mC (.int 0)))) (mBl (mBin fGt (mVar 4) (mC c_MOST_DIGITS)))) (mRaise0 14) mSkip)
    (mSeq (mIfS (mAnd (mBl (mBin fEq (mIx (mVar 0) (mVar 3)) (mC (.str "0")))) (mOr (mBl (mBin fGt (mVar 4) (mC (.int 1)))) (mBl (mBin fGt (mVar 3) (mVar 1))))) (mRaise0 14) mSkip)
    (mRet (mTup (mCons (mCall fnInt (mCons (mSl false (mVar 0) (oAt (mVar 1)) (oAt (mVar 2))) mNil)) (mCons (mVar 2) mNil)))))))))
theorem ri_split : m__read_integer = mSeq (mSet 2 (mVar 1)) (mSeq (mIfS (mBl (mBin fEq (mSl false (mVar 0) (oAt (mVar 2)) (oAt (mBin fAdd (mVar 2) (mC (.int 1))))) (mC (.str "-")))) (mAug 2 iAdd (mC (.int 1))) mSkip) ri_rest) := rfl
def outI (L : List Nat) (o : Option (D × List Nat)) (r : RS) (S : Store) : Prop := match o with
  | some (d, q) => r = .rt (.tup [d, .int ((L.length - q.length : Nat) : Int)]) S
  | none => ∃ e, r = .exc 14 [] e S
theorem ri_rest_ok (z : Str) (hz : z.length ≤ 200000) (p : Nat) (hp : p ≤ (chs z).length) (S : Store) (neg : Bool) (sg M1 : List Nat) (hM : (chs z).drop p = sg ++ M1) (hsg : sg = if neg = true then [45] else []) :
    outI (chs z) (rdD neg M1 ((M1.take 31).takeWhile isDg)) (ri_rest ⟨[some (.str z), some (.int p), some (.int ((p + sg.length : Nat) : Int)), none, none], []⟩ S) S := by
  have hn := chs_len z
  obtain ⟨q1, q2⟩ := drop_suf hM hp
  have hf : p + sg.length ≤ (chs z).length := by
    have := congrArg List.length hM
    rw [List.length_drop, List.length_append] at this
    omega
  have hwl : ((M1.take 31).takeWhile isDg).length ≤ 31 := by
    have := (List.takeWhile_prefix isDg (l := M1.take 31)).length_le
    rw [List.length_take] at this
    omega
  have hloop := int_loop z hz (.int p) (p + sg.length) none S hf _ 1000000 0 (Nat.add_zero _) (by rw [q2]; omega)
  rw [q2, Nat.add_zero] at hloop
  have hzl : z.length ≤ sizeLine := szL (by omega)
  have l0 : Str.ofString "0" = ofL [48] := lit1 "0" 48 rfl
  have hall := takeWhile_all' (l := M1.take 31)
  have hspl := take_tw M1 31
  have hx := fIx_chs S z (by omega) (p + sg.length)
  have hx2 : (chs z)[p + sg.length]? = M1.head? := by
    rw [← q2, List.head?_drop]
  rw [hx2] at hx
  have hlt : (((p + sg.length : Nat) : Int) > (p : Int)) = (neg = true) := by
    rw [hsg]; cases neg <;> simp <;> omega
  have hval : ∀ ds : List Nat, (∀ c ∈ ds, isDg c = true) → ds ≠ [] → ds.length ≤ 31 → PySem.intText? (ofL (sg ++ ds)) = some (if neg = true then -((NumText.digitsVal ds : Nat) : Int) else (NumText.digitsVal ds : Nat)) := by
    intro ds h1 h2 h3
    have h1' : NumText.AllDigits ds := fun c hc => (isDg_iff c).mp (h1 c hc)
    rw [hsg]
    cases neg with
    | true => exact PySem.intText_neg (x := ofL (45 :: ds)) rfl h1' h2 (by rw [ofL_len]; simp only [List.length_cons]; omega)
    | false => exact PySem.intText_digits (x := ofL ds) h1' h2 (by rw [ofL_len]; omega)
  have hsgl : sg.length ≤ 1 := by rw [hsg]; cases neg <;> simp
  generalize hds : (M1.take 31).takeWhile isDg = ds at *
  have hcut : cutS z (some (p : Int)) (some ((p + sg.length + ds.length : Nat) : Int)) = ofL (sg ++ ds) := by
    rw [cut_nn, hM, show p + sg.length + ds.length - p = sg.length + ds.length by omega, hspl, ← List.append_assoc, ← List.length_append, List.take_left]
  have hhead : ds ≠ [] → M1.head? = ds.head? := fun h => by
    rw [hspl]
    cases ds with
    | nil => exact absurd rfl h
    | cons a r => rfl
  have hfinal : (chs z).length - (M1.drop ds.length).length = p + sg.length + ds.length := by
    have e1 := congrArg List.length hM
    rw [List.length_drop, List.length_append] at e1
    have e2 := congrArg List.length hspl
    rw [List.length_append] at e2
    omega
  have hcl : (ofL (sg ++ ds)).length ≤ 640 := by rw [ofL_len, List.length_append]; omega
  generalize hF : p + sg.length = F at *
  have hcnt : ((F + ds.length : Nat) : Int) - (F : Int) = (ds.length : Int) := by omega
  generalize hG : F + ds.length = G at *
  unfold ri_rest
  by_cases h1 : ds.length = 0 ∨ 30 < ds.length
  · unfold rdD
    rw [if_pos h1]
    have t1 : (ds.length : Int) = 0 ∨ (30 : Int) < ds.length := by omega
    by_cases t0 : (ds.length : Int) = 0
    · exact ⟨_, by simp (config := { implicitDefEqProofs := false }) [mWhile, hloop]; simp (config := { implicitDefEqProofs := false }) [hcnt, c_MOST_DIGITS, t0]; rfl⟩
    · have t2 : (30 : Int) < ds.length := by omega
      exact ⟨_, by simp (config := { implicitDefEqProofs := false }) [mWhile, hloop]; simp (config := { implicitDefEqProofs := false }) [hcnt, c_MOST_DIGITS, t0, t2]; rfl⟩
  · have hne : ds ≠ [] := fun e => h1 (.inl (by rw [e]; rfl))
    obtain ⟨c, l, hcl2⟩ : ∃ c l, ds = c :: l := by
      cases ds with
      | nil => exact absurd rfl hne
      | cons c l => exact ⟨c, l, rfl⟩
    have hh : ds.head? = some c := by rw [hcl2]; rfl
    rw [hhead hne, hh] at hx
    have t0 : ¬ (ds.length : Int) = 0 := by omega
    have t2 : ¬ (30 : Int) < ds.length := by omega
    have hv := hval ds hall hne hwl
    unfold rdD
    rw [if_neg h1, hh]
    have hc48 : (BS.strAt c = D.str (ofL [48])) = (c = 48) := by
      unfold BS.strAt
      simp only [D.str.injEq]
      exact propext ((ofL_eq_iff [c] [48]).trans (by simp))
    have hc48' : ((⟨#[c]⟩ : Str) = ofL [48]) = (c = 48) := propext ((ofL_eq_iff [c] [48]).trans (by simp))
    by_cases h2 : some c = some 48 ∧ (1 < ds.length ∨ neg = true)
    · rw [if_pos h2]
      have e48 : c = 48 := Option.some.inj h2.1
      by_cases t3 : (1 : Int) < ds.length
      · exact ⟨_, by simp (config := { implicitDefEqProofs := false }) [mWhile, hloop]; simp (config := { implicitDefEqProofs := false }) [hcnt, c_MOST_DIGITS, t0, hne, t2, hx, BS.strAt, l0, hc48', e48, t3]; rfl⟩
      · have t4 : (p : Int) < F := by rw [show ((p : Int) < F) = (neg = true) from hlt]; rcases h2.2 with h | h
                                      · omega
                                      · exact h
        exact ⟨_, by simp (config := { implicitDefEqProofs := false }) [mWhile, hloop]; simp (config := { implicitDefEqProofs := false }) [hcnt, c_MOST_DIGITS, t0, hne, t2, hx, BS.strAt, l0, hc48', e48, t3, t4]; rfl⟩
    · rw [if_neg h2]
      show _ = _
      rw [hfinal]
      by_cases e48 : c = 48
      · have t3 : ¬ (1 : Int) < ds.length := fun h => h2 ⟨by rw [e48], .inl (by omega)⟩
        have t4 : ¬ (p : Int) < F := by rw [show ((p : Int) < F) = (neg = true) from hlt]; exact fun h => h2 ⟨by rw [e48], .inr h⟩
        generalize ofL (sg ++ ds) = tt at *
        simp (config := { implicitDefEqProofs := false }) [mWhile, hloop]; simp (config := { implicitDefEqProofs := false }) [hcnt, c_MOST_DIGITS, t0, hne, t2, hx, BS.strAt, l0, hc48', e48, t3, t4, hcut, hv, hcl, hzl]
      · generalize ofL (sg ++ ds) = tt at *
        simp (config := { implicitDefEqProofs := false }) [mWhile, hloop]; simp (config := { implicitDefEqProofs := false }) [hcnt, c_MOST_DIGITS, t0, hne, t2, hx, BS.strAt, l0, hc48', e48, hcut, hv, hcl, hzl]
theorem ri_ok (z : Str) (hz : z.length ≤ 200000) (p : Nat) (hp : p ≤ (chs z).length) (S : Store) : outV (chs z) (rdI ((chs z).drop p)) (V__read_integer [.str z, .int p] S) S := by
  have hzl : z.length ≤ sizeLine := szL (by omega)
  have hcut1 := cut_one z p
  have ld : Str.ofString "-" = ofL [45] := lit1 "-" 45 rfl
  have fin : ∀ (o : Option (D × List Nat)) (r : RS), outI (chs z) o r S → m__read_integer ⟨[some (.str z), some (.int p), none, none, none], []⟩ S = r → outV (chs z) o (V__read_integer [.str z, .int p] S) S := by
    intro o r h e
    have e1 : (List.map some [D.str z, .int p] ++ List.replicate (5 - [D.str z, D.int p].length) none) = [some (.str z), some (.int p), none, none, none] := rfl
    cases o with
    | none =>
      obtain ⟨e', h⟩ := h
      exact ⟨[], by rw [V__read_integer, den_app, e1, e, h, List.append_nil]⟩
    | some v =>
      exact ⟨[], by rw [V__read_integer, den_app, e1, e, show r = _ from h, List.append_nil]⟩
  by_cases h : ((chs z).drop p).head? = some 45
  · have hd : (chs z).drop p = [45] ++ ((chs z).drop p).tail := by
      cases e : (chs z).drop p with
      | nil => rw [e] at h; cases h
      | cons a r => rw [e] at h; simp at h; rw [h]; rfl
    have := ri_rest_ok z hz p hp S true [45] _ hd rfl
    unfold rdI
    rw [if_pos h]
    refine fin _ _ this ?_
    have tq : (ofL (((chs z).drop p).take 1) = ofL [45]) = True := by rw [take1_is]; exact eq_true h
    generalize ofL (((chs z).drop p).take 1) = tt at *
    rw [ri_split]
    simp (config := { implicitDefEqProofs := false }) [hzl, hcut1, ld, tq]
  · have := ri_rest_ok z hz p hp S false [] _ (List.nil_append _).symm rfl
    unfold rdI
    rw [if_neg h]
    refine fin _ _ this ?_
    have tq : (ofL (((chs z).drop p).take 1) = ofL [45]) = False := by rw [take1_is]; exact eq_false h
    generalize ofL (((chs z).drop p).take 1) = tt at *
    rw [ri_split]
    simp (config := { implicitDefEqProofs := false }) [hzl, hcut1, ld, tq]
def outT (L : List Nat) (n : Nat) (acc : List D) (o : Option (List D × List Nat)) (r : RS) (S : Store) : Prop := match o with
  | some (ds, q) => ∃ T, r = .rt (.tup [.tup (acc ++ ds), .int ((L.length - q.length : Nat) : Int)]) (S ++ T)
  | none => ∃ T e, r = .exc 14 [] e (S ++ T)
theorem tup_loop (z : Str) (hz : z.length ≤ 200000) (hP : Prn (chs z)) (RT RR : FM) (n k : Nat) (p : D) (S : Store)
    (hR : ∀ (q : Nat), q ≤ (chs z).length → ∀ S, outV (chs z) (rd n ((chs z).drop q)) (RR [.str z, .int q, .int ((k : Int) + 1)] S) S) :
    ∀ (m f idx : Nat) (acc : List D) (T : Store) (x5 x6 : Option D), idx + 1 ≤ (chs z).length → ((chs z).drop (idx + 1)).length + 1 ≤ m → m ≤ f → acc.length + ((chs z).drop (idx + 1)).length ≤ 1000000 →
    outT (chs z) n acc (rdT (rd n) m ((chs z).drop (idx + 1))) (whileL (mBl (mC (.bl true))) (lb__read_tuple_0 RT RR) f ⟨[some (.str z), some p, some (.int k), some (.obj S.length), some (.int idx), x5, x6], []⟩ (S ++ .lst acc :: T)) S
  | 0, f, idx, acc, T, x5, x6, _, h, _, _ => by omega
  | m + 1, 0, idx, acc, T, x5, x6, _, h, hf, _ => by omega
  | m + 1, f + 1, idx, acc, T, x5, x6, hi, h, hf, ha => by
    have hzl : z.length ≤ sizeLine := szL (by omega)
    have hal : acc.length < sizeLine := Nat.lt_of_lt_of_le (by omega : acc.length < 16777216) (szL' (Nat.le_refl _))
    have h1 := hR (idx + 1) hi (S ++ .lst acc :: T)
    rw [show (((idx + 1 : Nat)) : Int) = (idx : Int) + 1 by omega] at h1
    unfold whileL
    rw [show (mBl (mC (.bl true)) ⟨[some (.str z), some p, some (.int k), some (.obj S.length), some (.int idx), x5, x6], []⟩ (S ++ .lst acc :: T)) = .ok true (S ++ .lst acc :: T) from rfl, R.toS_ok, if_pos rfl]
    unfold rdT
    cases hr : rd n ((chs z).drop (idx + 1)) with
    | none =>
      rw [hr] at h1
      obtain ⟨T1, h1⟩ := h1
      exact ⟨.lst acc :: (T ++ T1), _, by simp (config := { implicitDefEqProofs := false }) [lb__read_tuple_0, h1]; rfl⟩
    | some v =>
      obtain ⟨d, r⟩ := v
      rw [hr] at h1
      obtain ⟨T1, h1⟩ := h1
      obtain ⟨_, hs⟩ := rd_sound (fun c hc => hP c (List.mem_of_mem_drop hc)) hr
      obtain ⟨g1, g2⟩ := drop_suf hs hi
      have hpos : 0 < (tx n d).length := tx_len_pos (by assumption)
      have hlen := congrArg List.length hs
      rw [List.length_append] at hlen
      rw [g1] at h1
      generalize hk : idx + 1 + (tx n d).length = i at *
      have hil : i ≤ (chs z).length := by rw [List.length_drop] at hlen; omega
      have hcut := cut_one z i
      rw [g2] at hcut
      have t41 := take1_is r 41
      have t44 := take1_is r 44
      rw [Option.bind_some]
      simp only
      generalize hrr : ofL (r.take 1) = tt at *
      by_cases q1 : r.head? = some 41
      · rw [if_pos q1]
        obtain ⟨r2, rfl⟩ : ∃ r2, r = 41 :: r2 := by
          cases r with
          | nil => simp at q1
          | cons a r => exact ⟨r, by simp at q1; rw [q1]⟩
        have e1 : (chs z).length - r2.length = i + 1 := by rw [List.length_cons] at g1; omega
        have tq : (tt = ofL [41]) = True := by rw [t41]; exact eq_true q1
        refine ⟨.lst (acc ++ [d]) :: (T ++ T1), ?_⟩
        rw [List.tail_cons, e1]
        simp (config := { implicitDefEqProofs := false }) [lb__read_tuple_0, h1, gsCons, gsNil, hal, hzl, hcut, lclose, tq]
      · rw [if_neg q1]
        have tq : (tt = ofL [41]) = False := by rw [t41]; exact eq_false q1
        by_cases q2 : r.head? = some 44
        · rw [if_pos q2]
          obtain ⟨r2, rfl⟩ : ∃ r2, r = 44 :: r2 := by
            cases r with
            | nil => simp at q2
            | cons a r => exact ⟨r, by simp at q2; rw [q2]⟩
          have tq2 : (tt = ofL [44]) = True := by rw [t44]; exact eq_true q2
          have g3 : (chs z).drop (i + 1) = r2 := by rw [← List.drop_drop, g2]; rfl
          rw [List.length_cons] at hlen
          have hi2 : i + 1 ≤ (chs z).length := by rw [List.length_cons] at g1; rw [List.length_drop] at hlen; omega
          have ih := tup_loop z hz hP RT RR n k p S hR m f i (acc ++ [d]) (T ++ T1) (some d) (some (.str tt)) hi2 (by rw [g3]; omega) (by omega) (by rw [g3, List.length_append, List.length_singleton]; omega)
          rw [g3] at ih
          have body : lb__read_tuple_0 RT RR ⟨[some (.str z), some p, some (.int k), some (.obj S.length), some (.int idx), x5, x6], []⟩ (S ++ .lst acc :: T) = .nx ⟨[some (.str z), some p, some (.int k), some (.obj S.length), some (.int i), some d, some (.str tt)], []⟩ (S ++ .lst (acc ++ [d]) :: (T ++ T1)) := by
            simp (config := { implicitDefEqProofs := false }) [lb__read_tuple_0, h1, gsCons, gsNil, hal, hzl, hcut, lclose, lcomma, tq, tq2]
          rw [body, RS.loop_nx, List.tail_cons]
          cases hq : rdT (rd n) m r2 with
          | none => rw [hq] at ih; exact ih
          | some w =>
            rw [hq] at ih
            obtain ⟨T2, ih⟩ := ih
            exact ⟨T2, by rw [ih]; simp⟩
        · rw [if_neg q2]
          have tq2 : (tt = ofL [44]) = False := by rw [t44]; exact eq_false q2
          exact ⟨.lst (acc ++ [d]) :: (T ++ T1), _, by simp (config := { implicitDefEqProofs := false }) [lb__read_tuple_0, h1, gsCons, gsNil, hal, hzl, hcut, lclose, lcomma, tq, tq2]; rfl⟩
theorem rt_ok (z : Str) (hz : z.length ≤ 200000) (hP : Prn (chs z)) (RT RR : FM) (n k : Nat) (hk : k + (n + 1) = 10) (hR : ∀ (q : Nat), q ≤ (chs z).length → ∀ S, outV (chs z) (rd n ((chs z).drop q)) (RR [.str z, .int q, .int ((k : Int) + 1)] S) S) (p : Nat) (r : List Nat) (hr : (chs z).drop p = 40 :: r) (S : Store) :
    outV (chs z) (if r.head? = some 41 then some (.tup [], r.tail) else (rdT (rd n) (r.length + 1) r).map fun v => (.tup v.1, v.2)) (den 7 (m__read_tuple RT RR) [.str z, .int p, .int k] S) S := by
  have hzl : z.length ≤ sizeLine := szL (by omega)
  have hn := chs_len z
  have hl := congrArg List.length hr
  rw [List.length_drop, List.length_cons] at hl
  have hp : p ≤ (chs z).length := by omega
  obtain ⟨g1, g2⟩ := drop_suf (a := [40]) (r := r) hr hp
  rw [List.length_singleton] at g1 g2
  have hcut := cut_one' z p
  rw [g2] at hcut
  have t41 := take1_is r 41
  have hk1 : ¬ (10 : Int) ≤ k := by omega
  by_cases q1 : r.head? = some 41
  · rw [if_pos q1]
    obtain ⟨r2, rfl⟩ : ∃ r2, r = 41 :: r2 := by
      cases r with
      | nil => simp at q1
      | cons a r => exact ⟨r, by simp at q1; rw [q1]⟩
    have e1 : (chs z).length - r2.length = p + 2 := by rw [List.length_cons] at hl; omega
    have tq : (ofL ((41 :: r2).take 1) = ofL [41]) = True := by rw [t41]; exact eq_true q1
    refine ⟨[], ?_⟩
    rw [List.tail_cons, e1]
    generalize ofL ((41 :: r2).take 1) = tt at *
    simp (config := { implicitDefEqProofs := false }) [m__read_tuple, c_MOST_DEPTH, hk1, hzl, hcut, lclose, tq]
  · rw [if_neg q1]
    have tq : (ofL (r.take 1) = ofL [41]) = False := by rw [t41]; exact eq_false q1
    have h := tup_loop z hz hP RT RR n k (.int p) S hR (r.length + 1) 1000000 p [] [] none none (by omega) (by rw [g2]; omega) (by omega) (by rw [g2, List.length_nil]; omega)
    rw [g2] at h
    generalize ofL (r.take 1) = tt at *
    cases hq : rdT (rd n) (r.length + 1) r with
    | none =>
      rw [hq] at h
      obtain ⟨T, e, h⟩ := h
      refine ⟨T, ?_⟩
      simp (config := { implicitDefEqProofs := false }) [m__read_tuple, c_MOST_DEPTH, hk1, hzl, hcut, lclose, tq, mWhile, h]
    | some w =>
      rw [hq] at h
      obtain ⟨T, h⟩ := h
      refine ⟨T, ?_⟩
      simp only [List.nil_append] at h
      generalize (chs z).length - w.2.length = q at *
      simp (config := { implicitDefEqProofs := false }) [m__read_tuple, c_MOST_DEPTH, hk1, hzl, hcut, lclose, tq, mWhile, h]
theorem rt_deep (z : Str) (RT RR : FM) (p : Nat) (S : Store) : den 7 (m__read_tuple RT RR) [.str z, .int p, .int 10] S = .exc 14 [] S := by
  simp (config := { implicitDefEqProofs := false }) [m__read_tuple, c_MOST_DEPTH]
theorem rd_step (z : Str) (hz : z.length ≤ 200000) (RT RR : FM) (k p : Nat) (hp : p ≤ (chs z).length) (S : Store) (t : List Nat → Option (D × List Nat))
    (ht : ∀ r, (chs z).drop p = 40 :: r → outV (chs z) (t r) (RT [.str z, .int p, .int k] S) S) : outV (chs z) (rdH t ((chs z).drop p)) (den 4 (m__read RT RR) [.str z, .int p, .int k] S) S := by
  have hzl : z.length ≤ sizeLine := szL (by omega)
  have hcut := cut_one z p
  have t42 := take1_is ((chs z).drop p) 42
  have t39 := take1_is ((chs z).drop p) 39
  have t40 := take1_is ((chs z).drop p) 40
  have dc : ∀ c, ((chs z).drop p).head? = some c → (chs z).drop p = c :: ((chs z).drop p).tail := fun c hc => by
    cases e : (chs z).drop p with
    | nil => rw [e] at hc; cases hc
    | cons a r => rw [e] at hc; simp at hc; rw [hc]; rfl
  unfold rdH
  by_cases h1 : ((chs z).drop p).head? = some 42
  · rw [if_pos h1]
    have tq : (ofL (((chs z).drop p).take 1) = ofL [42]) = True := by rw [t42]; exact eq_true h1
    obtain ⟨g1, _⟩ := drop_suf (a := [42]) (r := ((chs z).drop p).tail) (dc _ h1) hp
    rw [List.length_singleton] at g1
    refine ⟨[], ?_⟩
    rw [g1]
    generalize ofL (((chs z).drop p).take 1) = tt at *
    simp (config := { implicitDefEqProofs := false }) [m__read, hzl, hcut, lstar, tq]
  · rw [if_neg h1]
    have tq : (ofL (((chs z).drop p).take 1) = ofL [42]) = False := by rw [t42]; exact eq_false h1
    have d39 : ofL [39] ≠ ofL [42] := fun e => by have := ofL_inj e; simp at this
    by_cases h2 : ((chs z).drop p).head? = some 39
    · rw [if_pos h2]
      have tq2 : (ofL (((chs z).drop p).take 1) = ofL [39]) = True := by rw [t39]; exact eq_true h2
      obtain ⟨g1, g2⟩ := drop_suf (a := [39]) (r := ((chs z).drop p).tail) (dc _ h2) hp
      rw [List.length_singleton] at g1 g2
      have hp2 : p + 1 ≤ (chs z).length := by
        have := congrArg List.length (dc _ h2)
        rw [List.length_drop, List.length_cons] at this
        omega
      have h := rs_ok z hz p hp2 S
      rw [g2] at h
      generalize hoo : Option.map (fun v => (D.str (ofL v.1), v.2)) (rsL ((chs z).drop p).tail) = o at *
      generalize ofL (((chs z).drop p).take 1) = tt at *
      cases o with
      | none =>
        obtain ⟨T, h⟩ := h
        exact ⟨T, by simp (config := { implicitDefEqProofs := false }) [m__read, hzl, hcut, lstar, lq, tq, tq2, h]⟩
      | some v =>
        obtain ⟨T, h⟩ := h
        refine ⟨T, ?_⟩
        generalize (chs z).length - v.2.length = q at *
        simp (config := { implicitDefEqProofs := false }) [m__read, hzl, hcut, lstar, lq, tq, tq2, h]
    · rw [if_neg h2]
      have tq2 : (ofL (((chs z).drop p).take 1) = ofL [39]) = False := by rw [t39]; exact eq_false h2
      by_cases h3 : ((chs z).drop p).head? = some 40
      · rw [if_pos h3]
        have tq3 : (ofL (((chs z).drop p).take 1) = ofL [40]) = True := by rw [t40]; exact eq_true h3
        have h := ht _ (dc _ h3)
        generalize t ((chs z).drop p).tail = o at *
        generalize ofL (((chs z).drop p).take 1) = tt at *
        cases o with
        | none =>
          obtain ⟨T, h⟩ := h
          exact ⟨T, by simp (config := { implicitDefEqProofs := false }) [m__read, hzl, hcut, lstar, lq, lopen, tq, tq2, tq3, h]⟩
        | some v =>
          obtain ⟨T, h⟩ := h
          refine ⟨T, ?_⟩
          generalize (chs z).length - v.2.length = q at *
          simp (config := { implicitDefEqProofs := false }) [m__read, hzl, hcut, lstar, lq, lopen, tq, tq2, tq3, h]
      · rw [if_neg h3]
        have tq3 : (ofL (((chs z).drop p).take 1) = ofL [40]) = False := by rw [t40]; exact eq_false h3
        have h := ri_ok z hz p hp S
        generalize rdI ((chs z).drop p) = o at *
        generalize ofL (((chs z).drop p).take 1) = tt at *
        cases o with
        | none =>
          obtain ⟨T, h⟩ := h
          exact ⟨T, by simp (config := { implicitDefEqProofs := false }) [m__read, hzl, hcut, lstar, lq, lopen, tq, tq2, tq3, h]⟩
        | some v =>
          obtain ⟨T, h⟩ := h
          refine ⟨T, ?_⟩
          generalize (chs z).length - v.2.length = q at *
          simp (config := { implicitDefEqProofs := false }) [m__read, hzl, hcut, lstar, lq, lopen, tq, tq2, tq3, h]
theorem rd_ok (z : Str) (hz : z.length ≤ 200000) (hP : Prn (chs z)) : ∀ (n j k p : Nat), k + n = 10 → 2 * n + 2 ≤ j → p ≤ (chs z).length → ∀ S, outV (chs z) (rd n ((chs z).drop p)) (VR__read j [.str z, .int p, .int k] S) S
  | 0, j, k, p, hk, hj, hp, S => by
    obtain ⟨j, rfl⟩ : ∃ i, j = i + 2 := ⟨j - 2, by omega⟩
    obtain rfl : k = 10 := by omega
    rw [VR__read_succ]
    refine rd_step z hz _ _ 10 p hp S _ fun r hr => ⟨[], ?_⟩
    rw [VR__read_tuple_succ, List.append_nil]
    exact rt_deep z _ _ p S
  | n + 1, j, k, p, hk, hj, hp, S => by
    obtain ⟨j, rfl⟩ : ∃ i, j = i + 2 := ⟨j - 2, by omega⟩
    rw [VR__read_succ]
    refine rd_step z hz _ _ k p hp S _ fun r hr => ?_
    rw [VR__read_tuple_succ]
    exact rt_ok z hz hP _ _ n k hk (fun q hq S => by
      have := rd_ok z hz hP n j (k + 1) q (by omega) (by omega) hq S
      rw [show (((k + 1 : Nat)) : Int) = (k : Int) + 1 by omega] at this
      exact this) p r hr S
/-- decode of a text -/
theorem dec_ok (z : Str) (S : Store) (hz : z.length ≤ 1000000) : ∃ T, V_decode [.str z] S = (match (if z.length ≤ 200000 ∧ (chs z).all prC = true then dec (chs z) else none) with | some d => .ok d (S ++ T) | none => .exc 14 [] (S ++ T)) := by
  have hzl : z.length ≤ sizeLine := szL (by omega)
  by_cases hp : (chs z).all prC = true
  · have h1 := prin_str z S (List.all_eq_true.mp hp)
    by_cases hl : z.length ≤ 200000
    · have hl2 : ¬ (200000 : Int) < z.length := by omega
      have h := rd_ok z hl (List.all_eq_true.mp hp) 10 24 0 0 rfl (by omega) (Nat.zero_le _) S
      rw [List.drop_zero] at h
      have hV : VR__read 24 = V__read := rfl
      rw [hV] at h
      rw [if_pos ⟨hl, hp⟩]
      unfold dec
      cases hr : rd 10 (chs z) with
      | none =>
        rw [hr] at h
        obtain ⟨T, h⟩ := h
        refine ⟨T, ?_⟩
        simp only at h ⊢
        simp (config := { implicitDefEqProofs := false }) at h
        simp (config := { implicitDefEqProofs := false }) [V_decode, m_decode, h1, hzl, hl2, c_MOST_LENGTH, h]
      | some v =>
        obtain ⟨d, r⟩ := v
        rw [hr] at h
        obtain ⟨T, h⟩ := h
        refine ⟨T, ?_⟩
        cases r with
        | nil =>
          have e : (chs z).length - ([] : List Nat).length = z.length := by rw [chs_len]; rfl
          rw [e] at h
          simp only at h ⊢
          simp (config := { implicitDefEqProofs := false }) at h
          simp (config := { implicitDefEqProofs := false }) [V_decode, m_decode, h1, hzl, hl2, c_MOST_LENGTH, h, gsCons, gsNil]
        | cons c r =>
          obtain ⟨_, hs⟩ := rd_sound (List.all_eq_true.mp hp) hr
          have hlen := congrArg List.length hs
          rw [List.length_append, List.length_cons, chs_len] at hlen
          have e : (((chs z).length - (c :: r).length : Nat) : Int) ≠ (z.length : Int) := by rw [chs_len, List.length_cons]; omega
          generalize (chs z).length - (c :: r).length = q at *
          simp only at h ⊢
          simp (config := { implicitDefEqProofs := false }) at h
          simp (config := { implicitDefEqProofs := false }) [V_decode, m_decode, h1, hzl, hl2, c_MOST_LENGTH, h, gsCons, gsNil, e]
    · have hl2 : (200000 : Int) < z.length := by omega
      rw [if_neg (fun h => hl h.1)]
      exact ⟨[], by simp (config := { implicitDefEqProofs := false }) [V_decode, m_decode, h1, hzl, hl2, c_MOST_LENGTH]⟩
  · have h1 := prin_not z S (fun h => hp (List.all_eq_true.mpr h))
    rw [if_neg (fun h => hp h.2)]
    exact ⟨[], by simp (config := { implicitDefEqProofs := false }) [V_decode, m_decode, h1]⟩
end L_k64
namespace L_k64
open PySem PySem.Spec PyProof.Rows L2 BS
theorem prn_int (i : Int) : Prn (txI i) := by
  by_cases h0 : 0 ≤ i
  · obtain ⟨n, rfl⟩ := Int.eq_ofNat_of_zero_le h0
    rw [txI_nat]
    intro c hc
    have := TL.numL_digits n c hc
    simp [prC]; omega
  · obtain ⟨n, rfl⟩ : ∃ n : Nat, i = -(n : Int) := ⟨i.natAbs, by omega⟩
    rw [txI_neg n (by omega)]
    intro c hc
    rcases List.mem_cons.mp hc with rfl | hc
    · decide
    · have := TL.numL_digits n c hc
      simp [prC]; omega
theorem prn_strq (z : Str) (hz : ∀ c ∈ chs z, prC c = true) : Prn (39 :: (StrLaws.dbl 39 (chs z) ++ [39])) := by
  intro c hc
  rcases List.mem_cons.mp hc with rfl | hc
  · decide
  · rcases List.mem_append.mp hc with hc | hc
    · exact hz c ((dbl_mem 39 c _).mp hc)
    · simp at hc; subst hc; decide
theorem prn_join : ∀ {ps : List (List Nat)}, (∀ p ∈ ps, Prn p) → Prn (TL.joinL [44] ps)
  | [], _ => fun c hc => by simp [TL.joinL] at hc
  | p :: ps, h => by
    have ih := prn_join (ps := ps) fun q hq => h q (List.mem_cons_of_mem _ hq)
    rw [joinL_cons]
    intro c hc
    rcases List.mem_append.mp hc with hc | hc
    · exact h p (by simp) c hc
    · split at hc
      · simp at hc
      · rcases List.mem_cons.mp hc with rfl | hc
        · decide
        · exact ih c hc
theorem prn_tx : ∀ {n : Nat} {d : D}, Pv n d → Prn (tx n d) := by
  intro n
  induction n with
  | zero =>
    intro d h
    rcases Pv_cases h with rfl | ⟨i, rfl, hi⟩ | ⟨z, rfl, hz⟩ | ⟨k, ds, e, rfl, hd⟩
    · intro c hc; simp at hc; subst hc; decide
    · rw [tx_int]; exact prn_int i
    · rw [tx_str]; exact prn_strq z hz
    · cases e
  | succ n ih =>
    intro d h
    rcases Pv_cases h with rfl | ⟨i, rfl, hi⟩ | ⟨z, rfl, hz⟩ | ⟨k, ds, e, rfl, hd⟩
    · intro c hc; simp at hc; subst hc; decide
    · rw [tx_int]; exact prn_int i
    · rw [tx_str]; exact prn_strq z hz
    · cases e
      rw [tx_tup]
      intro c hc
      rcases List.mem_cons.mp hc with rfl | hc
      · decide
      · rcases List.mem_append.mp hc with hc | hc
        · refine prn_join (fun p hp => ?_) c hc
          obtain ⟨x, hx, rfl⟩ := List.mem_map.mp hp
          exact ih (hd x hx)
        · simp at hc; subst hc; decide
theorem dec_tx {n : Nat} {d : D} (h : Pv n d) (hn : n ≤ 10) : dec (tx n d) = some d := by
  have e := tx_mono h hn
  rw [← e]
  exact (dec_iff (prn_tx (Pv_mono h hn)) d).mpr ⟨Pv_mono h hn, rfl⟩
theorem decode_back {n : Nat} {d : D} (h : Pv n d) (hn : n ≤ 10) (hl : (tx n d).length ≤ 200000) (S : Store) : ∃ T, V_decode [.str (ofL (tx n d))] S = .ok d (S ++ T) := by
  obtain ⟨T, e⟩ := dec_ok (ofL (tx n d)) S (by rw [ofL_len]; omega)
  rw [if_pos ⟨by rw [ofL_len]; exact hl, List.all_eq_true.mpr (prn_tx h)⟩, chs_ofL, dec_tx h hn] at e
  exact ⟨T, e⟩
def rich (c k : Int) : Int := if 1000000000000000000 ≤ c then c else (c * 48271 + k * 69621 + 11) % 2147483647 * 2147483629 + ((c * 48271 + k * 69621 + 11) % 2147483647 * 16807 + c) % 2147483629
theorem rich_eq (c k : Int) (S : Store) : V__law_rich [.int c, .int k] S = .ok (.int (rich c k)) S := by
  have h1 : -18446744073709551616 < (c * 48271 + k * 69621 + 11) % 2147483647 := by omega
  have h2 : (c * 48271 + k * 69621 + 11) % 2147483647 < 18446744073709551616 := by omega
  by_cases q : (1000000000000000000 : Int) ≤ c <;>
  simp [V__law_rich, m__law_rich, rich, h1, h2, q]
def cell (ns : List Int) (k : Nat) : Int := ns.getD k 0
theorem cell_eq (ns : List Int) (k : Nat) (S : Store) : V__law_cell [.scr (ns.map .int), .int k] S = .ok (.int (cell ns k)) S := by
  by_cases h : k < ns.length
  · have h1 : (k : Int) < ns.length := by omega
    simp [V__law_cell, m__law_cell, h, h1, cell, List.getElem?_eq_getElem h]
  · have h1 : ¬ (k : Int) < ns.length := by omega
    simp [V__law_cell, m__law_cell, h, h1, cell, List.getElem?_eq_none (Nat.le_of_not_lt h)]
theorem word_loop (S : Store) (L : Str) (h0 : 0 < L.length) (h1 : L.length ≤ 1000) (n? sd : Option D) : ∀ (n : Nat) (lo : Int) (z : Str) (r : Int) (x5 : Option D), z.length + n ≤ 1000 → ∃ (r' : Int) (x' : Option D),
    forL (fun _ => True) (gNm 5) lb__law_word_0 (BS.intsFrom lo n) ⟨[n?, some (.str L), sd, some (.str z), some (.int r), x5], []⟩ S = .nx ⟨[n?, some (.str L), sd, some (.str (wordF L n z r)), some (.int r'), x'], []⟩ S
  | 0, lo, z, r, x5, hz => ⟨r, x5, by rw [BS.intsFrom, forL_nil]; rfl⟩
  | n + 1, lo, z, r, x5, hz => by
    have hc := ix_word S r h0 (by omega : L.length ≤ 1000000)
    have hl1 : z.length + 1 ≤ sizeLine := szL (by omega)
    have hl2 : L.length ≤ sizeLine := szL (by omega)
    have hp : (0 : Int) < L.length := by omega
    have hb : (L.length : Int) < 1073741824 := by omega
    have step : (gNm 5 (.int lo) ⟨[n?, some (.str L), sd, some (.str z), some (.int r), x5], []⟩ S).seq lb__law_word_0 = .nx ⟨[n?, some (.str L), sd, some (.str (z ++ ⟨#[L.cps.toList.getD (r % L.length).toNat 0]⟩)), some (.int (r / L.length)), some (.int lo)], []⟩ S := by
      generalize L.cps.toList.getD (r % L.length).toNat 0 = c at *
      simp [lb__law_word_0, hc, hl1, hl2, h0, hp, hb]
    have e : (z ++ (⟨#[L.cps.toList.getD (r % L.length).toNat 0]⟩ : Str)).length = z.length + 1 := by rw [Str.length_append]; rfl
    obtain ⟨r', x', q⟩ := word_loop S L h0 h1 n? sd n (lo + 1) (z ++ ⟨#[L.cps.toList.getD (r % L.length).toNat 0]⟩) (r / L.length) (some (.int lo)) (by omega)
    refine ⟨r', x', ?_⟩
    rw [BS.intsFrom, forL_cons, step, RS.loop_nx]
    exact q
theorem word_eq (S : Store) (L : Str) (h0 : 0 < L.length) (h1 : L.length ≤ 1000) (n : Int) (hn : 0 ≤ n) (hn2 : n ≤ 100) (sd : Int) : V__law_word [.int n, .str L, .int sd] S = .ok (.str (wordF L n.toNat "" sd)) S := by
  obtain ⟨r', x', q⟩ := word_loop S L h0 h1 (some (.int n)) (some (.int sd)) n.toNat 0 "" sd none (by show 0 + n.toNat ≤ 1000; omega)
  have hr : rngOk n := by unfold rngOk; constructor <;> omega
  generalize wordF L n.toNat "" sd = z at *
  have it := iRng1 (as := mCons (mVar 0) mNil) (e := ⟨[some (.int n), some (.str L), some (.int sd), some (.str ""), some (.int sd), none], []⟩) (S := S) (S' := S) (j := n) (by simp) hr
  have b : m__law_word ⟨[some (.int n), some (.str L), some (.int sd), none, none, none], []⟩ S = .rt (.str z) S := by
    unfold m__law_word
    simp (config := { implicitDefEqProofs := false }) only [mSeq_ev, mSet_ev, mC_ev, mCall_ev, mCons_ev, mNil_ev, mVar_ev, R.bind_ok, R.toS_ok, Ev.set_sl, List.set_cons_zero, List.set_cons_succ, RS.seq_nx, fnInt_ev, mFor_ev, it, q, mRet_ev, List.getElem?_cons_succ, List.getElem?_cons_zero]
  have e1 : (List.map some [D.int n, .str L, .int sd] ++ List.replicate (6 - [D.int n, .str L, .int sd].length) none) = [some (.int n), some (.str L), some (.int sd), none, none, none] := rfl
  rw [V__law_word, den_app, e1, b]
theorem wordF_len0 (L : Str) (n : Nat) (r : Int) : (wordF L n "" r).length = n := by rw [wordF_len]; show 0 + n = n; omega
theorem bound_scan (S : Store) (x : Option D) : ∀ (cs : List Nat) (y : Option D), ∃ y', forL (fun _ => True) (gNm 1) lb_is_bound_0 (cs.map BS.strAt) ⟨[x, y], []⟩ S = if cs.all inL = true then .nx ⟨[x, y'], []⟩ S else .rt (.bl false) S
  | [], y => ⟨y, by rw [List.map_nil, forL_nil]; rfl⟩
  | c :: cs, y => by
    obtain ⟨y', e⟩ := bound_scan S x cs (some (BS.strAt c))
    refine ⟨y', ?_⟩
    have hc : inStr ⟨#[c]⟩ "abcdefghijklmnopqrstuvwxyz" = inL c := inStr_one _ _
    have step : (gNm 1 (BS.strAt c) ⟨[x, y], []⟩ S).seq lb_is_bound_0 = if inL c = true then .nx ⟨[x, some (BS.strAt c)], []⟩ S else .rt (.bl false) S := by
      cases h : inL c <;> simp [lb_is_bound_0, c_LETTERS, BS.strAt, hc, h]
    rw [List.map_cons, forL_cons, step]
    cases h : inL c with
    | true => rw [if_pos rfl, RS.loop_nx, e]; simp [h]
    | false => rw [if_neg (by simp), RS.loop_rt]; simp [h]
theorem bound_eq {n : Nat} {d : D} (h : Sm n d) (S : Store) : V_is_bound [d] S = .ok (.bl (isB d)) S := by
  cases d with
  | str z =>
    simp at h
    have l1 : z.length ≤ sizeLine := szL h
    by_cases h8 : z.length ≤ 8
    · obtain ⟨y', e⟩ := bound_scan S (some (.str z)) z.cps.toList none
      have g8 : ¬ (8 : Int) < z.length := by omega
      cases ha : z.cps.toList.all inL <;> rw [ha] at e <;>
      simp (config := { implicitDefEqProofs := false }) [V_is_bound, m_is_bound, l1, c_MOST_KEY, g8, BS.signs, e, isB, h8, ha]
    · have g8 : (8 : Int) < z.length := by omega
      simp (config := { implicitDefEqProofs := false }) [V_is_bound, m_is_bound, l1, c_MOST_KEY, g8, isB, h8]
  | obj k => simp at h
  | scr k => simp at h
  | _ => simp (config := { implicitDefEqProofs := false }) [V_is_bound, m_is_bound, isB]
theorem key_eq {n : Nat} {d : D} (h : Sm n d) (S : Store) : V_is_key [d] S = .ok (.bl (isK d)) S := by
  have hb := bound_eq h S
  cases d with
  | str z => cases hB : isB (.str z) <;> rw [hB] at hb <;> simp (config := { implicitDefEqProofs := false }) [V_is_key, m_is_key, hb, isK, hB]
  | obj k => simp at h
  | scr k => simp at h
  | _ => simp (config := { implicitDefEqProofs := false }) [V_is_key, m_is_key, hb, isB, isK]
@[simp] theorem sl_get_put : (Str.ofString "get" = Str.ofString "put") = False := by simp; decide +kernel
@[simp] theorem sl_get_drop : (Str.ofString "get" = Str.ofString "drop") = False := by simp; decide +kernel
@[simp] theorem sl_get_swap : (Str.ofString "get" = Str.ofString "swap") = False := by simp; decide +kernel
@[simp] theorem sl_get_page : (Str.ofString "get" = Str.ofString "page") = False := by simp; decide +kernel
@[simp] theorem sl_put_get : (Str.ofString "put" = Str.ofString "get") = False := by simp; decide +kernel
@[simp] theorem sl_put_drop : (Str.ofString "put" = Str.ofString "drop") = False := by simp; decide +kernel
@[simp] theorem sl_put_swap : (Str.ofString "put" = Str.ofString "swap") = False := by simp; decide +kernel
@[simp] theorem sl_put_page : (Str.ofString "put" = Str.ofString "page") = False := by simp; decide +kernel
@[simp] theorem sl_drop_get : (Str.ofString "drop" = Str.ofString "get") = False := by simp; decide +kernel
@[simp] theorem sl_drop_put : (Str.ofString "drop" = Str.ofString "put") = False := by simp; decide +kernel
@[simp] theorem sl_drop_swap : (Str.ofString "drop" = Str.ofString "swap") = False := by simp; decide +kernel
@[simp] theorem sl_drop_page : (Str.ofString "drop" = Str.ofString "page") = False := by simp; decide +kernel
@[simp] theorem sl_swap_get : (Str.ofString "swap" = Str.ofString "get") = False := by simp; decide +kernel
@[simp] theorem sl_swap_put : (Str.ofString "swap" = Str.ofString "put") = False := by simp; decide +kernel
@[simp] theorem sl_swap_drop : (Str.ofString "swap" = Str.ofString "drop") = False := by simp; decide +kernel
@[simp] theorem sl_swap_page : (Str.ofString "swap" = Str.ofString "page") = False := by simp; decide +kernel
@[simp] theorem sl_page_get : (Str.ofString "page" = Str.ofString "get") = False := by simp; decide +kernel
@[simp] theorem sl_page_put : (Str.ofString "page" = Str.ofString "put") = False := by simp; decide +kernel
@[simp] theorem sl_page_drop : (Str.ofString "page" = Str.ofString "drop") = False := by simp; decide +kernel
@[simp] theorem sl_page_swap : (Str.ofString "page" = Str.ofString "swap") = False := by simp; decide +kernel
def isOp (d : D) : Bool := match d with
  | .tup (.str k :: a :: r) =>
    if k = "get" ∨ k = "drop" then r.isEmpty && isK a
    else if k = "put" then decide (r.length = 1) && isK a && r.all isV
    else if k = "swap" then decide (r.length = 2) && isK a && r.all isV
    else if k = "page" then (match r with
      | [l] => isB a && isI l 1 50
      | _ => false)
    else false
  | _ => false
theorem vals_lc {n : Nat} {r : List D} (hr : ∀ d ∈ r, Sm n d) (hl : r.length ≤ 1000000) (x : Option D) (S : Store) :
    lcL S.length (fun _ => True) (LT.one 1) ⟨[x, none], []⟩ mYes (mCall V_is_value (mCons (mVar 1) mNil)) r (S ++ [.lst []]) = .ok () (S ++ [.lst (r.map fun d => .bl (isV d))]) :=
  lcL_map (G := fun _ => True) S (fun d => .bl (isV d)) (fun _ => True.intro) (fun d hd acc => by
    have := value_eq (hr d hd) (S ++ [.lst acc])
    simp [this]) (szL hl)
theorem op_eq {n : Nat} {d : D} (h : Sm (n + 1) d) : ∃ T, ∀ S, V_is_operation [d] S = .ok (.bl (isOp d)) (S ++ T) := by
  cases d with
  | obj k => simp at h
  | scr k => simp at h
  | tup ds =>
    match ds, h with
    | [], h => exact ⟨[], fun S => by simp (config := { implicitDefEqProofs := false }) [V_is_operation, m_is_operation, isOp]⟩
    | [a], h => exact ⟨[], fun S => by simp (config := { implicitDefEqProofs := false }) [V_is_operation, m_is_operation, isOp]⟩
    | x :: a :: r, h =>
      simp at h
      obtain ⟨hl, hx, ha, hr⟩ := h
      have hlr : r.length ≤ 1000000 := by omega
      have len0 : ¬ ((r.length : Int) + 1 + 1 < 2) := by omega
      cases x with
      | obj k => simp at hx
      | scr k => simp at hx
      | str k =>
        have hk := key_eq ha
        have hb := bound_eq ha
        have ld : ∀ S : Store, _ := fun S => vals_lc hr hlr (some (.tup (.str k :: a :: r))) S
        by_cases k1 : k = "get"
        · subst k1
          by_cases q : r.length = 0
          · have q' : r = [] := List.eq_nil_of_length_eq_zero q
            subst q'
            cases hK : isK a <;> simp only [hK] at hk
            · exact ⟨[], fun S => by simp (config := { implicitDefEqProofs := false }) [V_is_operation, m_is_operation, isOp, getK, c_SIZES, hk, hK]⟩
            · exact ⟨[.lst []], fun S => by
                have ld := ld S
                simp (config := { implicitDefEqProofs := false }) at ld
                simp (config := { implicitDefEqProofs := false }) [V_is_operation, m_is_operation, isOp, getK, c_SIZES, hk, hK, ld, blsOf]⟩
          · have q1 : ¬ ((r.length : Int) + 1 + 1 = 2) := by omega
            have q2 : r.isEmpty = false := by cases r <;> simp_all
            exact ⟨[], fun S => by simp (config := { implicitDefEqProofs := false }) [V_is_operation, m_is_operation, isOp, getK, c_SIZES, len0, q, q1, q2]⟩
        by_cases k2 : k = "drop"
        · subst k2
          by_cases q : r.length = 0
          · have q' : r = [] := List.eq_nil_of_length_eq_zero q
            subst q'
            cases hK : isK a <;> simp only [hK] at hk
            · exact ⟨[], fun S => by simp (config := { implicitDefEqProofs := false }) [V_is_operation, m_is_operation, isOp, getK, c_SIZES, hk, hK]⟩
            · exact ⟨[.lst []], fun S => by
                have ld := ld S
                simp (config := { implicitDefEqProofs := false }) at ld
                simp (config := { implicitDefEqProofs := false }) [V_is_operation, m_is_operation, isOp, getK, c_SIZES, hk, hK, ld, blsOf]⟩
          · have q1 : ¬ ((r.length : Int) + 1 + 1 = 2) := by omega
            have q2 : r.isEmpty = false := by cases r <;> simp_all
            exact ⟨[], fun S => by simp (config := { implicitDefEqProofs := false }) [V_is_operation, m_is_operation, isOp, getK, c_SIZES, len0, q, q1, q2]⟩
        by_cases k3 : k = "put"
        · subst k3
          by_cases q : r.length = 1
          · have q1 : ((r.length : Int) + 1 + 1 = 3) := by omega
            cases hK : isK a <;> simp only [hK] at hk
            · exact ⟨[], fun S => by simp (config := { implicitDefEqProofs := false }) [V_is_operation, m_is_operation, isOp, getK, c_SIZES, hk, hK, len0, q, q1]⟩
            · exact ⟨[.lst (r.map fun d => .bl (isV d))], fun S => by
                have ld := ld S
                simp (config := { implicitDefEqProofs := false }) [V_is_operation, m_is_operation, isOp, getK, c_SIZES, hk, hK, len0, ld, q, q1]⟩
          · have q1 : ¬ ((r.length : Int) + 1 + 1 = 3) := by omega
            exact ⟨[], fun S => by simp (config := { implicitDefEqProofs := false }) [V_is_operation, m_is_operation, isOp, getK, c_SIZES, len0, q, q1]⟩
        by_cases k4 : k = "swap"
        · subst k4
          by_cases q : r.length = 2
          · have q1 : ((r.length : Int) + 1 + 1 = 4) := by omega
            cases hK : isK a <;> simp only [hK] at hk
            · exact ⟨[], fun S => by simp (config := { implicitDefEqProofs := false }) [V_is_operation, m_is_operation, isOp, getK, c_SIZES, hk, hK, len0, q, q1]⟩
            · exact ⟨[.lst (r.map fun d => .bl (isV d))], fun S => by
                have ld := ld S
                simp (config := { implicitDefEqProofs := false }) [V_is_operation, m_is_operation, isOp, getK, c_SIZES, hk, hK, len0, ld, q, q1]⟩
          · have q1 : ¬ ((r.length : Int) + 1 + 1 = 4) := by omega
            exact ⟨[], fun S => by simp (config := { implicitDefEqProofs := false }) [V_is_operation, m_is_operation, isOp, getK, c_SIZES, len0, q, q1]⟩
        by_cases k5 : k = "page"
        · subst k5
          match r, hr with
          | [], hr => exact ⟨[], fun S => by simp (config := { implicitDefEqProofs := false }) [V_is_operation, m_is_operation, isOp, getK, c_SIZES]⟩
          | [l], hr =>
            have hi := int_eq (hr l (by simp)) 1 50
            refine ⟨[], fun S => ?_⟩
            cases hB : isB a <;> simp only [hB] at hb <;> simp (config := { implicitDefEqProofs := false }) [V_is_operation, m_is_operation, isOp, getK, c_SIZES, hb, hi, hB, c_MOST_PAGE]
          | l :: m :: r, hr =>
            have q1 : ¬ ((r.length : Int) + 1 + 1 + 1 + 1 = 3) := by omega
            have q2 : ¬ ((r.length : Int) + 1 + 1 + 1 + 1 < 2) := by omega
            exact ⟨[], fun S => by simp (config := { implicitDefEqProofs := false }) [V_is_operation, m_is_operation, isOp, getK, c_SIZES, q1, q2]⟩
        · have k1' : ¬ (Str.ofString "get" = k) := fun z => k1 z.symm
          have k2' : ¬ (Str.ofString "drop" = k) := fun z => k2 z.symm
          have k3' : ¬ (Str.ofString "put" = k) := fun z => k3 z.symm
          have k4' : ¬ (Str.ofString "swap" = k) := fun z => k4 z.symm
          have k5' : ¬ (Str.ofString "page" = k) := fun z => k5 z.symm
          exact ⟨[], fun S => by simp (config := { implicitDefEqProofs := false }) [V_is_operation, m_is_operation, isOp, getK, c_SIZES, len0, k1, k2, k3, k4, k5, k1', k2', k3', k4', k5']⟩
      | _ => exact ⟨[], fun S => by simp (config := { implicitDefEqProofs := false }) [V_is_operation, m_is_operation, isOp, len0]⟩
  | _ => exact ⟨[], fun S => by simp (config := { implicitDefEqProofs := false }) [V_is_operation, m_is_operation, isOp]⟩
@[simp] theorem sl_page_value : (Str.ofString "page" = Str.ofString "value") = False := by simp; decide +kernel
@[simp] theorem sl_page_other : (Str.ofString "page" = Str.ofString "other") = False := by simp; decide +kernel
@[simp] theorem sl_page_none : (Str.ofString "page" = Str.ofString "none") = False := by simp; decide +kernel
@[simp] theorem sl_page_done : (Str.ofString "page" = Str.ofString "done") = False := by simp; decide +kernel
@[simp] theorem sl_value_page : (Str.ofString "value" = Str.ofString "page") = False := by simp; decide +kernel
@[simp] theorem sl_value_other : (Str.ofString "value" = Str.ofString "other") = False := by simp; decide +kernel
@[simp] theorem sl_value_none : (Str.ofString "value" = Str.ofString "none") = False := by simp; decide +kernel
@[simp] theorem sl_value_done : (Str.ofString "value" = Str.ofString "done") = False := by simp; decide +kernel
@[simp] theorem sl_other_page : (Str.ofString "other" = Str.ofString "page") = False := by simp; decide +kernel
@[simp] theorem sl_other_value : (Str.ofString "other" = Str.ofString "value") = False := by simp; decide +kernel
@[simp] theorem sl_other_none : (Str.ofString "other" = Str.ofString "none") = False := by simp; decide +kernel
@[simp] theorem sl_other_done : (Str.ofString "other" = Str.ofString "done") = False := by simp; decide +kernel
@[simp] theorem sl_none_page : (Str.ofString "none" = Str.ofString "page") = False := by simp; decide +kernel
@[simp] theorem sl_none_value : (Str.ofString "none" = Str.ofString "value") = False := by simp; decide +kernel
@[simp] theorem sl_none_other : (Str.ofString "none" = Str.ofString "other") = False := by simp; decide +kernel
@[simp] theorem sl_none_done : (Str.ofString "none" = Str.ofString "done") = False := by simp; decide +kernel
@[simp] theorem sl_done_page : (Str.ofString "done" = Str.ofString "page") = False := by simp; decide +kernel
@[simp] theorem sl_done_value : (Str.ofString "done" = Str.ofString "value") = False := by simp; decide +kernel
@[simp] theorem sl_done_other : (Str.ofString "done" = Str.ofString "other") = False := by simp; decide +kernel
@[simp] theorem sl_done_none : (Str.ofString "done" = Str.ofString "none") = False := by simp; decide +kernel
theorem eqDs_emp (ds : List D) : eqDs ds [] = ds.isEmpty := by cases ds <;> simp
@[simp] theorem sl_ask_where : (Str.ofString "ask" = Str.ofString "where") = False := by simp; decide +kernel
@[simp] theorem sl_ask_answer : (Str.ofString "ask" = Str.ofString "answer") = False := by simp; decide +kernel
@[simp] theorem sl_ask_elsewhere : (Str.ofString "ask" = Str.ofString "elsewhere") = False := by simp; decide +kernel
@[simp] theorem sl_ask_there : (Str.ofString "ask" = Str.ofString "there") = False := by simp; decide +kernel
@[simp] theorem sl_ask_move : (Str.ofString "ask" = Str.ofString "move") = False := by simp; decide +kernel
@[simp] theorem sl_ask_split : (Str.ofString "ask" = Str.ofString "split") = False := by simp; decide +kernel
@[simp] theorem sl_ask_join : (Str.ofString "ask" = Str.ofString "join") = False := by simp; decide +kernel
@[simp] theorem sl_ask_have : (Str.ofString "ask" = Str.ofString "have") = False := by simp; decide +kernel
@[simp] theorem sl_ask_content : (Str.ofString "ask" = Str.ofString "content") = False := by simp; decide +kernel
@[simp] theorem sl_ask_receipt : (Str.ofString "ask" = Str.ofString "receipt") = False := by simp; decide +kernel
@[simp] theorem sl_ask_client : (Str.ofString "ask" = Str.ofString "client") = False := by simp; decide +kernel
@[simp] theorem sl_ask_server : (Str.ofString "ask" = Str.ofString "server") = False := by simp; decide +kernel
@[simp] theorem sl_ask_directory : (Str.ofString "ask" = Str.ofString "directory") = False := by simp; decide +kernel
@[simp] theorem sl_where_ask : (Str.ofString "where" = Str.ofString "ask") = False := by simp; decide +kernel
@[simp] theorem sl_where_answer : (Str.ofString "where" = Str.ofString "answer") = False := by simp; decide +kernel
@[simp] theorem sl_where_elsewhere : (Str.ofString "where" = Str.ofString "elsewhere") = False := by simp; decide +kernel
@[simp] theorem sl_where_there : (Str.ofString "where" = Str.ofString "there") = False := by simp; decide +kernel
@[simp] theorem sl_where_move : (Str.ofString "where" = Str.ofString "move") = False := by simp; decide +kernel
@[simp] theorem sl_where_split : (Str.ofString "where" = Str.ofString "split") = False := by simp; decide +kernel
@[simp] theorem sl_where_join : (Str.ofString "where" = Str.ofString "join") = False := by simp; decide +kernel
@[simp] theorem sl_where_have : (Str.ofString "where" = Str.ofString "have") = False := by simp; decide +kernel
@[simp] theorem sl_where_content : (Str.ofString "where" = Str.ofString "content") = False := by simp; decide +kernel
@[simp] theorem sl_where_receipt : (Str.ofString "where" = Str.ofString "receipt") = False := by simp; decide +kernel
@[simp] theorem sl_where_client : (Str.ofString "where" = Str.ofString "client") = False := by simp; decide +kernel
@[simp] theorem sl_where_server : (Str.ofString "where" = Str.ofString "server") = False := by simp; decide +kernel
@[simp] theorem sl_where_directory : (Str.ofString "where" = Str.ofString "directory") = False := by simp; decide +kernel
@[simp] theorem sl_answer_ask : (Str.ofString "answer" = Str.ofString "ask") = False := by simp; decide +kernel
@[simp] theorem sl_answer_where : (Str.ofString "answer" = Str.ofString "where") = False := by simp; decide +kernel
@[simp] theorem sl_answer_elsewhere : (Str.ofString "answer" = Str.ofString "elsewhere") = False := by simp; decide +kernel
@[simp] theorem sl_answer_there : (Str.ofString "answer" = Str.ofString "there") = False := by simp; decide +kernel
@[simp] theorem sl_answer_move : (Str.ofString "answer" = Str.ofString "move") = False := by simp; decide +kernel
@[simp] theorem sl_answer_split : (Str.ofString "answer" = Str.ofString "split") = False := by simp; decide +kernel
@[simp] theorem sl_answer_join : (Str.ofString "answer" = Str.ofString "join") = False := by simp; decide +kernel
@[simp] theorem sl_answer_have : (Str.ofString "answer" = Str.ofString "have") = False := by simp; decide +kernel
@[simp] theorem sl_answer_content : (Str.ofString "answer" = Str.ofString "content") = False := by simp; decide +kernel
@[simp] theorem sl_answer_receipt : (Str.ofString "answer" = Str.ofString "receipt") = False := by simp; decide +kernel
@[simp] theorem sl_answer_client : (Str.ofString "answer" = Str.ofString "client") = False := by simp; decide +kernel
@[simp] theorem sl_answer_server : (Str.ofString "answer" = Str.ofString "server") = False := by simp; decide +kernel
@[simp] theorem sl_answer_directory : (Str.ofString "answer" = Str.ofString "directory") = False := by simp; decide +kernel
@[simp] theorem sl_elsewhere_ask : (Str.ofString "elsewhere" = Str.ofString "ask") = False := by simp; decide +kernel
@[simp] theorem sl_elsewhere_where : (Str.ofString "elsewhere" = Str.ofString "where") = False := by simp; decide +kernel
@[simp] theorem sl_elsewhere_answer : (Str.ofString "elsewhere" = Str.ofString "answer") = False := by simp; decide +kernel
@[simp] theorem sl_elsewhere_there : (Str.ofString "elsewhere" = Str.ofString "there") = False := by simp; decide +kernel
@[simp] theorem sl_elsewhere_move : (Str.ofString "elsewhere" = Str.ofString "move") = False := by simp; decide +kernel
@[simp] theorem sl_elsewhere_split : (Str.ofString "elsewhere" = Str.ofString "split") = False := by simp; decide +kernel
@[simp] theorem sl_elsewhere_join : (Str.ofString "elsewhere" = Str.ofString "join") = False := by simp; decide +kernel
@[simp] theorem sl_elsewhere_have : (Str.ofString "elsewhere" = Str.ofString "have") = False := by simp; decide +kernel
@[simp] theorem sl_elsewhere_content : (Str.ofString "elsewhere" = Str.ofString "content") = False := by simp; decide +kernel
@[simp] theorem sl_elsewhere_receipt : (Str.ofString "elsewhere" = Str.ofString "receipt") = False := by simp; decide +kernel
@[simp] theorem sl_elsewhere_client : (Str.ofString "elsewhere" = Str.ofString "client") = False := by simp; decide +kernel
@[simp] theorem sl_elsewhere_server : (Str.ofString "elsewhere" = Str.ofString "server") = False := by simp; decide +kernel
@[simp] theorem sl_elsewhere_directory : (Str.ofString "elsewhere" = Str.ofString "directory") = False := by simp; decide +kernel
@[simp] theorem sl_there_ask : (Str.ofString "there" = Str.ofString "ask") = False := by simp; decide +kernel
@[simp] theorem sl_there_where : (Str.ofString "there" = Str.ofString "where") = False := by simp; decide +kernel
@[simp] theorem sl_there_answer : (Str.ofString "there" = Str.ofString "answer") = False := by simp; decide +kernel
@[simp] theorem sl_there_elsewhere : (Str.ofString "there" = Str.ofString "elsewhere") = False := by simp; decide +kernel
@[simp] theorem sl_there_move : (Str.ofString "there" = Str.ofString "move") = False := by simp; decide +kernel
@[simp] theorem sl_there_split : (Str.ofString "there" = Str.ofString "split") = False := by simp; decide +kernel
@[simp] theorem sl_there_join : (Str.ofString "there" = Str.ofString "join") = False := by simp; decide +kernel
@[simp] theorem sl_there_have : (Str.ofString "there" = Str.ofString "have") = False := by simp; decide +kernel
@[simp] theorem sl_there_content : (Str.ofString "there" = Str.ofString "content") = False := by simp; decide +kernel
@[simp] theorem sl_there_receipt : (Str.ofString "there" = Str.ofString "receipt") = False := by simp; decide +kernel
@[simp] theorem sl_there_client : (Str.ofString "there" = Str.ofString "client") = False := by simp; decide +kernel
@[simp] theorem sl_there_server : (Str.ofString "there" = Str.ofString "server") = False := by simp; decide +kernel
@[simp] theorem sl_there_directory : (Str.ofString "there" = Str.ofString "directory") = False := by simp; decide +kernel
@[simp] theorem sl_move_ask : (Str.ofString "move" = Str.ofString "ask") = False := by simp; decide +kernel
@[simp] theorem sl_move_where : (Str.ofString "move" = Str.ofString "where") = False := by simp; decide +kernel
@[simp] theorem sl_move_answer : (Str.ofString "move" = Str.ofString "answer") = False := by simp; decide +kernel
@[simp] theorem sl_move_elsewhere : (Str.ofString "move" = Str.ofString "elsewhere") = False := by simp; decide +kernel
@[simp] theorem sl_move_there : (Str.ofString "move" = Str.ofString "there") = False := by simp; decide +kernel
@[simp] theorem sl_move_split : (Str.ofString "move" = Str.ofString "split") = False := by simp; decide +kernel
@[simp] theorem sl_move_join : (Str.ofString "move" = Str.ofString "join") = False := by simp; decide +kernel
@[simp] theorem sl_move_have : (Str.ofString "move" = Str.ofString "have") = False := by simp; decide +kernel
@[simp] theorem sl_move_content : (Str.ofString "move" = Str.ofString "content") = False := by simp; decide +kernel
@[simp] theorem sl_move_receipt : (Str.ofString "move" = Str.ofString "receipt") = False := by simp; decide +kernel
@[simp] theorem sl_move_client : (Str.ofString "move" = Str.ofString "client") = False := by simp; decide +kernel
@[simp] theorem sl_move_server : (Str.ofString "move" = Str.ofString "server") = False := by simp; decide +kernel
@[simp] theorem sl_move_directory : (Str.ofString "move" = Str.ofString "directory") = False := by simp; decide +kernel
@[simp] theorem sl_split_ask : (Str.ofString "split" = Str.ofString "ask") = False := by simp; decide +kernel
@[simp] theorem sl_split_where : (Str.ofString "split" = Str.ofString "where") = False := by simp; decide +kernel
@[simp] theorem sl_split_answer : (Str.ofString "split" = Str.ofString "answer") = False := by simp; decide +kernel
@[simp] theorem sl_split_elsewhere : (Str.ofString "split" = Str.ofString "elsewhere") = False := by simp; decide +kernel
@[simp] theorem sl_split_there : (Str.ofString "split" = Str.ofString "there") = False := by simp; decide +kernel
@[simp] theorem sl_split_move : (Str.ofString "split" = Str.ofString "move") = False := by simp; decide +kernel
@[simp] theorem sl_split_join : (Str.ofString "split" = Str.ofString "join") = False := by simp; decide +kernel
@[simp] theorem sl_split_have : (Str.ofString "split" = Str.ofString "have") = False := by simp; decide +kernel
@[simp] theorem sl_split_content : (Str.ofString "split" = Str.ofString "content") = False := by simp; decide +kernel
@[simp] theorem sl_split_receipt : (Str.ofString "split" = Str.ofString "receipt") = False := by simp; decide +kernel
@[simp] theorem sl_split_client : (Str.ofString "split" = Str.ofString "client") = False := by simp; decide +kernel
@[simp] theorem sl_split_server : (Str.ofString "split" = Str.ofString "server") = False := by simp; decide +kernel
@[simp] theorem sl_split_directory : (Str.ofString "split" = Str.ofString "directory") = False := by simp; decide +kernel
@[simp] theorem sl_join_ask : (Str.ofString "join" = Str.ofString "ask") = False := by simp; decide +kernel
@[simp] theorem sl_join_where : (Str.ofString "join" = Str.ofString "where") = False := by simp; decide +kernel
@[simp] theorem sl_join_answer : (Str.ofString "join" = Str.ofString "answer") = False := by simp; decide +kernel
@[simp] theorem sl_join_elsewhere : (Str.ofString "join" = Str.ofString "elsewhere") = False := by simp; decide +kernel
@[simp] theorem sl_join_there : (Str.ofString "join" = Str.ofString "there") = False := by simp; decide +kernel
@[simp] theorem sl_join_move : (Str.ofString "join" = Str.ofString "move") = False := by simp; decide +kernel
@[simp] theorem sl_join_split : (Str.ofString "join" = Str.ofString "split") = False := by simp; decide +kernel
@[simp] theorem sl_join_have : (Str.ofString "join" = Str.ofString "have") = False := by simp; decide +kernel
@[simp] theorem sl_join_content : (Str.ofString "join" = Str.ofString "content") = False := by simp; decide +kernel
@[simp] theorem sl_join_receipt : (Str.ofString "join" = Str.ofString "receipt") = False := by simp; decide +kernel
@[simp] theorem sl_join_client : (Str.ofString "join" = Str.ofString "client") = False := by simp; decide +kernel
@[simp] theorem sl_join_server : (Str.ofString "join" = Str.ofString "server") = False := by simp; decide +kernel
@[simp] theorem sl_join_directory : (Str.ofString "join" = Str.ofString "directory") = False := by simp; decide +kernel
@[simp] theorem sl_have_ask : (Str.ofString "have" = Str.ofString "ask") = False := by simp; decide +kernel
@[simp] theorem sl_have_where : (Str.ofString "have" = Str.ofString "where") = False := by simp; decide +kernel
@[simp] theorem sl_have_answer : (Str.ofString "have" = Str.ofString "answer") = False := by simp; decide +kernel
@[simp] theorem sl_have_elsewhere : (Str.ofString "have" = Str.ofString "elsewhere") = False := by simp; decide +kernel
@[simp] theorem sl_have_there : (Str.ofString "have" = Str.ofString "there") = False := by simp; decide +kernel
@[simp] theorem sl_have_move : (Str.ofString "have" = Str.ofString "move") = False := by simp; decide +kernel
@[simp] theorem sl_have_split : (Str.ofString "have" = Str.ofString "split") = False := by simp; decide +kernel
@[simp] theorem sl_have_join : (Str.ofString "have" = Str.ofString "join") = False := by simp; decide +kernel
@[simp] theorem sl_have_content : (Str.ofString "have" = Str.ofString "content") = False := by simp; decide +kernel
@[simp] theorem sl_have_receipt : (Str.ofString "have" = Str.ofString "receipt") = False := by simp; decide +kernel
@[simp] theorem sl_have_client : (Str.ofString "have" = Str.ofString "client") = False := by simp; decide +kernel
@[simp] theorem sl_have_server : (Str.ofString "have" = Str.ofString "server") = False := by simp; decide +kernel
@[simp] theorem sl_have_directory : (Str.ofString "have" = Str.ofString "directory") = False := by simp; decide +kernel
@[simp] theorem sl_content_ask : (Str.ofString "content" = Str.ofString "ask") = False := by simp; decide +kernel
@[simp] theorem sl_content_where : (Str.ofString "content" = Str.ofString "where") = False := by simp; decide +kernel
@[simp] theorem sl_content_answer : (Str.ofString "content" = Str.ofString "answer") = False := by simp; decide +kernel
@[simp] theorem sl_content_elsewhere : (Str.ofString "content" = Str.ofString "elsewhere") = False := by simp; decide +kernel
@[simp] theorem sl_content_there : (Str.ofString "content" = Str.ofString "there") = False := by simp; decide +kernel
@[simp] theorem sl_content_move : (Str.ofString "content" = Str.ofString "move") = False := by simp; decide +kernel
@[simp] theorem sl_content_split : (Str.ofString "content" = Str.ofString "split") = False := by simp; decide +kernel
@[simp] theorem sl_content_join : (Str.ofString "content" = Str.ofString "join") = False := by simp; decide +kernel
@[simp] theorem sl_content_have : (Str.ofString "content" = Str.ofString "have") = False := by simp; decide +kernel
@[simp] theorem sl_content_receipt : (Str.ofString "content" = Str.ofString "receipt") = False := by simp; decide +kernel
@[simp] theorem sl_content_client : (Str.ofString "content" = Str.ofString "client") = False := by simp; decide +kernel
@[simp] theorem sl_content_server : (Str.ofString "content" = Str.ofString "server") = False := by simp; decide +kernel
@[simp] theorem sl_content_directory : (Str.ofString "content" = Str.ofString "directory") = False := by simp; decide +kernel
@[simp] theorem sl_receipt_ask : (Str.ofString "receipt" = Str.ofString "ask") = False := by simp; decide +kernel
@[simp] theorem sl_receipt_where : (Str.ofString "receipt" = Str.ofString "where") = False := by simp; decide +kernel
@[simp] theorem sl_receipt_answer : (Str.ofString "receipt" = Str.ofString "answer") = False := by simp; decide +kernel
@[simp] theorem sl_receipt_elsewhere : (Str.ofString "receipt" = Str.ofString "elsewhere") = False := by simp; decide +kernel
@[simp] theorem sl_receipt_there : (Str.ofString "receipt" = Str.ofString "there") = False := by simp; decide +kernel
@[simp] theorem sl_receipt_move : (Str.ofString "receipt" = Str.ofString "move") = False := by simp; decide +kernel
@[simp] theorem sl_receipt_split : (Str.ofString "receipt" = Str.ofString "split") = False := by simp; decide +kernel
@[simp] theorem sl_receipt_join : (Str.ofString "receipt" = Str.ofString "join") = False := by simp; decide +kernel
@[simp] theorem sl_receipt_have : (Str.ofString "receipt" = Str.ofString "have") = False := by simp; decide +kernel
@[simp] theorem sl_receipt_content : (Str.ofString "receipt" = Str.ofString "content") = False := by simp; decide +kernel
@[simp] theorem sl_receipt_client : (Str.ofString "receipt" = Str.ofString "client") = False := by simp; decide +kernel
@[simp] theorem sl_receipt_server : (Str.ofString "receipt" = Str.ofString "server") = False := by simp; decide +kernel
@[simp] theorem sl_receipt_directory : (Str.ofString "receipt" = Str.ofString "directory") = False := by simp; decide +kernel
@[simp] theorem sl_client_ask : (Str.ofString "client" = Str.ofString "ask") = False := by simp; decide +kernel
@[simp] theorem sl_client_where : (Str.ofString "client" = Str.ofString "where") = False := by simp; decide +kernel
@[simp] theorem sl_client_answer : (Str.ofString "client" = Str.ofString "answer") = False := by simp; decide +kernel
@[simp] theorem sl_client_elsewhere : (Str.ofString "client" = Str.ofString "elsewhere") = False := by simp; decide +kernel
@[simp] theorem sl_client_there : (Str.ofString "client" = Str.ofString "there") = False := by simp; decide +kernel
@[simp] theorem sl_client_move : (Str.ofString "client" = Str.ofString "move") = False := by simp; decide +kernel
@[simp] theorem sl_client_split : (Str.ofString "client" = Str.ofString "split") = False := by simp; decide +kernel
@[simp] theorem sl_client_join : (Str.ofString "client" = Str.ofString "join") = False := by simp; decide +kernel
@[simp] theorem sl_client_have : (Str.ofString "client" = Str.ofString "have") = False := by simp; decide +kernel
@[simp] theorem sl_client_content : (Str.ofString "client" = Str.ofString "content") = False := by simp; decide +kernel
@[simp] theorem sl_client_receipt : (Str.ofString "client" = Str.ofString "receipt") = False := by simp; decide +kernel
@[simp] theorem sl_client_server : (Str.ofString "client" = Str.ofString "server") = False := by simp; decide +kernel
@[simp] theorem sl_client_directory : (Str.ofString "client" = Str.ofString "directory") = False := by simp; decide +kernel
@[simp] theorem sl_server_ask : (Str.ofString "server" = Str.ofString "ask") = False := by simp; decide +kernel
@[simp] theorem sl_server_where : (Str.ofString "server" = Str.ofString "where") = False := by simp; decide +kernel
@[simp] theorem sl_server_answer : (Str.ofString "server" = Str.ofString "answer") = False := by simp; decide +kernel
@[simp] theorem sl_server_elsewhere : (Str.ofString "server" = Str.ofString "elsewhere") = False := by simp; decide +kernel
@[simp] theorem sl_server_there : (Str.ofString "server" = Str.ofString "there") = False := by simp; decide +kernel
@[simp] theorem sl_server_move : (Str.ofString "server" = Str.ofString "move") = False := by simp; decide +kernel
@[simp] theorem sl_server_split : (Str.ofString "server" = Str.ofString "split") = False := by simp; decide +kernel
@[simp] theorem sl_server_join : (Str.ofString "server" = Str.ofString "join") = False := by simp; decide +kernel
@[simp] theorem sl_server_have : (Str.ofString "server" = Str.ofString "have") = False := by simp; decide +kernel
@[simp] theorem sl_server_content : (Str.ofString "server" = Str.ofString "content") = False := by simp; decide +kernel
@[simp] theorem sl_server_receipt : (Str.ofString "server" = Str.ofString "receipt") = False := by simp; decide +kernel
@[simp] theorem sl_server_client : (Str.ofString "server" = Str.ofString "client") = False := by simp; decide +kernel
@[simp] theorem sl_server_directory : (Str.ofString "server" = Str.ofString "directory") = False := by simp; decide +kernel
@[simp] theorem sl_directory_ask : (Str.ofString "directory" = Str.ofString "ask") = False := by simp; decide +kernel
@[simp] theorem sl_directory_where : (Str.ofString "directory" = Str.ofString "where") = False := by simp; decide +kernel
@[simp] theorem sl_directory_answer : (Str.ofString "directory" = Str.ofString "answer") = False := by simp; decide +kernel
@[simp] theorem sl_directory_elsewhere : (Str.ofString "directory" = Str.ofString "elsewhere") = False := by simp; decide +kernel
@[simp] theorem sl_directory_there : (Str.ofString "directory" = Str.ofString "there") = False := by simp; decide +kernel
@[simp] theorem sl_directory_move : (Str.ofString "directory" = Str.ofString "move") = False := by simp; decide +kernel
@[simp] theorem sl_directory_split : (Str.ofString "directory" = Str.ofString "split") = False := by simp; decide +kernel
@[simp] theorem sl_directory_join : (Str.ofString "directory" = Str.ofString "join") = False := by simp; decide +kernel
@[simp] theorem sl_directory_have : (Str.ofString "directory" = Str.ofString "have") = False := by simp; decide +kernel
@[simp] theorem sl_directory_content : (Str.ofString "directory" = Str.ofString "content") = False := by simp; decide +kernel
@[simp] theorem sl_directory_receipt : (Str.ofString "directory" = Str.ofString "receipt") = False := by simp; decide +kernel
@[simp] theorem sl_directory_client : (Str.ofString "directory" = Str.ofString "client") = False := by simp; decide +kernel
@[simp] theorem sl_directory_server : (Str.ofString "directory" = Str.ofString "server") = False := by simp; decide +kernel
def isCnt (d : D) : Bool := isI d 1 1000000000000
def ltD (a b : D) : Bool := match a, b with
  | .str a, .str b => ltS a b
  | _, _ => false
def rng (a b : D) : Bool := isB a && (isNon b || (isK b && ltD a b))
def cont (lo hi b : D) : Bool := match lo, b with
  | .str l, .str z => !ltS z l && blw b hi
  | _, _ => false
def keyI (d : D) : Int := match d with
  | .tup (.int k :: _) => k
  | _ => 0
theorem LL_in (n : Nat) (r : Int) : (wordF LL n "" r).cps.toList.all inL = true := by
  rw [List.all_eq_true]
  intro c hc
  exact decide_eq_true (wordF_in LL (by rw [LL_len]; decide) n "" r (by intro c h; rw [emp_cps] at h; exact absurd h (by simp)) c hc)
theorem LL_isB (n : Nat) (r : Int) (h : n ≤ 8) : isB (.str (wordF LL n "" r)) = true := by
  show (decide (_) && _) = true
  rw [LL_in, wordF_len0]; simp [h]
theorem LL_isK (n : Nat) (r : Int) (h : n ≤ 8) (h0 : 1 ≤ n) : isK (.str (wordF LL n "" r)) = true := by
  unfold isK
  have ne : wordF LL n "" r ≠ Str.ofString "" := fun z => by
    have := wordF_len0 LL n r
    rw [z] at this
    have e : (Str.ofString "").length = 0 := rfl
    omega
  simp [LL_isB n r h, ne]
theorem at_mod {α : Type} (xs : List α) (r : Int) (n : Int) (hn : (xs.length : Int) = n) (h0 : 0 < n) : ∃ x ∈ xs, atI xs (r % n) = some x :=
  atI_in (Int.emod_nonneg _ (by omega)) (by rw [hn]; exact Int.emod_lt_of_pos _ h0)
theorem lkey_ok (r : Int) : ∃ z : Str, isK (.str z) = true ∧ ∀ S, V__law_key [.int r] S = .ok (.str z) S := by
  by_cases q : r % 4 < 3
  · obtain ⟨x, hx, e⟩ := at_mod [D.str "a", .str "b", .str "c", .str "d", .str "k", .str "m", .str "kk", .str "z"] (r / 4) 8 rfl (by decide)
    have : ∃ z, x = .str z ∧ isK (.str z) = true := by
      simp only [List.mem_cons, List.not_mem_nil, or_false] at hx
      rcases hx with rfl | rfl | rfl | rfl | rfl | rfl | rfl | rfl <;> exact ⟨_, rfl, by decide +kernel⟩
    obtain ⟨z, rfl, hz⟩ := this
    exact ⟨z, hz, fun S => by simp (config := { implicitDefEqProofs := false }) [V__law_key, m__law_key, q, e]⟩
  · have w := fun S => word_eq S LL (by rw [LL_len]; decide) (by rw [LL_len]; decide) (1 + r / 4 % 8) (by omega) (by omega) (r / 32)
    have aL : Str.ofString "abcdefghijklmnopqrstuvwxyz" = LL := rfl
    exact ⟨_, LL_isK (1 + r / 4 % 8).toNat (r / 32) (by omega) (by omega), fun S => by
      simp (config := { implicitDefEqProofs := false }) [V__law_key, m__law_key, q, aL, w S]⟩
def VV : Str := " !\"#$&'()*+,-./0123456789:;<=>?@ABCDEFGHIJKLMNOPQRSTUVWXYZ[\\]^_`abcdefghijklmnopqrstuvwxyz{|}~"
theorem VV_len : VV.length = 94 := by decide +kernel
theorem VV_in : ∀ c ∈ VV.cps.toList, prC c = true := by decide +kernel
theorem lval_ok (r : Int) : ∃ z : Str, isV (.str z) = true ∧ ∀ S, V__law_value [.int r] S = .ok (.str z) S := by
  by_cases q : r % 4 < 3
  · obtain ⟨x, hx, e⟩ := at_mod [D.str "x", .str "y", .str ""] (r / 4) 3 rfl (by decide)
    have : ∃ z, x = .str z ∧ isV (.str z) = true := by
      simp only [List.mem_cons, List.not_mem_nil, or_false] at hx
      rcases hx with rfl | rfl | rfl <;> exact ⟨_, rfl, by decide +kernel⟩
    obtain ⟨z, rfl, hz⟩ := this
    exact ⟨z, hz, fun S => by simp (config := { implicitDefEqProofs := false }) [V__law_value, m__law_value, q, e]⟩
  · have hL := VV_len
    have hI := VV_in
    have w := fun S => word_eq S VV (by rw [hL]; decide) (by rw [hL]; decide) (r / 4 % 41) (by omega) (by omega) (r / 164)
    have a : isV (.str (wordF VV (r / 4 % 41).toNat "" (r / 164))) = true := by
      unfold isV isPr
      have h1 : (wordF VV (r / 4 % 41).toNat "" (r / 164)).cps.toList.all prC = true := by
        rw [List.all_eq_true]
        intro c hc
        exact hI c (wordF_in _ (by rw [hL]; decide) _ "" _ (by intro c h; rw [emp_cps] at h; exact absurd h (by simp)) c hc)
      dsimp only
      rw [h1, wordF_len0, Bool.true_and]
      exact decide_eq_true (by omega)
    have aV : Str.ofString " !\"#$&'()*+,-./0123456789:;<=>?@ABCDEFGHIJKLMNOPQRSTUVWXYZ[\\]^_`abcdefghijklmnopqrstuvwxyz{|}~" = VV := rfl
    exact ⟨_, a, fun S => by
      simp (config := { implicitDefEqProofs := false }) [V__law_value, m__law_value, q, aV, w S]⟩
theorem lbound_ok (r : Int) : ∃ z : Str, isB (.str z) = true ∧ ∀ S, V__law_bound [.int r] S = .ok (.str z) S := by
  by_cases q : r % 6 = 5
  · exact ⟨"", by decide +kernel, fun S => by simp (config := { implicitDefEqProofs := false }) [V__law_bound, m__law_bound, q]⟩
  · obtain ⟨z, hz, e⟩ := lkey_ok (r / 6)
    exact ⟨z, isK_isB hz, fun S => by simp (config := { implicitDefEqProofs := false }) [V__law_bound, m__law_bound, q, e]⟩
theorem m6 (r : Int) : r % 6 = 0 ∨ r % 6 = 1 ∨ r % 6 = 2 ∨ r % 6 = 3 ∨ r % 6 = 4 ∨ r % 6 = 5 := by omega
theorem sm_bnd {z : Str} (h : isB (.str z) = true) (n : Nat) : z.length ≤ 1000000 := by
  obtain ⟨y, e, h⟩ := isB_str h; cases e; omega
end L_k64
namespace L_k64
open PySem PySem.Spec PyProof.Rows L2 BS
theorem txI_len {i : Int} (h : i.natAbs < 10 ^ 30) : (txI i).length ≤ 31 := by
  by_cases h0 : 0 ≤ i
  · obtain ⟨n, rfl⟩ := Int.eq_ofNat_of_zero_le h0
    have := TL.numL_len (k := 30) (by decide) (by simpa using h : n < 10 ^ 30)
    rw [txI_nat]; omega
  · obtain ⟨n, rfl⟩ : ∃ n : Nat, i = -(n : Int) := ⟨i.natAbs, by omega⟩
    have := TL.numL_len (k := 30) (by decide) (by simpa using h : n < 10 ^ 30)
    rw [txI_neg n (by omega), List.length_cons]; omega
theorem sum_le_mul (b : Nat) : ∀ (l : List Nat), (∀ x ∈ l, x ≤ b) → l.sum ≤ l.length * b
  | [], _ => by simp
  | a :: r, h => by
    have h1 := h a (by simp)
    have h2 := sum_le_mul b r fun x hx => h x (by simp [hx])
    rw [List.sum_cons, List.length_cons, Nat.add_mul]; omega
def goodM (m : List (Str × D)) : Prop := (m.map (·.1)).Nodup ∧ ∀ p ∈ m, isK (.str p.1) = true ∧ ∃ v, p.2 = .str v ∧ isV (.str v) = true
theorem goodM.put {m : List (Str × D)} (h : goodM m) {z v : Str} (hz : isK (.str z) = true) (hv : isV (.str v) = true) : goodM (putM m z (.str v)) :=
  ⟨putM_nodup h.1 _ _, fun p hp => (putM_mem hp).elim (fun e => by subst e; exact ⟨hz, v, rfl, hv⟩) (h.2 p)⟩
theorem goodM.drop {m : List (Str × D)} (h : goodM m) (z : Str) : goodM (dropM m z) :=
  ⟨dropM_nodup h.1 _, fun p hp => h.2 p (dropM_mem hp).1⟩
def prsOf (m : List (Str × D)) : List D := (sortT (m.map (·.1))).map fun z => .tup [.str z, (getM m z).getD .non]
theorem goodM.at {m : List (Str × D)} (h : goodM m) {z : Str} (hz : z ∈ m.map (·.1)) : ∃ v, getM m z = some (.str v) ∧ isK (.str z) = true ∧ isV (.str v) = true := by
  obtain ⟨d, e⟩ := getM_some hz
  obtain ⟨h1, v, h2, h3⟩ := h.2 _ (getM_mem e)
  exact ⟨v, by rw [e, ← h2], h1, h3⟩
def Wz (n b : Nat) (d : D) : Prop := Pv n d ∧ (tx n d).length ≤ b
theorem Wz.mono {n m b c : Nat} {d : D} (h : Wz n b d) (hn : n ≤ m) (hb : b ≤ c) : Wz m c d := ⟨Pv_mono h.1 hn, by rw [tx_mono h.1 hn]; exact Nat.le_trans h.2 hb⟩
theorem wz_non {n b : Nat} (hb : 1 ≤ b) : Wz n b .non := ⟨by simp, by simp; exact hb⟩
theorem wz_int {i : Int} (h : i.natAbs < 10 ^ 30) {n b : Nat} (hb : 31 ≤ b) : Wz n b (.int i) := ⟨by rw [Pv_int]; exact h, by rw [tx_int]; exact Nat.le_trans (txI_len h) hb⟩
theorem wz_str {z : Str} (h : ∀ c ∈ chs z, prC c = true) {n b : Nat} (hb : 2 * z.length + 2 ≤ b) : Wz n b (.str z) := by
  refine ⟨by rw [Pv_str]; exact h, ?_⟩
  rw [tx_str]
  have := (dbl_len 39 (chs z)).2
  rw [chs_len] at this
  simp only [List.length_cons, List.length_append, List.length_nil]
  omega
theorem wz_tup {n b k c : Nat} {ds : List D} (h : ∀ d ∈ ds, Wz n b d) (hl : ds.length ≤ k) (hc : k * (b + 1) + 2 ≤ c) : Wz (n + 1) c (.tup ds) := by
  refine ⟨by rw [Pv_tup]; exact fun d hd => (h d hd).1, ?_⟩
  rw [tx_tup]
  simp only [List.length_cons, List.length_append, List.length_nil]
  by_cases e : ds = []
  · subst e; simp [TL.joinL]; omega
  · have j := joinL_sum (ds.map (tx n)) (by simpa using e)
    have s := sum_le_mul b ((ds.map (tx n)).map (·.length)) (by
      intro x hx
      simp only [List.map_map, List.mem_map] at hx
      obtain ⟨d, hd, rfl⟩ := hx
      exact (h d hd).2)
    rw [List.length_map, List.length_map] at s
    rw [List.length_map] at j
    have m := Nat.mul_le_mul_right (b + 1) hl
    rw [Nat.mul_add] at m hc
    rw [Nat.mul_add] at m
    omega
theorem inL_all : ∀ c ∈ LL.cps.toList, prC c = true := by decide +kernel
theorem prc_inL {c : Nat} (h : inL c = true) : prC c = true := inL_all c (by unfold inL at h; simpa using h)
theorem prB {z : Str} (h : isB (.str z) = true) : (∀ c ∈ chs z, prC c = true) ∧ z.length ≤ 8 := by
  have : (decide (z.length ≤ 8) && z.cps.toList.all inL) = true := h
  rw [Bool.and_eq_true, List.all_eq_true] at this
  exact ⟨fun c hc => prc_inL (this.2 c hc), by simpa using this.1⟩
theorem prV {z : Str} (h : isV (.str z) = true) : (∀ c ∈ chs z, prC c = true) ∧ z.length ≤ 40 := by
  have h := h
  unfold isV at h
  rw [Bool.and_eq_true, decide_eq_true_eq] at h
  have hp := h.1
  unfold isPr at hp
  rw [List.all_eq_true] at hp
  exact ⟨hp, by have := h.2; omega⟩
theorem wz_bnd {z : Str} (h : isB (.str z) = true) {n b : Nat} (hb : 18 ≤ b) : Wz n b (.str z) := wz_str (prB h).1 (by have := (prB h).2; omega)
theorem wz_key {z : Str} (h : isK (.str z) = true) {n b : Nat} (hb : 18 ≤ b) : Wz n b (.str z) := wz_bnd (isK_isB h) hb
theorem wz_val {z : Str} (h : isV (.str z) = true) {n b : Nat} (hb : 82 ≤ b) : Wz n b (.str z) := wz_str (prV h).1 (by have := (prV h).2; omega)
theorem prsOf_wz {m : List (Str × D)} (h : goodM m) {k : Nat} (hl : m.length ≤ k) {b : Nat} (hb : k * 169 + 2 ≤ b) : Wz 2 b (.tup (prsOf m)) := by
  refine wz_tup (n := 1) (b := 168) (k := k) (fun d hd => ?_) (by simp [prsOf, sortT_len, hl]) (by omega)
  obtain ⟨z, hz, rfl⟩ := List.mem_map.mp hd
  obtain ⟨v, e, hk, hv⟩ := h.at (sortT_mem.mp hz)
  rw [e]
  refine wz_tup (n := 0) (b := 82) (k := 2) (fun d hd => ?_) (by simp) (by omega)
  simp at hd
  rcases hd with rfl | rfl
  · exact wz_key hk (by omega)
  · exact wz_val hv (by omega)
theorem m7 {r : Int} : r % 4 = 0 ∨ r % 4 = 1 ∨ r % 4 = 2 ∨ r % 4 = 3 := by omega
theorem lans_ok (r : Int) (S : Store) : (V__law_answer [.int r] S).gives fun d S' => ∃ ds T, d = .tup ds ∧ Wz 3 1532 (.tup ds) ∧ 1 ≤ ds.length ∧ ds.length ≤ 3 ∧ S' = S ++ T := by
  obtain ⟨v, hv, ev⟩ := lval_ok (r / 6)
  have sv : Wz 2 170 (.str v) := wz_val hv (by omega)
  have kl : ∀ s ∈ ["value", "none", "done", "other", "page", "zzzzzzzz"], (∀ c ∈ chs (Str.ofString s), prC c = true) ∧ (Str.ofString s).length ≤ 8 := by decide +kernel
  have g1 : Wz 2 18 (.str "value") := wz_str (kl "value" (by simp)).1 (by have := (kl "value" (by simp)).2; omega); have g2 : Wz 2 18 (.str "none") := wz_str (kl "none" (by simp)).1 (by have := (kl "none" (by simp)).2; omega); have g3 : Wz 2 18 (.str "done") := wz_str (kl "done" (by simp)).1 (by have := (kl "done" (by simp)).2; omega); have g4 : Wz 2 18 (.str "other") := wz_str (kl "other" (by simp)).1 (by have := (kl "other" (by simp)).2; omega); have g5 : Wz 2 18 (.str "page") := wz_str (kl "page" (by simp)).1 (by have := (kl "page" (by simp)).2; omega); have g6 : Wz 2 18 (.str "zzzzzzzz") := wz_str (kl "zzzzzzzz" (by simp)).1 (by have := (kl "zzzzzzzz" (by simp)).2; omega)
  have page : r % 6 = 4 ∨ r % 6 = 5 → (V__law_answer [.int r] S).gives fun d S' => ∃ ds T, d = .tup ds ∧ Wz 3 1532 (.tup ds) ∧ 1 ≤ ds.length ∧ ds.length ≤ 3 ∧ S' = S ++ T := by
    intro h
    refine den_gives ?_
    have e0 : fIx S (.lst [.str "value", .str "none", .str "done", .str "other", .str "page", .str "page"]) (.int (r % 6)) = some (.str "page") := by
      rcases h with h | h <;> rw [h] <;> simp
    obtain ⟨n, hn, hn3⟩ : ∃ n : Nat, r / 6 % 4 = n ∧ n ≤ 3 := ⟨(r / 6 % 4).toNat, by omega, by omega⟩
    have it := iRng1 (as := mCons (mBin fMod (mVar 2) (mC (.int 4))) mNil) (e := ⟨[some (.int r), some (.str "page"), some (.int (r / 6)), some (.obj S.length), none, none, none], []⟩) (S := S ++ [.dct []]) (S' := S ++ [.dct []]) (j := n) (by simp (config := { implicitDefEqProofs := false }) [hn]) (rng_ok (by omega))
    rw [Int.toNat_natCast] at it
    show (m__law_answer ⟨[some (.int r), none, none, none, none, none, none], []⟩ S).ends _ _
    unfold m__law_answer
    simp (config := { implicitDefEqProofs := false }) [-mFor_ev, -fIx_lst, e0]
    rw [mFor_ev, it, R.toS_ok]
    refine ends_seq (forL_ends (fun k e S' => ∃ x4 m, e = ⟨[some (.int r), some (.str "page"), some (.int (r / 6)), some (.obj S.length), x4, none, none], []⟩ ∧ S' = S ++ [.dct (toS m)] ∧ goodM m ∧ m.length ≤ k) ⟨none, [], rfl, rfl, ⟨.nil, by simp⟩, Nat.le_refl _⟩ (fun _ _ _ _ => True.intro) ?_ ?_)
    · rintro k d e S' hd ⟨x4, m, rfl, rfl, hm, hl⟩
      obtain ⟨hk, rfl⟩ := ints_at hd
      rw [Int.zero_add]
      obtain ⟨z, hz, ez⟩ := lkey_ok (r / 6 / 4 + 137 * k)
      obtain ⟨w, hw, ew⟩ := lval_ok (r / 6 / 300 + k)
      have hs : m.length < sizeLine := by have := sz; omega
      simp (config := { implicitDefEqProofs := false }) [lb__law_answer_0, ez, ew, hs]
      exact ⟨_, rfl, hm.put hz hw, Nat.le_trans (putM_len _ _ _) (by omega)⟩
    · rintro e S' ⟨x4, m, rfl, rfl, hm, hl⟩
      rw [intsFrom_len] at hl
      have fin : ∀ (m : List (Str × D)) (x4 x5 : Option D) (nx : D), goodM m → m.length ≤ 3 → (nx = .non ∨ nx = .str "zzzzzzzz") →
          RS.ends (mRet (mTup (mCons (mVar 1) (mCons (mCall fnTuple (mCons (mLc [6] (LT.one 6) (iAny (mCall (fnSorted false) (mCons (mVar 3) mNil))) mYes (mTup (mCons (mVar 6) (mCons (mIx (mVar 3) (mVar 6)) mNil)))) mNil)) (mCons (mVar 5) mNil)))) ⟨[some (.int r), some (.str "page"), some (.int (r / 6)), some (.obj S.length), x4, some nx, none], []⟩ (S ++ [.dct (toS m)]))
            (fun _ S' => ∃ ds T, D.non = .tup ds ∧ Wz 3 1532 (.tup ds) ∧ 1 ≤ ds.length ∧ ds.length ≤ 3 ∧ S' = S ++ T) (fun d S' => ∃ ds T, d = .tup ds ∧ Wz 3 1532 (.tup ds) ∧ 1 ≤ ds.length ∧ ds.length ≤ 3 ∧ S' = S ++ T) := by
        intro m x4 x5 nx hm hl hnx
        have so := sorted_toS false (S ++ [.dct (toS m)]) S.length m (by simp) (by omega)
        have lc := lcL_map (G := fun _ => True) (i := 6) (e0 := ⟨[some (.int r), some (.str "page"), some (.int (r / 6)), some (.obj S.length), x4, some nx, none], []⟩) (el := mTup (mCons (mVar 6) (mCons (mIx (mVar 3) (mVar 6)) mNil))) (S ++ [.dct (toS m)]) (fun d => match d with
            | .str z => .tup [.str z, (getM m z).getD .non]
            | _ => .non) (ds := (sortT (m.map (·.1))).map .str) (fun _ => True.intro) (fun d hd acc => by
              obtain ⟨z, hz, rfl⟩ := List.mem_map.mp hd
              obtain ⟨v, e, hk, hv⟩ := hm.at (sortT_mem.mp hz)
              simp (config := { implicitDefEqProofs := false }) [e]) (by rw [List.length_map, sortT_len, List.length_map]; exact szL (by omega))
        have em : ((sortT (m.map (·.1))).map D.str).map (fun d => match d with
            | .str z => .tup [.str z, (getM m z).getD .non]
            | _ => .non) = prsOf m := by rw [List.map_map]; rfl
        rw [em] at lc
        have hp : Wz 2 509 (.tup (prsOf m)) := prsOf_wz hm hl (by omega)
        generalize prsOf m = ps at *
        simp (config := { implicitDefEqProofs := false }) at lc
        simp (config := { implicitDefEqProofs := false }) [-fnSorted_ev, so, lc]
        refine wz_tup (n := 2) (b := 509) (k := 3) (fun d hd => ?_) (by simp) (by omega)
        simp at hd
        rcases hd with rfl | rfl | rfl
        · exact g5.mono (by omega) (by omega)
        · exact hp
        · rcases hnx with rfl | rfl
          · exact wz_non (by omega)
          · exact g6.mono (by omega) (by omega)
      by_cases q : r / 6 / 7 % 3 = 0
      · cases hg : getM m (Str.ofString "zzzzzzzz") with
        | none =>
          have := fin m x4 none (.str "zzzzzzzz") hm (by omega) (.inr rfl)
          simp (config := { implicitDefEqProofs := false }) [q, popS, hg]
          simp (config := { implicitDefEqProofs := false }) at this
          exact this
        | some w =>
          have := fin (dropM m "zzzzzzzz") x4 none (.str "zzzzzzzz") (hm.drop _) (Nat.le_trans (dropM_len _ _) (by omega)) (.inr rfl)
          simp (config := { implicitDefEqProofs := false }) [q, popS, hg]
          simp (config := { implicitDefEqProofs := false }) at this
          exact this
      · have := fin m x4 none .non hm (by omega) (.inl rfl)
        simp (config := { implicitDefEqProofs := false }) [q]
        simp (config := { implicitDefEqProofs := false }) at this
        exact this
  rcases m6 r with h | h | h | h | h | h
  · exact gives_iff.mpr ⟨.tup [.str "value", .str v], S, by simp (config := { implicitDefEqProofs := false }) [V__law_answer, m__law_answer, h, ev], _, [], rfl, wz_tup (n := 2) (b := 170) (k := 2) (by simp; exact ⟨g1.mono (by omega) (by omega), sv⟩) (by simp) (by omega), by simp, by simp, by simp⟩
  · exact gives_iff.mpr ⟨.tup [.str "none"], S, by simp (config := { implicitDefEqProofs := false }) [V__law_answer, m__law_answer, h], _, [], rfl, wz_tup (n := 2) (b := 170) (k := 2) (by simp; exact g2.mono (by omega) (by omega)) (by simp) (by omega), by simp, by simp, by simp⟩
  · exact gives_iff.mpr ⟨.tup [.str "done"], S, by simp (config := { implicitDefEqProofs := false }) [V__law_answer, m__law_answer, h], _, [], rfl, wz_tup (n := 2) (b := 170) (k := 2) (by simp; exact g3.mono (by omega) (by omega)) (by simp) (by omega), by simp, by simp, by simp⟩
  · exact gives_iff.mpr ⟨.tup [.str "other", .str v], S, by simp (config := { implicitDefEqProofs := false }) [V__law_answer, m__law_answer, h, ev], _, [], rfl, wz_tup (n := 2) (b := 170) (k := 2) (by simp; exact ⟨g4.mono (by omega) (by omega), sv⟩) (by simp) (by omega), by simp, by simp, by simp⟩
  · exact page (.inl h)
  · exact page (.inr h)
theorem isB_isK {z : Str} (h : isB (.str z) = true) (n : z ≠ Str.ofString "") : isK (.str z) = true := by
  simp [isK, h, n]
theorem lrange_ok (r : Int) : ∃ lo hi, isB (.str lo) = true ∧ rng (.str lo) hi = true ∧ (hi = .non ∨ ∃ h, hi = .str h ∧ isK (.str h) = true) ∧ ∀ S, V__law_range [.int r] S = .ok (.tup [.str lo, hi]) S := by
  obtain ⟨a, ha, ea⟩ := lbound_ok r
  obtain ⟨b, hb, eb⟩ := lbound_ok (r / 1000)
  by_cases q : a = b
  · subst q
    exact ⟨a, .non, ha, by simp [rng, ha], .inl rfl, fun S => by simp (config := { implicitDefEqProofs := false }) [V__law_range, m__law_range, ea, eb]⟩
  · by_cases q2 : r / 7 % 5 = 0
    · exact ⟨a, .non, ha, by simp [rng, ha], .inl rfl, fun S => by simp (config := { implicitDefEqProofs := false }) [V__law_range, m__law_range, ea, eb, q, q2]⟩
    · rcases ltS_tri a b with h | h | h
      · have hk : isK (.str b) = true := isB_isK hb fun e => by
          subst e
          have : ltS a "" = false := by
            by_cases z : a = Str.ofString ""
            · exact absurd z q
            · exact ltS_asymm (ltS_emp z)
          rw [this] at h; cases h
        have h' := ltS_asymm h
        exact ⟨a, .str b, ha, by simp [rng, ha, hk, ltD, h], .inr ⟨b, rfl, hk⟩, fun S => by simp (config := { implicitDefEqProofs := false }) [V__law_range, m__law_range, ea, eb, q, q2, h, h']⟩
      · exact absurd h q
      · have hk : isK (.str a) = true := isB_isK ha fun e => by
          subst e
          have : ltS b "" = false := by
            by_cases z : b = Str.ofString ""
            · exact absurd z.symm q
            · exact ltS_asymm (ltS_emp z)
          rw [this] at h; cases h
        have h' := ltS_asymm h
        exact ⟨b, .str a, hb, by simp [rng, hb, hk, ltD, h], .inr ⟨a, rfl, hk⟩, fun S => by simp (config := { implicitDefEqProofs := false }) [V__law_range, m__law_range, ea, eb, q, q2, h, h']⟩
theorem lpairs_ok (lo hi : D) (r : Int) (hlo : ∃ l, lo = .str l) (hhi : hi = .non ∨ ∃ h, hi = .str h) (S : Store) : (V__law_pairs [lo, hi, .int r] S).gives fun d S' => ∃ m T, d = .tup (prsOf m) ∧ goodM m ∧ m.length ≤ 5 ∧ (∀ z ∈ m.map (·.1), (∀ l, lo = .str l → ltS z l = false) ∧ blw (.str z) hi = true) ∧ S' = S ++ T := by
  obtain ⟨l, rfl⟩ := hlo
  refine den_gives ?_
  obtain ⟨n, hn, hn5⟩ : ∃ n : Nat, r % 6 = n ∧ n ≤ 5 := ⟨(r % 6).toNat, by omega, by omega⟩
  have it := iRng1 (as := mCons (mBin fMod (mVar 2) (mC (.int 6))) mNil) (e := ⟨[some (.str l), some hi, some (.int r), some (.obj S.length), none, none], []⟩) (S := S ++ [.dct []]) (S' := S ++ [.dct []]) (j := n) (by simp (config := { implicitDefEqProofs := false }) [hn]) (rng_ok (by omega))
  rw [Int.toNat_natCast] at it
  show (m__law_pairs ⟨[some (.str l), some hi, some (.int r), none, none, none], []⟩ S).ends _ _
  unfold m__law_pairs
  simp (config := { implicitDefEqProofs := false }) [-mFor_ev]
  rw [mFor_ev, it, R.toS_ok]
  refine ends_seq (forL_ends (fun k e S' => ∃ x4 x5 m, e = ⟨[some (.str l), some hi, some (.int r), some (.obj S.length), x4, x5], []⟩ ∧ S' = S ++ [.dct (toS m)] ∧ goodM m ∧ m.length ≤ k ∧ ∀ z ∈ m.map (·.1), ltS z l = false ∧ blw (.str z) hi = true) ⟨none, none, [], rfl, rfl, ⟨.nil, by simp⟩, Nat.le_refl _, by simp⟩ (fun _ _ _ _ => True.intro) ?_ ?_)
  · rintro k d e S' hd ⟨x4, x5, m, rfl, rfl, hm, hl, hz⟩
    obtain ⟨hk, rfl⟩ := ints_at hd
    rw [Int.zero_add]
    obtain ⟨z, hzk, ez⟩ := lkey_ok (r / 6 + 211 * k)
    obtain ⟨w, hw, ew⟩ := lval_ok (r / 1000 + k)
    have hs : m.length < sizeLine := by have := sz; omega
    have put : ltS z l = false → blw (.str z) hi = true → ∀ y ∈ (putM m z (.str w)).map (·.1), ltS y l = false ∧ blw (.str y) hi = true := fun h1 h2 y hy => by
      rw [putM_keys] at hy
      split at hy
      · exact hz y hy
      · rcases List.mem_append.mp hy with hy | hy
        · exact hz y hy
        · rw [List.mem_singleton.mp hy]; exact ⟨h1, h2⟩
    cases q1 : ltS z l with
    | true =>
      simp (config := { implicitDefEqProofs := false }) [lb__law_pairs_0, ez, q1]
      exact ⟨_, rfl, hm, by omega, fun y v hy => by simpa using hz y (List.mem_map.mpr ⟨_, hy, rfl⟩)⟩
    | false =>
      rcases hhi with rfl | ⟨h, rfl⟩
      · simp (config := { implicitDefEqProofs := false }) [lb__law_pairs_0, ez, ew, q1, hs]
        exact ⟨_, rfl, hm.put hzk hw, Nat.le_trans (putM_len _ _ _) (by omega), fun y v hy => by simpa using put q1 rfl y (List.mem_map.mpr ⟨_, hy, rfl⟩)⟩
      · cases q2 : ltS z h with
        | true =>
          simp (config := { implicitDefEqProofs := false }) [lb__law_pairs_0, ez, ew, q1, q2, hs]
          exact ⟨_, rfl, hm.put hzk hw, Nat.le_trans (putM_len _ _ _) (by omega), fun y v hy => by simpa using put q1 q2 y (List.mem_map.mpr ⟨_, hy, rfl⟩)⟩
        | false =>
          simp (config := { implicitDefEqProofs := false }) [lb__law_pairs_0, ez, ew, q1, q2, hs]
          exact ⟨_, rfl, hm, by omega, fun y v hy => by simpa using hz y (List.mem_map.mpr ⟨_, hy, rfl⟩)⟩
  · rintro e S' ⟨x4, x5, m, rfl, rfl, hm, hl, hz⟩
    rw [intsFrom_len] at hl
    have so := sorted_toS false (S ++ [.dct (toS m)]) S.length m (by simp) (by omega)
    have lc := lcL_map (G := fun _ => True) (i := 5) (e0 := ⟨[some (.str l), some hi, some (.int r), some (.obj S.length), x4, none], []⟩) (el := mTup (mCons (mVar 5) (mCons (mIx (mVar 3) (mVar 5)) mNil))) (S ++ [.dct (toS m)]) (fun d => match d with
        | .str z => .tup [.str z, (getM m z).getD .non]
        | _ => .non) (ds := (sortT (m.map (·.1))).map .str) (fun _ => True.intro) (fun d hd acc => by
          obtain ⟨z, hz, rfl⟩ := List.mem_map.mp hd
          obtain ⟨v, e, hk, hv⟩ := hm.at (sortT_mem.mp hz)
          simp (config := { implicitDefEqProofs := false }) [e]) (by rw [List.length_map, sortT_len, List.length_map]; exact szL (by omega))
    have em : ((sortT (m.map (·.1))).map D.str).map (fun d => match d with
        | .str z => .tup [.str z, (getM m z).getD .non]
        | _ => .non) = prsOf m := by rw [List.map_map]; rfl
    rw [em] at lc
    simp (config := { implicitDefEqProofs := false }) at lc
    simp (config := { implicitDefEqProofs := false }) [-fnSorted_ev, so, lc]
    exact ⟨m, rfl, hm, by omega, fun z v h => by
      have := hz z (List.mem_map.mpr ⟨_, h, rfl⟩)
      exact ⟨this.1, this.2⟩⟩
/-- rows -/
def goodR (m : List (Int × D)) : Prop := (m.map (·.1)).Nodup ∧ ∀ p ∈ m, -100 ≤ p.1 ∧ p.1 ≤ -1 ∧ ∃ n a, p.2 = .tup [.int n, a] ∧ 1 ≤ n ∧ n ≤ 20 ∧ Wz 3 1532 a
def rwsOf (m : List (Int × D)) : List D := (sortI (m.map (·.1))).map fun c => match getM m c with
  | some (.tup [n, a]) => .tup [.int c, n, a]
  | _ => .non
theorem sortI_mem {zs : List Int} {z : Int} : z ∈ sortI zs ↔ z ∈ zs := (List.mergeSort_perm _ _).mem_iff
theorem sortI_len (zs : List Int) : (sortI zs).length = zs.length := (List.mergeSort_perm _ _).length_eq
theorem goodR.at {m : List (Int × D)} (h : goodR m) {z : Int} (hz : z ∈ m.map (·.1)) : ∃ n a, getM m z = some (.tup [.int n, a]) ∧ 1 ≤ n ∧ n ≤ 20 ∧ Wz 3 1532 a ∧ -100 ≤ z ∧ z ≤ -1 := by
  obtain ⟨d, e⟩ := getM_some hz
  obtain ⟨h1, h2, n, a, h3, h4, h5, h6⟩ := h.2 _ (getM_mem e)
  exact ⟨n, a, by rw [e, ← h3], h4, h5, h6, h1, h2⟩
theorem goodR.put {m : List (Int × D)} (h : goodR m) {z n : Int} {a : D} (h1 : -100 ≤ z) (h2 : z ≤ -1) (h3 : 1 ≤ n) (h4 : n ≤ 20) (h5 : Wz 3 1532 a) : goodR (putM m z (.tup [.int n, a])) :=
  ⟨putM_nodup h.1 _ _, fun p hp => (putM_mem hp).elim (fun e => by subst e; exact ⟨h1, h2, n, a, rfl, h3, h4, h5⟩) (h.2 p)⟩
theorem rwsOf_wz {m : List (Int × D)} (h : goodR m) (hl : m.length ≤ 3) : Wz 5 13808 (.tup (rwsOf m)) := by
  refine wz_tup (n := 4) (b := 4601) (k := 3) (fun d hd => ?_) (by simp [rwsOf, sortI_len, hl]) (by omega)
  obtain ⟨z, hz, rfl⟩ := List.mem_map.mp hd
  obtain ⟨n, a, e, h1, h2, ha, h3, h4⟩ := h.at (sortI_mem.mp hz)
  rw [e]
  refine wz_tup (n := 3) (b := 1532) (k := 3) (fun d hd => ?_) (by simp) (by omega)
  simp at hd
  rcases hd with rfl | rfl | rfl
  · exact wz_int (by omega) (by omega)
  · exact wz_int (by omega) (by omega)
  · exact ha
theorem lrows_ok (r : Int) (S : Store) : (V__law_rows [.int r] S).gives fun d S' => ∃ m T, d = .tup (rwsOf m) ∧ goodR m ∧ m.length ≤ 3 ∧ S' = S ++ T := by
  refine den_gives ?_
  obtain ⟨n, hn, hn5⟩ : ∃ n : Nat, r % 4 = n ∧ n ≤ 3 := ⟨(r % 4).toNat, by omega, by omega⟩
  have it := iRng1 (as := mCons (mBin fMod (mVar 0) (mC (.int 4))) mNil) (e := ⟨[some (.int r), some (.obj S.length), none, none, none], []⟩) (S := S ++ [.dct []]) (S' := S ++ [.dct []]) (j := n) (by simp (config := { implicitDefEqProofs := false }) [hn]) (rng_ok (by omega))
  rw [Int.toNat_natCast] at it
  show (m__law_rows ⟨[some (.int r), none, none, none, none], []⟩ S).ends _ _
  unfold m__law_rows
  simp (config := { implicitDefEqProofs := false }) [-mFor_ev]
  rw [mFor_ev, it, R.toS_ok]
  refine ends_seq (forL_ends (fun k e S' => ∃ x2 x3 m R, e = ⟨[some (.int r), some (.obj S.length), x2, x3, none], []⟩ ∧ S' = S ++ .dct (toI m) :: R ∧ goodR m ∧ m.length ≤ k) ⟨none, none, [], [], rfl, rfl, ⟨.nil, by simp⟩, Nat.le_refl _⟩ (fun _ _ _ _ => True.intro) ?_ ?_)
  · rintro k d e S' hd ⟨x2, x3, m, R, rfl, rfl, hm, hl⟩
    obtain ⟨hk, rfl⟩ := ints_at hd
    rw [Int.zero_add]
    obtain ⟨_, S1, ea, as, T, rfl, sa, _, _, rfl⟩ := gives_iff.mp (lans_ok ((r / 4 + 1009 * k) / 2000) (S ++ .dct (toI m) :: R))
    have hs : m.length < sizeLine := by have := sz; omega
    simp (config := { implicitDefEqProofs := false }) at ea
    simp (config := { implicitDefEqProofs := false }) [lb__law_rows_0, ea, hs]
    exact ⟨_, rfl, hm.put (by omega) (by omega) (by omega) (by omega) sa, Nat.le_trans (putM_len _ _ _) (by omega)⟩
  · rintro e S' ⟨x2, x3, m, R, rfl, rfl, hm, hl⟩
    rw [intsFrom_len] at hl
    have so := sorted_toI false (S ++ .dct (toI m) :: R) S.length m (by simp) (by omega)
    have lc := lcL_map (G := fun _ => True) (i := 4) (e0 := ⟨[some (.int r), some (.obj S.length), x2, x3, none], []⟩) (el := mTup (mCons (mVar 4) (mCons (mIx (mIx (mVar 1) (mVar 4)) (mC (.int 0))) (mCons (mIx (mIx (mVar 1) (mVar 4)) (mC (.int 1))) mNil)))) (S ++ .dct (toI m) :: R) (fun d => match d with
        | .int c => (match getM m c with
          | some (.tup [n, a]) => .tup [.int c, n, a]
          | _ => .non)
        | _ => .non) (ds := (sortI (m.map (·.1))).map .int) (fun _ => True.intro) (fun d hd acc => by
          obtain ⟨z, hz, rfl⟩ := List.mem_map.mp hd
          obtain ⟨n, a, e, _⟩ := hm.at (sortI_mem.mp hz)
          simp (config := { implicitDefEqProofs := false }) [e]) (by rw [List.length_map, sortI_len, List.length_map]; exact szL (by omega))
    have em : ((sortI (m.map (·.1))).map D.int).map (fun d => match d with
        | .int c => (match getM m c with
          | some (.tup [n, a]) => .tup [.int c, n, a]
          | _ => .non)
        | _ => .non) = rwsOf m := by rw [List.map_map]; rfl
    rw [em] at lc
    generalize hrw : rwsOf m = rws at *
    simp (config := { implicitDefEqProofs := false }) at lc
    simp (config := { implicitDefEqProofs := false }) [-fnSorted_ev, so, lc]
    exact ⟨m, hrw.symm, hm, by omega⟩
end L_k64
namespace L_k64
open PySem PySem.Spec PyProof.Rows L2 BS
theorem lopw (r : Int) : ∃ ds, isOp (.tup ds) = true ∧ Wz 1 400 (.tup ds) ∧ 2 ≤ ds.length ∧ ds.length ≤ 4 ∧ ∀ S, V__law_operation [.int r] S = .ok (.tup ds) S := by
  obtain ⟨z, hz, ez⟩ := lkey_ok (r / 6)
  obtain ⟨b, hb, eb⟩ := lbound_ok (r / 6)
  obtain ⟨v, hv, ev⟩ := lval_ok (r / 6 / 500)
  obtain ⟨w, hw, ew⟩ := lval_ok (r / 6 / 7000)
  have sz : Wz 0 82 (.str z) := wz_key hz (by omega)
  have sb : Wz 0 82 (.str b) := wz_bnd hb (by omega)
  have sv : Wz 0 82 (.str v) := wz_val hv (by omega)
  have sw : Wz 0 82 (.str w) := wz_val hw (by omega)
  have kl : ∀ s ∈ ["get", "put", "drop", "swap", "page"], (∀ c ∈ chs (Str.ofString s), prC c = true) ∧ (Str.ofString s).length ≤ 10 := by decide +kernel
  have kw : ∀ s : String, ((∀ c ∈ chs (Str.ofString s), prC c = true) ∧ (Str.ofString s).length ≤ 10) → Wz 0 82 (.str s) := fun s h => wz_str h.1 (by have := h.2; omega)
  have g1 := kw _ (kl "get" (by simp)); have g2 := kw _ (kl "put" (by simp)); have g3 := kw _ (kl "drop" (by simp)); have g4 := kw _ (kl "swap" (by simp)); have g5 := kw _ (kl "page" (by simp))
  have tu : ∀ {ds : List D}, (∀ d ∈ ds, Wz 0 82 d) → ds.length ≤ 4 → Wz 1 400 (.tup ds) := fun h hl => wz_tup h hl (by omega)
  have put : ∀ S, r % 6 = 1 ∨ r % 6 = 5 → V__law_operation [.int r] S = .ok (.tup [.str "put", .str z, .str v]) S := fun S h => by
    rcases h with h | h <;> simp (config := { implicitDefEqProofs := false }) [V__law_operation, m__law_operation, h, ez, ev]
  rcases m6 r with h | h | h | h | h | h
  · exact ⟨[.str "get", .str z], by simp [isOp, hz], tu (by simp; exact ⟨g1, sz⟩) (by simp), by simp, by simp, fun S => by simp (config := { implicitDefEqProofs := false }) [V__law_operation, m__law_operation, h, ez]⟩
  · exact ⟨[.str "put", .str z, .str v], by simp [isOp, hz, hv], tu (by simp; exact ⟨g2, sz, sv⟩) (by simp), by simp, by simp, fun S => put S (.inl h)⟩
  · exact ⟨[.str "drop", .str z], by simp [isOp, hz], tu (by simp; exact ⟨g3, sz⟩) (by simp), by simp, by simp, fun S => by simp (config := { implicitDefEqProofs := false }) [V__law_operation, m__law_operation, h, ez]⟩
  · exact ⟨[.str "swap", .str z, .str v, .str w], by simp [isOp, hz, hv, hw], tu (by simp; exact ⟨g4, sz, sv, sw⟩) (by simp), by simp, by simp, fun S => by simp (config := { implicitDefEqProofs := false }) [V__law_operation, m__law_operation, h, ez, ev, ew]⟩
  · by_cases q : r / 6 / 1500 % 4 = 0
    · exact ⟨[.str "page", .str b, .int (1 + r / 6 / 6000 % 50)], by simp [isOp, hb, isI]; omega, tu (by simp; exact ⟨g5, sb, wz_int (by omega) (by omega)⟩) (by simp), by simp, by simp, fun S => by simp (config := { implicitDefEqProofs := false }) [V__law_operation, m__law_operation, h, eb, q]⟩
    · exact ⟨[.str "page", .str b, .int (1 + r / 6 / 500 % 3)], by simp [isOp, hb, isI]; omega, tu (by simp; exact ⟨g5, sb, wz_int (by omega) (by omega)⟩) (by simp), by simp, by simp, fun S => by simp (config := { implicitDefEqProofs := false }) [V__law_operation, m__law_operation, h, eb, q]⟩
  · exact ⟨[.str "put", .str z, .str v], by simp [isOp, hz, hv], tu (by simp; exact ⟨g2, sz, sv⟩) (by simp), by simp, by simp, fun S => put S (.inr h)⟩
def kindsL : List Str := ["ask", "where", "answer", "elsewhere", "there", "move", "split", "join", "have", "content", "receipt"]
theorem kl_all : ∀ s ∈ kindsL ++ [Str.ofString "zzzzzzzz", "", "m", "a"], (∀ c ∈ chs s, prC c = true) ∧ s.length ≤ 10 := by decide +kernel
theorem kl_wz {s : Str} (h : (∀ c ∈ chs s, prC c = true) ∧ s.length ≤ 10) : Wz 5 13808 (.str s) := wz_str h.1 (by have := h.2; omega)
theorem wzL {ds : List D} (h : ∀ d ∈ ds, Wz 5 13808 d) (hl : ds.length ≤ 6) : Wz 6 82856 (.tup ds) := wz_tup h hl (by omega)
theorem wzi {i : Int} (h : i.natAbs < 10 ^ 30 := by omega) : Wz 5 13808 (.int i) := wz_int h (by omega)
theorem m11 (r : Int) : r % 11 = 0 ∨ r % 11 = 1 ∨ r % 11 = 2 ∨ r % 11 = 3 ∨ r % 11 = 4 ∨ r % 11 = 5 ∨ r % 11 = 6 ∨ r % 11 = 7 ∨ r % 11 = 8 ∨ r % 11 = 9 ∨ r % 11 = 10 := by omega
theorem lletter_ok (r : Int) (S : Store) : (V__law_letter [.int r] S).gives fun d S' => ∃ k as T, k ∈ kindsL ∧ d = .tup (.str k :: as) ∧ Wz 6 82856 (.tup (.str k :: as)) ∧ 1 ≤ as.length ∧ as.length ≤ 5 ∧ S' = S ++ T := by
  have kl := kl_all
  simp only [kindsL, List.cons_append, List.nil_append, List.mem_cons, List.not_mem_nil, or_false, forall_eq_or_imp, forall_eq] at kl
  obtain ⟨g1, g2, g3, g4, g5, g6, g7, g8, g9, g10, g11, gz, ge, gm, ga⟩ := kl
  obtain ⟨b, hb, eb⟩ := lbound_ok (r / 11)
  obtain ⟨ops, _, sop, _, _, eop⟩ := lopw (r / 11 / 30)
  obtain ⟨lo, hi, hlo, hrng, hhi, erg⟩ := lrange_ok (r / 11 / 30)
  obtain ⟨b2, hb2, eb2⟩ := lbound_ok (r / 11 / 9000)
  have slo' := sm_bnd hlo 0
  have sb : Wz 5 13808 (.str b) := wz_bnd hb (by omega)
  have sb2 : Wz 5 13808 (.str b2) := wz_bnd hb2 (by omega)
  have slo : Wz 5 13808 (.str lo) := wz_bnd hlo (by omega)
  have shi : Wz 5 13808 hi := by
    rcases hhi with rfl | ⟨h, rfl, hk⟩
    · exact wz_non (by omega)
    · exact wz_key hk (by omega)
  have ga0 := ga
  have g1 := kl_wz g1; have g2 := kl_wz g2; have g3 := kl_wz g3; have g4 := kl_wz g4; have g5 := kl_wz g5; have g6 := kl_wz g6; have g7 := kl_wz g7; have g8 := kl_wz g8; have g9 := kl_wz g9; have g10 := kl_wz g10; have g11 := kl_wz g11; have gz := kl_wz gz; have ge := kl_wz ge; have gm := kl_wz gm; have ga := kl_wz ga
  unfold kindsL
  rcases m11 r with h | h | h | h | h | h | h | h | h | h | h
  · exact gives_iff.mpr ⟨_, S, by simp (config := { implicitDefEqProofs := false }) [V__law_letter, m__law_letter, h, eop]; rfl, _, [.int (1 + r / 11 % 30), .tup ops], [], by simp, rfl, wzL (by simp; exact ⟨g1, wzi, sop.mono (by omega) (by omega)⟩) (by simp), by simp, by simp, by simp⟩
  · exact gives_iff.mpr ⟨_, S, by simp (config := { implicitDefEqProofs := false }) [V__law_letter, m__law_letter, h, eb]; rfl, _, [.str b], [], by simp, rfl, wzL (by simp; exact ⟨g2, sb⟩) (by simp), by simp, by simp, by simp⟩
  · obtain ⟨_, S1, e, ds, T, rfl, sm, _, _, rfl⟩ := gives_iff.mp (lans_ok (r / 11 / 30) S)
    exact gives_iff.mpr ⟨_, S ++ T, by simp (config := { implicitDefEqProofs := false }) [V__law_letter, m__law_letter, h, e]; rfl, _, [.int (1 + r / 11 % 30), .tup ds], T, by simp, rfl, wzL (by simp; exact ⟨g3, wzi, sm.mono (by omega) (by omega)⟩) (by simp), by simp, by simp, by simp⟩
  · exact gives_iff.mpr ⟨_, S, by simp (config := { implicitDefEqProofs := false }) [V__law_letter, m__law_letter, h]; rfl, _, [.int (1 + r / 11 % 30)], [], by simp, rfl, wzL (by simp; exact ⟨g4, wzi⟩) (by simp), by simp, by simp, by simp⟩
  · exact gives_iff.mpr ⟨_, S, by simp (config := { implicitDefEqProofs := false }) [V__law_letter, m__law_letter, h, erg, gsCons, gsNil]; rfl, _, [.str lo, hi, .int (1 + r / 11 % 30), .int (r / 11 / 900 % 3)], [], by simp, rfl, wzL (by simp; exact ⟨g5, slo, shi, wzi, wzi⟩) (by simp), by simp, by simp, by simp⟩
  · exact gives_iff.mpr ⟨_, S, by simp (config := { implicitDefEqProofs := false }) [V__law_letter, m__law_letter, h, erg, gsCons, gsNil]; rfl, _, [.str lo, hi, .int (1 + r / 11 % 30), .int (r / 11 / 900 % 3)], [], by simp, rfl, wzL (by simp; exact ⟨g6, slo, shi, wzi, wzi⟩) (by simp), by simp, by simp, by simp⟩
  · have hl1 : lo.length ≤ sizeLine := szL slo'
    have ga1 : (Str.ofString "a").length = 1 := by decide +kernel
    by_cases q : (lo.length : Int) < 8
    · have hl2 : lo.length + 1 ≤ sizeLine := by have := sz; omega
      have hl3 : Wz 5 13808 (.str (lo ++ Str.ofString "a")) := wz_str (by
        intro c hc
        rw [chs_app] at hc
        rcases List.mem_append.mp hc with hc | hc
        · exact (prB hlo).1 c hc
        · exact ga0.1 c hc) (by rw [Str.length_append, ga1]; have := (prB hlo).2; omega)
      exact gives_iff.mpr ⟨_, S, by simp (config := { implicitDefEqProofs := false }) [V__law_letter, m__law_letter, h, erg, gsCons, gsNil, hl1, q, ga1, hl2]; rfl, _, [.str lo, hi, .int (1 + r / 11 % 30), .str (lo ++ Str.ofString "a")], [], by simp, rfl, wzL (by simp only [List.mem_cons, List.not_mem_nil, or_false, forall_eq_or_imp, forall_eq]; exact ⟨g7, slo, shi, wzi, hl3⟩) (by simp), by simp, by simp, by simp⟩
    · exact gives_iff.mpr ⟨_, S, by simp (config := { implicitDefEqProofs := false }) [V__law_letter, m__law_letter, h, erg, gsCons, gsNil, hl1, q]; rfl, _, [.str lo, hi, .int (1 + r / 11 % 30), .str "zzzzzzzz"], [], by simp, rfl, wzL (by simp; exact ⟨g7, slo, shi, wzi, gz⟩) (by simp), by simp, by simp, by simp⟩
  · rcases hhi with rfl | ⟨y, rfl, hk⟩
    · exact gives_iff.mpr ⟨_, S, by simp (config := { implicitDefEqProofs := false }) [V__law_letter, m__law_letter, h, erg, gsCons, gsNil]; rfl, _, [.str "", .str "m", .int (1 + r / 11 % 30), .non, .int (1 + r / 11 / 900 % 9)], [], by simp, rfl, wzL (by simp; exact ⟨g8, ge, gm, wzi, wz_non (by omega), wzi⟩) (by simp), by simp, by simp, by simp⟩
    · have sy : Wz 5 13808 (.str y) := wz_key hk (by omega)
      by_cases q : y = Str.ofString "zzzzzzzz"
      · exact gives_iff.mpr ⟨_, S, by simp (config := { implicitDefEqProofs := false }) [V__law_letter, m__law_letter, h, erg, gsCons, gsNil, q]; rfl, _, [.str "", .str "m", .int (1 + r / 11 % 30), .str "zzzzzzzz", .int (1 + r / 11 / 900 % 9)], [], by simp, rfl, wzL (by simp; exact ⟨g8, ge, gm, wzi, gz, wzi⟩) (by simp), by simp, by simp, by simp⟩
      · exact gives_iff.mpr ⟨_, S, by simp (config := { implicitDefEqProofs := false }) [V__law_letter, m__law_letter, h, erg, gsCons, gsNil, q]; rfl, _, [.str lo, .str y, .int (1 + r / 11 % 30), .non, .int (1 + r / 11 / 900 % 9)], [], by simp, rfl, wzL (by simp; exact ⟨g8, slo, sy, wzi, wz_non (by omega), wzi⟩) (by simp), by simp, by simp, by simp⟩
  · exact gives_iff.mpr ⟨_, S, by simp (config := { implicitDefEqProofs := false }) [V__law_letter, m__law_letter, h, erg, gsCons, gsNil, eb2]; rfl, _, [.str lo, hi, .int (1 + r / 11 % 30), .int (r / 11 / 900 % 9), .str b2], [], by simp, rfl, wzL (by simp; exact ⟨g9, slo, shi, wzi, wzi, sb2⟩) (by simp), by simp, by simp, by simp⟩
  · obtain ⟨_, S1, e1, m, T, rfl, hm, hml, _, rfl⟩ := gives_iff.mp (lpairs_ok (.str lo) hi (r / 11 / 900) ⟨lo, rfl⟩ (hhi.imp id fun ⟨h, e, _⟩ => ⟨h, e⟩) S)
    obtain ⟨_, S2, e2, m2, T2, rfl, hm2, hml2, rfl⟩ := gives_iff.mp (lrows_ok (r / 11 / 5000) (S ++ T))
    have s1 : Wz 2 847 (.tup (prsOf m)) := prsOf_wz hm hml (by omega)
    have s2 : Wz 5 13808 (.tup (rwsOf m2)) := rwsOf_wz hm2 hml2
    generalize prsOf m = ps at *
    generalize rwsOf m2 = rs at *
    exact gives_iff.mpr ⟨_, S ++ T ++ T2, by simp (config := { implicitDefEqProofs := false }) [V__law_letter, m__law_letter, h, erg, gsCons, gsNil, e1, e2]; rfl, _, [.str lo, hi, .int (1 + r / 11 % 30), .tup ps, .tup rs], T ++ T2, by simp, rfl, wzL (by simp; exact ⟨g10, slo, shi, wzi, s1.mono (by omega) (by omega), s2⟩) (by simp), by simp, by simp, by simp⟩
  · exact gives_iff.mpr ⟨_, S, by simp (config := { implicitDefEqProofs := false }) [V__law_letter, m__law_letter, h, erg, gsCons, gsNil]; rfl, _, [.str lo, hi, .int (1 + r / 11 % 30)], [], by simp, rfl, wzL (by simp; exact ⟨g11, slo, shi, wzi⟩) (by simp), by simp, by simp, by simp⟩
end L_k64
namespace L_k64
open PySem PySem.Spec PyProof.Rows L2 BS
theorem pre_one (c x : Nat) (r : List Nat) : TL.pre [c] (x :: r) = decide (x = c) := by
  unfold TL.pre
  by_cases h : x = c
  · subst h; simp
  · simp [h]
theorem spl_free (c : Nat) : ∀ (p acc : List Nat), c ∉ p → TL.spl [c] 0 acc p = [acc ++ p]
  | [], acc, _ => by rw [TL.spl_nil, List.append_nil]
  | x :: p, acc, h => by
    have hx : ¬ x = c := fun e => h (by simp [e])
    have hp : c ∉ p := fun e => h (by simp [e])
    rw [TL.spl_miss (by rw [pre_one, decide_eq_false hx]), spl_free c p _ hp, List.append_assoc]
    rfl
theorem spl_cons (c : Nat) : ∀ (p acc r : List Nat), c ∉ p → TL.spl [c] 0 acc (p ++ c :: r) = (acc ++ p) :: TL.spl [c] 0 [] r
  | [], acc, r, _ => by
    rw [List.nil_append, List.append_nil]
    rw [TL.spl_hit (by rw [pre_one, decide_eq_true rfl])]
    rfl
  | x :: p, acc, r, h => by
    have hx : ¬ x = c := fun e => h (by simp [e])
    have hp : c ∉ p := fun e => h (by simp [e])
    rw [List.cons_append, TL.spl_miss (by rw [pre_one, decide_eq_false hx]), spl_cons c p _ r hp, List.append_assoc]
    rfl
theorem split_ofL (l : List Nat) (c : Nat) (hc : c < 256) : Txt.split (ofL l) (ofL [c]) = (TL.spl [c] 0 [] l).map ofL := by
  refine TL.map_tl_inj ?_
  have e : ((TL.spl [c] 0 [] l).map ofL).map TL.tl = TL.spl [c] 0 [] l := by rw [List.map_map]; simp [Function.comp_def, TL.tl, ofL]
  rw [e]
  exact TL.split_spl (ofL l) (ofL [c]) (by simp [TL.tl, ofL]) (TL.kind_ok (by simp [ofL, hc]))
theorem joinL_two (c : Nat) (p q : List Nat) (ps : List (List Nat)) : TL.joinL [c] (p :: q :: ps) = p ++ c :: TL.joinL [c] (q :: ps) := by
  simp [TL.joinL]
theorem split_three (p q r : List Nat) (c : Nat) (hc : c < 256) (h : c ∉ p) (h2 : c ∉ q) (h3 : c ∉ r) : Txt.split (ofL (p ++ c :: (q ++ c :: r))) (ofL [c]) = [ofL p, ofL q, ofL r] := by
  rw [split_ofL _ _ hc, spl_cons c p [] _ h, spl_cons c q [] r h2, spl_free c r [] h3]; rfl
theorem split_head (p r : List Nat) (c : Nat) (hc : c < 256) (h : c ∉ p) : ∃ ws, Txt.split (ofL (p ++ c :: r)) (ofL [c]) = ofL p :: ws := by
  rw [split_ofL _ _ hc, spl_cons c p [] r h]
  exact ⟨_, rfl⟩
theorem split_joinL (c : Nat) : ∀ (ps : List (List Nat)), ps ≠ [] → (∀ p ∈ ps, c ∉ p) → TL.spl [c] 0 [] (TL.joinL [c] ps) = ps
  | [], h, _ => absurd rfl h
  | [p], _, h => by
    rw [show TL.joinL [c] [p] = p by simp [TL.joinL], spl_free c p [] (h p (by simp))]; rfl
  | p :: q :: ps, _, h => by
    rw [joinL_two, spl_cons c p [] _ (h p (by simp)), split_joinL c (q :: ps) (by simp) fun x hx => h x (by simp [hx])]
    rfl
/-- the places of a sign -/
def poss (c : Nat) : Nat → List Nat → List Nat
  | _, [] => []
  | i, x :: r => if x = c then i :: poss c (i + 1) r else poss c (i + 1) r
theorem poss_free (c : Nat) : ∀ (i : Nat) (p r : List Nat), c ∉ p → poss c i (p ++ r) = poss c (i + p.length) r
  | i, [], r, _ => by simp
  | i, x :: p, r, h => by
    have hx : ¬ x = c := fun e => h (by simp [e])
    have hp : c ∉ p := fun e => h (by simp [e])
    rw [List.cons_append]
    unfold poss
    rw [if_neg hx, poss_free c (i + 1) p r hp, List.length_cons, show i + 1 + p.length = i + (p.length + 1) by omega]
    cases r <;> rfl
theorem occ_run (l : List Nat) (c limit : Nat) : ∀ (m i : Nat) (fd : Array Nat) (fr : Nat), i + m = l.length + 1 → fr ≤ i → fd.size ≤ limit →
    (forIn (List.range' i m) (fd, fr) (StrLaws.occBody (ofL l) (ofL [c]) l.length limit)).run.fst.toList = fd.toList ++ (poss c i (l.drop i)).take (limit - fd.size)
  | 0, i, fd, fr, h, _, _ => by
    rw [List.drop_eq_nil_of_le (by omega)]
    show fd.toList = _
    simp [poss]
  | m + 1, i, fd, fr, h, hf, hs => by
    rw [List.range'_succ, List.forIn_cons]
    by_cases hi : i < l.length
    · have hd : l.drop i = l[i] :: l.drop (i + 1) := List.drop_eq_getElem_cons hi
      have sa : Builtin.Str.subAt (ofL l) (ofL [c]) i = decide (l[i] = c) := by
        have := StrLaws.subAt_one (ofL l) c i
        by_cases q : l[i] = c
        · rw [decide_eq_true q]
          refine (this.mpr ?_).2
          show (ofL l).cps.toList[i]? = some c
          show l[i]? = some c
          rw [List.getElem?_eq_getElem hi, q]
        · rw [decide_eq_false q]
          cases hh : Builtin.Str.subAt (ofL l) (ofL [c]) i with
          | false => rfl
          | true =>
            have h2 := this.mp ⟨by show i + 1 ≤ (ofL l).length; rw [ofL_len]; omega, hh⟩
            have h3 : l[i]? = some c := h2
            rw [List.getElem?_eq_getElem hi] at h3
            exact absurd (Option.some.inj h3) q
      rw [hd]
      unfold poss
      by_cases q : l[i] = c
      · rw [if_pos q]
        by_cases hl : fd.size < limit
        · have ih := occ_run l c limit m (i + 1) (fd.push i) (i + 1) (by omega) (Nat.le_refl _) (by simp; omega)
          have st : StrLaws.occBody (ofL l) (ofL [c]) l.length limit i (fd, fr) = pure (.yield (fd.push i, i + 1)) := by
            unfold StrLaws.occBody
            rw [if_pos ⟨⟨⟨hl, hf⟩, by rw [ofL_len]; show i + 1 ≤ _; omega⟩, by rw [sa, decide_eq_true q]⟩]
            rfl
          rw [st]
          refine Eq.trans (show _ = (forIn (List.range' (i + 1) m) (fd.push i, i + 1) (StrLaws.occBody (ofL l) (ofL [c]) l.length limit)).run.fst.toList from rfl) ?_
          rw [ih, Array.toList_push, List.append_assoc, Array.size_push]
          congr 1
          rw [show limit - fd.size = (limit - (fd.size + 1)) + 1 by omega, List.take_succ_cons]
          rfl
        · have ih := occ_run l c limit m (i + 1) fd fr (by omega) (by omega) hs
          have st : StrLaws.occBody (ofL l) (ofL [c]) l.length limit i (fd, fr) = pure (.yield (fd, fr)) := by
            unfold StrLaws.occBody
            simp [hl]
          rw [st]
          refine Eq.trans (show _ = (forIn (List.range' (i + 1) m) (fd, fr) (StrLaws.occBody (ofL l) (ofL [c]) l.length limit)).run.fst.toList from rfl) ?_
          rw [ih, show limit - fd.size = 0 by omega]
          simp
      · rw [if_neg q]
        have ih := occ_run l c limit m (i + 1) fd fr (by omega) (by omega) hs
        have st : StrLaws.occBody (ofL l) (ofL [c]) l.length limit i (fd, fr) = pure (.yield (fd, fr)) := by
          unfold StrLaws.occBody
          simp [sa, q]
        rw [st]
        exact ih
    · have ih := occ_run l c limit m (i + 1) fd fr (by omega) (by omega) hs
      have e1 : l.drop i = [] := List.drop_eq_nil_of_le (by omega)
      have e2 : l.drop (i + 1) = [] := List.drop_eq_nil_of_le (by omega)
      have st : StrLaws.occBody (ofL l) (ofL [c]) l.length limit i (fd, fr) = pure (.yield (fd, fr)) := by
        unfold StrLaws.occBody
        have : ¬ i + (ofL [c]).length ≤ l.length := by rw [ofL_len]; simp; omega
        simp [this]
      rw [st]
      rw [e2] at ih
      rw [e1]
      exact ih
theorem occ_ofL (l : List Nat) (c limit : Nat) : Builtin.Str.occurrences (ofL l) (ofL [c]) 0 (ofL l).length limit = (poss c 0 l).take limit := by
  rw [StrLaws.occ_eq, ofL_len]
  have := occ_run l c limit (l.length + 1) 0 #[] 0 (by omega) (Nat.le_refl _) (by simp)
  rw [show l.length + 1 - 0 = l.length + 1 by omega, this]
  simp
theorem sub_ofL (l : List Nat) (i j : Nat) : Builtin.Str.strSub (ofL l) i j = ofL ((l.drop i).take (j - i)) := by
  refine TL.ext_tl ?_
  rw [TL.tl_strSub]
  rfl
/-- text.split(c, 2) where two of them stand -/
theorem splitMax_two (p q r : List Nat) (c : Nat) (hc : c < 256) (h : c ∉ p) (h2 : c ∉ q) : Txt.splitMax (ofL (p ++ c :: (q ++ c :: r))) (ofL [c]) 2 = [ofL p, ofL q, ofL r] := by
  have ho : Builtin.Str.occurrences (ofL (p ++ c :: (q ++ c :: r))) (ofL [c]) 0 (ofL (p ++ c :: (q ++ c :: r))).length (PySem.limitOf (ofL (p ++ c :: (q ++ c :: r))) 2) = [p.length, p.length + 1 + q.length] := by
    rw [occ_ofL, show PySem.limitOf (ofL (p ++ c :: (q ++ c :: r))) 2 = 2 from rfl, poss_free c 0 p _ h]
    rw [show poss c (0 + p.length) (c :: (q ++ c :: r)) = (0 + p.length) :: poss c (0 + p.length + 1) (q ++ c :: r) by simp [poss]]
    rw [poss_free c _ q _ h2, show poss c (0 + p.length + 1 + q.length) (c :: r) = (0 + p.length + 1 + q.length) :: poss c (0 + p.length + 1 + q.length + 1) r by simp [poss]]
    simp
  unfold Txt.splitMax
  rw [ho]
  have hk : ¬ Builtin.Str.strKind (ofL (p ++ c :: (q ++ c :: r))) < Builtin.Str.strKind (ofL [c]) := TL.kind_ok (by simp [ofL, hc])
  have hl : ¬ (ofL (p ++ c :: (q ++ c :: r))).length < (ofL [c]).length := by rw [ofL_len, ofL_len]; simp
  rw [if_neg (by simp [hk, hl]), if_neg (by simp)]
  show [Builtin.Str.strSub _ 0 p.length, Builtin.Str.strSub _ (p.length + (ofL [c]).length) (p.length + 1 + q.length), Builtin.Str.strSub _ (p.length + 1 + q.length + (ofL [c]).length) (ofL (p ++ c :: (q ++ c :: r))).length] = _
  rw [show (ofL [c]).length = 1 from rfl, sub_ofL, sub_ofL, sub_ofL, ofL_len]
  have e1 : (p ++ c :: (q ++ c :: r)).drop (p.length + 1) = q ++ c :: r := by
    rw [show p ++ c :: (q ++ c :: r) = (p ++ [c]) ++ (q ++ c :: r) by simp]
    exact List.drop_left' (by simp)
  have e2 : (p ++ c :: (q ++ c :: r)).drop (p.length + 1 + q.length + 1) = r := by
    rw [show p ++ c :: (q ++ c :: r) = (p ++ [c] ++ q ++ [c]) ++ r by simp]
    exact List.drop_left' (by simp; omega)
  rw [e1, e2]
  congr 1
  · simp
  · congr 1
    · rw [show p.length + 1 + q.length - (p.length + 1) = q.length by omega]
      simp
    · congr 2
      refine List.take_of_length_le ?_
      simp; omega
theorem join_ofLs (c : Nat) (ps : List (List Nat)) : Str.join (ofL [c]) (ps.map ofL) = ofL (TL.joinL [c] ps) := by
  refine TL.ext_tl ?_
  rw [TL.tl_join]
  have : (ps.map ofL).map TL.tl = ps := by rw [List.map_map]; simp [Function.comp_def, TL.tl, ofL]
  rw [this]
  rfl
end L_k64
namespace L_k64
open PySem PySem.Spec PyProof.Rows L2 BS
@[simp] theorem sl_tick_submit : (Str.ofString "tick" = Str.ofString "submit") = False := by simp; decide +kernel
@[simp] theorem sl_tick_deliver : (Str.ofString "tick" = Str.ofString "deliver") = False := by simp; decide +kernel
@[simp] theorem sl_tick_round : (Str.ofString "tick" = Str.ofString "round") = False := by simp; decide +kernel
@[simp] theorem sl_tick_calm : (Str.ofString "tick" = Str.ofString "calm") = False := by simp; decide +kernel
@[simp] theorem sl_tick_lose : (Str.ofString "tick" = Str.ofString "lose") = False := by simp; decide +kernel
@[simp] theorem sl_tick_double : (Str.ofString "tick" = Str.ofString "double") = False := by simp; decide +kernel
@[simp] theorem sl_tick_move : (Str.ofString "tick" = Str.ofString "move") = False := by simp; decide +kernel
@[simp] theorem sl_tick_order : (Str.ofString "tick" = Str.ofString "order") = False := by simp; decide +kernel
@[simp] theorem sl_tick_arm : (Str.ofString "tick" = Str.ofString "arm") = False := by simp; decide +kernel
@[simp] theorem sl_tick_crash : (Str.ofString "tick" = Str.ofString "crash") = False := by simp; decide +kernel
@[simp] theorem sl_tick_restart : (Str.ofString "tick" = Str.ofString "restart") = False := by simp; decide +kernel
@[simp] theorem sl_tick_ticks : (Str.ofString "tick" = Str.ofString "ticks") = False := by simp; decide +kernel
@[simp] theorem sl_tick_client : (Str.ofString "tick" = Str.ofString "client") = False := by simp; decide +kernel
@[simp] theorem sl_tick_operation : (Str.ofString "tick" = Str.ofString "operation") = False := by simp; decide +kernel
@[simp] theorem sl_tick_number : (Str.ofString "tick" = Str.ofString "number") = False := by simp; decide +kernel
@[simp] theorem sl_tick_server : (Str.ofString "tick" = Str.ofString "server") = False := by simp; decide +kernel
@[simp] theorem sl_tick_letter : (Str.ofString "tick" = Str.ofString "letter") = False := by simp; decide +kernel
@[simp] theorem sl_tick_world : (Str.ofString "tick" = Str.ofString "world") = False := by simp; decide +kernel
@[simp] theorem sl_tick_text : (Str.ofString "tick" = Str.ofString "text") = False := by simp; decide +kernel
@[simp] theorem sl_submit_tick : (Str.ofString "submit" = Str.ofString "tick") = False := by simp; decide +kernel
@[simp] theorem sl_submit_deliver : (Str.ofString "submit" = Str.ofString "deliver") = False := by simp; decide +kernel
@[simp] theorem sl_submit_round : (Str.ofString "submit" = Str.ofString "round") = False := by simp; decide +kernel
@[simp] theorem sl_submit_calm : (Str.ofString "submit" = Str.ofString "calm") = False := by simp; decide +kernel
@[simp] theorem sl_submit_lose : (Str.ofString "submit" = Str.ofString "lose") = False := by simp; decide +kernel
@[simp] theorem sl_submit_double : (Str.ofString "submit" = Str.ofString "double") = False := by simp; decide +kernel
@[simp] theorem sl_submit_move : (Str.ofString "submit" = Str.ofString "move") = False := by simp; decide +kernel
@[simp] theorem sl_submit_order : (Str.ofString "submit" = Str.ofString "order") = False := by simp; decide +kernel
@[simp] theorem sl_submit_arm : (Str.ofString "submit" = Str.ofString "arm") = False := by simp; decide +kernel
@[simp] theorem sl_submit_crash : (Str.ofString "submit" = Str.ofString "crash") = False := by simp; decide +kernel
@[simp] theorem sl_submit_restart : (Str.ofString "submit" = Str.ofString "restart") = False := by simp; decide +kernel
@[simp] theorem sl_submit_ticks : (Str.ofString "submit" = Str.ofString "ticks") = False := by simp; decide +kernel
@[simp] theorem sl_submit_client : (Str.ofString "submit" = Str.ofString "client") = False := by simp; decide +kernel
@[simp] theorem sl_submit_operation : (Str.ofString "submit" = Str.ofString "operation") = False := by simp; decide +kernel
@[simp] theorem sl_submit_number : (Str.ofString "submit" = Str.ofString "number") = False := by simp; decide +kernel
@[simp] theorem sl_submit_server : (Str.ofString "submit" = Str.ofString "server") = False := by simp; decide +kernel
@[simp] theorem sl_submit_letter : (Str.ofString "submit" = Str.ofString "letter") = False := by simp; decide +kernel
@[simp] theorem sl_submit_world : (Str.ofString "submit" = Str.ofString "world") = False := by simp; decide +kernel
@[simp] theorem sl_submit_text : (Str.ofString "submit" = Str.ofString "text") = False := by simp; decide +kernel
@[simp] theorem sl_deliver_tick : (Str.ofString "deliver" = Str.ofString "tick") = False := by simp; decide +kernel
@[simp] theorem sl_deliver_submit : (Str.ofString "deliver" = Str.ofString "submit") = False := by simp; decide +kernel
@[simp] theorem sl_deliver_round : (Str.ofString "deliver" = Str.ofString "round") = False := by simp; decide +kernel
@[simp] theorem sl_deliver_calm : (Str.ofString "deliver" = Str.ofString "calm") = False := by simp; decide +kernel
@[simp] theorem sl_deliver_lose : (Str.ofString "deliver" = Str.ofString "lose") = False := by simp; decide +kernel
@[simp] theorem sl_deliver_double : (Str.ofString "deliver" = Str.ofString "double") = False := by simp; decide +kernel
@[simp] theorem sl_deliver_move : (Str.ofString "deliver" = Str.ofString "move") = False := by simp; decide +kernel
@[simp] theorem sl_deliver_order : (Str.ofString "deliver" = Str.ofString "order") = False := by simp; decide +kernel
@[simp] theorem sl_deliver_arm : (Str.ofString "deliver" = Str.ofString "arm") = False := by simp; decide +kernel
@[simp] theorem sl_deliver_crash : (Str.ofString "deliver" = Str.ofString "crash") = False := by simp; decide +kernel
@[simp] theorem sl_deliver_restart : (Str.ofString "deliver" = Str.ofString "restart") = False := by simp; decide +kernel
@[simp] theorem sl_deliver_ticks : (Str.ofString "deliver" = Str.ofString "ticks") = False := by simp; decide +kernel
@[simp] theorem sl_deliver_client : (Str.ofString "deliver" = Str.ofString "client") = False := by simp; decide +kernel
@[simp] theorem sl_deliver_operation : (Str.ofString "deliver" = Str.ofString "operation") = False := by simp; decide +kernel
@[simp] theorem sl_deliver_number : (Str.ofString "deliver" = Str.ofString "number") = False := by simp; decide +kernel
@[simp] theorem sl_deliver_server : (Str.ofString "deliver" = Str.ofString "server") = False := by simp; decide +kernel
@[simp] theorem sl_deliver_letter : (Str.ofString "deliver" = Str.ofString "letter") = False := by simp; decide +kernel
@[simp] theorem sl_deliver_world : (Str.ofString "deliver" = Str.ofString "world") = False := by simp; decide +kernel
@[simp] theorem sl_deliver_text : (Str.ofString "deliver" = Str.ofString "text") = False := by simp; decide +kernel
@[simp] theorem sl_round_tick : (Str.ofString "round" = Str.ofString "tick") = False := by simp; decide +kernel
@[simp] theorem sl_round_submit : (Str.ofString "round" = Str.ofString "submit") = False := by simp; decide +kernel
@[simp] theorem sl_round_deliver : (Str.ofString "round" = Str.ofString "deliver") = False := by simp; decide +kernel
@[simp] theorem sl_round_calm : (Str.ofString "round" = Str.ofString "calm") = False := by simp; decide +kernel
@[simp] theorem sl_round_lose : (Str.ofString "round" = Str.ofString "lose") = False := by simp; decide +kernel
@[simp] theorem sl_round_double : (Str.ofString "round" = Str.ofString "double") = False := by simp; decide +kernel
@[simp] theorem sl_round_move : (Str.ofString "round" = Str.ofString "move") = False := by simp; decide +kernel
@[simp] theorem sl_round_order : (Str.ofString "round" = Str.ofString "order") = False := by simp; decide +kernel
@[simp] theorem sl_round_arm : (Str.ofString "round" = Str.ofString "arm") = False := by simp; decide +kernel
@[simp] theorem sl_round_crash : (Str.ofString "round" = Str.ofString "crash") = False := by simp; decide +kernel
@[simp] theorem sl_round_restart : (Str.ofString "round" = Str.ofString "restart") = False := by simp; decide +kernel
@[simp] theorem sl_round_ticks : (Str.ofString "round" = Str.ofString "ticks") = False := by simp; decide +kernel
@[simp] theorem sl_round_client : (Str.ofString "round" = Str.ofString "client") = False := by simp; decide +kernel
@[simp] theorem sl_round_operation : (Str.ofString "round" = Str.ofString "operation") = False := by simp; decide +kernel
@[simp] theorem sl_round_number : (Str.ofString "round" = Str.ofString "number") = False := by simp; decide +kernel
@[simp] theorem sl_round_server : (Str.ofString "round" = Str.ofString "server") = False := by simp; decide +kernel
@[simp] theorem sl_round_letter : (Str.ofString "round" = Str.ofString "letter") = False := by simp; decide +kernel
@[simp] theorem sl_round_world : (Str.ofString "round" = Str.ofString "world") = False := by simp; decide +kernel
@[simp] theorem sl_round_text : (Str.ofString "round" = Str.ofString "text") = False := by simp; decide +kernel
@[simp] theorem sl_calm_tick : (Str.ofString "calm" = Str.ofString "tick") = False := by simp; decide +kernel
@[simp] theorem sl_calm_submit : (Str.ofString "calm" = Str.ofString "submit") = False := by simp; decide +kernel
@[simp] theorem sl_calm_deliver : (Str.ofString "calm" = Str.ofString "deliver") = False := by simp; decide +kernel
@[simp] theorem sl_calm_round : (Str.ofString "calm" = Str.ofString "round") = False := by simp; decide +kernel
@[simp] theorem sl_calm_lose : (Str.ofString "calm" = Str.ofString "lose") = False := by simp; decide +kernel
@[simp] theorem sl_calm_double : (Str.ofString "calm" = Str.ofString "double") = False := by simp; decide +kernel
@[simp] theorem sl_calm_move : (Str.ofString "calm" = Str.ofString "move") = False := by simp; decide +kernel
@[simp] theorem sl_calm_order : (Str.ofString "calm" = Str.ofString "order") = False := by simp; decide +kernel
@[simp] theorem sl_calm_arm : (Str.ofString "calm" = Str.ofString "arm") = False := by simp; decide +kernel
@[simp] theorem sl_calm_crash : (Str.ofString "calm" = Str.ofString "crash") = False := by simp; decide +kernel
@[simp] theorem sl_calm_restart : (Str.ofString "calm" = Str.ofString "restart") = False := by simp; decide +kernel
@[simp] theorem sl_calm_ticks : (Str.ofString "calm" = Str.ofString "ticks") = False := by simp; decide +kernel
@[simp] theorem sl_calm_client : (Str.ofString "calm" = Str.ofString "client") = False := by simp; decide +kernel
@[simp] theorem sl_calm_operation : (Str.ofString "calm" = Str.ofString "operation") = False := by simp; decide +kernel
@[simp] theorem sl_calm_number : (Str.ofString "calm" = Str.ofString "number") = False := by simp; decide +kernel
@[simp] theorem sl_calm_server : (Str.ofString "calm" = Str.ofString "server") = False := by simp; decide +kernel
@[simp] theorem sl_calm_letter : (Str.ofString "calm" = Str.ofString "letter") = False := by simp; decide +kernel
@[simp] theorem sl_calm_world : (Str.ofString "calm" = Str.ofString "world") = False := by simp; decide +kernel
@[simp] theorem sl_calm_text : (Str.ofString "calm" = Str.ofString "text") = False := by simp; decide +kernel
@[simp] theorem sl_lose_tick : (Str.ofString "lose" = Str.ofString "tick") = False := by simp; decide +kernel
@[simp] theorem sl_lose_submit : (Str.ofString "lose" = Str.ofString "submit") = False := by simp; decide +kernel
@[simp] theorem sl_lose_deliver : (Str.ofString "lose" = Str.ofString "deliver") = False := by simp; decide +kernel
@[simp] theorem sl_lose_round : (Str.ofString "lose" = Str.ofString "round") = False := by simp; decide +kernel
@[simp] theorem sl_lose_calm : (Str.ofString "lose" = Str.ofString "calm") = False := by simp; decide +kernel
@[simp] theorem sl_lose_double : (Str.ofString "lose" = Str.ofString "double") = False := by simp; decide +kernel
@[simp] theorem sl_lose_move : (Str.ofString "lose" = Str.ofString "move") = False := by simp; decide +kernel
@[simp] theorem sl_lose_order : (Str.ofString "lose" = Str.ofString "order") = False := by simp; decide +kernel
@[simp] theorem sl_lose_arm : (Str.ofString "lose" = Str.ofString "arm") = False := by simp; decide +kernel
@[simp] theorem sl_lose_crash : (Str.ofString "lose" = Str.ofString "crash") = False := by simp; decide +kernel
@[simp] theorem sl_lose_restart : (Str.ofString "lose" = Str.ofString "restart") = False := by simp; decide +kernel
@[simp] theorem sl_lose_ticks : (Str.ofString "lose" = Str.ofString "ticks") = False := by simp; decide +kernel
@[simp] theorem sl_lose_client : (Str.ofString "lose" = Str.ofString "client") = False := by simp; decide +kernel
@[simp] theorem sl_lose_operation : (Str.ofString "lose" = Str.ofString "operation") = False := by simp; decide +kernel
@[simp] theorem sl_lose_number : (Str.ofString "lose" = Str.ofString "number") = False := by simp; decide +kernel
@[simp] theorem sl_lose_server : (Str.ofString "lose" = Str.ofString "server") = False := by simp; decide +kernel
@[simp] theorem sl_lose_letter : (Str.ofString "lose" = Str.ofString "letter") = False := by simp; decide +kernel
@[simp] theorem sl_lose_world : (Str.ofString "lose" = Str.ofString "world") = False := by simp; decide +kernel
@[simp] theorem sl_lose_text : (Str.ofString "lose" = Str.ofString "text") = False := by simp; decide +kernel
@[simp] theorem sl_double_tick : (Str.ofString "double" = Str.ofString "tick") = False := by simp; decide +kernel
@[simp] theorem sl_double_submit : (Str.ofString "double" = Str.ofString "submit") = False := by simp; decide +kernel
@[simp] theorem sl_double_deliver : (Str.ofString "double" = Str.ofString "deliver") = False := by simp; decide +kernel
@[simp] theorem sl_double_round : (Str.ofString "double" = Str.ofString "round") = False := by simp; decide +kernel
@[simp] theorem sl_double_calm : (Str.ofString "double" = Str.ofString "calm") = False := by simp; decide +kernel
@[simp] theorem sl_double_lose : (Str.ofString "double" = Str.ofString "lose") = False := by simp; decide +kernel
@[simp] theorem sl_double_move : (Str.ofString "double" = Str.ofString "move") = False := by simp; decide +kernel
@[simp] theorem sl_double_order : (Str.ofString "double" = Str.ofString "order") = False := by simp; decide +kernel
@[simp] theorem sl_double_arm : (Str.ofString "double" = Str.ofString "arm") = False := by simp; decide +kernel
@[simp] theorem sl_double_crash : (Str.ofString "double" = Str.ofString "crash") = False := by simp; decide +kernel
@[simp] theorem sl_double_restart : (Str.ofString "double" = Str.ofString "restart") = False := by simp; decide +kernel
@[simp] theorem sl_double_ticks : (Str.ofString "double" = Str.ofString "ticks") = False := by simp; decide +kernel
@[simp] theorem sl_double_client : (Str.ofString "double" = Str.ofString "client") = False := by simp; decide +kernel
@[simp] theorem sl_double_operation : (Str.ofString "double" = Str.ofString "operation") = False := by simp; decide +kernel
@[simp] theorem sl_double_number : (Str.ofString "double" = Str.ofString "number") = False := by simp; decide +kernel
@[simp] theorem sl_double_server : (Str.ofString "double" = Str.ofString "server") = False := by simp; decide +kernel
@[simp] theorem sl_double_letter : (Str.ofString "double" = Str.ofString "letter") = False := by simp; decide +kernel
@[simp] theorem sl_double_world : (Str.ofString "double" = Str.ofString "world") = False := by simp; decide +kernel
@[simp] theorem sl_double_text : (Str.ofString "double" = Str.ofString "text") = False := by simp; decide +kernel
@[simp] theorem sl_move_tick : (Str.ofString "move" = Str.ofString "tick") = False := by simp; decide +kernel
@[simp] theorem sl_move_submit : (Str.ofString "move" = Str.ofString "submit") = False := by simp; decide +kernel
@[simp] theorem sl_move_deliver : (Str.ofString "move" = Str.ofString "deliver") = False := by simp; decide +kernel
@[simp] theorem sl_move_round : (Str.ofString "move" = Str.ofString "round") = False := by simp; decide +kernel
@[simp] theorem sl_move_calm : (Str.ofString "move" = Str.ofString "calm") = False := by simp; decide +kernel
@[simp] theorem sl_move_lose : (Str.ofString "move" = Str.ofString "lose") = False := by simp; decide +kernel
@[simp] theorem sl_move_double : (Str.ofString "move" = Str.ofString "double") = False := by simp; decide +kernel
@[simp] theorem sl_move_order : (Str.ofString "move" = Str.ofString "order") = False := by simp; decide +kernel
@[simp] theorem sl_move_arm : (Str.ofString "move" = Str.ofString "arm") = False := by simp; decide +kernel
@[simp] theorem sl_move_crash : (Str.ofString "move" = Str.ofString "crash") = False := by simp; decide +kernel
@[simp] theorem sl_move_restart : (Str.ofString "move" = Str.ofString "restart") = False := by simp; decide +kernel
@[simp] theorem sl_move_ticks : (Str.ofString "move" = Str.ofString "ticks") = False := by simp; decide +kernel
@[simp] theorem sl_move_operation : (Str.ofString "move" = Str.ofString "operation") = False := by simp; decide +kernel
@[simp] theorem sl_move_number : (Str.ofString "move" = Str.ofString "number") = False := by simp; decide +kernel
@[simp] theorem sl_move_letter : (Str.ofString "move" = Str.ofString "letter") = False := by simp; decide +kernel
@[simp] theorem sl_move_world : (Str.ofString "move" = Str.ofString "world") = False := by simp; decide +kernel
@[simp] theorem sl_move_text : (Str.ofString "move" = Str.ofString "text") = False := by simp; decide +kernel
@[simp] theorem sl_order_tick : (Str.ofString "order" = Str.ofString "tick") = False := by simp; decide +kernel
@[simp] theorem sl_order_submit : (Str.ofString "order" = Str.ofString "submit") = False := by simp; decide +kernel
@[simp] theorem sl_order_deliver : (Str.ofString "order" = Str.ofString "deliver") = False := by simp; decide +kernel
@[simp] theorem sl_order_round : (Str.ofString "order" = Str.ofString "round") = False := by simp; decide +kernel
@[simp] theorem sl_order_calm : (Str.ofString "order" = Str.ofString "calm") = False := by simp; decide +kernel
@[simp] theorem sl_order_lose : (Str.ofString "order" = Str.ofString "lose") = False := by simp; decide +kernel
@[simp] theorem sl_order_double : (Str.ofString "order" = Str.ofString "double") = False := by simp; decide +kernel
@[simp] theorem sl_order_move : (Str.ofString "order" = Str.ofString "move") = False := by simp; decide +kernel
@[simp] theorem sl_order_arm : (Str.ofString "order" = Str.ofString "arm") = False := by simp; decide +kernel
@[simp] theorem sl_order_crash : (Str.ofString "order" = Str.ofString "crash") = False := by simp; decide +kernel
@[simp] theorem sl_order_restart : (Str.ofString "order" = Str.ofString "restart") = False := by simp; decide +kernel
@[simp] theorem sl_order_ticks : (Str.ofString "order" = Str.ofString "ticks") = False := by simp; decide +kernel
@[simp] theorem sl_order_client : (Str.ofString "order" = Str.ofString "client") = False := by simp; decide +kernel
@[simp] theorem sl_order_operation : (Str.ofString "order" = Str.ofString "operation") = False := by simp; decide +kernel
@[simp] theorem sl_order_number : (Str.ofString "order" = Str.ofString "number") = False := by simp; decide +kernel
@[simp] theorem sl_order_server : (Str.ofString "order" = Str.ofString "server") = False := by simp; decide +kernel
@[simp] theorem sl_order_letter : (Str.ofString "order" = Str.ofString "letter") = False := by simp; decide +kernel
@[simp] theorem sl_order_world : (Str.ofString "order" = Str.ofString "world") = False := by simp; decide +kernel
@[simp] theorem sl_order_text : (Str.ofString "order" = Str.ofString "text") = False := by simp; decide +kernel
@[simp] theorem sl_arm_tick : (Str.ofString "arm" = Str.ofString "tick") = False := by simp; decide +kernel
@[simp] theorem sl_arm_submit : (Str.ofString "arm" = Str.ofString "submit") = False := by simp; decide +kernel
@[simp] theorem sl_arm_deliver : (Str.ofString "arm" = Str.ofString "deliver") = False := by simp; decide +kernel
@[simp] theorem sl_arm_round : (Str.ofString "arm" = Str.ofString "round") = False := by simp; decide +kernel
@[simp] theorem sl_arm_calm : (Str.ofString "arm" = Str.ofString "calm") = False := by simp; decide +kernel
@[simp] theorem sl_arm_lose : (Str.ofString "arm" = Str.ofString "lose") = False := by simp; decide +kernel
@[simp] theorem sl_arm_double : (Str.ofString "arm" = Str.ofString "double") = False := by simp; decide +kernel
@[simp] theorem sl_arm_move : (Str.ofString "arm" = Str.ofString "move") = False := by simp; decide +kernel
@[simp] theorem sl_arm_order : (Str.ofString "arm" = Str.ofString "order") = False := by simp; decide +kernel
@[simp] theorem sl_arm_crash : (Str.ofString "arm" = Str.ofString "crash") = False := by simp; decide +kernel
@[simp] theorem sl_arm_restart : (Str.ofString "arm" = Str.ofString "restart") = False := by simp; decide +kernel
@[simp] theorem sl_arm_ticks : (Str.ofString "arm" = Str.ofString "ticks") = False := by simp; decide +kernel
@[simp] theorem sl_arm_client : (Str.ofString "arm" = Str.ofString "client") = False := by simp; decide +kernel
@[simp] theorem sl_arm_operation : (Str.ofString "arm" = Str.ofString "operation") = False := by simp; decide +kernel
@[simp] theorem sl_arm_number : (Str.ofString "arm" = Str.ofString "number") = False := by simp; decide +kernel
@[simp] theorem sl_arm_server : (Str.ofString "arm" = Str.ofString "server") = False := by simp; decide +kernel
@[simp] theorem sl_arm_letter : (Str.ofString "arm" = Str.ofString "letter") = False := by simp; decide +kernel
@[simp] theorem sl_arm_world : (Str.ofString "arm" = Str.ofString "world") = False := by simp; decide +kernel
@[simp] theorem sl_arm_text : (Str.ofString "arm" = Str.ofString "text") = False := by simp; decide +kernel
@[simp] theorem sl_crash_tick : (Str.ofString "crash" = Str.ofString "tick") = False := by simp; decide +kernel
@[simp] theorem sl_crash_submit : (Str.ofString "crash" = Str.ofString "submit") = False := by simp; decide +kernel
@[simp] theorem sl_crash_deliver : (Str.ofString "crash" = Str.ofString "deliver") = False := by simp; decide +kernel
@[simp] theorem sl_crash_round : (Str.ofString "crash" = Str.ofString "round") = False := by simp; decide +kernel
@[simp] theorem sl_crash_calm : (Str.ofString "crash" = Str.ofString "calm") = False := by simp; decide +kernel
@[simp] theorem sl_crash_lose : (Str.ofString "crash" = Str.ofString "lose") = False := by simp; decide +kernel
@[simp] theorem sl_crash_double : (Str.ofString "crash" = Str.ofString "double") = False := by simp; decide +kernel
@[simp] theorem sl_crash_move : (Str.ofString "crash" = Str.ofString "move") = False := by simp; decide +kernel
@[simp] theorem sl_crash_order : (Str.ofString "crash" = Str.ofString "order") = False := by simp; decide +kernel
@[simp] theorem sl_crash_arm : (Str.ofString "crash" = Str.ofString "arm") = False := by simp; decide +kernel
@[simp] theorem sl_crash_restart : (Str.ofString "crash" = Str.ofString "restart") = False := by simp; decide +kernel
@[simp] theorem sl_crash_ticks : (Str.ofString "crash" = Str.ofString "ticks") = False := by simp; decide +kernel
@[simp] theorem sl_crash_client : (Str.ofString "crash" = Str.ofString "client") = False := by simp; decide +kernel
@[simp] theorem sl_crash_operation : (Str.ofString "crash" = Str.ofString "operation") = False := by simp; decide +kernel
@[simp] theorem sl_crash_number : (Str.ofString "crash" = Str.ofString "number") = False := by simp; decide +kernel
@[simp] theorem sl_crash_server : (Str.ofString "crash" = Str.ofString "server") = False := by simp; decide +kernel
@[simp] theorem sl_crash_letter : (Str.ofString "crash" = Str.ofString "letter") = False := by simp; decide +kernel
@[simp] theorem sl_crash_world : (Str.ofString "crash" = Str.ofString "world") = False := by simp; decide +kernel
@[simp] theorem sl_crash_text : (Str.ofString "crash" = Str.ofString "text") = False := by simp; decide +kernel
@[simp] theorem sl_restart_tick : (Str.ofString "restart" = Str.ofString "tick") = False := by simp; decide +kernel
@[simp] theorem sl_restart_submit : (Str.ofString "restart" = Str.ofString "submit") = False := by simp; decide +kernel
@[simp] theorem sl_restart_deliver : (Str.ofString "restart" = Str.ofString "deliver") = False := by simp; decide +kernel
@[simp] theorem sl_restart_round : (Str.ofString "restart" = Str.ofString "round") = False := by simp; decide +kernel
@[simp] theorem sl_restart_calm : (Str.ofString "restart" = Str.ofString "calm") = False := by simp; decide +kernel
@[simp] theorem sl_restart_lose : (Str.ofString "restart" = Str.ofString "lose") = False := by simp; decide +kernel
@[simp] theorem sl_restart_double : (Str.ofString "restart" = Str.ofString "double") = False := by simp; decide +kernel
@[simp] theorem sl_restart_move : (Str.ofString "restart" = Str.ofString "move") = False := by simp; decide +kernel
@[simp] theorem sl_restart_order : (Str.ofString "restart" = Str.ofString "order") = False := by simp; decide +kernel
@[simp] theorem sl_restart_arm : (Str.ofString "restart" = Str.ofString "arm") = False := by simp; decide +kernel
@[simp] theorem sl_restart_crash : (Str.ofString "restart" = Str.ofString "crash") = False := by simp; decide +kernel
@[simp] theorem sl_restart_ticks : (Str.ofString "restart" = Str.ofString "ticks") = False := by simp; decide +kernel
@[simp] theorem sl_restart_client : (Str.ofString "restart" = Str.ofString "client") = False := by simp; decide +kernel
@[simp] theorem sl_restart_operation : (Str.ofString "restart" = Str.ofString "operation") = False := by simp; decide +kernel
@[simp] theorem sl_restart_number : (Str.ofString "restart" = Str.ofString "number") = False := by simp; decide +kernel
@[simp] theorem sl_restart_server : (Str.ofString "restart" = Str.ofString "server") = False := by simp; decide +kernel
@[simp] theorem sl_restart_letter : (Str.ofString "restart" = Str.ofString "letter") = False := by simp; decide +kernel
@[simp] theorem sl_restart_world : (Str.ofString "restart" = Str.ofString "world") = False := by simp; decide +kernel
@[simp] theorem sl_restart_text : (Str.ofString "restart" = Str.ofString "text") = False := by simp; decide +kernel
@[simp] theorem sl_ticks_tick : (Str.ofString "ticks" = Str.ofString "tick") = False := by simp; decide +kernel
@[simp] theorem sl_ticks_submit : (Str.ofString "ticks" = Str.ofString "submit") = False := by simp; decide +kernel
@[simp] theorem sl_ticks_deliver : (Str.ofString "ticks" = Str.ofString "deliver") = False := by simp; decide +kernel
@[simp] theorem sl_ticks_round : (Str.ofString "ticks" = Str.ofString "round") = False := by simp; decide +kernel
@[simp] theorem sl_ticks_calm : (Str.ofString "ticks" = Str.ofString "calm") = False := by simp; decide +kernel
@[simp] theorem sl_ticks_lose : (Str.ofString "ticks" = Str.ofString "lose") = False := by simp; decide +kernel
@[simp] theorem sl_ticks_double : (Str.ofString "ticks" = Str.ofString "double") = False := by simp; decide +kernel
@[simp] theorem sl_ticks_move : (Str.ofString "ticks" = Str.ofString "move") = False := by simp; decide +kernel
@[simp] theorem sl_ticks_order : (Str.ofString "ticks" = Str.ofString "order") = False := by simp; decide +kernel
@[simp] theorem sl_ticks_arm : (Str.ofString "ticks" = Str.ofString "arm") = False := by simp; decide +kernel
@[simp] theorem sl_ticks_crash : (Str.ofString "ticks" = Str.ofString "crash") = False := by simp; decide +kernel
@[simp] theorem sl_ticks_restart : (Str.ofString "ticks" = Str.ofString "restart") = False := by simp; decide +kernel
@[simp] theorem sl_ticks_client : (Str.ofString "ticks" = Str.ofString "client") = False := by simp; decide +kernel
@[simp] theorem sl_ticks_operation : (Str.ofString "ticks" = Str.ofString "operation") = False := by simp; decide +kernel
@[simp] theorem sl_ticks_number : (Str.ofString "ticks" = Str.ofString "number") = False := by simp; decide +kernel
@[simp] theorem sl_ticks_server : (Str.ofString "ticks" = Str.ofString "server") = False := by simp; decide +kernel
@[simp] theorem sl_ticks_letter : (Str.ofString "ticks" = Str.ofString "letter") = False := by simp; decide +kernel
@[simp] theorem sl_ticks_world : (Str.ofString "ticks" = Str.ofString "world") = False := by simp; decide +kernel
@[simp] theorem sl_ticks_text : (Str.ofString "ticks" = Str.ofString "text") = False := by simp; decide +kernel
@[simp] theorem sl_client_tick : (Str.ofString "client" = Str.ofString "tick") = False := by simp; decide +kernel
@[simp] theorem sl_client_submit : (Str.ofString "client" = Str.ofString "submit") = False := by simp; decide +kernel
@[simp] theorem sl_client_deliver : (Str.ofString "client" = Str.ofString "deliver") = False := by simp; decide +kernel
@[simp] theorem sl_client_round : (Str.ofString "client" = Str.ofString "round") = False := by simp; decide +kernel
@[simp] theorem sl_client_calm : (Str.ofString "client" = Str.ofString "calm") = False := by simp; decide +kernel
@[simp] theorem sl_client_lose : (Str.ofString "client" = Str.ofString "lose") = False := by simp; decide +kernel
@[simp] theorem sl_client_double : (Str.ofString "client" = Str.ofString "double") = False := by simp; decide +kernel
@[simp] theorem sl_client_order : (Str.ofString "client" = Str.ofString "order") = False := by simp; decide +kernel
@[simp] theorem sl_client_arm : (Str.ofString "client" = Str.ofString "arm") = False := by simp; decide +kernel
@[simp] theorem sl_client_crash : (Str.ofString "client" = Str.ofString "crash") = False := by simp; decide +kernel
@[simp] theorem sl_client_restart : (Str.ofString "client" = Str.ofString "restart") = False := by simp; decide +kernel
@[simp] theorem sl_client_ticks : (Str.ofString "client" = Str.ofString "ticks") = False := by simp; decide +kernel
@[simp] theorem sl_client_operation : (Str.ofString "client" = Str.ofString "operation") = False := by simp; decide +kernel
@[simp] theorem sl_client_number : (Str.ofString "client" = Str.ofString "number") = False := by simp; decide +kernel
@[simp] theorem sl_client_letter : (Str.ofString "client" = Str.ofString "letter") = False := by simp; decide +kernel
@[simp] theorem sl_client_world : (Str.ofString "client" = Str.ofString "world") = False := by simp; decide +kernel
@[simp] theorem sl_client_text : (Str.ofString "client" = Str.ofString "text") = False := by simp; decide +kernel
@[simp] theorem sl_operation_tick : (Str.ofString "operation" = Str.ofString "tick") = False := by simp; decide +kernel
@[simp] theorem sl_operation_submit : (Str.ofString "operation" = Str.ofString "submit") = False := by simp; decide +kernel
@[simp] theorem sl_operation_deliver : (Str.ofString "operation" = Str.ofString "deliver") = False := by simp; decide +kernel
@[simp] theorem sl_operation_round : (Str.ofString "operation" = Str.ofString "round") = False := by simp; decide +kernel
@[simp] theorem sl_operation_calm : (Str.ofString "operation" = Str.ofString "calm") = False := by simp; decide +kernel
@[simp] theorem sl_operation_lose : (Str.ofString "operation" = Str.ofString "lose") = False := by simp; decide +kernel
@[simp] theorem sl_operation_double : (Str.ofString "operation" = Str.ofString "double") = False := by simp; decide +kernel
@[simp] theorem sl_operation_move : (Str.ofString "operation" = Str.ofString "move") = False := by simp; decide +kernel
@[simp] theorem sl_operation_order : (Str.ofString "operation" = Str.ofString "order") = False := by simp; decide +kernel
@[simp] theorem sl_operation_arm : (Str.ofString "operation" = Str.ofString "arm") = False := by simp; decide +kernel
@[simp] theorem sl_operation_crash : (Str.ofString "operation" = Str.ofString "crash") = False := by simp; decide +kernel
@[simp] theorem sl_operation_restart : (Str.ofString "operation" = Str.ofString "restart") = False := by simp; decide +kernel
@[simp] theorem sl_operation_ticks : (Str.ofString "operation" = Str.ofString "ticks") = False := by simp; decide +kernel
@[simp] theorem sl_operation_client : (Str.ofString "operation" = Str.ofString "client") = False := by simp; decide +kernel
@[simp] theorem sl_operation_number : (Str.ofString "operation" = Str.ofString "number") = False := by simp; decide +kernel
@[simp] theorem sl_operation_server : (Str.ofString "operation" = Str.ofString "server") = False := by simp; decide +kernel
@[simp] theorem sl_operation_letter : (Str.ofString "operation" = Str.ofString "letter") = False := by simp; decide +kernel
@[simp] theorem sl_operation_world : (Str.ofString "operation" = Str.ofString "world") = False := by simp; decide +kernel
@[simp] theorem sl_operation_text : (Str.ofString "operation" = Str.ofString "text") = False := by simp; decide +kernel
@[simp] theorem sl_number_tick : (Str.ofString "number" = Str.ofString "tick") = False := by simp; decide +kernel
@[simp] theorem sl_number_submit : (Str.ofString "number" = Str.ofString "submit") = False := by simp; decide +kernel
@[simp] theorem sl_number_deliver : (Str.ofString "number" = Str.ofString "deliver") = False := by simp; decide +kernel
@[simp] theorem sl_number_round : (Str.ofString "number" = Str.ofString "round") = False := by simp; decide +kernel
@[simp] theorem sl_number_calm : (Str.ofString "number" = Str.ofString "calm") = False := by simp; decide +kernel
@[simp] theorem sl_number_lose : (Str.ofString "number" = Str.ofString "lose") = False := by simp; decide +kernel
@[simp] theorem sl_number_double : (Str.ofString "number" = Str.ofString "double") = False := by simp; decide +kernel
@[simp] theorem sl_number_move : (Str.ofString "number" = Str.ofString "move") = False := by simp; decide +kernel
@[simp] theorem sl_number_order : (Str.ofString "number" = Str.ofString "order") = False := by simp; decide +kernel
@[simp] theorem sl_number_arm : (Str.ofString "number" = Str.ofString "arm") = False := by simp; decide +kernel
@[simp] theorem sl_number_crash : (Str.ofString "number" = Str.ofString "crash") = False := by simp; decide +kernel
@[simp] theorem sl_number_restart : (Str.ofString "number" = Str.ofString "restart") = False := by simp; decide +kernel
@[simp] theorem sl_number_ticks : (Str.ofString "number" = Str.ofString "ticks") = False := by simp; decide +kernel
@[simp] theorem sl_number_client : (Str.ofString "number" = Str.ofString "client") = False := by simp; decide +kernel
@[simp] theorem sl_number_operation : (Str.ofString "number" = Str.ofString "operation") = False := by simp; decide +kernel
@[simp] theorem sl_number_server : (Str.ofString "number" = Str.ofString "server") = False := by simp; decide +kernel
@[simp] theorem sl_number_letter : (Str.ofString "number" = Str.ofString "letter") = False := by simp; decide +kernel
@[simp] theorem sl_number_world : (Str.ofString "number" = Str.ofString "world") = False := by simp; decide +kernel
@[simp] theorem sl_number_text : (Str.ofString "number" = Str.ofString "text") = False := by simp; decide +kernel
@[simp] theorem sl_server_tick : (Str.ofString "server" = Str.ofString "tick") = False := by simp; decide +kernel
@[simp] theorem sl_server_submit : (Str.ofString "server" = Str.ofString "submit") = False := by simp; decide +kernel
@[simp] theorem sl_server_deliver : (Str.ofString "server" = Str.ofString "deliver") = False := by simp; decide +kernel
@[simp] theorem sl_server_round : (Str.ofString "server" = Str.ofString "round") = False := by simp; decide +kernel
@[simp] theorem sl_server_calm : (Str.ofString "server" = Str.ofString "calm") = False := by simp; decide +kernel
@[simp] theorem sl_server_lose : (Str.ofString "server" = Str.ofString "lose") = False := by simp; decide +kernel
@[simp] theorem sl_server_double : (Str.ofString "server" = Str.ofString "double") = False := by simp; decide +kernel
@[simp] theorem sl_server_order : (Str.ofString "server" = Str.ofString "order") = False := by simp; decide +kernel
@[simp] theorem sl_server_arm : (Str.ofString "server" = Str.ofString "arm") = False := by simp; decide +kernel
@[simp] theorem sl_server_crash : (Str.ofString "server" = Str.ofString "crash") = False := by simp; decide +kernel
@[simp] theorem sl_server_restart : (Str.ofString "server" = Str.ofString "restart") = False := by simp; decide +kernel
@[simp] theorem sl_server_ticks : (Str.ofString "server" = Str.ofString "ticks") = False := by simp; decide +kernel
@[simp] theorem sl_server_operation : (Str.ofString "server" = Str.ofString "operation") = False := by simp; decide +kernel
@[simp] theorem sl_server_number : (Str.ofString "server" = Str.ofString "number") = False := by simp; decide +kernel
@[simp] theorem sl_server_letter : (Str.ofString "server" = Str.ofString "letter") = False := by simp; decide +kernel
@[simp] theorem sl_server_world : (Str.ofString "server" = Str.ofString "world") = False := by simp; decide +kernel
@[simp] theorem sl_server_text : (Str.ofString "server" = Str.ofString "text") = False := by simp; decide +kernel
@[simp] theorem sl_letter_tick : (Str.ofString "letter" = Str.ofString "tick") = False := by simp; decide +kernel
@[simp] theorem sl_letter_submit : (Str.ofString "letter" = Str.ofString "submit") = False := by simp; decide +kernel
@[simp] theorem sl_letter_deliver : (Str.ofString "letter" = Str.ofString "deliver") = False := by simp; decide +kernel
@[simp] theorem sl_letter_round : (Str.ofString "letter" = Str.ofString "round") = False := by simp; decide +kernel
@[simp] theorem sl_letter_calm : (Str.ofString "letter" = Str.ofString "calm") = False := by simp; decide +kernel
@[simp] theorem sl_letter_lose : (Str.ofString "letter" = Str.ofString "lose") = False := by simp; decide +kernel
@[simp] theorem sl_letter_double : (Str.ofString "letter" = Str.ofString "double") = False := by simp; decide +kernel
@[simp] theorem sl_letter_move : (Str.ofString "letter" = Str.ofString "move") = False := by simp; decide +kernel
@[simp] theorem sl_letter_order : (Str.ofString "letter" = Str.ofString "order") = False := by simp; decide +kernel
@[simp] theorem sl_letter_arm : (Str.ofString "letter" = Str.ofString "arm") = False := by simp; decide +kernel
@[simp] theorem sl_letter_crash : (Str.ofString "letter" = Str.ofString "crash") = False := by simp; decide +kernel
@[simp] theorem sl_letter_restart : (Str.ofString "letter" = Str.ofString "restart") = False := by simp; decide +kernel
@[simp] theorem sl_letter_ticks : (Str.ofString "letter" = Str.ofString "ticks") = False := by simp; decide +kernel
@[simp] theorem sl_letter_client : (Str.ofString "letter" = Str.ofString "client") = False := by simp; decide +kernel
@[simp] theorem sl_letter_operation : (Str.ofString "letter" = Str.ofString "operation") = False := by simp; decide +kernel
@[simp] theorem sl_letter_number : (Str.ofString "letter" = Str.ofString "number") = False := by simp; decide +kernel
@[simp] theorem sl_letter_server : (Str.ofString "letter" = Str.ofString "server") = False := by simp; decide +kernel
@[simp] theorem sl_letter_world : (Str.ofString "letter" = Str.ofString "world") = False := by simp; decide +kernel
@[simp] theorem sl_letter_text : (Str.ofString "letter" = Str.ofString "text") = False := by simp; decide +kernel
@[simp] theorem sl_world_tick : (Str.ofString "world" = Str.ofString "tick") = False := by simp; decide +kernel
@[simp] theorem sl_world_submit : (Str.ofString "world" = Str.ofString "submit") = False := by simp; decide +kernel
@[simp] theorem sl_world_deliver : (Str.ofString "world" = Str.ofString "deliver") = False := by simp; decide +kernel
@[simp] theorem sl_world_round : (Str.ofString "world" = Str.ofString "round") = False := by simp; decide +kernel
@[simp] theorem sl_world_calm : (Str.ofString "world" = Str.ofString "calm") = False := by simp; decide +kernel
@[simp] theorem sl_world_lose : (Str.ofString "world" = Str.ofString "lose") = False := by simp; decide +kernel
@[simp] theorem sl_world_double : (Str.ofString "world" = Str.ofString "double") = False := by simp; decide +kernel
@[simp] theorem sl_world_move : (Str.ofString "world" = Str.ofString "move") = False := by simp; decide +kernel
@[simp] theorem sl_world_order : (Str.ofString "world" = Str.ofString "order") = False := by simp; decide +kernel
@[simp] theorem sl_world_arm : (Str.ofString "world" = Str.ofString "arm") = False := by simp; decide +kernel
@[simp] theorem sl_world_crash : (Str.ofString "world" = Str.ofString "crash") = False := by simp; decide +kernel
@[simp] theorem sl_world_restart : (Str.ofString "world" = Str.ofString "restart") = False := by simp; decide +kernel
@[simp] theorem sl_world_ticks : (Str.ofString "world" = Str.ofString "ticks") = False := by simp; decide +kernel
@[simp] theorem sl_world_client : (Str.ofString "world" = Str.ofString "client") = False := by simp; decide +kernel
@[simp] theorem sl_world_operation : (Str.ofString "world" = Str.ofString "operation") = False := by simp; decide +kernel
@[simp] theorem sl_world_number : (Str.ofString "world" = Str.ofString "number") = False := by simp; decide +kernel
@[simp] theorem sl_world_server : (Str.ofString "world" = Str.ofString "server") = False := by simp; decide +kernel
@[simp] theorem sl_world_letter : (Str.ofString "world" = Str.ofString "letter") = False := by simp; decide +kernel
@[simp] theorem sl_world_text : (Str.ofString "world" = Str.ofString "text") = False := by simp; decide +kernel
@[simp] theorem sl_text_tick : (Str.ofString "text" = Str.ofString "tick") = False := by simp; decide +kernel
@[simp] theorem sl_text_submit : (Str.ofString "text" = Str.ofString "submit") = False := by simp; decide +kernel
@[simp] theorem sl_text_deliver : (Str.ofString "text" = Str.ofString "deliver") = False := by simp; decide +kernel
@[simp] theorem sl_text_round : (Str.ofString "text" = Str.ofString "round") = False := by simp; decide +kernel
@[simp] theorem sl_text_calm : (Str.ofString "text" = Str.ofString "calm") = False := by simp; decide +kernel
@[simp] theorem sl_text_lose : (Str.ofString "text" = Str.ofString "lose") = False := by simp; decide +kernel
@[simp] theorem sl_text_double : (Str.ofString "text" = Str.ofString "double") = False := by simp; decide +kernel
@[simp] theorem sl_text_move : (Str.ofString "text" = Str.ofString "move") = False := by simp; decide +kernel
@[simp] theorem sl_text_order : (Str.ofString "text" = Str.ofString "order") = False := by simp; decide +kernel
@[simp] theorem sl_text_arm : (Str.ofString "text" = Str.ofString "arm") = False := by simp; decide +kernel
@[simp] theorem sl_text_crash : (Str.ofString "text" = Str.ofString "crash") = False := by simp; decide +kernel
@[simp] theorem sl_text_restart : (Str.ofString "text" = Str.ofString "restart") = False := by simp; decide +kernel
@[simp] theorem sl_text_ticks : (Str.ofString "text" = Str.ofString "ticks") = False := by simp; decide +kernel
@[simp] theorem sl_text_client : (Str.ofString "text" = Str.ofString "client") = False := by simp; decide +kernel
@[simp] theorem sl_text_operation : (Str.ofString "text" = Str.ofString "operation") = False := by simp; decide +kernel
@[simp] theorem sl_text_number : (Str.ofString "text" = Str.ofString "number") = False := by simp; decide +kernel
@[simp] theorem sl_text_server : (Str.ofString "text" = Str.ofString "server") = False := by simp; decide +kernel
@[simp] theorem sl_text_letter : (Str.ofString "text" = Str.ofString "letter") = False := by simp; decide +kernel
@[simp] theorem sl_text_world : (Str.ofString "text" = Str.ofString "world") = False := by simp; decide +kernel
theorem lzero : Str.ofString "0" = ofL [48] := lit1 "0" 48 rfl
theorem lminus : Str.ofString "-" = ofL [45] := lit1 "-" 45 rfl
theorem lspace : Str.ofString " " = ofL [32] := lit1 " " 32 rfl
theorem lempty : Str.ofString "" = ofL [] := rfl
theorem cut_pre (z : Str) (n : Nat) : cutS z none (some (n : Int)) = ofL ((chs z).take n) := by
  unfold cutS
  rw [HT.sIx_nat, HT.sIx_none, List.drop_zero]
  apply congrArg ofL
  have hn := chs_len z
  by_cases h : n ≤ z.length
  · rw [Nat.min_eq_left h]; rfl
  · rw [Nat.min_eq_right (by omega), Nat.sub_zero, List.take_of_length_le (by rw [len_cps]; exact Nat.le_refl _), List.take_of_length_le (by omega)]
theorem cut_suf (z : Str) (n : Nat) : cutS z (some (n : Int)) none = ofL ((chs z).drop n) := by
  unfold cutS
  rw [HT.sIx_nat, HT.sIx_none]
  apply congrArg ofL
  have hn := chs_len z
  by_cases h : n ≤ z.length
  · rw [Nat.min_eq_left h]
    refine List.take_of_length_le ?_
    rw [List.length_drop, len_cps]; exact Nat.le_refl _
  · rw [Nat.min_eq_right (by omega), List.drop_eq_nil_of_le (by omega : (chs z).length ≤ n), List.drop_eq_nil_of_le (by rw [len_cps]; exact Nat.le_refl _)]
    simp
theorem num_loop (x : Option D) (S : Store) : ∀ (cs : List Nat) (y : Option D), (∀ c ∈ cs, isDg c = true) → ∃ y', forL (fun _ => True) (gNm 1) lb_number_of_0 (cs.map BS.strAt) ⟨[x, y], []⟩ S = .nx ⟨[x, y'], []⟩ S
  | [], y, _ => ⟨y, by rw [List.map_nil, forL_nil]⟩
  | c :: cs, y, h => by
    obtain ⟨y', e⟩ := num_loop x S cs (some (BS.strAt c)) fun z hz => h z (by simp [hz])
    refine ⟨y', ?_⟩
    have hc := dig_in c
    rw [h c (by simp)] at hc
    have step : (gNm 1 (BS.strAt c) ⟨[x, y], []⟩ S).seq lb_number_of_0 = .nx ⟨[x, some (BS.strAt c)], []⟩ S := by
      simp (config := { implicitDefEqProofs := false }) [lb_number_of_0, BS.strAt, hc]
    rw [List.map_cons, forL_cons, step, RS.loop_nx, e]
theorem number_run (n : Nat) (hn : n < 10 ^ 12) (S : Store) : V_number_of [.str (ofL (TL.numL n))] S = .ok (.int (n : Int)) S := by
  have hd := numL_dg n
  have hne := TL.numL_ne n
  have hl : (TL.numL n).length ≤ 12 := TL.numL_len (by decide) hn
  have hv := intText_digits (x := ofL (TL.numL n)) (fun x hx => (isDg_iff x).mp (hd x hx)) hne (by rw [ofL_len]; omega)
  have hv : PySem.intText? (ofL (TL.numL n)) = some (n : Int) := by
    rw [hv]
    show some ((NumText.digitsVal (TL.numL n) : Nat) : Int) = _
    rw [TL.numL_val]
  have hz : TL.numL n = [48] ∨ ∃ c l, TL.numL n = c :: l ∧ c ≠ 48 := by
    by_cases h0 : n = 0
    · subst h0; exact .inl (TL.numL_lt (by decide))
    · exact .inr (numL_head (by omega))
  have hl2 : (ofL (TL.numL n)).length ≤ 12 := by rw [ofL_len]; exact hl
  have he : ofL (TL.numL n) = Str.ofString "" ↔ False := by
    rw [lempty]
    exact ⟨fun e => hne (ofL_inj e), False.elim⟩
  have hs : BS.signs (ofL (TL.numL n)) = (TL.numL n).map BS.strAt := rfl
  obtain ⟨y', lp⟩ := num_loop (some (.str (ofL (TL.numL n)))) S (TL.numL n) none hd
  have h640 : (ofL (TL.numL n)).length ≤ 640 := by omega
  have hsz : (ofL (TL.numL n)).length ≤ sizeLine := szL (by omega)
  have h12 : ¬ (12 : Int) < ((ofL (TL.numL n)).length : Int) := by omega
  rcases hz with hz | ⟨c, l, hz, hc⟩
  · rw [hz] at lp hv he hs h640 hsz h12 ⊢
    simp only [List.map_cons, List.map_nil] at lp hs
    have hx := fIx_chs S (ofL [48]) (by decide) 0
    have hx : fIx S (.str (ofL [48])) (.int 0) = some (.str (ofL [48])) := hx
    have lz := lzero
    generalize ofL [48] = z at *
    simp (config := { implicitDefEqProofs := false }) [V_number_of, m_number_of, c_MOST_FIGURES, hsz, he, h12, hs, lp, hx, lz, hv, h640]
  · have hx := fIx_chs S (ofL (TL.numL n)) (by rw [ofL_len]; omega) 0
    have hx : fIx S (.str (ofL (TL.numL n))) (.int 0) = some (.str (ofL [c])) := by
      refine Eq.trans hx ?_
      rw [chs_ofL, hz]
      rfl
    have hcz : (ofL [c] = Str.ofString "0") ↔ False := by
      rw [lzero]
      exact ⟨fun e => hc (by simpa using ofL_inj e), False.elim⟩
    generalize ofL (TL.numL n) = z at *
    simp (config := { implicitDefEqProofs := false }) [V_number_of, m_number_of, c_MOST_FIGURES, hsz, he, h12, hs, lp, hx, hcz, hv, h640]
theorem client_run (n : Nat) (h0 : 0 < n) (hn : n < 10 ^ 12) (S : Store) : V__client_of [.str (ofL (45 :: TL.numL n))] S = .ok (.int (-(n : Int))) S := by
  have nr := number_run n hn S
  have c1 : cutS (ofL (45 :: TL.numL n)) (some 1) none = ofL (TL.numL n) := by
    have := cut_suf (ofL (45 :: TL.numL n)) 1
    exact this
  have c2 : cutS (ofL (45 :: TL.numL n)) none (some 1) = ofL [45] := by
    have := cut_pre (ofL (45 :: TL.numL n)) 1
    exact this
  have hz : ¬ n = 0 := by omega
  have lm := lminus
  have hsz : (ofL (45 :: TL.numL n)).length ≤ sizeLine := by
    have hl : (TL.numL n).length ≤ 12 := TL.numL_len (by decide) hn
    exact szL (by rw [ofL_len, List.length_cons]; omega)
  generalize ofL (TL.numL n) = z at *
  generalize ofL (45 :: TL.numL n) = z2 at *
  simp (config := { implicitDefEqProofs := false }) [V__client_of, m__client_of, c1, c2, nr, lm, hz, hsz]
theorem wz_sm : ∀ {n : Nat} {d : D}, Pv n d → (tx n d).length ≤ 1000000 → Sm n d := by
  intro n
  induction n with
  | zero =>
    intro d h hl
    rcases Pv_cases h with rfl | ⟨i, rfl, hi⟩ | ⟨z, rfl, hz⟩ | ⟨k, ds, e, rfl, hd⟩
    · simp
    · simp
    · rw [tx_str] at hl
      have := (dbl_len 39 (chs z)).1
      rw [chs_len] at this
      simp only [List.length_cons, List.length_append, List.length_nil] at hl
      simp; omega
    · cases e
  | succ n ih =>
    intro d h hl
    rcases Pv_cases h with rfl | ⟨i, rfl, hi⟩ | ⟨z, rfl, hz⟩ | ⟨k, ds, e, rfl, hd⟩
    · simp
    · simp
    · rw [tx_str] at hl
      have := (dbl_len 39 (chs z)).1
      rw [chs_len] at this
      simp only [List.length_cons, List.length_append, List.length_nil] at hl
      simp; omega
    · cases e
      rw [tx_tup] at hl
      simp only [List.length_cons, List.length_append, List.length_nil] at hl
      have h1 := joinL_len (g := tx n) (ds := ds) fun d hd' => tx_len_pos (hd d hd')
      refine ⟨by omega, fun d hd' => ih (hd d hd') ?_⟩
      have := joinL_ge (List.mem_map_of_mem (f := tx n) hd')
      omega
theorem Wz.sm {n b : Nat} {d : D} (h : Wz n b d) (hb : b ≤ 1000000) : Sm n d := wz_sm h.1 (Nat.le_trans h.2 hb)
/-- the value of an operation, of a letter, read back -/
theorem value_run {n b : Nat} {ds : List D} (h : Wz n b (.tup ds)) (hn : n ≤ 10) (hb : b ≤ 200000) (k : Str) (hk : k = "letter" ∨ (k = "operation" ∧ isOp (.tup ds) = true)) (ln : Int) (S : Store) :
    ∃ T, V__value_of [.str k, .str (ofL (tx n (.tup ds))), .int ln] S = .ok (.tup ds) (S ++ T) := by
  obtain ⟨T, e⟩ := decode_back h.1 hn (Nat.le_trans h.2 hb) S
  generalize ofL (tx n (.tup ds)) = z at *
  rcases hk with rfl | ⟨rfl, ho⟩
  · exact ⟨T, by simp (config := { implicitDefEqProofs := false }) [V__value_of, m__value_of, e]⟩
  · obtain ⟨T2, hT⟩ := op_eq ((h.sm (by omega)).mono (Nat.le_succ n))
    have e2 := hT (S ++ T)
    rw [ho] at e2
    exact ⟨T ++ T2, by simp (config := { implicitDefEqProofs := false }) at e2; simp (config := { implicitDefEqProofs := false }) [V__value_of, m__value_of, e, e2]⟩
theorem in_two (S : Store) (x a b : Str) : inS S (.str x) (.tup [.str a, .str b]) = some (decide (a = x) || decide (b = x)) := by
  rw [inS_tup (n := 0) (m := 0) S (.str x) (.cons (.str a) (.cons (.str b) .nil))]
  simp
theorem item_num (n : Nat) (hn : n < 10 ^ 12) (k : Str) (hk : k = "ticks" ∨ k = "number" ∨ k = "server") (ln : Int) (S : Store) : V__item_of [.str k, .str (ofL (TL.numL n)), .int ln] S = .ok (.int (n : Int)) S := by
  have e := number_run n hn S
  generalize ofL (TL.numL n) = z at *
  rcases hk with rfl | rfl | rfl <;> simp (config := { implicitDefEqProofs := false }) [V__item_of, m__item_of, in_two, e]
theorem item_client (n : Nat) (h0 : 0 < n) (hn : n < 10 ^ 12) (ln : Int) (S : Store) : V__item_of [.str "client", .str (ofL (45 :: TL.numL n)), .int ln] S = .ok (.int (-(n : Int))) S := by
  have e := client_run n h0 hn S
  generalize ofL (45 :: TL.numL n) = z at *
  simp (config := { implicitDefEqProofs := false }) [V__item_of, m__item_of, in_two, e]
theorem item_value {n b : Nat} {ds : List D} (h : Wz n b (.tup ds)) (hn : n ≤ 10) (hb : b ≤ 200000) (k : Str) (hk : k = "letter" ∨ (k = "operation" ∧ isOp (.tup ds) = true)) (ln : Int) (S : Store) :
    ∃ T, V__item_of [.str k, .str (ofL (tx n (.tup ds))), .int ln] S = .ok (.tup ds) (S ++ T) := by
  obtain ⟨T, e⟩ := value_run h hn hb k hk ln S
  generalize ofL (tx n (.tup ds)) = z at *
  rcases hk with rfl | ⟨rfl, _⟩
  · exact ⟨T, by simp (config := { implicitDefEqProofs := false }) [V__item_of, m__item_of, in_two, e]⟩
  · exact ⟨T, by simp (config := { implicitDefEqProofs := false }) [V__item_of, m__item_of, in_two, e]⟩
end L_k64
namespace L_k64
open PySem PySem.Spec PyProof.Rows L2 BS
structure Part where
  k : Str
  d : D
  t : List Nat
inductive Part.ok : Part → Prop
  | num (k : Str) (n : Nat) (hn : n < 10 ^ 12) (hk : (k = "ticks" ∧ 1 ≤ n ∧ n ≤ 1000) ∨ k = "number" ∨ k = "server") : Part.ok ⟨k, .int (n : Int), TL.numL n⟩
  | cli (n : Nat) (h0 : 0 < n) (hn : n < 10 ^ 12) : Part.ok ⟨"client", .int (-(n : Int)), 45 :: TL.numL n⟩
  | val (k : Str) (n b : Nat) (ds : List D) (h : Wz n b (.tup ds)) (hn : n ≤ 9) (hb : b ≤ 100000) (hk : k = "letter" ∨ (k = "operation" ∧ isOp (.tup ds) = true)) : Part.ok ⟨k, .tup ds, tx n (.tup ds)⟩
def Part.pr (p : Part) : D := .tup [.str p.k, p.d]
def Part.ws (p : Part) : D := .tup [.str p.k, .str (ofL p.t)]
theorem Part.item {p : Part} (h : p.ok) (ln : Int) (S : Store) : ∃ T, V__item_of [.str p.k, .str (ofL p.t), .int ln] S = .ok p.d (S ++ T) := by
  cases h with
  | num k n hn hk => exact ⟨[], by rw [List.append_nil]; exact item_num n hn k (by rcases hk with ⟨h, _⟩ | h | h <;> simp [h]) ln S⟩
  | cli n h0 hn => exact ⟨[], by rw [List.append_nil]; exact item_client n h0 hn ln S⟩
  | val k n b ds h hn hb hk => exact item_value h (by omega) (by omega) k hk ln S
theorem Part.enc {n b : Nat} {ds : List D} (h : Wz n b (.tup ds)) (hn : n ≤ 9) (hb : b ≤ 100000) (S : Store) : ∃ T, V_encode [.tup ds] S = .ok (.str (ofL (tx n (.tup ds)))) (S ++ T) :=
  enc_ok h.1 (by omega) (Nat.le_trans h.2 (by omega)) S
theorem txI_neg' (n : Nat) (h : 0 < n) : Str.ofString (toString (-(n : Int))) = ofL (45 :: TL.numL n) := by
  have := txI_neg n h
  exact TL.ext_tl this
theorem txI_nat' (n : Nat) : Str.ofString (toString (n : Int)) = ofL (TL.numL n) := TL.ext_tl (txI_nat n)
theorem log_lt {n : Nat} (h : n < 10 ^ 12) : n.log2 < 1920 := log2_small (Nat.lt_trans h (by decide))
/-- one turn of _line_of, of _law_line -/
theorem Part.turn1 {p : Part} (h : p.ok) (a x2 x3 : Option D) (A : Store) (acc : List D) (T : Store) (hl : acc.length ≤ 1000) :
    ∃ T', ((gTp 2 (gsCons (gNm 2) (gsCons (gNm 3) gsNil))) p.pr ⟨[a, some (.obj A.length), x2, x3], []⟩ (A ++ .lst acc :: T)).seq lb__line_of_0 = .nx ⟨[a, some (.obj A.length), some (.str p.k), some p.d], []⟩ (A ++ .lst (acc ++ [.str (ofL p.t)]) :: T') := by
  have hal : acc.length < sizeLine := Nat.lt_of_lt_of_le (by omega : acc.length < 16777216) (szL' (Nat.le_refl _))
  cases h with
  | num k n hn hk =>
    have e := txI_nat' n
    have lg : (n : Int).natAbs.log2 < 1920 := by rw [Int.natAbs_natCast]; exact log_lt hn
    unfold Part.pr
    generalize ofL (TL.numL n) = z at *
    have hin : ∀ S, inS S (.str k) (.tup [.str "operation", .str "letter"]) = some false := fun S => by
      rw [in_two]
      rcases hk with ⟨rfl, _⟩ | rfl | rfl <;> simp
    have lg2 := log_lt hn
    exact ⟨T, by simp (config := { implicitDefEqProofs := false }) at e; simp (config := { implicitDefEqProofs := false }) [lb__line_of_0, gsCons, gsNil, hin, lg2, e, hal]⟩
  | cli n h0 hn =>
    have e := txI_neg' n h0
    have lg : (-(n : Int)).natAbs.log2 < 1920 := by rw [Int.natAbs_neg, Int.natAbs_natCast]; exact log_lt hn
    unfold Part.pr
    generalize ofL (45 :: TL.numL n) = z at *
    have hin : ∀ S, inS S (.str "client") (.tup [.str "operation", .str "letter"]) = some false := fun S => by
      rw [in_two]; simp
    have lg2 := log_lt hn
    exact ⟨T, by simp (config := { implicitDefEqProofs := false }) at e; simp (config := { implicitDefEqProofs := false }) [lb__line_of_0, gsCons, gsNil, hin, lg2, e, hal]⟩
  | val k n b ds h hn hb hk =>
    obtain ⟨T', e⟩ := Part.enc h hn hb (A ++ .lst acc :: T)
    unfold Part.pr
    generalize ofL (tx n (.tup ds)) = z at *
    have hin : ∀ S, inS S (.str k) (.tup [.str "operation", .str "letter"]) = some true := fun S => by
      rw [in_two]
      rcases hk with rfl | ⟨rfl, _⟩ <;> simp
    exact ⟨T ++ T', by simp (config := { implicitDefEqProofs := false }) at e; simp (config := { implicitDefEqProofs := false }) [lb__line_of_0, gsCons, gsNil, hin, e, hal]⟩
theorem Part.turn2 {p : Part} (h : p.ok) (a x2 : Option D) (A : Store) (acc : List D) (T : Store) (hl : acc.length ≤ 1000) :
    ∃ T', (gNm 2 p.d ⟨[a, some (.obj A.length), x2], []⟩ (A ++ .lst acc :: T)).seq lb__law_line_0 = .nx ⟨[a, some (.obj A.length), some p.d], []⟩ (A ++ .lst (acc ++ [.str (ofL p.t)]) :: T') := by
  have hal : acc.length < sizeLine := Nat.lt_of_lt_of_le (by omega : acc.length < 16777216) (szL' (Nat.le_refl _))
  cases h with
  | num k n hn hk =>
    have e := txI_nat' n
    have lg : (n : Int).natAbs.log2 < 1920 := by rw [Int.natAbs_natCast]; exact log_lt hn
    generalize ofL (TL.numL n) = z at *
    have lg2 := log_lt hn
    exact ⟨T, by simp (config := { implicitDefEqProofs := false }) at e; simp (config := { implicitDefEqProofs := false }) [lb__law_line_0, lg2, e, hal]⟩
  | cli n h0 hn =>
    have e := txI_neg' n h0
    have lg : (-(n : Int)).natAbs.log2 < 1920 := by rw [Int.natAbs_neg, Int.natAbs_natCast]; exact log_lt hn
    generalize ofL (45 :: TL.numL n) = z at *
    have lg2 := log_lt hn
    exact ⟨T, by simp (config := { implicitDefEqProofs := false }) at e; simp (config := { implicitDefEqProofs := false }) [lb__law_line_0, lg2, e, hal]⟩
  | val k n b ds h hn hb hk =>
    obtain ⟨T', e⟩ := Part.enc h hn hb (A ++ .lst acc :: T)
    generalize ofL (tx n (.tup ds)) = z at *
    exact ⟨T ++ T', by simp (config := { implicitDefEqProofs := false }) at e; simp (config := { implicitDefEqProofs := false }) [lb__law_line_0, e, hal]⟩
theorem line_loop (a : Option D) (A : Store) : ∀ (ps : List Part) (acc : List D) (T : Store) (x2 x3 : Option D), (∀ p ∈ ps, p.ok) → acc.length + ps.length ≤ 1000 →
    ∃ T' x2' x3', forL (fun _ => True) (gTp 2 (gsCons (gNm 2) (gsCons (gNm 3) gsNil))) lb__line_of_0 (ps.map Part.pr) ⟨[a, some (.obj A.length), x2, x3], []⟩ (A ++ .lst acc :: T) = .nx ⟨[a, some (.obj A.length), x2', x3'], []⟩ (A ++ .lst (acc ++ ps.map fun p => .str (ofL p.t)) :: T')
  | [], acc, T, x2, x3, _, _ => ⟨T, x2, x3, by rw [List.map_nil, forL_nil]; simp⟩
  | p :: ps, acc, T, x2, x3, h, hl => by
    rw [List.length_cons] at hl
    obtain ⟨T1, e⟩ := Part.turn1 (h p (by simp)) a x2 x3 A acc T (by omega)
    obtain ⟨T2, y2, y3, e2⟩ := line_loop a A ps (acc ++ [.str (ofL p.t)]) T1 (some (.str p.k)) (some p.d) (fun q hq => h q (by simp [hq])) (by rw [List.length_append, List.length_singleton]; omega)
    exact ⟨T2, y2, y3, by rw [List.map_cons, forL_cons, e, RS.loop_nx, e2]; simp⟩
theorem law_loop (a : Option D) (A : Store) : ∀ (ps : List Part) (acc : List D) (T : Store) (x2 : Option D), (∀ p ∈ ps, p.ok) → acc.length + ps.length ≤ 1000 →
    ∃ T' x2', forL (fun _ => True) (gNm 2) lb__law_line_0 (ps.map Part.d) ⟨[a, some (.obj A.length), x2], []⟩ (A ++ .lst acc :: T) = .nx ⟨[a, some (.obj A.length), x2'], []⟩ (A ++ .lst (acc ++ ps.map fun p => .str (ofL p.t)) :: T')
  | [], acc, T, x2, _, _ => ⟨T, x2, by rw [List.map_nil, forL_nil]; simp⟩
  | p :: ps, acc, T, x2, h, hl => by
    rw [List.length_cons] at hl
    obtain ⟨T1, e⟩ := Part.turn2 (h p (by simp)) a x2 A acc T (by omega)
    obtain ⟨T2, y2, e2⟩ := law_loop a A ps (acc ++ [.str (ofL p.t)]) T1 (some p.d) (fun q hq => h q (by simp [hq])) (by rw [List.length_append, List.length_singleton]; omega)
    exact ⟨T2, y2, by rw [List.map_cons, forL_cons, e, RS.loop_nx, e2]; simp⟩
theorem act_loop (a ln b : Option D) (lnv : Int) (A : Store) : ∀ (ps : List Part) (acc : List D) (T : Store) (x2 x3 : Option D), (∀ p ∈ ps, p.ok) → acc.length + ps.length ≤ 1000 →
    ∃ T' x5 x6, forL (fun _ => True) (gTp 2 (gsCons (gNm 5) (gsCons (gNm 6) gsNil))) lb__act_of_0 (ps.map Part.ws) ⟨[a, some (.int lnv), b, ln, some (.obj A.length), x2, x3], []⟩ (A ++ .lst acc :: T) = .nx ⟨[a, some (.int lnv), b, ln, some (.obj A.length), x5, x6], []⟩ (A ++ .lst (acc ++ ps.map Part.d) :: T')
  | [], acc, T, x2, x3, _, _ => ⟨T, x2, x3, by rw [List.map_nil, forL_nil]; simp⟩
  | p :: ps, acc, T, x2, x3, h, hl => by
    rw [List.length_cons] at hl
    obtain ⟨T1, e⟩ := Part.item (h p (by simp)) lnv (A ++ .lst acc :: T)
    obtain ⟨T2, y2, y3, e2⟩ := act_loop a ln b lnv A ps (acc ++ [p.d]) (T ++ T1) (some (.str p.k)) (some (.str (ofL p.t))) (fun q hq => h q (by simp [hq])) (by rw [List.length_append, List.length_singleton]; omega)
    have hal : acc.length < sizeLine := Nat.lt_of_lt_of_le (by omega : acc.length < 16777216) (szL' (Nat.le_refl _))
    have step : ((gTp 2 (gsCons (gNm 5) (gsCons (gNm 6) gsNil))) p.ws ⟨[a, some (.int lnv), b, ln, some (.obj A.length), x2, x3], []⟩ (A ++ .lst acc :: T)).seq lb__act_of_0 = .nx ⟨[a, some (.int lnv), b, ln, some (.obj A.length), some (.str p.k), some (.str (ofL p.t))], []⟩ (A ++ .lst (acc ++ [p.d]) :: (T ++ T1)) := by
      unfold Part.ws
      generalize ofL p.t = z at *
      generalize p.d = dd at *
      simp (config := { implicitDefEqProofs := false }) at e
      simp (config := { implicitDefEqProofs := false }) [lb__act_of_0, gsCons, gsNil, e, hal]
    exact ⟨T2, y2, y3, by rw [List.map_cons, forL_cons, step, RS.loop_nx, e2]; simp⟩
theorem check_loop (a b : Option D) (S : Store) : ∀ (ps : List Part) (x2 x3 : Option D), (∀ p ∈ ps, p.ok) →
    ∃ x2' x3', forL (fun _ => True) (gTp 2 (gsCons (gNm 2) (gsCons (gNm 3) gsNil))) lb_check_act_0 (ps.map Part.pr) ⟨[a, b, x2, x3], []⟩ S = .nx ⟨[a, b, x2', x3'], []⟩ S
  | [], x2, x3, _ => ⟨x2, x3, by rw [List.map_nil, forL_nil]⟩
  | p :: ps, x2, x3, h => by
    obtain ⟨y2, y3, e2⟩ := check_loop a b S ps (some (.str p.k)) (some p.d) (fun q hq => h q (by simp [hq]))
    have step : ((gTp 2 (gsCons (gNm 2) (gsCons (gNm 3) gsNil))) p.pr ⟨[a, b, x2, x3], []⟩ S).seq lb_check_act_0 = .nx ⟨[a, b, some (.str p.k), some p.d], []⟩ S := by
      unfold Part.pr
      cases h p (by simp) with
      | num k n hn hk =>
        have i1 := int_eq (n := 0) (d := .int n) (by simp) 1 1000 S
        have i2 := int_eq (n := 0) (d := .int n) (by simp) 0 1000000000000 S
        have g2 : isI (.int n) 0 1000000000000 = true := by simp [isI]; omega
        rw [g2] at i2
        rcases hk with ⟨rfl, h1, h2⟩ | rfl | rfl
        · have g1 : isI (.int n) 1 1000 = true := by simp [isI]; omega
          rw [g1] at i1
          simp (config := { implicitDefEqProofs := false }) [lb_check_act_0, gsCons, gsNil, c_MOST_TICKS, i1]
        · simp (config := { implicitDefEqProofs := false }) [lb_check_act_0, gsCons, gsNil, c_MOST_NUMBER, i2]
        · simp (config := { implicitDefEqProofs := false }) [lb_check_act_0, gsCons, gsNil]
      | cli n h0 hn => simp (config := { implicitDefEqProofs := false }) [lb_check_act_0, gsCons, gsNil]
      | val k n b ds h hn hb hk => rcases hk with rfl | ⟨rfl, _⟩ <;> simp (config := { implicitDefEqProofs := false }) [lb_check_act_0, gsCons, gsNil]
    exact ⟨y2, y3, by rw [List.map_cons, forL_cons, step, RS.loop_nx, e2]⟩
end L_k64
namespace L_k64
open PySem PySem.Spec PyProof.Rows L2 BS
def kindsD (ps : List Part) : List D := ps.map fun p => .str p.k
structure ActOk (v : Str) (ps : List Part) : Prop where
  tab : getK c_ACTS (.inr v) = some (.tup (kindsD ps))
  parts : ∀ p ∈ ps, p.ok
  len : ps.length ≤ 2
  v1 : (∀ c ∈ chs v, prC c = true ∧ c ≠ 32 ∧ c ≠ 35) ∧ 1 ≤ v.length ∧ v.length ≤ 10 ∧ v ≠ "world"
  shape : ((∀ p ∈ ps, 32 ∉ p.t ∧ p.k ≠ "operation" ∧ p.k ≠ "letter")) ∨ ∃ a d, ps = [a, d] ∧ 32 ∉ a.t ∧ (d.k = "operation" ∨ d.k = "letter")
def actD (v : Str) (ps : List Part) : D := .tup (.str v :: ps.map Part.d)
def lineL (v : Str) (ps : List Part) : List Nat := TL.joinL [32] (chs v :: ps.map Part.t)
theorem cut_tail (x : D) (ds : List D) : BS.cutD (x :: ds) (some 1) none = ds := by
  unfold BS.cutD HT.sIx
  simp
theorem zip_pr : ∀ ps : List Part, zipD (kindsD ps) (ps.map Part.d) = ps.map Part.pr
  | [] => rfl
  | p :: ps => by
    have := zip_pr ps
    unfold zipD kindsD at *
    simp only [List.map_cons, List.zip_cons_cons]
    rw [this]
    rfl
theorem zip_ws : ∀ ps : List Part, zipD (kindsD ps) (ps.map fun p => .str (ofL p.t)) = ps.map Part.ws
  | [] => rfl
  | p :: ps => by
    have := zip_ws ps
    unfold zipD kindsD at *
    simp only [List.map_cons, List.zip_cons_cons]
    rw [this]
    rfl
theorem Part.tlen {p : Part} (h : p.ok) : p.t.length ≤ 100000 ∧ ∀ c ∈ p.t, prC c = true := by
  cases h with
  | num k n hn hk =>
    have hl : (TL.numL n).length ≤ 12 := TL.numL_len (by decide) hn
    exact ⟨by show (TL.numL n).length ≤ _; omega, by have := prn_int (n : Int); rw [txI_nat] at this; exact this⟩
  | cli n h0 hn =>
    have hl : (TL.numL n).length ≤ 12 := TL.numL_len (by decide) hn
    exact ⟨by show (45 :: TL.numL n).length ≤ _; rw [List.length_cons]; omega, by have := prn_int (-(n : Int)); rw [txI_neg n h0] at this; exact this⟩
  | val k n b ds h hn hb hk => exact ⟨Nat.le_trans h.2 hb, prn_tx h.1⟩
/-- the words of a line as a list of the store joined -/
theorem join_run (v : Str) (ps : List Part) (h : ActOk v ps) (S : Store) (n : Nat) (hn : S[n]? = some (.lst (.str v :: ps.map fun p => .str (ofL p.t)))) : fnJoin [.str " ", .obj n] S = .ok (.str (ofL (lineL v ps))) S := by
  have hb : txtsOf (.str v :: ps.map fun p => .str (ofL p.t)) = some (((chs v) :: ps.map Part.t).map ofL) := by
    have := strs_back (((chs v) :: ps.map Part.t).map ofL)
    rw [List.map_map, List.map_cons, List.map_map] at this
    simp only [Function.comp_def, ofL_chs] at this
    exact this
  have hs : ((((chs v) :: ps.map Part.t).map ofL).map (·.length)).sum + (((chs v) :: ps.map Part.t).map ofL).length * (ofL [32]).length ≤ 16777216 := by
    have h1 : (ofL [32]).length = 1 := rfl
    have l1 := h.v1.2.2.1
    have lv : (ofL (chs v)).length = v.length := by rw [ofL_chs]
    have lp := h.len
    rw [h1, List.length_map, List.length_cons, List.length_map, List.map_cons, List.map_cons, List.sum_cons, lv, List.map_map, List.map_map]
    have : ((ps.map (((fun x : Str => x.length) ∘ ofL) ∘ Part.t))).sum ≤ ps.length * 100000 := by
      have := sum_le_mul 100000 (ps.map (((fun x : Str => x.length) ∘ ofL) ∘ Part.t)) (by
        intro x hx
        obtain ⟨p, hp, rfl⟩ := List.mem_map.mp hx
        simp only [Function.comp_def]
        rw [ofL_len]
        exact (Part.tlen (h.parts p hp)).1)
      rwa [List.length_map] at this
    omega
  have hj := join_ofLs 32 (chs v :: ps.map Part.t)
  unfold lineL
  rw [← hj]
  unfold fnJoin
  rw [lspace]
  dsimp only
  rw [show seqOf S (.obj n) = some (.str v :: ps.map fun p => .str (ofL p.t)) by simp [seqOf, tupOf, hn]]
  dsimp only
  rw [hb]
  dsimp only
  rw [if_pos hs]
theorem line_run (v : Str) (ps : List Part) (h : ActOk v ps) (S : Store) : ∃ T, V__line_of [actD v ps] S = .ok (.str (ofL (lineL v ps))) (S ++ T) := by
  obtain ⟨T, x2, x3, lp⟩ := line_loop (some (actD v ps)) S ps [.str v] [] none none h.parts (by have := h.len; simp; omega)
  have jr := join_run v ps h (S ++ .lst ([.str v] ++ ps.map fun p => .str (ofL p.t)) :: T) S.length (by simp)
  have tb := h.tab
  have zp := zip_pr ps
  have ct := cut_tail (.str v) (ps.map Part.d)
  refine ⟨.lst ([.str v] ++ ps.map fun p => .str (ofL p.t)) :: T, ?_⟩
  unfold actD at *
  generalize ofL (lineL v ps) = z at *
  generalize ps.map Part.pr = prs at *
  generalize kindsD ps = ks at *
  generalize ps.map Part.d = ds at *
  simp only [List.singleton_append] at lp jr ⊢
  generalize (D.str v :: ps.map fun p => D.str (ofL p.t)) = ws at *
  have e : m__line_of = mSeq (mSet 1 (mLst true (mCons (mIx (mVar 0) (mC (.int 0))) mNil))) (mSeq (mFor (iZip (mCons (mTabGet c_ACTS (mIx (mVar 0) (mC (.int 0)))) (mCons (mSl false (mVar 0) (oAt (mC (.int 1))) oNo) mNil))) (gTp 2 (gsCons (gNm 2) (gsCons (gNm 3) gsNil))) lb__line_of_0) (mRet (mBm .str fnJoin (mC (.str " ")) (mCons (mVar 1) mNil)))) := rfl
  generalize hG : gTp 2 (gsCons (gNm 2) (gsCons (gNm 3) gsNil)) = G at *
  generalize c_ACTS = tbl at *
  simp (config := { implicitDefEqProofs := false }) [-fnJoin_ev, V__line_of, e, BS.keyOf, tb, ct, zp, lp, jr]
theorem lline_run (v : Str) (ps : List Part) (h : ActOk v ps) (S : Store) : ∃ T, V__law_line [actD v ps] S = .ok (.str (ofL (lineL v ps))) (S ++ T) := by
  obtain ⟨T, x2, lp⟩ := law_loop (some (actD v ps)) S ps [.str v] [] none h.parts (by have := h.len; simp; omega)
  have jr := join_run v ps h (S ++ .lst ([.str v] ++ ps.map fun p => .str (ofL p.t)) :: T) S.length (by simp)
  have ct := cut_tail (.str v) (ps.map Part.d)
  refine ⟨.lst ([.str v] ++ ps.map fun p => .str (ofL p.t)) :: T, ?_⟩
  unfold actD at *
  generalize ofL (lineL v ps) = z at *
  generalize ps.map Part.d = ds at *
  simp only [List.singleton_append] at lp jr ⊢
  generalize (D.str v :: ps.map fun p => D.str (ofL p.t)) = ws at *
  simp (config := { implicitDefEqProofs := false }) [-fnJoin_ev, V__law_line, m__law_line, ct, lp, jr]
theorem check_run (v : Str) (ps : List Part) (h : ActOk v ps) (S : Store) : V_check_act [actD v ps] S = .ok .non S := by
  obtain ⟨x2, x3, lp⟩ := check_loop (some (actD v ps)) (some (.tup (kindsD ps))) S ps none none h.parts
  have tb := h.tab
  have zp := zip_pr ps
  have ct := cut_tail (.str v) (ps.map Part.d)
  have hl : ((ps.map Part.d).length : Int) = ((kindsD ps).length : Int) := by unfold kindsD; simp
  have ne : eqS S (.tup (.str v :: ps.map Part.d)) (.tup []) = some false := by
    have sm : Sm 10 (.tup (.str v :: ps.map Part.d)) := by
      refine ⟨by have := h.len; simp; omega, fun d hd => ?_⟩
      rcases List.mem_cons.mp hd with rfl | hd
      · have := h.v1.2.2.1; simp; omega
      · obtain ⟨p, hp, rfl⟩ := List.mem_map.mp hd
        cases h.parts p hp with
        | num k n hn hk => simp
        | cli n h0 hn => simp
        | val k n b ds h hn hb hk => exact (h.sm (by omega)).mono hn
    rw [eqS_sm (m := 0) S sm (by simp)]
    simp
  unfold actD at *
  generalize ps.map Part.pr = prs at *
  generalize kindsD ps = ks at *
  generalize ps.map Part.d = ds at *
  generalize hG : gTp 2 (gsCons (gNm 2) (gsCons (gNm 3) gsNil)) = G at *
  have e : m_check_act = mSeq (mIfS (mOr (mNot (mBl (mIsi .tuple (mVar 0)))) (mOr (mBl (mBin fEq (mVar 0) (mTup mNil))) (mOr (mNot (mBl (mIsi .str (mIx (mVar 0) (mC (.int 0)))))) (mTabIn true c_ACTS (mIx (mVar 0) (mC (.int 0))))))) (mRaise2 22 0 1 (mCons (mC (.int 0)) (mCons (mC (.str "act")) mNil))) mSkip)
    (mSeq (mSet 1 (mTabGet c_ACTS (mIx (mVar 0) (mC (.int 0)))))
    (mSeq (mIfS (mBl (mBin fNe (mCall fnLen (mCons (mVar 0) mNil)) (mBin fAdd (mCall fnLen (mCons (mVar 1) mNil)) (mC (.int 1))))) (mRaise2 22 0 1 (mCons (mC (.int 0)) (mCons (mC (.str "act")) mNil))) mSkip)
    (mFor (iZip (mCons (mVar 1) (mCons (mSl false (mVar 0) (oAt (mC (.int 1))) oNo) mNil))) G lb_check_act_0))) := by rw [← hG]; rfl
  generalize c_ACTS = tbl at *
  simp (config := { implicitDefEqProofs := false }) [V_check_act, e, BS.keyOf, tb, ct, zp, lp, hl, ne]
end L_k64
namespace L_k64
open PySem PySem.Spec PyProof.Rows L2 BS
noncomputable def a_s1 : SM := mSet 2 (mBm .str (fnSplit false) (mVar 0) (mCons (mC (.str " ")) mNil))
noncomputable def a_s2 : SM := mIfS (mTabIn true c_ACTS (mIx (mVar 2) (mC (.int 0)))) (mRaise2 22 0 1 (mCons (mVar 1) (mCons (mC (.str "verb")) mNil))) mSkip
noncomputable def a_s3 : SM := mSet 3 (mTabGet c_ACTS (mIx (mVar 2) (mC (.int 0))))
noncomputable def a_s4 : SM := mIfS (mAnd (mBl (mBin fNe (mVar 3) (mTup mNil))) (mBl (mBin fIn (mIx (mVar 3) (mUn fNeg (mC (.int 1)))) (mTup (mCons (mC (.str "operation")) (mCons (mC (.str "letter")) mNil)))))) (mSet 2 (mBm .str (fnSplitN false) (mVar 0) (mCons (mC (.str " ")) (mCons (mCall fnLen (mCons (mVar 3) mNil)) mNil)))) mSkip
noncomputable def a_rest : SM := (mSeq (mIfS (mBl (mBin fNe (mCall fnLen (mCons (mVar 2) mNil)) (mBin fAdd (mCall fnLen (mCons (mVar 3) mNil)) (mC (.int 1))))) (mRaise2 22 0 1 (mCons (mVar 1) (mCons (mC (.str "count")) mNil))) mSkip)
    (mSeq (mSet 4 (mLst true (mCons (mIx (mVar 2) (mC (.int 0))) mNil)))
    (mSeq (mFor (iZip (mCons (mVar 3) (mCons (mSl false (mVar 2) (oAt (mC (.int 1))) oNo) mNil))) (gTp 2 (gsCons (gNm 5) (gsCons (gNm 6) gsNil))) lb__act_of_0)
    (mRet (mCall fnTuple (mCons (mVar 4) mNil))))))
theorem act_split : m__act_of = mSeq a_s1 (mSeq a_s2 (mSeq a_s3 (mSeq a_s4 a_rest))) := rfl
def wordsD (v : Str) (ps : List Part) : List D := .str v :: ps.map fun p => .str (ofL p.t)
theorem rest_run (v : Str) (ps : List Part) (h : ActOk v ps) (a : Option D) (ln : Int) (S : Store) : ∃ T, a_rest ⟨[a, some (.int ln), some (.lst (wordsD v ps)), some (.tup (kindsD ps)), none, none, none], []⟩ S = .rt (actD v ps) (S ++ T) := by
  obtain ⟨T, x5, x6, lp⟩ := act_loop a (some (.tup (kindsD ps))) (some (.lst (wordsD v ps))) ln S ps [.str v] [] none none h.parts (by have := h.len; simp; omega)
  have zp := zip_ws ps
  have ct := cut_tail (.str v) (ps.map fun p => .str (ofL p.t))
  have hl : ((wordsD v ps).length : Int) = ((kindsD ps).length : Int) + 1 := by unfold wordsD kindsD; simp
  have hw : fIx S (.lst (wordsD v ps)) (.int 0) = some (.str v) := by unfold wordsD; simp
  have hsz : (wordsD v ps).length ≤ 1000 := by unfold wordsD; have := h.len; simp; omega
  have cw : BS.cutD (wordsD v ps) (some 1) none = ps.map fun p => .str (ofL p.t) := ct
  have ct2 : ([D.str v] ++ ps.map Part.d).length ≤ 1000 := by have := h.len; simp; omega
  refine ⟨.lst ([.str v] ++ ps.map Part.d) :: T, ?_⟩
  unfold actD
  generalize ps.map Part.ws = pws at *
  generalize kindsD ps = ks at *
  generalize wordsD v ps = ws at *
  generalize (ps.map fun p => D.str (ofL p.t)) = wt at *
  generalize hds : ps.map Part.d = ds at *
  have e : a_rest = (mSeq (mIfS (mBl (mBin fNe (mCall fnLen (mCons (mVar 2) mNil)) (mBin fAdd (mCall fnLen (mCons (mVar 3) mNil)) (mC (.int 1))))) (mRaise2 22 0 1 (mCons (mVar 1) (mCons (mC (.str "count")) mNil))) mSkip)
    (mSeq (mSet 4 (mLst true (mCons (mIx (mVar 2) (mC (.int 0))) mNil)))
    (mSeq (mFor (iZip (mCons (mVar 3) (mCons (mSl false (mVar 2) (oAt (mC (.int 1))) oNo) mNil))) (gTp 2 (gsCons (gNm 5) (gsCons (gNm 6) gsNil))) lb__act_of_0)
    (mRet (mCall fnTuple (mCons (mVar 4) mNil)))))) := rfl
  rw [e]
  clear e
  generalize hG : gTp 2 (gsCons (gNm 5) (gsCons (gNm 6) gsNil)) = G at *
  simp only [List.singleton_append, List.length_cons] at lp ct2 ⊢
  have lw : lstW S (.lst ws) = some (ws, fun _ => True) := rfl
  have lw2 : ∀ S, lstW S (.lst wt) = some (wt, fun _ => True) := fun _ => rfl
  simp (config := { implicitDefEqProofs := false }) [-fIx_lst, hl, hw, cw, lw2, zp, lp, ct2]
theorem kinds_not {ps : List Part} (hs : ∀ p ∈ ps, 32 ∉ p.t ∧ p.k ≠ "operation" ∧ p.k ≠ "letter") (hl : ps.length ≤ 2) (S : Store) (a b : Option D) (x : Option D) :
    a_s4 ⟨[a, b, x, some (.tup (kindsD ps)), none, none, none], []⟩ S = .nx ⟨[a, b, x, some (.tup (kindsD ps)), none, none, none], []⟩ S := by
  have one : ∀ (p : Part) (S : Store), (p.k ≠ "operation" ∧ p.k ≠ "letter") → inS S (.str p.k) (.tup [.str "operation", .str "letter"]) = some false := fun p S h => by
    rw [in_two, decide_eq_false (fun e => h.1 e.symm), decide_eq_false (fun e => h.2 e.symm)]; rfl
  have ne : ∀ (x : D) (r : List D) (S : Store), Fl 0 x → (∀ d ∈ r, Fl 0 d) → r.length ≤ 1 → eqS S (.tup (x :: r)) (.tup []) = some false := fun x r S hx hr hlr => by
    rw [eqS_fl (n := 1) (m := 1) S (.tup (.cons hx (.of hr))) (.tup .nil)]
    simp
  match ps, hs, hl with
  | [], _, _ =>
    have e0 : eqS S (.tup []) (.tup []) = some true := by rw [eqS_fl (n := 1) (m := 1) S (.tup .nil) (.tup .nil)]; simp
    unfold a_s4 kindsD
    simp (config := { implicitDefEqProofs := false }) [e0]
  | [p], hs, _ =>
    have h1 := one p S (hs p (by simp)).2
    have e0 := ne (.str p.k) [] S (.str _) (by simp) (by simp)
    have i1 : ixN 1 (-1) = some 0 := by decide
    unfold a_s4 kindsD
    simp (config := { implicitDefEqProofs := false }) [e0, h1, atI, i1]
  | [p, q], hs, _ =>
    have h1 := one q S (hs q (by simp)).2
    have e0 := ne (.str p.k) [.str q.k] S (.str _) (by intro d hd; simp at hd; subst hd; exact .str _) (by simp)
    have i1 : ixN 2 (-1) = some 1 := by decide
    unfold a_s4 kindsD
    simp (config := { implicitDefEqProofs := false }) [e0, h1, atI, i1]
end L_k64
namespace L_k64
open PySem PySem.Spec PyProof.Rows L2 BS
theorem lineL_cons (v : Str) (p : Part) (ps : List Part) : lineL v (p :: ps) = chs v ++ 32 :: TL.joinL [32] ((p :: ps).map Part.t) := by
  unfold lineL
  rw [List.map_cons, joinL_two]
theorem lineL_two (v : Str) (a d : Part) : lineL v [a, d] = chs v ++ 32 :: (a.t ++ 32 :: d.t) := by
  rw [lineL_cons, List.map_cons, List.map_cons, List.map_nil, joinL_two]
  simp [TL.joinL]
theorem vfree {v : Str} {ps : List Part} (h : ActOk v ps) : 32 ∉ chs v := fun hm => (h.v1.1 32 hm).2.1 rfl
theorem joinL_mem {c : Nat} : ∀ {ps : List (List Nat)} {x : Nat}, x ∈ TL.joinL [c] ps → x = c ∨ ∃ p ∈ ps, x ∈ p
  | [], x, h => by simp [TL.joinL] at h
  | [p], x, h => .inr ⟨p, by simp, by simpa [TL.joinL] using h⟩
  | p :: q :: ps, x, h => by
    rw [joinL_two] at h
    rcases List.mem_append.mp h with h | h
    · exact .inr ⟨p, by simp, h⟩
    · rcases List.mem_cons.mp h with h | h
      · exact .inl h
      · rcases joinL_mem h with h | ⟨r, hr, h⟩
        · exact .inl h
        · exact .inr ⟨r, by simp at hr ⊢; exact .inr hr, h⟩
theorem joinL_bnd (c b : Nat) : ∀ {ps : List (List Nat)}, (∀ p ∈ ps, p.length ≤ b) → (TL.joinL [c] ps).length ≤ ps.length * (b + 1)
  | [], _ => by simp [TL.joinL]
  | [p], h => by have := h p (by simp); simp [TL.joinL]; omega
  | p :: q :: ps, h => by
    have h1 := h p (by simp)
    have h2 := joinL_bnd c b (ps := q :: ps) fun r hr => h r (by simp at hr ⊢; exact .inr hr)
    rw [joinL_two, List.length_append, List.length_cons, List.length_cons (a := p), Nat.succ_mul]
    omega
theorem lineL_prn {v : Str} {ps : List Part} (h : ActOk v ps) : (∀ c ∈ lineL v ps, prC c = true) ∧ (lineL v ps).length ≤ 300003 := by
  refine ⟨fun c hc => ?_, ?_⟩
  · rcases joinL_mem hc with rfl | ⟨p, hp, hc⟩
    · decide
    · rcases List.mem_cons.mp hp with rfl | hp
      · exact (h.v1.1 c hc).1
      · obtain ⟨q, hq, rfl⟩ := List.mem_map.mp hp
        exact (Part.tlen (h.parts q hq)).2 c hc
  · have := joinL_bnd 32 100000 (ps := chs v :: ps.map Part.t) (by
      intro p hp
      rcases List.mem_cons.mp hp with rfl | hp
      · rw [chs_len]; have := h.v1.2.2.1; omega
      · obtain ⟨q, hq, rfl⟩ := List.mem_map.mp hp
        exact (Part.tlen (h.parts q hq)).1)
    rw [List.length_cons, List.length_map] at this
    have := h.len
    unfold lineL
    omega
theorem split_line {v : Str} {ps : List Part} (h : ActOk v ps) : (∃ ws, Txt.split (ofL (lineL v ps)) (ofL [32]) = v :: ws) ∧ ((∀ p ∈ ps, 32 ∉ p.t) → (Txt.split (ofL (lineL v ps)) (ofL [32])).map D.str = wordsD v ps) := by
  have all : (∀ p ∈ ps, 32 ∉ p.t) → Txt.split (ofL (lineL v ps)) (ofL [32]) = v :: ps.map fun p => ofL p.t := fun hf => by
    rw [split_ofL _ _ (by decide)]
    unfold lineL
    rw [split_joinL 32 _ (by simp) (fun p hp => by
      rcases List.mem_cons.mp hp with rfl | hp
      · exact vfree h
      · obtain ⟨q, hq, rfl⟩ := List.mem_map.mp hp
        exact hf q hq), List.map_cons, ofL_chs, List.map_map]
    rfl
  refine ⟨?_, fun hf => by rw [all hf, List.map_cons, List.map_map]; rfl⟩
  cases ps with
  | nil => exact ⟨[], all (by simp)⟩
  | cons p ps =>
    rw [lineL_cons]
    obtain ⟨ws, e⟩ := split_head (chs v) (TL.joinL [32] ((p :: ps).map Part.t)) 32 (by decide) (vfree h)
    exact ⟨ws, by rw [e, ofL_chs]⟩
theorem act_run {v : Str} {ps : List Part} (h : ActOk v ps) (ln : Int) (S : Store) : ∃ T, V__act_of [.str (ofL (lineL v ps)), .int ln] S = .ok (actD v ps) (S ++ T) := by
  obtain ⟨⟨ws, hw⟩, hall⟩ := split_line h
  have hlen : (ofL (lineL v ps)).length + 2 ≤ sizeLine := by
    rw [ofL_len]
    have := (lineL_prn h).2
    exact szL' (by omega)
  have l1 : ((ofL [32]).length == 0) = false := rfl
  have tb := h.tab
  have s1 : a_s1 ⟨[some (.str (ofL (lineL v ps))), some (.int ln), none, none, none, none, none], []⟩ S = .nx ⟨[some (.str (ofL (lineL v ps))), some (.int ln), some (.lst ((v :: ws).map .str)), none, none, none, none], []⟩ S := by
    unfold a_s1
    have l2 : ¬ (ofL [32]).length = 0 := by decide
    rw [← hw]
    rw [lspace]
    generalize ofL (lineL v ps) = z at *
    generalize ofL [32] = sp at *
    simp (config := { implicitDefEqProofs := false }) [l2, hlen]
  have s2 : ∀ (x3 : Option D), a_s2 ⟨[some (.str (ofL (lineL v ps))), some (.int ln), some (.lst ((v :: ws).map .str)), x3, none, none, none], []⟩ S = .nx ⟨[some (.str (ofL (lineL v ps))), some (.int ln), some (.lst ((v :: ws).map .str)), x3, none, none, none], []⟩ S := fun x3 => by
    unfold a_s2
    generalize ofL (lineL v ps) = z at *
    generalize kindsD ps = ks at *
    generalize c_ACTS = tbl at *
    simp (config := { implicitDefEqProofs := false }) [BS.keyOf, tb]
  have s3 : a_s3 ⟨[some (.str (ofL (lineL v ps))), some (.int ln), some (.lst ((v :: ws).map .str)), none, none, none, none], []⟩ S = .nx ⟨[some (.str (ofL (lineL v ps))), some (.int ln), some (.lst ((v :: ws).map .str)), some (.tup (kindsD ps)), none, none, none], []⟩ S := by
    unfold a_s3
    generalize ofL (lineL v ps) = z at *
    generalize kindsD ps = ks at *
    generalize c_ACTS = tbl at *
    simp (config := { implicitDefEqProofs := false }) [BS.keyOf, tb]
  have s4 : a_s4 ⟨[some (.str (ofL (lineL v ps))), some (.int ln), some (.lst ((v :: ws).map .str)), some (.tup (kindsD ps)), none, none, none], []⟩ S = .nx ⟨[some (.str (ofL (lineL v ps))), some (.int ln), some (.lst (wordsD v ps)), some (.tup (kindsD ps)), none, none, none], []⟩ S := by
    rcases h.shape with hs | ⟨a, d, rfl, ha, hd⟩
    · rw [← hw, hall fun p hp => (hs p hp).1]
      exact kinds_not hs h.len S _ _ _
    · have sm := splitMax_two (chs v) a.t d.t 32 (by decide) (vfree h) ha
      rw [← lineL_two, ofL_chs] at sm
      have h1 : inS S (.str d.k) (.tup [.str "operation", .str "letter"]) = some true := by
        rw [in_two]
        rcases hd with e | e <;> rw [e] <;> simp
      have e0 : eqS S (.tup [.str a.k, .str d.k]) (.tup []) = some false := by
        rw [eqS_fl (n := 1) (m := 1) S (.tup (.cons (.str _) (.cons (.str _) .nil))) (.tup .nil)]
        simp
      have i1 : ixN 2 (-1) = some 1 := by decide
      have l2 : ¬ (ofL [32]).length = 0 := by decide
      unfold a_s4 kindsD wordsD
      rw [lspace]
      generalize ofL (lineL v [a, d]) = z at *
      generalize ofL [32] = sp at *
      simp (config := { implicitDefEqProofs := false }) [e0, h1, atI, i1, l2, hlen, sm]
  obtain ⟨T, r⟩ := rest_run v ps h (some (.str (ofL (lineL v ps)))) ln S
  refine ⟨T, ?_⟩
  have key : m__act_of ⟨[some (.str (ofL (lineL v ps))), some (.int ln), none, none, none, none, none], []⟩ S = .rt (actD v ps) (S ++ T) := by
    rw [act_split, mSeq_ev, s1, RS.seq_nx, mSeq_ev, s2, RS.seq_nx, mSeq_ev, s3, RS.seq_nx, mSeq_ev, s4, RS.seq_nx, r]
  show den 7 m__act_of _ S = _
  rw [den_app]
  show (match m__act_of ⟨[some (.str (ofL (lineL v ps))), some (.int ln), none, none, none, none, none], []⟩ S with
    | .nx _ S => R.ok D.non S
    | .rt d S => .ok d S
    | .exc c fs _ S => .exc c fs S
    | _ => .stuck) = _
  rw [key]
theorem act_sm {v : Str} {ps : List Part} (h : ActOk v ps) : Sm 10 (actD v ps) := by
  refine ⟨by have := h.len; simp; omega, fun d hd => ?_⟩
  rcases List.mem_cons.mp hd with rfl | hd
  · have := h.v1.2.2.1; simp; omega
  · obtain ⟨p, hp, rfl⟩ := List.mem_map.mp hd
    cases h.parts p hp with
    | num k n hn hk => simp
    | cli n h0 hn => simp
    | val k n b ds h hn hb hk => exact (h.sm (by omega)).mono hn
theorem aline_run {v : Str} {ps : List Part} (h : ActOk v ps) (S : Store) : ∃ T, V_act_line [actD v ps] S = .ok (.str (ofL (lineL v ps))) (S ++ T) := by
  have c := check_run v ps h S
  obtain ⟨T, l⟩ := line_run v ps h S
  obtain ⟨T2, a⟩ := act_run h 0 (S ++ T)
  have eq := eqS_refl (S ++ T ++ T2) (act_sm h).fl
  refine ⟨T ++ T2, ?_⟩
  rw [← List.append_assoc]
  generalize actD v ps = act at *
  generalize ofL (lineL v ps) = z at *
  generalize S ++ T ++ T2 = S2 at *
  generalize S ++ T = S1 at *
  simp (config := { implicitDefEqProofs := false }) [V_act_line, m_act_line, c, l, a, eq]
end L_k64
namespace L_k64
open PySem PySem.Spec PyProof.Rows L2 BS
theorem num_free (n : Nat) : 32 ∉ TL.numL n := fun h => by
  have := numL_dg n 32 h
  revert this
  decide
theorem verbs : ∀ v ∈ ["tick", "submit", "deliver", "round", "calm", "lose", "double", "move", "order", "arm", "crash", "restart"], (∀ c ∈ chs (Str.ofString v), prC c = true ∧ c ≠ 32 ∧ c ≠ 35) ∧ 1 ≤ (Str.ofString v).length ∧ (Str.ofString v).length ≤ 10 ∧ Str.ofString v ≠ Str.ofString "world" := by decide +kernel
def pnum (k : Str) (n : Nat) : Part := ⟨k, .int (n : Int), TL.numL n⟩
theorem ok_none {v : String} (hv : v ∈ ["tick", "submit", "deliver", "round", "calm", "lose", "double", "move", "order", "arm", "crash", "restart"]) (tab : getK c_ACTS (.inr v) = some (.tup [])) : ActOk v [] :=
  ⟨tab, (fun p hp => nomatch hp), by simp, verbs v hv, .inl fun p hp => nomatch hp⟩
theorem ok_num {v : String} (hv : v ∈ ["tick", "submit", "deliver", "round", "calm", "lose", "double", "move", "order", "arm", "crash", "restart"]) {k : Str} (tab : getK c_ACTS (.inr v) = some (.tup [.str k])) (n : Nat) (hn : n < 10 ^ 12) (hk : (k = "ticks" ∧ 1 ≤ n ∧ n ≤ 1000) ∨ k = "number" ∨ k = "server") : ActOk v [pnum k n] := by
  refine ⟨tab, fun p hp => ?_, by simp, verbs v hv, .inl fun p hp => ?_⟩
  · rw [List.mem_singleton.mp hp]; exact .num k n hn hk
  · rw [List.mem_singleton.mp hp]
    exact ⟨num_free n, by rcases hk with ⟨rfl, _⟩ | rfl | rfl <;> simp [pnum], by rcases hk with ⟨rfl, _⟩ | rfl | rfl <;> simp [pnum]⟩
theorem ok_num2 {v : String} (hv : v ∈ ["tick", "submit", "deliver", "round", "calm", "lose", "double", "move", "order", "arm", "crash", "restart"]) (tab : getK c_ACTS (.inr v) = some (.tup [.str "server", .str "number"])) (n m : Nat) (hn : n < 10 ^ 12) (hm : m < 10 ^ 12) : ActOk v [pnum "server" n, pnum "number" m] := by
  refine ⟨tab, fun p hp => ?_, by simp, verbs v hv, .inl fun p hp => ?_⟩
  · simp only [List.mem_cons, List.not_mem_nil, or_false] at hp
    rcases hp with rfl | rfl
    · exact .num _ n hn (.inr (.inr rfl))
    · exact .num _ m hm (.inr (.inl rfl))
  · simp only [List.mem_cons, List.not_mem_nil, or_false] at hp
    rcases hp with rfl | rfl <;> exact ⟨num_free _, by simp [pnum], by simp [pnum]⟩
theorem ok_sub {ds : List D} (tab : getK c_ACTS (.inr "submit") = some (.tup [.str "client", .str "operation"])) (n : Nat) (h0 : 0 < n) (hn : n < 10 ^ 12) (ho : isOp (.tup ds) = true) (hw : Wz 1 400 (.tup ds)) : ActOk "submit" [⟨"client", .int (-(n : Int)), 45 :: TL.numL n⟩, ⟨"operation", .tup ds, tx 1 (.tup ds)⟩] := by
  refine ⟨tab, fun p hp => ?_, by simp, verbs "submit" (by simp), .inr ⟨_, _, rfl, ?_, .inl rfl⟩⟩
  · simp only [List.mem_cons, List.not_mem_nil, or_false] at hp
    rcases hp with rfl | rfl
    · exact .cli n h0 hn
    · exact .val _ 1 400 ds hw (by omega) (by omega) (.inr ⟨rfl, ho⟩)
  · simp [num_free]
theorem ok_ord {ds : List D} (tab : getK c_ACTS (.inr "order") = some (.tup [.str "server", .str "letter"])) (n : Nat) (hn : n < 10 ^ 12) (hw : Wz 6 82856 (.tup ds)) : ActOk "order" [pnum "server" n, ⟨"letter", .tup ds, tx 6 (.tup ds)⟩] := by
  refine ⟨tab, fun p hp => ?_, by simp, verbs "order" (by simp), .inr ⟨_, _, rfl, num_free n, .inr rfl⟩⟩
  simp only [List.mem_cons, List.not_mem_nil, or_false] at hp
  rcases hp with rfl | rfl
  · exact .num _ n hn (.inr (.inr rfl))
  · exact .val _ 6 82856 ds hw (by omega) (by omega) (.inl rfl)
theorem m12' (r : Int) : r % 12 = 0 ∨ r % 12 = 1 ∨ r % 12 = 2 ∨ r % 12 = 3 ∨ r % 12 = 4 ∨ r % 12 = 5 ∨ r % 12 = 6 ∨ r % 12 = 7 ∨ r % 12 = 8 ∨ r % 12 = 9 ∨ r % 12 = 10 ∨ r % 12 = 11 := by omega
noncomputable def la_tail : SM :=     (mSeq (mIfS (mBl (mBin fEq (mVar 2) (mC (.str "round")))) (mRet (mTup (mCons (mVar 2) mNil))) mSkip)
    (mSeq (mIfS (mOr (mBl (mBin fEq (mVar 2) (mC (.str "tick")))) (mBl (mBin fEq (mVar 2) (mC (.str "calm"))))) (mRet (mTup (mCons (mVar 2) (mCons (mBin fAdd (mC (.int 1)) (mBin fMod (mVar 4) (mC (.int 1000)))) mNil)))) mSkip)
    (mSeq (mIfS (mBl (mBin fEq (mVar 2) (mC (.str "submit")))) (mRet (mTup (mCons (mVar 2) (mCons (mBin fSub (mUn fNeg (mC (.int 1))) (mBin fMod (mVar 4) (mBin fSub (mBin fPow (mC (.int 10)) (mC (.int 12))) (mC (.int 1))))) (mCons (mCall V__law_operation (mCons (mBin fDiv (mVar 3) (mC (.int 100))) mNil)) mNil))))) mSkip)
    (mSeq (mIfS (mBl (mBin fEq (mVar 2) (mC (.str "order")))) (mRet (mTup (mCons (mVar 2) (mCons (mVar 4) (mCons (mCall V__law_letter (mCons (mBin fDiv (mVar 3) (mC (.int 20))) mNil)) mNil))))) mSkip)
    (mSeq (mIfS (mOr (mBl (mBin fEq (mVar 2) (mC (.str "arm")))) (mBl (mBin fEq (mVar 2) (mC (.str "restart"))))) (mRet (mTup (mCons (mVar 2) (mCons (mBin fMod (mBin fDiv (mVar 3) (mC (.int 20))) (mC (.int 31))) (mCons (mVar 4) mNil))))) mSkip)
    (mRet (mTup (mCons (mVar 2) (mCons (mVar 4) mNil)))))))))
noncomputable def la_head (t : SM) : SM := (mSeq (mSet 1 (mLst false (mCons (mC (.str "tick")) (mCons (mC (.str "submit")) (mCons (mC (.str "deliver")) (mCons (mC (.str "round")) (mCons (mC (.str "calm")) (mCons (mC (.str "lose")) (mCons (mC (.str "double")) (mCons (mC (.str "move")) (mCons (mC (.str "order")) (mCons (mC (.str "arm")) (mCons (mC (.str "crash")) (mCons (mC (.str "restart")) mNil))))))))))))))
    (mSeq (mSet 2 (mIx (mVar 1) (mBin fMod (mVar 0) (mC (.int 12)))))
    (mSeq (mSet 3 (mBin fDiv (mVar 0) (mC (.int 12))))
    (mSeq (mSet 4 (mBin fMod (mVar 3) (mC (.int 20))))
    (mSeq (mIfS (mBl (mBin fEq (mBin fMod (mBin fDiv (mVar 3) (mC (.int 20))) (mC (.int 5))) (mC (.int 0)))) (mSet 4 (mBin fMod (mBin fDiv (mVar 3) (mC (.int 100))) (mBin fPow (mC (.int 10)) (mC (.int 12))))) mSkip) t)))))
theorem la_split : m__law_act = la_head la_tail := rfl
def verbL : List D := [.str "tick", .str "submit", .str "deliver", .str "round", .str "calm", .str "lose", .str "double", .str "move", .str "order", .str "arm", .str "crash", .str "restart"]
theorem la_head_run (t : SM) (r : Int) (v : Str) (S : Store) (hv : fIx S (.lst verbL) (.int (r % 12)) = some (.str v)) : ∃ n : Nat, n < 10 ^ 12 ∧ la_head t ⟨[some (.int r), none, none, none, none], []⟩ S = t ⟨[some (.int r), some (.lst verbL), some (.str v), some (.int (r / 12)), some (.int (n : Int))], []⟩ S := by
  by_cases q : r / 12 / 20 % 5 = 0
  · have e : r / 12 / 100 % 1000000000000 = ((r / 12 / 100 % 1000000000000).toNat : Int) := by omega
    refine ⟨(r / 12 / 100 % 1000000000000).toNat, by omega, ?_⟩
    rw [← e]
    unfold la_head
    unfold verbL at *
    simp (config := { implicitDefEqProofs := false }) [-fIx_lst, hv, q]
  · have e : r / 12 % 20 = ((r / 12 % 20).toNat : Int) := by omega
    refine ⟨(r / 12 % 20).toNat, by omega, ?_⟩
    rw [← e]
    unfold la_head
    unfold verbL at *
    simp (config := { implicitDefEqProofs := false }) [-fIx_lst, hv, q]
theorem la_tail_run (v : String) (hm : v ∈ ["tick", "submit", "deliver", "round", "calm", "lose", "double", "move", "order", "arm", "crash", "restart"]) (x0 x1 : Option D) (q : Int) (n : Nat) (hn : n < 10 ^ 12) (S : Store) :
    ∃ v2 ps T, ActOk v2 ps ∧ la_tail ⟨[x0, x1, some (.str v), some (.int q), some (.int (n : Int))], []⟩ S = .rt (actD v2 ps) (S ++ T) := by
  have hn' : n < 1000000000000 := hn
  simp only [List.mem_cons, List.not_mem_nil, or_false] at hm
  rcases hm with rfl | rfl | rfl | rfl | rfl | rfl | rfl | rfl | rfl | rfl | rfl | rfl
  · refine ⟨"tick", [pnum "ticks" (1 + n % 1000)], [], ok_num (by simp) (by rfl) _ (by show _ < 1000000000000; omega) (.inl ⟨rfl, by omega, by omega⟩), ?_⟩
    unfold la_tail actD pnum
    simp (config := { implicitDefEqProofs := false })
  · obtain ⟨ds, ho, hw, _, _, e⟩ := lopw (q / 100)
    refine ⟨"submit", [⟨"client", .int (-((1 + n % 999999999999 : Nat) : Int)), 45 :: TL.numL (1 + n % 999999999999)⟩, ⟨"operation", .tup ds, tx 1 (.tup ds)⟩], [], ok_sub (by rfl) _ (by omega) (by show _ < 1000000000000; omega) ho hw, ?_⟩
    unfold la_tail actD
    have e2 : -((1 + n % 999999999999 : Nat) : Int) = -1 - (n : Int) % 999999999999 := by omega
    simp only [List.map_cons, List.map_nil]
    rw [e2]
    simp (config := { implicitDefEqProofs := false }) [e]
  · refine ⟨"deliver", [pnum "number" n], [], ok_num (by simp) (by rfl) _ hn (.inr (.inl rfl)), ?_⟩
    unfold la_tail actD pnum
    simp (config := { implicitDefEqProofs := false })
  · refine ⟨"round", [], [], ok_none (by simp) (by rfl), ?_⟩
    unfold la_tail actD
    simp (config := { implicitDefEqProofs := false })
  · refine ⟨"calm", [pnum "ticks" (1 + n % 1000)], [], ok_num (by simp) (by rfl) _ (by show _ < 1000000000000; omega) (.inl ⟨rfl, by omega, by omega⟩), ?_⟩
    unfold la_tail actD pnum
    simp (config := { implicitDefEqProofs := false })
  · refine ⟨"lose", [pnum "number" n], [], ok_num (by simp) (by rfl) _ hn (.inr (.inl rfl)), ?_⟩
    unfold la_tail actD pnum
    simp (config := { implicitDefEqProofs := false })
  · refine ⟨"double", [pnum "number" n], [], ok_num (by simp) (by rfl) _ hn (.inr (.inl rfl)), ?_⟩
    unfold la_tail actD pnum
    simp (config := { implicitDefEqProofs := false })
  · refine ⟨"move", [pnum "number" n], [], ok_num (by simp) (by rfl) _ hn (.inr (.inl rfl)), ?_⟩
    unfold la_tail actD pnum
    simp (config := { implicitDefEqProofs := false })
  · obtain ⟨_, S1, e, k, as, T, hk, rfl, hw, _, _, rfl⟩ := gives_iff.mp (lletter_ok (q / 20) S)
    refine ⟨"order", [pnum "server" n, ⟨"letter", .tup (.str k :: as), tx 6 (.tup (.str k :: as))⟩], T, ok_ord (by rfl) _ hn hw, ?_⟩
    unfold la_tail actD pnum
    generalize D.str k :: as = ds at *
    simp (config := { implicitDefEqProofs := false }) [e]
  · have e3 : q / 20 % 31 = ((q / 20 % 31).toNat : Int) := by omega
    refine ⟨"arm", [pnum "server" (q / 20 % 31).toNat, pnum "number" n], [], ok_num2 (by simp) (by rfl) _ _ (by show _ < 1000000000000; omega) hn, ?_⟩
    unfold la_tail actD pnum
    simp only [List.map_cons, List.map_nil]
    rw [← e3]
    simp (config := { implicitDefEqProofs := false })
  · refine ⟨"crash", [pnum "server" n], [], ok_num (by simp) (by rfl) _ hn (.inr (.inr rfl)), ?_⟩
    unfold la_tail actD pnum
    simp (config := { implicitDefEqProofs := false })
  · have e3 : q / 20 % 31 = ((q / 20 % 31).toNat : Int) := by omega
    refine ⟨"restart", [pnum "server" (q / 20 % 31).toNat, pnum "number" n], [], ok_num2 (by simp) (by rfl) _ _ (by show _ < 1000000000000; omega) hn, ?_⟩
    unfold la_tail actD pnum
    simp only [List.map_cons, List.map_nil]
    rw [← e3]
    simp (config := { implicitDefEqProofs := false })
theorem lact_run (r : Int) (S : Store) : ∃ v ps T, ActOk v ps ∧ V__law_act [.int r] S = .ok (actD v ps) (S ++ T) := by
  have hv : ∃ v ∈ ["tick", "submit", "deliver", "round", "calm", "lose", "double", "move", "order", "arm", "crash", "restart"], fIx S (.lst verbL) (.int (r % 12)) = some (.str (Str.ofString v)) := by
    rcases m12' r with h | h | h | h | h | h | h | h | h | h | h | h <;> rw [h] <;> simp [verbL]
  obtain ⟨v, hm, hv⟩ := hv
  obtain ⟨n, hn, e⟩ := la_head_run la_tail r v S hv
  obtain ⟨v2, ps, T, ha, et⟩ := la_tail_run v hm (some (.int r)) (some (.lst verbL)) (r / 12) n hn S
  refine ⟨v2, ps, T, ha, ?_⟩
  have key : m__law_act ⟨[some (.int r), none, none, none, none], []⟩ S = .rt (actD v2 ps) (S ++ T) := by rw [la_split, e, et]
  show den 5 m__law_act _ S = _
  rw [den_app]
  show (match m__law_act ⟨[some (.int r), none, none, none, none], []⟩ S with
    | .nx _ S => R.ok D.non S
    | .rt d S => .ok d S
    | .exc c fs _ S => .exc c fs S
    | _ => .stuck) = _
  rw [key]
end L_k64
namespace L_k64
open PySem PySem.Spec PyProof.Rows L2 BS
theorem starts_one (l : List Nat) (c : Nat) : Txt.startswith (ofL l) (ofL [c]) = decide (l.head? = some c) := by
  have := StrLaws.subAt_one (ofL l) c 0
  unfold Txt.startswith
  have h1 : (ofL [c]).length = 1 := rfl
  have h2 : (ofL l).cps.toList[0]? = l.head? := by
    show l[0]? = l.head?
    cases l <;> rfl
  rw [h2] at this
  by_cases q : l.head? = some c
  · rw [decide_eq_true q]
    obtain ⟨a, b⟩ := this.mpr q
    have b : Builtin.Str.subAt (ofL l) (ofL [c]) 0 = true := b
    rw [b, Bool.and_true]
    exact decide_eq_true a
  · rw [decide_eq_false q]
    cases hh : Builtin.Str.subAt (ofL l) (ofL [c]) 0 with
    | false => simp
    | true =>
      cases hl : decide (0 + (ofL [c]).length ≤ (ofL l).length) with
      | false => rfl
      | true =>
        rw [decide_eq_true_eq, h1] at hl
        exact absurd (this.mp ⟨hl, hh⟩) q
theorem lhash : Str.ofString "#" = ofL [35] := lit1 "#" 35 rfl
theorem lnl : Str.ofString "\n" = ofL [10] := lit1 "\n" 10 rfl
inductive RowOk : List Nat → Option (Str × List Part) → Prop
  | skip (l : List Nat) (h : l = [] ∨ l.head? = some 35) (hp : ∀ c ∈ l, prC c = true) (hl : l.length ≤ 11) : RowOk l none
  | act (v : Str) (ps : List Part) (h : ActOk v ps) : RowOk (lineL v ps) (some (v, ps))
def dues : Nat → List (List Nat × Option (Str × List Part)) → List D
  | _, [] => []
  | i, (_, none) :: r => dues (i + 1) r
  | i, (_, some (v, ps)) :: r => .tup [.int (((i + 1 : Nat)) : Int), actD v ps] :: dues (i + 1) r
theorem dues_app : ∀ (rs : List (List Nat × Option (Str × List Part))) (i : Nat) (r), dues i (rs ++ [r]) = dues i rs ++ dues (i + rs.length) [r]
  | [], i, r => by simp [dues]
  | (l, none) :: rs, i, r => by
    show dues (i + 1) (rs ++ [r]) = _
    rw [dues_app rs (i + 1) r, List.length_cons, show i + 1 + rs.length = i + (rs.length + 1) by omega]
    rfl
  | (l, some (v, ps)) :: rs, i, r => by
    show _ :: dues (i + 1) (rs ++ [r]) = _
    rw [dues_app rs (i + 1) r, List.length_cons, show i + 1 + rs.length = i + (rs.length + 1) by omega]
    rfl
def frP (t f : Option D) (n : Nat) (x3 x4 x5 x6 x7 x8 : Option D) : Ev := ⟨[t, f, some (.obj n), x3, x4, x5, x6, x7, x8], []⟩
theorem lineL_len {v : Str} {ps : List Part} (h : ActOk v ps) : (lineL v ps).length ≤ 200013 := by
  have hv := h.v1.2.2.1
  have hl := h.len
  cases ps with
  | nil =>
    have : lineL v [] = chs v := by unfold lineL; simp [TL.joinL]
    rw [this, chs_len]; omega
  | cons p ps =>
    have := joinL_bnd 32 100000 (ps := (p :: ps).map Part.t) (by
      intro x hx
      obtain ⟨q, hq, rfl⟩ := List.mem_map.mp hx
      exact (Part.tlen (h.parts q hq)).1)
    rw [List.length_map] at this
    rw [lineL_cons, List.length_append, List.length_cons, chs_len]
    omega
theorem row_pr {l : List Nat} {o : Option (Str × List Part)} (h : RowOk l o) : (∀ c ∈ l, prC c = true) ∧ l.length ≤ 200013 := by
  cases h with
  | skip l h hp hl => exact ⟨hp, by omega⟩
  | act v ps h => exact ⟨(lineL_prn h).1, lineL_len h⟩
theorem isPr_ofL {l : List Nat} (h : ∀ c ∈ l, prC c = true) : isPr (.str (ofL l)) = true := by
  show l.all prC = true
  rw [List.all_eq_true]; exact h
theorem row_prin {l : List Nat} (h : ∀ c ∈ l, prC c = true) (hl : l.length ≤ 200013) (S : Store) : V_is_printable [.str (ofL l)] S = .ok (.bl true) S := by
  have := prin_eq (n := 0) (d := .str (ofL l)) (by simp [ofL_len]; omega) S
  rw [this, isPr_ofL h]
theorem step_skip {l : List Nat} (h : l = [] ∨ l.head? = some 35) (hp : ∀ c ∈ l, prC c = true) (hl : l.length ≤ 11) (i : Nat) (t f : Option D) (n : Nat) (x3 x4 x5 x6 x7 x8 : Option D) (S : Store) :
    (gTp 2 (gsCons (gNm 3) (gsCons (gNm 4) gsNil)) (.tup [.int (i : Int), .str (ofL l)]) (frP t f n x3 x4 x5 x6 x7 x8) S).seq lb_parse_schedule_0 = .ct (frP t f n (some (.int (i : Int))) (some (.str (ofL l))) (some (.int ((i : Int) + 1))) x6 x7 x8) S := by
  have pr := row_prin hp (by omega) S
  have st := starts_one l 35
  rw [← lhash] at st
  rcases h with rfl | h
  · have he : (ofL [] = Str.ofString "") := rfl
    rw [he] at pr st ⊢
    unfold frP
    simp (config := { implicitDefEqProofs := false }) [lb_parse_schedule_0, gsCons, gsNil, pr]
  · have he : ¬ (ofL l = Str.ofString "") := fun e => by
      rw [lempty] at e
      rw [ofL_inj e] at h
      simp at h
    rw [decide_eq_true h] at st
    generalize ofL l = z at *
    unfold frP
    simp (config := { implicitDefEqProofs := false }) [lb_parse_schedule_0, gsCons, gsNil, pr, he, st]
theorem line_head {v : Str} {ps : List Part} (h : ActOk v ps) : ∃ c r, lineL v ps = c :: r ∧ c ≠ 35 := by
  have h1 := h.v1.2.1
  have e : ∃ c r, chs v = c :: r := by
    cases q : chs v with
    | nil => have := chs_len v; rw [q] at this; simp at this; omega
    | cons c r => exact ⟨c, r, rfl⟩
  obtain ⟨c, r, e⟩ := e
  have hc : c ≠ 35 := (h.v1.1 c (by rw [e]; simp)).2.2
  cases ps with
  | nil => exact ⟨c, r, by unfold lineL; simp [TL.joinL, e], hc⟩
  | cons p ps => exact ⟨c, _, by rw [lineL_cons, e]; rfl, hc⟩
theorem step_act {v : Str} {ps : List Part} (h : ActOk v ps) (i : Nat) (t : Option D) (f1 f2 f3 : D) (A : Store) (acc : List D) (T : Store) (hl : acc.length ≤ 1000) (x3 x4 x5 x6 x7 x8 : Option D) :
    ∃ T' x6', (gTp 2 (gsCons (gNm 3) (gsCons (gNm 4) gsNil)) (.tup [.int (i : Int), .str (ofL (lineL v ps))]) (frP t (some (.tup [f1, f2, f3])) A.length x3 x4 x5 x6 x7 x8) (A ++ .lst acc :: T)).seq lb_parse_schedule_0 = .nx (frP t (some (.tup [f1, f2, f3])) A.length (some (.int (i : Int))) (some (.str (ofL (lineL v ps)))) (some (.int ((i : Int) + 1))) x6' x7 x8) (A ++ .lst (acc ++ [.tup [.int (((i + 1 : Nat)) : Int), actD v ps]]) :: T') := by
  have pr := row_prin (lineL_prn h).1 (lineL_len h) (A ++ .lst acc :: T)
  obtain ⟨c, r, hc, h35⟩ := line_head h
  have st : Txt.startswith (ofL (lineL v ps)) (Str.ofString "#") = false := by
    rw [lhash, starts_one, hc]
    simp [h35]
  have he : ¬ (ofL (lineL v ps) = Str.ofString "") := fun e => by
    rw [lempty] at e
    rw [ofL_inj e] at hc
    cases hc
  obtain ⟨⟨ws, hw⟩, _⟩ := split_line h
  have hlen : (ofL (lineL v ps)).length + 2 ≤ sizeLine := by
    rw [ofL_len]
    have := lineL_len h
    exact szL' (by omega)
  have l2 : ¬ (ofL [32]).length = 0 := by decide
  have hv := h.v1.2.2.2
  obtain ⟨T1, ar⟩ := act_run h (((i : Int)) + 1) (A ++ .lst acc :: T)
  have hal : acc.length < sizeLine := Nat.lt_of_lt_of_le (by omega : acc.length < 16777216) (szL' (Nat.le_refl _))
  have lsp := lspace
  rw [← lsp] at hw l2
  refine ⟨T ++ T1, some (.lst ((v :: ws).map .str)), ?_⟩
  rw [show (((i + 1 : Nat)) : Int) = (i : Int) + 1 by omega]
  clear hc
  generalize ofL (lineL v ps) = z at *
  generalize actD v ps = ad at *
  unfold frP
  simp (config := { implicitDefEqProofs := false }) at ar
  simp (config := { implicitDefEqProofs := false }) [lb_parse_schedule_0, gsCons, gsNil, pr, he, st, l2, hlen, hw, hv, ar, hal]
def ixD (i : Nat) (ls : List (List Nat)) : List D := ((ls.map fun l => D.str (ofL l)).zipIdx i).map fun p => .tup [.int (p.2 : Nat), p.1]
theorem ixD_cons (i : Nat) (l : List Nat) (ls : List (List Nat)) : ixD i (l :: ls) = .tup [.int (i : Nat), .str (ofL l)] :: ixD (i + 1) ls := by
  unfold ixD
  rw [List.map_cons, List.zipIdx_cons, List.map_cons]
theorem ixD_nil (i : Nat) : ixD i [] = [] := rfl
theorem ixD_app : ∀ (a b : List (List Nat)) (i : Nat), ixD i (a ++ b) = ixD i a ++ ixD (i + a.length) b
  | [], b, i => by simp [ixD_nil]
  | x :: a, b, i => by
    rw [List.cons_append, ixD_cons, ixD_cons, ixD_app a b (i + 1), List.length_cons, show i + 1 + a.length = i + (a.length + 1) by omega]
    rfl
theorem skips_loop (t f : Option D) (n : Nat) (S : Store) (ms : List D) : ∀ (ls : List (List Nat)) (i : Nat) (x3 x4 x5 x6 x7 x8 : Option D), (∀ l ∈ ls, RowOk l none) →
    ∃ y3 y4 y5, forL (fun _ => True) (gTp 2 (gsCons (gNm 3) (gsCons (gNm 4) gsNil))) lb_parse_schedule_0 (ixD i ls ++ ms) (frP t f n x3 x4 x5 x6 x7 x8) S = forL (fun _ => True) (gTp 2 (gsCons (gNm 3) (gsCons (gNm 4) gsNil))) lb_parse_schedule_0 ms (frP t f n y3 y4 y5 x6 x7 x8) S
  | [], i, x3, x4, x5, _, _, _, _ => ⟨x3, x4, x5, by rw [ixD_nil, List.nil_append]⟩
  | l :: ls, i, x3, x4, x5, x6, x7, x8, h => by
    cases h l (by simp) with
    | skip l h1 h2 h3 =>
      obtain ⟨y3, y4, y5, e⟩ := skips_loop t f n S ms ls (i + 1) (some (.int (i : Int))) (some (.str (ofL l))) (some (.int ((i : Int) + 1))) x6 x7 x8 fun q hq => h q (by simp [hq])
      exact ⟨y3, y4, y5, by rw [ixD_cons, List.cons_append, forL_cons, step_skip h1 h2 h3, RS.loop_ct, e]⟩
theorem rows_loop (t : Option D) (f1 f2 f3 : D) (A : Store) : ∀ (rs : List (List Nat × Option (Str × List Part))) (i : Nat) (acc : List D) (T : Store) (x3 x4 x5 x6 x7 x8 : Option D), (∀ r ∈ rs, RowOk r.1 r.2) → acc.length + rs.length ≤ 1000 →
    ∃ T' y3 y4 y5 y6, forL (fun _ => True) (gTp 2 (gsCons (gNm 3) (gsCons (gNm 4) gsNil))) lb_parse_schedule_0 (ixD i (rs.map (·.1))) (frP t (some (.tup [f1, f2, f3])) A.length x3 x4 x5 x6 x7 x8) (A ++ .lst acc :: T) = .nx (frP t (some (.tup [f1, f2, f3])) A.length y3 y4 y5 y6 x7 x8) (A ++ .lst (acc ++ dues i rs) :: T')
  | [], i, acc, T, x3, x4, x5, x6, _, _, _, _ => ⟨T, x3, x4, x5, x6, by rw [List.map_nil, ixD_nil, forL_nil]; simp [dues]⟩
  | (l, o) :: rs, i, acc, T, x3, x4, x5, x6, x7, x8, h, hl => by
    rw [List.length_cons] at hl
    have hr := h (l, o) (by simp)
    simp only at hr
    cases hr with
    | skip l h1 h2 h3 =>
      obtain ⟨T', y3, y4, y5, y6, e⟩ := rows_loop t f1 f2 f3 A rs (i + 1) acc T (some (.int (i : Int))) (some (.str (ofL l))) (some (.int ((i : Int) + 1))) x6 x7 x8 (fun q hq => h q (by simp [hq])) (by omega)
      exact ⟨T', y3, y4, y5, y6, by rw [List.map_cons, ixD_cons, forL_cons, step_skip h1 h2 h3, RS.loop_ct, e]; rfl⟩
    | act v ps ha =>
      obtain ⟨T1, z6, e1⟩ := step_act ha i t f1 f2 f3 A acc T (by omega) x3 x4 x5 x6 x7 x8
      obtain ⟨T', y3, y4, y5, y6, e⟩ := rows_loop t f1 f2 f3 A rs (i + 1) (acc ++ [.tup [.int (((i + 1 : Nat)) : Int), actD v ps]]) T1 (some (.int (i : Int))) (some (.str (ofL (lineL v ps)))) (some (.int ((i : Int) + 1))) z6 x7 x8 (fun q hq => h q (by simp [hq])) (by rw [List.length_append, List.length_singleton]; omega)
      exact ⟨T', y3, y4, y5, y6, by rw [List.map_cons, ixD_cons, forL_cons, e1, RS.loop_nx, e, List.append_assoc]; rfl⟩
/-- the world line -/
def worldL (s c : Nat) : List Nat := [119, 111, 114, 108, 100] ++ 32 :: (TL.numL s ++ 32 :: TL.numL c)
theorem lworld : Str.ofString "world" = ofL [119, 111, 114, 108, 100] := litL "world" _ rfl
theorem worldL_ok {s c : Nat} (hs : s < 10 ^ 12) (hc : c < 10 ^ 12) : (∀ x ∈ worldL s c, prC x = true) ∧ (worldL s c).length ≤ 31 ∧ (worldL s c).head? = some 119 := by
  have l1 : (TL.numL s).length ≤ 12 := TL.numL_len (by decide) hs
  have l2 : (TL.numL c).length ≤ 12 := TL.numL_len (by decide) hc
  have p1 : ∀ x ∈ TL.numL s, prC x = true := by have := prn_int (s : Int); rw [txI_nat] at this; exact this
  have p2 : ∀ x ∈ TL.numL c, prC x = true := by have := prn_int (c : Int); rw [txI_nat] at this; exact this
  refine ⟨fun x hx => ?_, by unfold worldL; simp; omega, rfl⟩
  unfold worldL at hx
  rcases List.mem_append.mp hx with hx | hx
  · exact (by decide : ∀ x ∈ [119, 111, 114, 108, 100], prC x = true) x hx
  · rcases List.mem_cons.mp hx with rfl | hx
    · decide
    · rcases List.mem_append.mp hx with hx | hx
      · exact p1 x hx
      · rcases List.mem_cons.mp hx with rfl | hx
        · decide
        · exact p2 x hx
theorem world_split (s c : Nat) : Txt.split (ofL (worldL s c)) (ofL [32]) = [ofL [119, 111, 114, 108, 100], ofL (TL.numL s), ofL (TL.numL c)] :=
  split_three _ _ _ 32 (by decide) (by decide) (num_free s) (num_free c)
theorem world_of_run {s c : Nat} (hs : s < 10 ^ 12) (hc : c < 10 ^ 12) (w : D) (ln : Int) (S : Store) : V__world_of [.lst [w, .str (ofL (TL.numL s)), .str (ofL (TL.numL c))], .int ln] S = .ok (.tup [.int (s : Int), .int (c : Int)]) S := by
  have e1 := number_run s hs S
  have e2 := number_run c hc S
  generalize ofL (TL.numL s) = z1 at *
  generalize ofL (TL.numL c) = z2 at *
  simp (config := { implicitDefEqProofs := false }) [V__world_of, m__world_of, e1, e2]
theorem step_world {s c : Nat} (hs : s < 10 ^ 12) (hc : c < 10 ^ 12) (i : Nat) (t : Option D) (n : Nat) (x3 x4 x5 x6 x7 x8 : Option D) (S : Store) :
    ∃ x6', (gTp 2 (gsCons (gNm 3) (gsCons (gNm 4) gsNil)) (.tup [.int (i : Int), .str (ofL (worldL s c))]) (frP t (some .non) n x3 x4 x5 x6 x7 x8) S).seq lb_parse_schedule_0 = .nx (frP t (some (.tup [.int ((i : Int) + 1), .int (s : Int), .int (c : Int)])) n (some (.int (i : Int))) (some (.str (ofL (worldL s c)))) (some (.int ((i : Int) + 1))) x6' (some (.int (s : Int))) (some (.int (c : Int)))) S := by
  obtain ⟨w1, w2, w3⟩ := worldL_ok hs hc
  have pr := row_prin w1 (by omega) S
  have st : Txt.startswith (ofL (worldL s c)) (Str.ofString "#") = false := by
    rw [lhash, starts_one, w3]
    simp
  have he : ¬ (ofL (worldL s c) = Str.ofString "") := fun e => by
    rw [lempty] at e
    rw [ofL_inj e] at w3
    cases w3
  have hlen : (ofL (worldL s c)).length + 2 ≤ sizeLine := by
    rw [ofL_len]
    exact szL' (by omega)
  have l2 : ¬ (ofL [32]).length = 0 := by decide
  have hw := world_split s c
  have lsp := lspace
  rw [← lsp] at hw l2
  rw [← lworld] at hw
  have wo := world_of_run hs hc (.str "world") ((i : Int) + 1) S
  refine ⟨some (.lst [.str "world", .str (ofL (TL.numL s)), .str (ofL (TL.numL c))]), ?_⟩
  generalize ofL (worldL s c) = z at *
  generalize ofL (TL.numL s) = z1 at *
  generalize ofL (TL.numL c) = z2 at *
  unfold frP
  simp (config := { implicitDefEqProofs := false }) [lb_parse_schedule_0, gsCons, gsNil, pr, he, st, l2, hlen, hw, wo]
theorem enumD_ix (ls : List (List Nat)) : enumD (ls.map fun l => D.str (ofL l)) = ixD 0 ls := rfl
/-- a schedule read back -/
theorem parse_run {s c : Nat} (hs : s < 10 ^ 12) (hc : c < 10 ^ 12) (sk : List (List Nat)) (hsk : ∀ l ∈ sk, RowOk l none) (rs : List (List Nat × Option (Str × List Part))) (hrs : ∀ r ∈ rs, RowOk r.1 r.2) (hl : rs.length ≤ 1000)
    (hlen : (TL.joinL [10] (sk ++ worldL s c :: rs.map (·.1))).length + 2 ≤ 16777216) (S : Store) :
    ∃ T, V_parse_schedule [.str (ofL (TL.joinL [10] (sk ++ worldL s c :: rs.map (·.1))))] S = .ok (.tup [.int ((sk.length : Nat) + 1 : Int), .int (s : Int), .int (c : Int), .obj S.length]) (S ++ .lst (dues (sk.length + 1) rs) :: T) := by
  obtain ⟨w1, w2, w3⟩ := worldL_ok hs hc
  have no10 : ∀ l ∈ sk ++ worldL s c :: rs.map (·.1), 10 ∉ l := by
    have f : ∀ {l : List Nat}, (∀ x ∈ l, prC x = true) → 10 ∉ l := fun h hm => absurd (h 10 hm) (by decide)
    intro l hm
    rcases List.mem_append.mp hm with hm | hm
    · exact f (row_pr (hsk l hm)).1
    · rcases List.mem_cons.mp hm with rfl | hm
      · exact f w1
      · obtain ⟨r, hr, rfl⟩ := List.mem_map.mp hm
        exact f (row_pr (hrs r hr)).1
  have sp : Txt.split (ofL (TL.joinL [10] (sk ++ worldL s c :: rs.map (·.1)))) (ofL [10]) = (sk ++ worldL s c :: rs.map (·.1)).map ofL := by
    rw [split_ofL _ _ (by decide), split_joinL 10 _ (by simp) no10]
  have hz : (ofL (TL.joinL [10] (sk ++ worldL s c :: rs.map (·.1)))).length + 2 ≤ sizeLine := by
    rw [ofL_len]; exact szL' hlen
  generalize ofL (TL.joinL [10] (sk ++ worldL s c :: rs.map (·.1))) = z at *
  obtain ⟨y3, y4, y5, e1⟩ := skips_loop (some (.str z)) (some .non) S.length (S ++ [.lst []]) (ixD (0 + sk.length) (worldL s c :: rs.map (·.1))) sk 0 none none none none none none hsk
  obtain ⟨x6, e2⟩ := step_world hs hc (0 + sk.length) (some (.str z)) S.length y3 y4 y5 none none none (S ++ [.lst []])
  obtain ⟨T, v3, v4, v5, v6, e3⟩ := rows_loop (some (.str z)) (.int ((0 + sk.length : Nat) + 1 : Int)) (.int (s : Int)) (.int (c : Int)) S rs (0 + sk.length + 1) [] [] (some (.int ((0 + sk.length : Nat) : Int))) (some (.str (ofL (worldL s c)))) (some (.int ((0 + sk.length : Nat) + 1 : Int))) x6 (some (.int (s : Int))) (some (.int (c : Int))) hrs (by simpa using hl)
  have lp : forL (fun _ => True) (gTp 2 (gsCons (gNm 3) (gsCons (gNm 4) gsNil))) lb_parse_schedule_0 (enumD ((sk ++ worldL s c :: rs.map (·.1)).map fun l => D.str (ofL l))) (frP (some (.str z)) (some .non) S.length none none none none none none) (S ++ [.lst []]) = .nx (frP (some (.str z)) (some (.tup [.int ((0 + sk.length : Nat) + 1 : Int), .int (s : Int), .int (c : Int)])) S.length v3 v4 v5 v6 (some (.int (s : Int))) (some (.int (c : Int)))) (S ++ .lst (dues (sk.length + 1) rs) :: T) := by
    rw [enumD_ix, ixD_app, e1, ixD_cons, forL_cons, e2, RS.loop_nx, e3, Nat.zero_add]
    simp
  refine ⟨T, ?_⟩
  have hmap : ((sk ++ worldL s c :: rs.map (·.1)).map ofL).map D.str = (sk ++ worldL s c :: rs.map (·.1)).map fun l => D.str (ofL l) := by rw [List.map_map]; rfl
  have l10 : ¬ (Str.ofString "\n").length = 0 := by decide +kernel
  rw [← lnl] at sp
  rw [Nat.zero_add] at lp
  generalize (sk ++ worldL s c :: rs.map (·.1)).map ofL = zs at *
  rw [← hmap] at lp
  clear e1 e2 e3 hmap
  have key : ∀ x : D, lstW (S ++ [O.lst []]) (.lst (zs.map D.str)) = some (zs.map D.str, fun _ => True) := fun _ => rfl
  generalize dues (sk.length + 1) rs = dd at *
  have e : m_parse_schedule = (mSeq (mSet 1 (mC .non))
    (mSeq (mSet 2 (mLst true mNil))
    (mSeq (mFor (iEnum (mCons (mBm .str (fnSplit false) (mVar 0) (mCons (mC (.str "\n")) mNil)) mNil)) (gTp 2 (gsCons (gNm 3) (gsCons (gNm 4) gsNil))) lb_parse_schedule_0)
    (mSeq (mIfS (mBl (mBin fIs (mVar 1) (mC .non))) (mRaise2 22 0 1 (mCons (mC (.int 0)) (mCons (mC (.str "world")) mNil))) mSkip)
    (mRet (mTup (mCons (mIx (mVar 1) (mC (.int 0))) (mCons (mIx (mVar 1) (mC (.int 1))) (mCons (mIx (mVar 1) (mC (.int 2))) (mCons (mVar 2) mNil)))))))))) := rfl
  generalize hG : gTp 2 (gsCons (gNm 3) (gsCons (gNm 4) gsNil)) = G at *
  generalize lb_parse_schedule_0 = lb at *
  have lw : ∀ S, lstW S (.lst (zs.map D.str)) = some (zs.map D.str, fun _ => True) := fun _ => rfl
  generalize hds : zs.map D.str = ds at *
  unfold frP at lp
  simp (config := { implicitDefEqProofs := false }) [V_parse_schedule, e, l10, hz, sp, hds, lw, lp]
end L_k64
namespace L_k64
open PySem PySem.Spec PyProof.Rows L2 BS
def lrows (ls : List (List Nat)) : List D := ls.map fun l => .str (ofL l)
theorem lskip_run (r : Int) : ∃ l, RowOk l none ∧ ∀ S, V__law_skipped [.int r] S = .ok (.str (ofL l)) S := by
  have mk : ∀ (s : String) (l : List Nat), s.toList.map Char.toNat = l → (l = [] ∨ l.head? = some 35) → (l.all prC = true) → l.length ≤ 11 → r % 4 = 0 ∨ r % 4 = 1 ∨ r % 4 = 2 ∨ r % 4 = 3 → (∀ S, fIx S (.lst [.str "", .str "#", .str "# world 1 1", .str "#tick 1"]) (.int (r % 4)) = some (.str s)) → ∃ l, RowOk l none ∧ ∀ S, V__law_skipped [.int r] S = .ok (.str (ofL l)) S := by
    intro s l hs h1 h2 h3 _ h4
    rw [List.all_eq_true] at h2
    refine ⟨l, .skip l h1 h2 h3, fun S => ?_⟩
    rw [← litL s l hs]
    simp (config := { implicitDefEqProofs := false }) [-fIx_lst, V__law_skipped, m__law_skipped, h4]
  rcases m7 (r := r) with h | h | h | h
  · exact mk "" [] rfl (.inl rfl) (by decide) (by decide) (by omega) fun S => by rw [h]; simp
  · exact mk "#" [35] rfl (.inr rfl) (by decide) (by decide) (by omega) fun S => by rw [h]; simp
  · exact mk "# world 1 1" [35, 32, 119, 111, 114, 108, 100, 32, 49, 32, 49] rfl (.inr rfl) (by decide) (by decide) (by omega) fun S => by rw [h]; simp
  · exact mk "#tick 1" [35, 116, 105, 99, 107, 32, 49] rfl (.inr rfl) (by decide) (by decide) (by omega) fun S => by rw [h]; simp
noncomputable def wrowE : EM := (mBin fAdd (mBin fAdd (mBin fAdd (mC (.str "world ")) (mCall fnStr (mCons (mVar 2) mNil))) (mC (.str " "))) (mCall fnStr (mCons (mVar 3) mNil)))
theorem wrow_run {s c : Nat} (hs : s < 10 ^ 12) (hc : c < 10 ^ 12) (x0 x1 x4 x5 x6 x7 x8 x9 x10 x11 : Option D) (S : Store) : wrowE ⟨[x0, x1, some (.int (s : Int)), some (.int (c : Int)), x4, x5, x6, x7, x8, x9, x10, x11], []⟩ S = .ok (.str (ofL (worldL s c))) S := by
  have l1 : (TL.numL s).length ≤ 12 := TL.numL_len (by decide) hs
  have l2 : (TL.numL c).length ≤ 12 := TL.numL_len (by decide) hc
  have lg1 := log_lt hs
  have lg2 := log_lt hc
  have e1 := txI_nat' s
  have e2 := txI_nat' c
  have lw : Str.ofString "world " = ofL [119, 111, 114, 108, 100, 32] := litL "world " _ rfl
  have lsp := lspace
  have z1 : (ofL [119, 111, 114, 108, 100, 32]).length = 6 := rfl
  have z2 : (ofL [32]).length = 1 := rfl
  have z3 : (ofL (TL.numL s)).length ≤ 12 := by rw [ofL_len]; exact l1
  have z4 : (ofL (TL.numL c)).length ≤ 12 := by rw [ofL_len]; exact l2
  have hsz : 100 ≤ sizeLine := szL' (by decide)
  have b1 : 6 + (ofL (TL.numL s)).length ≤ sizeLine := by omega
  have b2 : 6 + (ofL (TL.numL s)).length + 1 ≤ sizeLine := by omega
  have b3 : 6 + (ofL (TL.numL s)).length + 1 + (ofL (TL.numL c)).length ≤ sizeLine := by omega
  have fin : ofL [119, 111, 114, 108, 100, 32] ++ ofL (TL.numL s) ++ ofL [32] ++ ofL (TL.numL c) = ofL (worldL s c) := by
    rw [ofL_app, ofL_app, ofL_app]
    apply congrArg
    unfold worldL
    simp
  unfold wrowE
  generalize ofL (worldL s c) = w at *
  generalize ofL (TL.numL s) = y1 at *
  generalize ofL (TL.numL c) = y2 at *
  rw [lw, lsp]
  generalize ofL [119, 111, 114, 108, 100, 32] = y3 at *
  generalize ofL [32] = y4 at *
  simp (config := { implicitDefEqProofs := false }) at e1 e2
  simp (config := { implicitDefEqProofs := false }) [lg1, lg2, e1, e2, z1, z2, b1, b2, b3, Str.length_append, fin]
/-- rows joined -/
theorem joinL_lenS (c : Nat) : ∀ ps : List (List Nat), (TL.joinL [c] ps).length ≤ (ps.map fun p => p.length + 1).sum
  | [] => by simp [TL.joinL]
  | [p] => by simp [TL.joinL]
  | p :: q :: ps => by
    have := joinL_lenS c (q :: ps)
    rw [joinL_two, List.length_append, List.length_cons, List.map_cons, List.sum_cons]
    omega
theorem joins_run (ls : List (List Nat)) (h : (ls.map fun p => p.length + 1).sum ≤ 16777216) (S : Store) (n : Nat) (hn : S[n]? = some (.lst (lrows ls))) : fnJoin [.str "\n", .obj n] S = .ok (.str (ofL (TL.joinL [10] ls))) S := by
  have hb : txtsOf (lrows ls) = some (ls.map ofL) := by
    have := strs_back (ls.map ofL)
    rw [List.map_map] at this
    exact this
  have hs : ((ls.map ofL).map (·.length)).sum + (ls.map ofL).length * (ofL [10]).length ≤ 16777216 := by
    rw [show (ofL [10]).length = 1 from rfl, Nat.mul_one, List.map_map, List.length_map]
    refine Nat.le_trans (Nat.le_of_eq ?_) h
    clear h hn hb
    induction ls with
    | nil => rfl
    | cons p ls ih =>
      rw [List.map_cons, List.map_cons, List.sum_cons, List.sum_cons, List.length_cons]
      have : ((fun x : Str => x.length) ∘ ofL) p = p.length := ofL_len p
      omega
  rw [← join_ofLs]
  unfold fnJoin
  rw [lnl]
  dsimp only
  rw [show seqOf S (.obj n) = some (lrows ls) by simp [seqOf, tupOf, hn]]
  dsimp only
  rw [hb]
  dsimp only
  rw [if_pos hs]
abbrev Rows := List (List Nat × Option (Str × List Part))
def lens (rs : Rows) : Nat := (rs.map fun r => r.1.length + 1).sum
theorem lens_app (a : Rows) (r) : lens (a ++ [r]) = lens a + (r.1.length + 1) := by unfold lens; simp
theorem dues_sm : ∀ (rs : Rows) (i : Nat), (∀ r ∈ rs, RowOk r.1 r.2) → ∀ d ∈ dues i rs, ∃ (j : Int) (v : Str) (ps : List Part), d = .tup [.int j, actD v ps] ∧ ActOk v ps
  | [], _, _, d, hd => by simp [dues] at hd
  | (l, none) :: rs, i, h, d, hd => dues_sm rs (i + 1) (fun r hr => h r (by simp [hr])) d hd
  | (l, some (v, ps)) :: rs, i, h, d, hd => by
    rcases List.mem_cons.mp hd with rfl | hd
    · have := h (l, some (v, ps)) (by simp)
      simp only at this
      cases this with
      | act v ps h2 => exact ⟨_, v, ps, rfl, h2⟩
    · exact dues_sm rs (i + 1) (fun r hr => h r (by simp [hr])) d hd
def frW (nd : D) (R : Int) (s c : Nat) (x4 x5 x6 x7 x8 x9 x10 x11 : Option D) : Ev := ⟨[some nd, some (.int R), some (.int (s : Int)), some (.int (c : Int)), x4, x5, x6, x7, x8, x9, x10, x11], []⟩
/-- one turn: an act -/
theorem law_turn (ns : List Int) (k : Nat) (hk : k < ns.length) (R : Int) (s c at' : Nat) (sk : List (List Nat)) (W : List Nat) (rs : Rows) (ha : at' = sk.length + 1) (hrs : rs.length ≤ 500) (hsk : sk.length ≤ 10) (T : Store) (x5 x8 x9 x10 x11 : Option D) :
    ∃ R' rs' T' y8 y9, (gNm 5 (.int (k : Int)) (frW (.scr (ns.map .int)) R s c (some (.obj 0)) x5 (some (.int (at' : Int))) (some (.obj 1)) x8 x9 x10 x11) (.lst (lrows (sk ++ W :: rs.map (·.1))) :: .lst (dues at' rs) :: T)).seq lb_law_1
      = .nx (frW (.scr (ns.map .int)) R' s c (some (.obj 0)) (some (.int (k : Int))) (some (.int (at' : Int))) (some (.obj 1)) y8 y9 x10 x11) (.lst (lrows (sk ++ W :: (rs ++ rs').map (·.1))) :: .lst (dues at' (rs ++ rs')) :: T') ∧ (∀ r ∈ rs', RowOk r.1 r.2) ∧ rs'.length ≤ 2 ∧ lens (rs ++ rs') ≤ lens rs + 200026 := by
  have ce : ∀ S, fIx S (.scr (ns.map .int)) (.int (k : Int)) = some (.int (ns[k]'hk)) := fun S => by
    simp [hk]
  have re := fun S => rich_eq (ns[k]'hk) (k : Int) S
  generalize hr : rich (ns[k]'hk) (k : Int) = r at *
  obtain ⟨l, hl, le⟩ := lskip_run (r / 5)
  have lenD : ∀ rs : Rows, (lrows (sk ++ W :: rs.map (·.1))).length = at' + rs.length := fun rs => by
    unfold lrows; simp; omega
  have hsz : 1000 ≤ sizeLine := szL' (by decide)
  have duL : ∀ (rs : Rows) i, (dues i rs).length ≤ rs.length := by
    intro rs
    induction rs with
    | nil => intro i; simp [dues]
    | cons r rs ih =>
      intro i
      obtain ⟨l, o⟩ := r
      cases o with
      | none => have := ih (i + 1); simp only [dues, List.length_cons]; omega
      | some vp => obtain ⟨v, ps⟩ := vp; have := ih (i + 1); simp only [dues, List.length_cons]; omega
  have main : ∀ rs1 : Rows, rs1.length ≤ 501 → ∀ x8 x9, ∃ v ps T' y8 y9, ActOk v ps ∧
      (mSeq (mSet 8 (mCall V__law_act (mCons (mBin fDiv (mVar 1) (mC (.int 5))) mNil)))
    (mSeq (mSet 9 (mCall V__law_line (mCons (mVar 8) mNil)))
    (mSeq (mIfS (mOr (mBl (mBin fNe (mCall V_act_line (mCons (mVar 8) mNil)) (mVar 9))) (mBl (mBin fIsNot (mCall V_check_act (mCons (mVar 8) mNil)) (mC .non)))) (mRet (mC (.bl false))) mSkip)
    (mSeq (mExpr (mBm .list fnAppend (mVar 4) (mCons (mVar 9) mNil)))
    (mExpr (mBm .list fnAppend (mVar 7) (mCons (mTup (mCons (mCall fnLen (mCons (mVar 4) mNil)) (mCons (mVar 8) mNil))) mNil))))))) (frW (.scr (ns.map .int)) r s c (some (.obj 0)) (some (.int (k : Int))) (some (.int (at' : Int))) (some (.obj 1)) x8 x9 x10 x11) (.lst (lrows (sk ++ W :: rs1.map (·.1))) :: .lst (dues at' rs1) :: T)
      = .nx (frW (.scr (ns.map .int)) r s c (some (.obj 0)) (some (.int (k : Int))) (some (.int (at' : Int))) (some (.obj 1)) y8 y9 x10 x11) (.lst (lrows (sk ++ W :: (rs1 ++ [(lineL v ps, some (v, ps))]).map (·.1))) :: .lst (dues at' (rs1 ++ [(lineL v ps, some (v, ps))])) :: T') := by
    intro rs1 h1 x8 x9
    obtain ⟨v, ps, T1, hA, e1⟩ := lact_run (r / 5) (.lst (lrows (sk ++ W :: rs1.map (·.1))) :: .lst (dues at' rs1) :: T)
    obtain ⟨T2, e2⟩ := lline_run v ps hA (.lst (lrows (sk ++ W :: rs1.map (·.1))) :: .lst (dues at' rs1) :: T ++ T1)
    obtain ⟨T3, e3⟩ := aline_run hA (.lst (lrows (sk ++ W :: rs1.map (·.1))) :: .lst (dues at' rs1) :: T ++ T1 ++ T2)
    have e4 := check_run v ps hA (.lst (lrows (sk ++ W :: rs1.map (·.1))) :: .lst (dues at' rs1) :: T ++ T1 ++ T2 ++ T3)
    have q1 : lrows (sk ++ W :: (rs1 ++ [(lineL v ps, some (v, ps))]).map (·.1)) = lrows (sk ++ W :: rs1.map (·.1)) ++ [.str (ofL (lineL v ps))] := by unfold lrows; simp
    have q2 : dues at' (rs1 ++ [(lineL v ps, some (v, ps))]) = dues at' rs1 ++ [.tup [.int (((at' + rs1.length + 1 : Nat)) : Int), actD v ps]] := by rw [dues_app]; rfl
    have n1 := lenD rs1
    have n2 := duL rs1 at'
    have z1 : (lrows (sk ++ W :: rs1.map (·.1))).length < sizeLine := by omega
    have z2 : (dues at' rs1).length < sizeLine := by omega
    have z3 : (lrows (sk ++ W :: rs1.map (·.1))).length + 1 = at' + rs1.length + 1 := by omega
    refine ⟨v, ps, T ++ T1 ++ T2 ++ T3, some (actD v ps), some (.str (ofL (lineL v ps))), hA, ?_⟩
    rw [q1, q2]
    rw [← z3]
    clear q1 q2 n1 n2 z3 lenD duL
    generalize lrows (sk ++ W :: rs1.map (·.1)) = lr at *
    generalize dues at' rs1 = du at *
    generalize actD v ps = act at *
    generalize ofL (lineL v ps) = z at *
    generalize ns.map D.int = nd at *
    unfold frW
    simp only [List.cons_append, List.append_assoc] at e1 e2 e3 e4 ⊢
    simp (config := { implicitDefEqProofs := false }) [e1, e2, e3, e4, z1, z2]
  by_cases q : r % 5 = 0
  · obtain ⟨v, ps, T', y8, y9, hA, e⟩ := main (rs ++ [(l, none)]) (by rw [List.length_append, List.length_singleton]; omega) x8 x9
    refine ⟨r, [(l, none), (lineL v ps, some (v, ps))], T', y8, y9, ?_, ?_, by simp, ?_⟩
    · rw [show rs ++ [(l, none), (lineL v ps, some (v, ps))] = (rs ++ [(l, none)]) ++ [(lineL v ps, some (v, ps))] by simp, ← e]
      have q1 : lrows (sk ++ W :: (rs ++ [(l, none)] : Rows).map (·.1)) = lrows (sk ++ W :: rs.map (·.1)) ++ [.str (ofL l)] := by unfold lrows; simp
      have q2 : dues at' (rs ++ [(l, none)]) = dues at' rs := by rw [dues_app]; simp [dues]
      have n1 := lenD rs
      have z1 : (lrows (sk ++ W :: rs.map (·.1))).length < sizeLine := by omega
      rw [q1, q2]
      clear e q1 q2 main lenD n1
      generalize lrows (sk ++ W :: rs.map (·.1)) = lr at *
      generalize dues at' rs = du at *
      generalize ofL l = z at *
      generalize ns.map D.int = nd at *
      unfold frW lb_law_1
      generalize (mSeq (mSet 8 (mCall V__law_act (mCons (mBin fDiv (mVar 1) (mC (.int 5))) mNil))) _) = tail
      simp (config := { implicitDefEqProofs := false }) [-fIx_scr, ce, re, q, le, z1]
    · intro x hx
      simp only [List.mem_cons, List.not_mem_nil, or_false] at hx
      rcases hx with rfl | rfl
      · exact hl
      · exact .act v ps hA
    · rw [show rs ++ [(l, none), (lineL v ps, some (v, ps))] = (rs ++ [(l, none)]) ++ [(lineL v ps, some (v, ps))] by simp, lens_app, lens_app]
      have a1 := lineL_len hA
      have a2 : l.length ≤ 11 := by cases hl; assumption
      simp only
      omega
  · obtain ⟨v, ps, T', y8, y9, hA, e⟩ := main rs (by omega) x8 x9
    refine ⟨r, [(lineL v ps, some (v, ps))], T', y8, y9, ?_, ?_, by simp, ?_⟩
    · rw [← e]
      clear e main lenD
      generalize lrows (sk ++ W :: rs.map (·.1)) = lr at *
      generalize dues at' rs = du at *
      generalize ns.map D.int = nd at *
      unfold frW lb_law_1
      generalize (mSeq (mSet 8 (mCall V__law_act (mCons (mBin fDiv (mVar 1) (mC (.int 5))) mNil))) _) = tail
      simp (config := { implicitDefEqProofs := false }) [-fIx_scr, ce, re, q]
    · intro x hx
      rw [List.mem_singleton.mp hx]
      exact .act v ps hA
    · rw [lens_app]
      have a1 := lineL_len hA
      simp only
      omega
end L_k64
namespace L_k64
open PySem PySem.Spec PyProof.Rows L2 BS
theorem turns_of_nx {r : RS} {e' : Ev} {S' : Store} {I N : Ev → Store → Prop} {T : D → Store → Prop} (h : r = .nx e' S') (hI : I e' S') : r.turns I N T := by rw [h, turns_nx]; exact hI
theorem tup3_eq (a b c : Int) (S : Store) : eqS S (.tup [.int a, .int b, .int c]) (.tup [.int a, .int b, .int c]) = some true :=
  eqS_refl (n := 2) S (Fl.tup (FlS.of fun d hd => by
    simp only [List.mem_cons, List.not_mem_nil, or_false] at hd
    rcases hd with rfl | rfl | rfl <;> exact .int _))
theorem law_true : ∀ ns : List Int, ns.length ≤ 63 → ∃ S, V_law [.scr (ns.map .int)] [] = .ok (.bl true) S := by
  intro ns hn
  refine law_of ?_
  show (m_law ⟨[some (.scr (ns.map .int)), none, none, none, none, none, none, none, none, none, none, none], []⟩ []).ends _ _
  unfold m_law
  have c0 := fun S => cell_eq ns 0 S
  have c1 := fun S => cell_eq ns 1 S
  generalize hC0 : cell ns 0 = C0 at *
  generalize hC1 : cell ns 1 = C1 at *
  have r0 := fun S => rich_eq C0 0 S
  generalize rich C0 0 = R at *
  obtain ⟨s, hs, hs1⟩ : ∃ s : Nat, R % 30 = s ∧ s < 10 ^ 12 := ⟨(R % 30).toNat, by omega, by show _ < 1000000000000; omega⟩
  obtain ⟨c, hc, hc1⟩ : ∃ c : Nat, R / 30 % 1000000000000 = c ∧ c < 10 ^ 12 := ⟨(R / 30 % 1000000000000).toNat, by omega, by show _ < 1000000000000; omega⟩
  have s1 : ∀ S, mSet 1 (mCall V__law_rich (mCons (mCall V__law_cell (mCons (mVar 0) (mCons (mC (.int 0)) mNil))) (mCons (mC (.int 0)) mNil))) ⟨[some (.scr (ns.map .int)), none, none, none, none, none, none, none, none, none, none, none], []⟩ S = .nx ⟨[some (.scr (ns.map .int)), some (.int R), none, none, none, none, none, none, none, none, none, none], []⟩ S := fun S => by
    have e := c0 S
    have e2 := r0 S
    generalize ns.map D.int = nd at *
    simp (config := { implicitDefEqProofs := false }) at e
    simp (config := { implicitDefEqProofs := false }) [e, e2]
  have s2 : ∀ S, mSet 2 (mBin fMod (mVar 1) (mC (.int 30))) ⟨[some (.scr (ns.map .int)), some (.int R), none, none, none, none, none, none, none, none, none, none], []⟩ S = .nx ⟨[some (.scr (ns.map .int)), some (.int R), some (.int (s : Int)), none, none, none, none, none, none, none, none, none], []⟩ S := fun S => by
    generalize ns.map D.int = nd at *
    simp (config := { implicitDefEqProofs := false }) [hs]
  have s3 : ∀ S, mSet 3 (mBin fMod (mBin fDiv (mVar 1) (mC (.int 30))) (mBin fPow (mC (.int 10)) (mC (.int 12)))) ⟨[some (.scr (ns.map .int)), some (.int R), some (.int (s : Int)), none, none, none, none, none, none, none, none, none], []⟩ S = .nx (frW (.scr (ns.map .int)) R s c none none none none none none none none) S := fun S => by
    generalize ns.map D.int = nd at *
    unfold frW
    simp (config := { implicitDefEqProofs := false }) [hc]
  have s4 : mSet 4 (mLst true mNil) (frW (.scr (ns.map .int)) R s c none none none none none none none none) [] = .nx (frW (.scr (ns.map .int)) R s c (some (.obj 0)) none none none none none none none) [.lst []] := by
    generalize ns.map D.int = nd at *
    unfold frW
    simp (config := { implicitDefEqProofs := false })
  obtain ⟨j, hj, hj2⟩ : ∃ j : Nat, C1 % 3 = j ∧ j ≤ 2 := ⟨(C1 % 3).toNat, by omega, by omega⟩
  have it1 := iRng1 (as := mCons (mBin fMod (mCall V__law_cell (mCons (mVar 0) (mCons (mC (.int 1)) mNil))) (mC (.int 3))) mNil) (e := frW (.scr (ns.map .int)) R s c (some (.obj 0)) none none none none none none none) (S := [.lst []]) (S' := [.lst []]) (j := j) (by
    have e := c1 [.lst []]
    generalize ns.map D.int = nd at *
    unfold frW
    simp (config := { implicitDefEqProofs := false }) at e
    simp (config := { implicitDefEqProofs := false }) [e, hj]) (rng_ok (by omega))
  rw [Int.toNat_natCast] at it1
  rw [mSeq_ev, s1, RS.seq_nx, mSeq_ev, s2, RS.seq_nx, mSeq_ev, s3, RS.seq_nx, mSeq_ev, s4, RS.seq_nx, mSeq_ev, mFor_ev, it1, BS.R.toS_ok]
  clear s1 s2 s3 s4 it1
  refine ends_seq (forL_ends (fun k e S' => ∃ x5 sk, e = frW (.scr (ns.map .int)) R s c (some (.obj 0)) x5 none none none none none none ∧ S' = [.lst (lrows sk)] ∧ (∀ l ∈ sk, RowOk l none) ∧ sk.length = k) ⟨none, [], rfl, rfl, by simp, rfl⟩ (fun _ _ _ _ => True.intro) ?_ ?_)
  · rintro k d e S' hd ⟨x5, sk, rfl, rfl, hsk, hl⟩
    obtain ⟨hk, rfl⟩ := ints_at hd
    rw [Int.zero_add]
    obtain ⟨l, hl1, le⟩ := lskip_run (C1 / 3 + k)
    have e1 := c1 [.lst (lrows sk)]
    have q : lrows (sk ++ [l]) = lrows sk ++ [.str (ofL l)] := by unfold lrows; simp
    have z : (lrows sk).length < sizeLine := by
      have : 1000 ≤ sizeLine := szL' (by decide)
      unfold lrows; rw [List.length_map]; omega
    refine turns_of_nx (e' := frW (.scr (ns.map .int)) R s c (some (.obj 0)) (some (.int (k : Int))) none none none none none none) (S' := [.lst (lrows (sk ++ [l]))]) ?_ ⟨_, sk ++ [l], rfl, rfl, ?_, by rw [List.length_append, List.length_singleton, hl]⟩
    · rw [q]
      generalize lrows sk = lr at *
      generalize ofL l = y at *
      generalize ns.map D.int = nd at *
      unfold frW
      simp (config := { implicitDefEqProofs := false }) at e1
      simp (config := { implicitDefEqProofs := false }) [lb_law_2, e1, le, z]
    · intro x hx
      rcases List.mem_append.mp hx with hx | hx
      · exact hsk x hx
      · rw [List.mem_singleton.mp hx]; exact hl1
  rintro e S' ⟨x5, sk, rfl, rfl, hsk, hl⟩
  rw [intsFrom_len] at hl
  have hsz : 1000 ≤ sizeLine := szL' (by decide)
  have s5 : mExpr (mBm .list fnAppend (mVar 4) (mCons (mBin fAdd (mBin fAdd (mBin fAdd (mC (.str "world ")) (mCall fnStr (mCons (mVar 2) mNil))) (mC (.str " "))) (mCall fnStr (mCons (mVar 3) mNil))) mNil)) (frW (.scr (ns.map .int)) R s c (some (.obj 0)) x5 none none none none none none) [.lst (lrows sk)] = .nx (frW (.scr (ns.map .int)) R s c (some (.obj 0)) x5 none none none none none none) [.lst (lrows (sk ++ worldL s c :: ([] : Rows).map (·.1)))] := by
    have w := wrow_run hs1 hc1 (some (.scr (ns.map .int))) (some (.int R)) (some (.obj 0)) x5 none none none none none none [.lst (lrows sk)]
    have q : lrows (sk ++ worldL s c :: ([] : Rows).map (·.1)) = lrows sk ++ [.str (ofL (worldL s c))] := by unfold lrows; simp
    have z : (lrows sk).length < sizeLine := by unfold lrows; rw [List.length_map]; omega
    rw [q]
    clear q
    change mExpr (mBm .list fnAppend (mVar 4) (mCons wrowE mNil)) _ _ = _
    generalize wrowE = we at *
    generalize lrows sk = lr at *
    generalize ofL (worldL s c) = y at *
    generalize ns.map D.int = nd at *
    unfold frW
    simp (config := { implicitDefEqProofs := false }) [w, z]
  have s6 : mSet 6 (mCall fnLen (mCons (mVar 4) mNil)) (frW (.scr (ns.map .int)) R s c (some (.obj 0)) x5 none none none none none none) [.lst (lrows (sk ++ worldL s c :: ([] : Rows).map (·.1)))] = .nx (frW (.scr (ns.map .int)) R s c (some (.obj 0)) x5 (some (.int ((sk.length + 1 : Nat) : Int))) none none none none none) [.lst (lrows (sk ++ worldL s c :: ([] : Rows).map (·.1)))] := by
    have q : (lrows (sk ++ worldL s c :: ([] : Rows).map (·.1))).length = sk.length + 1 := by unfold lrows; simp
    generalize lrows (sk ++ worldL s c :: ([] : Rows).map (·.1)) = lr at *
    rw [← q]
    generalize ns.map D.int = nd at *
    unfold frW
    simp (config := { implicitDefEqProofs := false })
  have s7 : mSet 7 (mLst true mNil) (frW (.scr (ns.map .int)) R s c (some (.obj 0)) x5 (some (.int ((sk.length + 1 : Nat) : Int))) none none none none none) [.lst (lrows (sk ++ worldL s c :: ([] : Rows).map (·.1)))] = .nx (frW (.scr (ns.map .int)) R s c (some (.obj 0)) x5 (some (.int ((sk.length + 1 : Nat) : Int))) (some (.obj 1)) none none none none) (.lst (lrows (sk ++ worldL s c :: ([] : Rows).map (·.1))) :: .lst (dues (sk.length + 1) []) :: []) := by
    generalize lrows (sk ++ worldL s c :: ([] : Rows).map (·.1)) = lr at *
    generalize ns.map D.int = nd at *
    unfold frW dues
    simp (config := { implicitDefEqProofs := false })
  have it2 := iRng2 (as := mCons (mC (.int 2)) (mCons (mCall fnLen (mCons (mVar 0) mNil)) mNil)) (e := frW (.scr (ns.map .int)) R s c (some (.obj 0)) x5 (some (.int ((sk.length + 1 : Nat) : Int))) (some (.obj 1)) none none none none) (S := .lst (lrows (sk ++ worldL s c :: ([] : Rows).map (·.1))) :: .lst (dues (sk.length + 1) []) :: []) (S' := .lst (lrows (sk ++ worldL s c :: ([] : Rows).map (·.1))) :: .lst (dues (sk.length + 1) []) :: []) (i := 2) (j := ns.length) (by
    generalize lrows (sk ++ worldL s c :: ([] : Rows).map (·.1)) = lr at *
    unfold frW
    simp (config := { implicitDefEqProofs := false })) (rng_ok (by decide)) (rng_ok (by omega))
  rw [mSeq_ev, s5, RS.seq_nx, mSeq_ev, s6, RS.seq_nx, mSeq_ev, s7, RS.seq_nx, mSeq_ev, mFor_ev, it2, BS.R.toS_ok]
  clear s5 s6 s7 it2
  refine ends_seq (forL_ends (fun k e S' => ∃ R' rs x5 x8 x9 T, e = frW (.scr (ns.map .int)) R' s c (some (.obj 0)) x5 (some (.int ((sk.length + 1 : Nat) : Int))) (some (.obj 1)) x8 x9 none none ∧ S' = .lst (lrows (sk ++ worldL s c :: rs.map (·.1))) :: .lst (dues (sk.length + 1) rs) :: T ∧ (∀ r ∈ rs, RowOk r.1 r.2) ∧ rs.length ≤ 2 * k ∧ lens rs ≤ k * 200026) ⟨R, [], x5, none, none, [], rfl, rfl, by simp, by simp, by simp [lens]⟩ (fun _ _ _ _ => True.intro) ?_ ?_)
  · rintro k d e S' hd ⟨R', rs, x5, x8, x9, T, rfl, rfl, hrs, hr2, hr3⟩
    obtain ⟨hk, rfl⟩ := ints_at hd
    have hk2 : 2 + k < ns.length := by omega
    obtain ⟨R2, rs2, T2, y8, y9, e1, h1, h2, h3⟩ := law_turn ns (2 + k) hk2 R' s c (sk.length + 1) sk (worldL s c) rs rfl (by omega) (by omega) T x5 x8 x9 none none
    refine turns_of_nx (by rw [show (2 : Int) + k = ((2 + k : Nat) : Int) by omega]; exact e1) ⟨R2, rs ++ rs2, _, y8, y9, T2, rfl, rfl, ?_, ?_, ?_⟩
    · intro r hr
      rcases List.mem_append.mp hr with hr | hr
      · exact hrs r hr
      · exact h1 r hr
    · rw [List.length_append]; omega
    · rw [Nat.succ_mul]; omega
  rintro e S' ⟨R', rs, y5, x8, x9, T, rfl, rfl, hrs, hr2, hr3⟩
  rw [intsFrom_len] at hr2 hr3
  have hk61 : ((ns.length : Int) - 2).toNat ≤ 61 := by omega
  have hr3' : lens rs ≤ 61 * 200026 := Nat.le_trans hr3 (Nat.mul_le_mul_right _ hk61)
  have tot : ((sk ++ worldL s c :: rs.map (·.1)).map fun p => p.length + 1).sum + 2 ≤ 16777216 := by
    have w2 := (worldL_ok hs1 hc1).2.1
    have a : (sk.map fun p => p.length + 1).sum ≤ sk.length * 12 := by
      have := sum_le_mul 12 (sk.map fun p => p.length + 1) (by
        intro x hx
        obtain ⟨l, hl, rfl⟩ := List.mem_map.mp hx
        cases hsk l hl with
        | skip l h1 h2 h3 => omega)
      rwa [List.length_map] at this
    have b : ((rs.map (·.1)).map fun p => p.length + 1).sum = lens rs := by rw [List.map_map]; rfl
    rw [List.map_append, List.map_cons, List.sum_append, List.sum_cons, b]
    omega
  obtain ⟨T2, pr⟩ := parse_run hs1 hc1 sk hsk rs hrs (by omega) (Nat.le_trans (Nat.add_le_add_right (joinL_lenS 10 _) 2) tot) (.lst (lrows (sk ++ worldL s c :: rs.map (·.1))) :: .lst (dues (sk.length + 1) rs) :: T)
  have jr := joins_run (sk ++ worldL s c :: rs.map (·.1)) (by omega) (.lst (lrows (sk ++ worldL s c :: rs.map (·.1))) :: .lst (dues (sk.length + 1) rs) :: T) 0 rfl
  have fl : FlS 12 (dues (sk.length + 1) rs) := .of fun d hd => by
    obtain ⟨j, v, ps, rfl, hA⟩ := dues_sm rs _ hrs d hd
    exact Fl.tup (.cons (.int _) (.cons (act_sm hA).fl .nil))
  have tups : ∀ d ∈ dues (sk.length + 1) rs, ∃ (j : Int) (as : List D), d = .tup [.int j, .tup as] := fun d hd => by
    obtain ⟨j, v, ps, rfl, hA⟩ := dues_sm rs _ hrs d hd
    exact ⟨j, _, rfl⟩
  clear tot hr3 hr3' hr2 hrs
  generalize ofL (TL.joinL [10] (sk ++ worldL s c :: rs.map (·.1))) = txt at *
  generalize lrows (sk ++ worldL s c :: rs.map (·.1)) = lr at *
  generalize dues (sk.length + 1) rs = dd at *
  have s10 : mSet 10 (mCall V_parse_schedule (mCons (mBm .str fnJoin (mC (.str "\n")) (mCons (mVar 4) mNil)) mNil)) (frW (.scr (ns.map .int)) R' s c (some (.obj 0)) y5 (some (.int ((sk.length + 1 : Nat) : Int))) (some (.obj 1)) x8 x9 none none) (.lst lr :: .lst dd :: T) = .nx (frW (.scr (ns.map .int)) R' s c (some (.obj 0)) y5 (some (.int ((sk.length + 1 : Nat) : Int))) (some (.obj 1)) x8 x9 (some (.tup [.int ((sk.length : Nat) + 1 : Int), .int (s : Int), .int (c : Int), .obj (.lst lr :: .lst dd :: T : Store).length])) none) (.lst lr :: .lst dd :: T ++ .lst dd :: T2) := by
    generalize (O.lst lr :: O.lst dd :: T) = S1 at *
    generalize ns.map D.int = nd at *
    unfold frW
    simp (config := { implicitDefEqProofs := false }) [-fnJoin_ev, jr, pr]
  rw [mSeq_ev, s10, RS.seq_nx]
  clear s10 jr pr
  have h1 : (.lst lr :: .lst dd :: T ++ .lst dd :: T2 : Store)[1]? = some (.lst dd) := rfl
  have h2 : (.lst lr :: .lst dd :: T ++ .lst dd :: T2 : Store)[(.lst lr :: .lst dd :: T : Store).length]? = some (.lst dd) := by simp
  generalize (.lst lr :: .lst dd :: T : Store).length = n at *
  generalize (.lst lr :: .lst dd :: T ++ .lst dd :: T2 : Store) = S2 at *
  have eqL := eqS_objs h2 h1 fl
  have t3 := tup3_eq ((sk.length : Nat) + 1 : Int) (s : Int) (c : Int) S2
  have ct : slS false S2 (.tup [.int ((sk.length : Nat) + 1 : Int), .int (s : Int), .int (c : Int), .obj n]) none (some 3) = .ok (.tup [.int ((sk.length : Nat) + 1 : Int), .int (s : Int), .int (c : Int)]) S2 := sl_to 3 (by simp)
  have s11 : (mIfS (mOr (mNot (mBl (mIsi .tuple (mVar 10)))) (mOr (mBl (mBin fNe (mCall fnLen (mCons (mVar 10) mNil)) (mC (.int 4)))) (mBl (mBin fNe (mSl false (mVar 10) oNo (oAt (mC (.int 3)))) (mTup (mCons (mVar 6) (mCons (mVar 2) (mCons (mVar 3) mNil)))))))) (mRet (mC (.bl false))) mSkip) (frW (.scr (ns.map .int)) R' s c (some (.obj 0)) y5 (some (.int ((sk.length + 1 : Nat) : Int))) (some (.obj 1)) x8 x9 (some (.tup [.int ((sk.length : Nat) + 1 : Int), .int (s : Int), .int (c : Int), .obj n])) none) S2 = .nx (frW (.scr (ns.map .int)) R' s c (some (.obj 0)) y5 (some (.int ((sk.length + 1 : Nat) : Int))) (some (.obj 1)) x8 x9 (some (.tup [.int ((sk.length : Nat) + 1 : Int), .int (s : Int), .int (c : Int), .obj n])) none) S2 := by
    generalize ns.map D.int = nd at *
    unfold frW
    rw [show ((sk.length + 1 : Nat) : Int) = (sk.length : Int) + 1 by omega]
    simp (config := { implicitDefEqProofs := false }) [ct, t3]
  have s12 : (mIfS (mNot (mBl (mIsi .list (mIx (mVar 10) (mC (.int 3)))))) (mRet (mC (.bl false))) mSkip) (frW (.scr (ns.map .int)) R' s c (some (.obj 0)) y5 (some (.int ((sk.length + 1 : Nat) : Int))) (some (.obj 1)) x8 x9 (some (.tup [.int ((sk.length : Nat) + 1 : Int), .int (s : Int), .int (c : Int), .obj n])) none) S2 = .nx (frW (.scr (ns.map .int)) R' s c (some (.obj 0)) y5 (some (.int ((sk.length + 1 : Nat) : Int))) (some (.obj 1)) x8 x9 (some (.tup [.int ((sk.length : Nat) + 1 : Int), .int (s : Int), .int (c : Int), .obj n])) none) S2 := by
    generalize ns.map D.int = nd at *
    unfold frW
    simp (config := { implicitDefEqProofs := false }) [h2]
  have it3 : iAny (mIx (mVar 10) (mC (.int 3))) (frW (.scr (ns.map .int)) R' s c (some (.obj 0)) y5 (some (.int ((sk.length + 1 : Nat) : Int))) (some (.obj 1)) x8 x9 (some (.tup [.int ((sk.length : Nat) + 1 : Int), .int (s : Int), .int (c : Int), .obj n])) none) S2 = .ok ⟨dd, fun S => S[n]? = some (.lst dd)⟩ S2 := by
    generalize ns.map D.int = nd at *
    unfold frW
    simp (config := { implicitDefEqProofs := false }) [wkA, h2]
  rw [mSeq_ev, s11, RS.seq_nx, mSeq_ev, s12, RS.seq_nx, mSeq_ev, mFor_ev, it3, BS.R.toS_ok]
  clear s11 s12 it3
  refine ends_seq (forL_ends (fun k e S' => S' = S2 ∧ ∃ x11, e = frW (.scr (ns.map .int)) R' s c (some (.obj 0)) y5 (some (.int ((sk.length + 1 : Nat) : Int))) (some (.obj 1)) x8 x9 (some (.tup [.int ((sk.length : Nat) + 1 : Int), .int (s : Int), .int (c : Int), .obj n])) x11) ⟨rfl, none, rfl⟩ (fun k e S h => by rw [h.1]; exact h2) ?_ ?_)
  · rintro k d e S' hd ⟨rfl, x11, rfl⟩
    obtain ⟨j, as, rfl⟩ := tups d (List.mem_of_getElem? hd)
    refine turns_of_nx (e' := frW (.scr (ns.map .int)) R' s c (some (.obj 0)) y5 (some (.int ((sk.length + 1 : Nat) : Int))) (some (.obj 1)) x8 x9 (some (.tup [.int ((sk.length : Nat) + 1 : Int), .int (s : Int), .int (c : Int), .obj n])) (some (.tup [.int j, .tup as]))) ?_ ⟨rfl, _, rfl⟩
    generalize ns.map D.int = nd at *
    unfold frW
    simp (config := { implicitDefEqProofs := false }) [lb_law_0]
  · rintro e S' ⟨rfl, x11, rfl⟩
    generalize ns.map D.int = nd at *
    unfold frW
    simp (config := { implicitDefEqProofs := false }) [eqL]
end L_k64
namespace L_k64
open PySem PySem.Spec PyProof.Rows L2 BS
theorem all_mk {P : Program} {w : World} {K : PySem.W.Frag} {h : Heap} {mg : Str → Option Value} {fa : Addr} (hF : ∀ ns : List Int, ns.length ≤ 63 → ∃ S, V_law [.scr (ns.map .int)] [] = .ok (.bl true) S) (X : K.In h) (G : h.Ns mainGlobals mg) (hfa : mg "law" = some (.ref fa))
    {C_BadText : Addr}
    {C_BadSchedule : Addr}
    {B0_BadSchedule : Addr}
    {nm_BadSchedule q_BadSchedule : Str} {N_BadSchedule : Addr} {bs_BadSchedule : List Value} {sn_BadSchedule : List Str} {sub_BadSchedule : List Value} {ab_BadSchedule : Bool} {col_BadSchedule : Option Bool} {dd_BadSchedule : Option Addr} {m0_BadSchedule m1_BadSchedule m2_BadSchedule m3_BadSchedule m5_BadSchedule : Option Value}
    {tk_PERCENT : Tok}
    {tk_GREATEST : Tok}
    {tk_MOST_DEPTH : Tok}
    {tk_MOST_LENGTH : Tok}
    {tk_MOST_DIGITS : Tok}
    {tk_DIGITS : Tok}
    {tk_MOST_NUMBER : Tok}
    {tk_MOST_TICKS : Tok}
    {tk_LETTERS : Tok}
    {tk_MOST_KEY : Tok}
    {tk_MOST_VALUE : Tok}
    {tk_MOST_PAGE : Tok}
    {tk_MOST_FIGURES : Tok}
    {T_ACTS : Addr} {ep_ACTS : Nat} {tk0_ACTS tk1_ACTS tk2_ACTS tk3_ACTS tk4_ACTS tk5_ACTS tk6_ACTS tk7_ACTS tk8_ACTS tk9_ACTS tk10_ACTS tk11_ACTS : Tok}
    {tb0_ACTS : Addr} {tn0_ACTS : Nat} {tt0_0_ACTS : Tok}
    {tb1_ACTS : Addr} {tn1_ACTS : Nat} {tt1_0_ACTS tt1_1_ACTS : Tok}
    {tb2_ACTS : Addr} {tn2_ACTS : Nat} {tt2_0_ACTS : Tok}
    {tb3_ACTS : Addr} {tn3_ACTS : Nat}
    {tb4_ACTS : Addr} {tn4_ACTS : Nat} {tt4_0_ACTS : Tok}
    {tb5_ACTS : Addr} {tn5_ACTS : Nat} {tt5_0_ACTS : Tok}
    {tb6_ACTS : Addr} {tn6_ACTS : Nat} {tt6_0_ACTS : Tok}
    {tb7_ACTS : Addr} {tn7_ACTS : Nat} {tt7_0_ACTS : Tok}
    {tb8_ACTS : Addr} {tn8_ACTS : Nat} {tt8_0_ACTS tt8_1_ACTS : Tok}
    {tb9_ACTS : Addr} {tn9_ACTS : Nat} {tt9_0_ACTS tt9_1_ACTS : Tok}
    {tb10_ACTS : Addr} {tn10_ACTS : Nat} {tt10_0_ACTS : Tok}
    {tb11_ACTS : Addr} {tn11_ACTS : Nat} {tt11_0_ACTS tt11_1_ACTS : Tok}
    {T_SIZES : Addr} {ep_SIZES : Nat} {tk0_SIZES tv0_SIZES tk1_SIZES tv1_SIZES tk2_SIZES tv2_SIZES tk3_SIZES tv3_SIZES tk4_SIZES tv4_SIZES : Tok}
    {f_is_printable : Addr} {od_is_printable an_is_printable : Option Addr} {sl_is_printable : Array (Option Value)} {oc_is_printable kV_is_printable dc_is_printable pm_is_printable cd_is_printable ct_is_printable : Value}
    {f_is_integer : Addr} {od_is_integer an_is_integer : Option Addr} {sl_is_integer : Array (Option Value)} {oc_is_integer kV_is_integer dc_is_integer pm_is_integer cd_is_integer ct_is_integer : Value}
    {f__written : Addr} {od__written an__written : Option Addr} {sl__written : Array (Option Value)} {oc__written kV__written dc__written pm__written cd__written ct__written : Value}
    {f_encode : Addr} {od_encode an_encode : Option Addr} {sl_encode : Array (Option Value)} {oc_encode kV_encode dc_encode pm_encode cd_encode ct_encode : Value}
    {f__read_string : Addr} {od__read_string an__read_string : Option Addr} {sl__read_string : Array (Option Value)} {oc__read_string kV__read_string dc__read_string pm__read_string cd__read_string ct__read_string : Value}
    {f__read_integer : Addr} {od__read_integer an__read_integer : Option Addr} {sl__read_integer : Array (Option Value)} {oc__read_integer kV__read_integer dc__read_integer pm__read_integer cd__read_integer ct__read_integer : Value}
    {f__read_tuple : Addr} {od__read_tuple an__read_tuple : Option Addr} {sl__read_tuple : Array (Option Value)} {oc__read_tuple kV__read_tuple dc__read_tuple pm__read_tuple cd__read_tuple ct__read_tuple : Value}
    {f__read : Addr} {od__read an__read : Option Addr} {sl__read : Array (Option Value)} {oc__read kV__read dc__read pm__read cd__read ct__read : Value}
    {f_decode : Addr} {od_decode an_decode : Option Addr} {sl_decode : Array (Option Value)} {oc_decode kV_decode dc_decode pm_decode cd_decode ct_decode : Value}
    {f_BadSchedule___init__ : Addr} {od_BadSchedule___init__ an_BadSchedule___init__ : Option Addr} {sl_BadSchedule___init__ : Array (Option Value)} {oc_BadSchedule___init__ kV_BadSchedule___init__ dc_BadSchedule___init__ pm_BadSchedule___init__ cd_BadSchedule___init__ ct_BadSchedule___init__ : Value}
    {f_check_act : Addr} {od_check_act an_check_act : Option Addr} {sl_check_act : Array (Option Value)} {oc_check_act kV_check_act dc_check_act pm_check_act cd_check_act ct_check_act : Value}
    {f_is_bound : Addr} {od_is_bound an_is_bound : Option Addr} {sl_is_bound : Array (Option Value)} {oc_is_bound kV_is_bound dc_is_bound pm_is_bound cd_is_bound ct_is_bound : Value}
    {f_is_key : Addr} {od_is_key an_is_key : Option Addr} {sl_is_key : Array (Option Value)} {oc_is_key kV_is_key dc_is_key pm_is_key cd_is_key ct_is_key : Value}
    {f_is_value : Addr} {od_is_value an_is_value : Option Addr} {sl_is_value : Array (Option Value)} {oc_is_value kV_is_value dc_is_value pm_is_value cd_is_value ct_is_value : Value}
    {f_is_operation : Addr} {od_is_operation an_is_operation : Option Addr} {sl_is_operation : Array (Option Value)} {oc_is_operation kV_is_operation dc_is_operation pm_is_operation cd_is_operation ct_is_operation : Value}
    {f_number_of : Addr} {od_number_of an_number_of : Option Addr} {sl_number_of : Array (Option Value)} {oc_number_of kV_number_of dc_number_of pm_number_of cd_number_of ct_number_of : Value}
    {f__client_of : Addr} {od__client_of an__client_of : Option Addr} {sl__client_of : Array (Option Value)} {oc__client_of kV__client_of dc__client_of pm__client_of cd__client_of ct__client_of : Value}
    {f__value_of : Addr} {od__value_of an__value_of : Option Addr} {sl__value_of : Array (Option Value)} {oc__value_of kV__value_of dc__value_of pm__value_of cd__value_of ct__value_of : Value}
    {f__item_of : Addr} {od__item_of an__item_of : Option Addr} {sl__item_of : Array (Option Value)} {oc__item_of kV__item_of dc__item_of pm__item_of cd__item_of ct__item_of : Value}
    {f__act_of : Addr} {od__act_of an__act_of : Option Addr} {sl__act_of : Array (Option Value)} {oc__act_of kV__act_of dc__act_of pm__act_of cd__act_of ct__act_of : Value}
    {f__world_of : Addr} {od__world_of an__world_of : Option Addr} {sl__world_of : Array (Option Value)} {oc__world_of kV__world_of dc__world_of pm__world_of cd__world_of ct__world_of : Value}
    {f_parse_schedule : Addr} {od_parse_schedule an_parse_schedule : Option Addr} {sl_parse_schedule : Array (Option Value)} {oc_parse_schedule kV_parse_schedule dc_parse_schedule pm_parse_schedule cd_parse_schedule ct_parse_schedule : Value}
    {f__line_of : Addr} {od__line_of an__line_of : Option Addr} {sl__line_of : Array (Option Value)} {oc__line_of kV__line_of dc__line_of pm__line_of cd__line_of ct__line_of : Value}
    {f_act_line : Addr} {od_act_line an_act_line : Option Addr} {sl_act_line : Array (Option Value)} {oc_act_line kV_act_line dc_act_line pm_act_line cd_act_line ct_act_line : Value}
    {f__law_cell : Addr} {od__law_cell an__law_cell : Option Addr} {sl__law_cell : Array (Option Value)} {oc__law_cell kV__law_cell dc__law_cell pm__law_cell cd__law_cell ct__law_cell : Value}
    {f__law_rich : Addr} {od__law_rich an__law_rich : Option Addr} {sl__law_rich : Array (Option Value)} {oc__law_rich kV__law_rich dc__law_rich pm__law_rich cd__law_rich ct__law_rich : Value}
    {f__law_word : Addr} {od__law_word an__law_word : Option Addr} {sl__law_word : Array (Option Value)} {oc__law_word kV__law_word dc__law_word pm__law_word cd__law_word ct__law_word : Value}
    {f__law_key : Addr} {od__law_key an__law_key : Option Addr} {sl__law_key : Array (Option Value)} {oc__law_key kV__law_key dc__law_key pm__law_key cd__law_key ct__law_key : Value}
    {f__law_bound : Addr} {od__law_bound an__law_bound : Option Addr} {sl__law_bound : Array (Option Value)} {oc__law_bound kV__law_bound dc__law_bound pm__law_bound cd__law_bound ct__law_bound : Value}
    {f__law_value : Addr} {od__law_value an__law_value : Option Addr} {sl__law_value : Array (Option Value)} {oc__law_value kV__law_value dc__law_value pm__law_value cd__law_value ct__law_value : Value}
    {f__law_range : Addr} {od__law_range an__law_range : Option Addr} {sl__law_range : Array (Option Value)} {oc__law_range kV__law_range dc__law_range pm__law_range cd__law_range ct__law_range : Value}
    {f__law_operation : Addr} {od__law_operation an__law_operation : Option Addr} {sl__law_operation : Array (Option Value)} {oc__law_operation kV__law_operation dc__law_operation pm__law_operation cd__law_operation ct__law_operation : Value}
    {f__law_answer : Addr} {od__law_answer an__law_answer : Option Addr} {sl__law_answer : Array (Option Value)} {oc__law_answer kV__law_answer dc__law_answer pm__law_answer cd__law_answer ct__law_answer : Value}
    {f__law_rows : Addr} {od__law_rows an__law_rows : Option Addr} {sl__law_rows : Array (Option Value)} {oc__law_rows kV__law_rows dc__law_rows pm__law_rows cd__law_rows ct__law_rows : Value}
    {f__law_pairs : Addr} {od__law_pairs an__law_pairs : Option Addr} {sl__law_pairs : Array (Option Value)} {oc__law_pairs kV__law_pairs dc__law_pairs pm__law_pairs cd__law_pairs ct__law_pairs : Value}
    {f__law_letter : Addr} {od__law_letter an__law_letter : Option Addr} {sl__law_letter : Array (Option Value)} {oc__law_letter kV__law_letter dc__law_letter pm__law_letter cd__law_letter ct__law_letter : Value}
    {f__law_act : Addr} {od__law_act an__law_act : Option Addr} {sl__law_act : Array (Option Value)} {oc__law_act kV__law_act dc__law_act pm__law_act cd__law_act ct__law_act : Value}
    {f__law_line : Addr} {od__law_line an__law_line : Option Addr} {sl__law_line : Array (Option Value)} {oc__law_line kV__law_line dc__law_line pm__law_line cd__law_line ct__law_line : Value}
    {f__law_skipped : Addr} {od__law_skipped an__law_skipped : Option Addr} {sl__law_skipped : Array (Option Value)} {oc__law_skipped kV__law_skipped dc__law_skipped pm__law_skipped cd__law_skipped ct__law_skipped : Value}
    {f_law : Addr} {od_law an_law : Option Addr} {sl_law : Array (Option Value)} {oc_law kV_law dc_law pm_law cd_law ct_law : Value}
    (aC_BadText : PySem.W.nsIn K mainGlobals "BadText" = some (some (.ref C_BadText)))
    (aC_BadSchedule : PySem.W.nsIn K mainGlobals "BadSchedule" = some (some (.ref C_BadSchedule)))
    (kc_BadText : PySem.W.keepIn K (.ref C_BadText) = true)
    (eC_BadText : PySem.W.subIn K (.ref C_BadText) (.type "BaseException") = some true)
    (tC_BadText : PySem.W.typeIn K (.ref C_BadText) = some (.type "type"))
    (kc_BadSchedule : PySem.W.keepIn K (.ref C_BadSchedule) = true)
    (eC_BadSchedule : PySem.W.subIn K (.ref C_BadSchedule) (.type "BaseException") = some true)
    (tC_BadSchedule : PySem.W.typeIn K (.ref C_BadSchedule) = some (.type "type"))
    (xI_BadText : PySem.W.excIn K C_BadText [.type "ValueError", .type "Exception", .type "BaseException", .type "object"] "ValueError.__new__" = true)
    (xL_BadSchedule : K.lookup C_BadSchedule = some (PySem.excClassObj nm_BadSchedule q_BadSchedule C_BadSchedule N_BadSchedule bs_BadSchedule [.ref B0_BadSchedule, .type "ValueError", .type "Exception", .type "BaseException", .type "object"] true sn_BadSchedule sub_BadSchedule ab_BadSchedule col_BadSchedule dd_BadSchedule m0_BadSchedule m1_BadSchedule m2_BadSchedule m3_BadSchedule m5_BadSchedule "ValueError.__new__"))
    (sa_BadSchedule : PySem.W.findIn K (.ref C_BadSchedule) "__setattr__" = some (some (.builtin "object.__setattr__")))
    (nf_BadSchedule_line : PySem.W.findIn K (.ref C_BadSchedule) "line" = some none)
    (nf_BadSchedule_reason : PySem.W.findIn K (.ref C_BadSchedule) "reason" = some none)
    (z_ord : PySem.W.nsIn K mainGlobals "ord" = some none)
    (gc_PERCENT : PySem.W.nsIn K mainGlobals "PERCENT" = some (some (.int 37 tk_PERCENT)))
    (z_isinstance : PySem.W.nsIn K mainGlobals "isinstance" = some none)
    (z_str : PySem.W.nsIn K mainGlobals "str" = some none)
    (z_int : PySem.W.nsIn K mainGlobals "int" = some none)
    (z_bool : PySem.W.nsIn K mainGlobals "bool" = some none)
    (gc_GREATEST : PySem.W.nsIn K mainGlobals "GREATEST" = some (some (.int 999999999999999999999999999999 tk_GREATEST)))
    (z_tuple : PySem.W.nsIn K mainGlobals "tuple" = some none)
    (gc_MOST_DEPTH : PySem.W.nsIn K mainGlobals "MOST_DEPTH" = some (some (.int 10 tk_MOST_DEPTH)))
    (z_len : PySem.W.nsIn K mainGlobals "len" = some none)
    (gc_MOST_LENGTH : PySem.W.nsIn K mainGlobals "MOST_LENGTH" = some (some (.int 200000 tk_MOST_LENGTH)))
    (gc_MOST_DIGITS : PySem.W.nsIn K mainGlobals "MOST_DIGITS" = some (some (.int 30 tk_MOST_DIGITS)))
    (gc_DIGITS : PySem.W.nsIn K mainGlobals "DIGITS" = some (some (.str "0123456789" tk_DIGITS)))
    (z_zip : PySem.W.nsIn K mainGlobals "zip" = some none)
    (gc_MOST_NUMBER : PySem.W.nsIn K mainGlobals "MOST_NUMBER" = some (some (.int 1000000000000 tk_MOST_NUMBER)))
    (gc_MOST_TICKS : PySem.W.nsIn K mainGlobals "MOST_TICKS" = some (some (.int 1000 tk_MOST_TICKS)))
    (gc_LETTERS : PySem.W.nsIn K mainGlobals "LETTERS" = some (some (.str "abcdefghijklmnopqrstuvwxyz" tk_LETTERS)))
    (gc_MOST_KEY : PySem.W.nsIn K mainGlobals "MOST_KEY" = some (some (.int 8 tk_MOST_KEY)))
    (gc_MOST_VALUE : PySem.W.nsIn K mainGlobals "MOST_VALUE" = some (some (.int 40 tk_MOST_VALUE)))
    (z_all : PySem.W.nsIn K mainGlobals "all" = some none)
    (gc_MOST_PAGE : PySem.W.nsIn K mainGlobals "MOST_PAGE" = some (some (.int 50 tk_MOST_PAGE)))
    (gc_MOST_FIGURES : PySem.W.nsIn K mainGlobals "MOST_FIGURES" = some (some (.int 12 tk_MOST_FIGURES)))
    (z_enumerate : PySem.W.nsIn K mainGlobals "enumerate" = some none)
    (z_range : PySem.W.nsIn K mainGlobals "range" = some none)
    (z_max : PySem.W.nsIn K mainGlobals "max" = some none)
    (z_min : PySem.W.nsIn K mainGlobals "min" = some none)
    (z_sorted : PySem.W.nsIn K mainGlobals "sorted" = some none)
    (z_list : PySem.W.nsIn K mainGlobals "list" = some none)
    (aT_ACTS : PySem.W.nsIn K mainGlobals "ACTS" = some (some (.ref T_ACTS)))
    (lT_ACTS : K.lookup T_ACTS = some ⟨.type "dict", none, .dict #[⟨keyH w (.inr "tick"), .str "tick" tk0_ACTS, .ref tb0_ACTS⟩, ⟨keyH w (.inr "submit"), .str "submit" tk1_ACTS, .ref tb1_ACTS⟩, ⟨keyH w (.inr "deliver"), .str "deliver" tk2_ACTS, .ref tb2_ACTS⟩, ⟨keyH w (.inr "round"), .str "round" tk3_ACTS, .ref tb3_ACTS⟩, ⟨keyH w (.inr "calm"), .str "calm" tk4_ACTS, .ref tb4_ACTS⟩, ⟨keyH w (.inr "lose"), .str "lose" tk5_ACTS, .ref tb5_ACTS⟩, ⟨keyH w (.inr "double"), .str "double" tk6_ACTS, .ref tb6_ACTS⟩, ⟨keyH w (.inr "move"), .str "move" tk7_ACTS, .ref tb7_ACTS⟩, ⟨keyH w (.inr "order"), .str "order" tk8_ACTS, .ref tb8_ACTS⟩, ⟨keyH w (.inr "arm"), .str "arm" tk9_ACTS, .ref tb9_ACTS⟩, ⟨keyH w (.inr "crash"), .str "crash" tk10_ACTS, .ref tb10_ACTS⟩, ⟨keyH w (.inr "restart"), .str "restart" tk11_ACTS, .ref tb11_ACTS⟩] ep_ACTS, #[]⟩)
    (lt0_ACTS : K.lookup tb0_ACTS = some ⟨.type "tuple", none, .seq #[.str "ticks" tt0_0_ACTS] tn0_ACTS, #[]⟩)
    (lt1_ACTS : K.lookup tb1_ACTS = some ⟨.type "tuple", none, .seq #[.str "client" tt1_0_ACTS, .str "operation" tt1_1_ACTS] tn1_ACTS, #[]⟩)
    (lt2_ACTS : K.lookup tb2_ACTS = some ⟨.type "tuple", none, .seq #[.str "number" tt2_0_ACTS] tn2_ACTS, #[]⟩)
    (lt3_ACTS : K.lookup tb3_ACTS = some ⟨.type "tuple", none, .seq #[] tn3_ACTS, #[]⟩)
    (lt4_ACTS : K.lookup tb4_ACTS = some ⟨.type "tuple", none, .seq #[.str "ticks" tt4_0_ACTS] tn4_ACTS, #[]⟩)
    (lt5_ACTS : K.lookup tb5_ACTS = some ⟨.type "tuple", none, .seq #[.str "number" tt5_0_ACTS] tn5_ACTS, #[]⟩)
    (lt6_ACTS : K.lookup tb6_ACTS = some ⟨.type "tuple", none, .seq #[.str "number" tt6_0_ACTS] tn6_ACTS, #[]⟩)
    (lt7_ACTS : K.lookup tb7_ACTS = some ⟨.type "tuple", none, .seq #[.str "number" tt7_0_ACTS] tn7_ACTS, #[]⟩)
    (lt8_ACTS : K.lookup tb8_ACTS = some ⟨.type "tuple", none, .seq #[.str "server" tt8_0_ACTS, .str "letter" tt8_1_ACTS] tn8_ACTS, #[]⟩)
    (lt9_ACTS : K.lookup tb9_ACTS = some ⟨.type "tuple", none, .seq #[.str "server" tt9_0_ACTS, .str "number" tt9_1_ACTS] tn9_ACTS, #[]⟩)
    (lt10_ACTS : K.lookup tb10_ACTS = some ⟨.type "tuple", none, .seq #[.str "server" tt10_0_ACTS] tn10_ACTS, #[]⟩)
    (lt11_ACTS : K.lookup tb11_ACTS = some ⟨.type "tuple", none, .seq #[.str "server" tt11_0_ACTS, .str "number" tt11_1_ACTS] tn11_ACTS, #[]⟩)
    (zT_ACTS : (T_ACTS == sysModules) = false)
    (aT_SIZES : PySem.W.nsIn K mainGlobals "SIZES" = some (some (.ref T_SIZES)))
    (lT_SIZES : K.lookup T_SIZES = some ⟨.type "dict", none, .dict #[⟨keyH w (.inr "get"), .str "get" tk0_SIZES, .int 2 tv0_SIZES⟩, ⟨keyH w (.inr "put"), .str "put" tk1_SIZES, .int 3 tv1_SIZES⟩, ⟨keyH w (.inr "drop"), .str "drop" tk2_SIZES, .int 2 tv2_SIZES⟩, ⟨keyH w (.inr "swap"), .str "swap" tk3_SIZES, .int 4 tv3_SIZES⟩, ⟨keyH w (.inr "page"), .str "page" tk4_SIZES, .int 3 tv4_SIZES⟩] ep_SIZES, #[]⟩)
    (zT_SIZES : (T_SIZES == sysModules) = false)
    (a_is_printable : PySem.W.nsIn K mainGlobals "is_printable" = some (some (.ref f_is_printable)))
    (l_is_printable : K.lookup f_is_printable = some ⟨oc_is_printable, od_is_printable, .func (PySem.W.fnOf "is_printable" "is_printable" (defArgs s_is_printable) (defBody s_is_printable) (defScope s_is_printable) .none kV_is_printable dc_is_printable pm_is_printable an_is_printable cd_is_printable ct_is_printable), sl_is_printable⟩)
    (c_is_printable : PySem.W.codeIn K cd_is_printable "is_printable" = true)
    (k_is_printable : PySem.W.keepIn K (.ref f_is_printable) = true)
    (a_is_integer : PySem.W.nsIn K mainGlobals "is_integer" = some (some (.ref f_is_integer)))
    (l_is_integer : K.lookup f_is_integer = some ⟨oc_is_integer, od_is_integer, .func (PySem.W.fnOf "is_integer" "is_integer" (defArgs s_is_integer) (defBody s_is_integer) (defScope s_is_integer) .none kV_is_integer dc_is_integer pm_is_integer an_is_integer cd_is_integer ct_is_integer), sl_is_integer⟩)
    (c_is_integer : PySem.W.codeIn K cd_is_integer "is_integer" = true)
    (k_is_integer : PySem.W.keepIn K (.ref f_is_integer) = true)
    (a__written : PySem.W.nsIn K mainGlobals "_written" = some (some (.ref f__written)))
    (l__written : K.lookup f__written = some ⟨oc__written, od__written, .func (PySem.W.fnOf "_written" "_written" (defArgs s__written) (defBody s__written) (defScope s__written) .none kV__written dc__written pm__written an__written cd__written ct__written), sl__written⟩)
    (c__written : PySem.W.codeIn K cd__written "_written" = true)
    (k__written : PySem.W.keepIn K (.ref f__written) = true)
    (a_encode : PySem.W.nsIn K mainGlobals "encode" = some (some (.ref f_encode)))
    (l_encode : K.lookup f_encode = some ⟨oc_encode, od_encode, .func (PySem.W.fnOf "encode" "encode" (defArgs s_encode) (defBody s_encode) (defScope s_encode) .none kV_encode dc_encode pm_encode an_encode cd_encode ct_encode), sl_encode⟩)
    (c_encode : PySem.W.codeIn K cd_encode "encode" = true)
    (k_encode : PySem.W.keepIn K (.ref f_encode) = true)
    (a__read_string : PySem.W.nsIn K mainGlobals "_read_string" = some (some (.ref f__read_string)))
    (l__read_string : K.lookup f__read_string = some ⟨oc__read_string, od__read_string, .func (PySem.W.fnOf "_read_string" "_read_string" (defArgs s__read_string) (defBody s__read_string) (defScope s__read_string) .none kV__read_string dc__read_string pm__read_string an__read_string cd__read_string ct__read_string), sl__read_string⟩)
    (c__read_string : PySem.W.codeIn K cd__read_string "_read_string" = true)
    (k__read_string : PySem.W.keepIn K (.ref f__read_string) = true)
    (a__read_integer : PySem.W.nsIn K mainGlobals "_read_integer" = some (some (.ref f__read_integer)))
    (l__read_integer : K.lookup f__read_integer = some ⟨oc__read_integer, od__read_integer, .func (PySem.W.fnOf "_read_integer" "_read_integer" (defArgs s__read_integer) (defBody s__read_integer) (defScope s__read_integer) .none kV__read_integer dc__read_integer pm__read_integer an__read_integer cd__read_integer ct__read_integer), sl__read_integer⟩)
    (c__read_integer : PySem.W.codeIn K cd__read_integer "_read_integer" = true)
    (k__read_integer : PySem.W.keepIn K (.ref f__read_integer) = true)
    (a__read_tuple : PySem.W.nsIn K mainGlobals "_read_tuple" = some (some (.ref f__read_tuple)))
    (l__read_tuple : K.lookup f__read_tuple = some ⟨oc__read_tuple, od__read_tuple, .func (PySem.W.fnOf "_read_tuple" "_read_tuple" (defArgs s__read_tuple) (defBody s__read_tuple) (defScope s__read_tuple) .none kV__read_tuple dc__read_tuple pm__read_tuple an__read_tuple cd__read_tuple ct__read_tuple), sl__read_tuple⟩)
    (c__read_tuple : PySem.W.codeIn K cd__read_tuple "_read_tuple" = true)
    (k__read_tuple : PySem.W.keepIn K (.ref f__read_tuple) = true)
    (a__read : PySem.W.nsIn K mainGlobals "_read" = some (some (.ref f__read)))
    (l__read : K.lookup f__read = some ⟨oc__read, od__read, .func (PySem.W.fnOf "_read" "_read" (defArgs s__read) (defBody s__read) (defScope s__read) .none kV__read dc__read pm__read an__read cd__read ct__read), sl__read⟩)
    (c__read : PySem.W.codeIn K cd__read "_read" = true)
    (k__read : PySem.W.keepIn K (.ref f__read) = true)
    (a_decode : PySem.W.nsIn K mainGlobals "decode" = some (some (.ref f_decode)))
    (l_decode : K.lookup f_decode = some ⟨oc_decode, od_decode, .func (PySem.W.fnOf "decode" "decode" (defArgs s_decode) (defBody s_decode) (defScope s_decode) .none kV_decode dc_decode pm_decode an_decode cd_decode ct_decode), sl_decode⟩)
    (c_decode : PySem.W.codeIn K cd_decode "decode" = true)
    (k_decode : PySem.W.keepIn K (.ref f_decode) = true)
    (a_BadSchedule___init__ : PySem.W.findIn K (.ref C_BadSchedule) "__init__" = some (some (.ref f_BadSchedule___init__)))
    (t_BadSchedule___init__ : PySem.W.typeIn K (.ref f_BadSchedule___init__) = some (.type "function"))
    (l_BadSchedule___init__ : K.lookup f_BadSchedule___init__ = some ⟨oc_BadSchedule___init__, od_BadSchedule___init__, .func (PySem.W.fnOf "__init__" "BadSchedule.__init__" (defArgs s_BadSchedule___init__) (defBody s_BadSchedule___init__) (defScope s_BadSchedule___init__) .none kV_BadSchedule___init__ dc_BadSchedule___init__ pm_BadSchedule___init__ an_BadSchedule___init__ cd_BadSchedule___init__ ct_BadSchedule___init__), sl_BadSchedule___init__⟩)
    (c_BadSchedule___init__ : PySem.W.codeIn K cd_BadSchedule___init__ "BadSchedule.__init__" = true)
    (k_BadSchedule___init__ : PySem.W.keepIn K (.ref f_BadSchedule___init__) = true)
    (a_check_act : PySem.W.nsIn K mainGlobals "check_act" = some (some (.ref f_check_act)))
    (l_check_act : K.lookup f_check_act = some ⟨oc_check_act, od_check_act, .func (PySem.W.fnOf "check_act" "check_act" (defArgs s_check_act) (defBody s_check_act) (defScope s_check_act) .none kV_check_act dc_check_act pm_check_act an_check_act cd_check_act ct_check_act), sl_check_act⟩)
    (c_check_act : PySem.W.codeIn K cd_check_act "check_act" = true)
    (k_check_act : PySem.W.keepIn K (.ref f_check_act) = true)
    (a_is_bound : PySem.W.nsIn K mainGlobals "is_bound" = some (some (.ref f_is_bound)))
    (l_is_bound : K.lookup f_is_bound = some ⟨oc_is_bound, od_is_bound, .func (PySem.W.fnOf "is_bound" "is_bound" (defArgs s_is_bound) (defBody s_is_bound) (defScope s_is_bound) .none kV_is_bound dc_is_bound pm_is_bound an_is_bound cd_is_bound ct_is_bound), sl_is_bound⟩)
    (c_is_bound : PySem.W.codeIn K cd_is_bound "is_bound" = true)
    (k_is_bound : PySem.W.keepIn K (.ref f_is_bound) = true)
    (a_is_key : PySem.W.nsIn K mainGlobals "is_key" = some (some (.ref f_is_key)))
    (l_is_key : K.lookup f_is_key = some ⟨oc_is_key, od_is_key, .func (PySem.W.fnOf "is_key" "is_key" (defArgs s_is_key) (defBody s_is_key) (defScope s_is_key) .none kV_is_key dc_is_key pm_is_key an_is_key cd_is_key ct_is_key), sl_is_key⟩)
    (c_is_key : PySem.W.codeIn K cd_is_key "is_key" = true)
    (k_is_key : PySem.W.keepIn K (.ref f_is_key) = true)
    (a_is_value : PySem.W.nsIn K mainGlobals "is_value" = some (some (.ref f_is_value)))
    (l_is_value : K.lookup f_is_value = some ⟨oc_is_value, od_is_value, .func (PySem.W.fnOf "is_value" "is_value" (defArgs s_is_value) (defBody s_is_value) (defScope s_is_value) .none kV_is_value dc_is_value pm_is_value an_is_value cd_is_value ct_is_value), sl_is_value⟩)
    (c_is_value : PySem.W.codeIn K cd_is_value "is_value" = true)
    (k_is_value : PySem.W.keepIn K (.ref f_is_value) = true)
    (a_is_operation : PySem.W.nsIn K mainGlobals "is_operation" = some (some (.ref f_is_operation)))
    (l_is_operation : K.lookup f_is_operation = some ⟨oc_is_operation, od_is_operation, .func (PySem.W.fnOf "is_operation" "is_operation" (defArgs s_is_operation) (defBody s_is_operation) (defScope s_is_operation) .none kV_is_operation dc_is_operation pm_is_operation an_is_operation cd_is_operation ct_is_operation), sl_is_operation⟩)
    (c_is_operation : PySem.W.codeIn K cd_is_operation "is_operation" = true)
    (k_is_operation : PySem.W.keepIn K (.ref f_is_operation) = true)
    (a_number_of : PySem.W.nsIn K mainGlobals "number_of" = some (some (.ref f_number_of)))
    (l_number_of : K.lookup f_number_of = some ⟨oc_number_of, od_number_of, .func (PySem.W.fnOf "number_of" "number_of" (defArgs s_number_of) (defBody s_number_of) (defScope s_number_of) .none kV_number_of dc_number_of pm_number_of an_number_of cd_number_of ct_number_of), sl_number_of⟩)
    (c_number_of : PySem.W.codeIn K cd_number_of "number_of" = true)
    (k_number_of : PySem.W.keepIn K (.ref f_number_of) = true)
    (a__client_of : PySem.W.nsIn K mainGlobals "_client_of" = some (some (.ref f__client_of)))
    (l__client_of : K.lookup f__client_of = some ⟨oc__client_of, od__client_of, .func (PySem.W.fnOf "_client_of" "_client_of" (defArgs s__client_of) (defBody s__client_of) (defScope s__client_of) .none kV__client_of dc__client_of pm__client_of an__client_of cd__client_of ct__client_of), sl__client_of⟩)
    (c__client_of : PySem.W.codeIn K cd__client_of "_client_of" = true)
    (k__client_of : PySem.W.keepIn K (.ref f__client_of) = true)
    (a__value_of : PySem.W.nsIn K mainGlobals "_value_of" = some (some (.ref f__value_of)))
    (l__value_of : K.lookup f__value_of = some ⟨oc__value_of, od__value_of, .func (PySem.W.fnOf "_value_of" "_value_of" (defArgs s__value_of) (defBody s__value_of) (defScope s__value_of) .none kV__value_of dc__value_of pm__value_of an__value_of cd__value_of ct__value_of), sl__value_of⟩)
    (c__value_of : PySem.W.codeIn K cd__value_of "_value_of" = true)
    (k__value_of : PySem.W.keepIn K (.ref f__value_of) = true)
    (a__item_of : PySem.W.nsIn K mainGlobals "_item_of" = some (some (.ref f__item_of)))
    (l__item_of : K.lookup f__item_of = some ⟨oc__item_of, od__item_of, .func (PySem.W.fnOf "_item_of" "_item_of" (defArgs s__item_of) (defBody s__item_of) (defScope s__item_of) .none kV__item_of dc__item_of pm__item_of an__item_of cd__item_of ct__item_of), sl__item_of⟩)
    (c__item_of : PySem.W.codeIn K cd__item_of "_item_of" = true)
    (k__item_of : PySem.W.keepIn K (.ref f__item_of) = true)
    (a__act_of : PySem.W.nsIn K mainGlobals "_act_of" = some (some (.ref f__act_of)))
    (l__act_of : K.lookup f__act_of = some ⟨oc__act_of, od__act_of, .func (PySem.W.fnOf "_act_of" "_act_of" (defArgs s__act_of) (defBody s__act_of) (defScope s__act_of) .none kV__act_of dc__act_of pm__act_of an__act_of cd__act_of ct__act_of), sl__act_of⟩)
    (c__act_of : PySem.W.codeIn K cd__act_of "_act_of" = true)
    (k__act_of : PySem.W.keepIn K (.ref f__act_of) = true)
    (a__world_of : PySem.W.nsIn K mainGlobals "_world_of" = some (some (.ref f__world_of)))
    (l__world_of : K.lookup f__world_of = some ⟨oc__world_of, od__world_of, .func (PySem.W.fnOf "_world_of" "_world_of" (defArgs s__world_of) (defBody s__world_of) (defScope s__world_of) .none kV__world_of dc__world_of pm__world_of an__world_of cd__world_of ct__world_of), sl__world_of⟩)
    (c__world_of : PySem.W.codeIn K cd__world_of "_world_of" = true)
    (k__world_of : PySem.W.keepIn K (.ref f__world_of) = true)
    (a_parse_schedule : PySem.W.nsIn K mainGlobals "parse_schedule" = some (some (.ref f_parse_schedule)))
    (l_parse_schedule : K.lookup f_parse_schedule = some ⟨oc_parse_schedule, od_parse_schedule, .func (PySem.W.fnOf "parse_schedule" "parse_schedule" (defArgs s_parse_schedule) (defBody s_parse_schedule) (defScope s_parse_schedule) .none kV_parse_schedule dc_parse_schedule pm_parse_schedule an_parse_schedule cd_parse_schedule ct_parse_schedule), sl_parse_schedule⟩)
    (c_parse_schedule : PySem.W.codeIn K cd_parse_schedule "parse_schedule" = true)
    (k_parse_schedule : PySem.W.keepIn K (.ref f_parse_schedule) = true)
    (a__line_of : PySem.W.nsIn K mainGlobals "_line_of" = some (some (.ref f__line_of)))
    (l__line_of : K.lookup f__line_of = some ⟨oc__line_of, od__line_of, .func (PySem.W.fnOf "_line_of" "_line_of" (defArgs s__line_of) (defBody s__line_of) (defScope s__line_of) .none kV__line_of dc__line_of pm__line_of an__line_of cd__line_of ct__line_of), sl__line_of⟩)
    (c__line_of : PySem.W.codeIn K cd__line_of "_line_of" = true)
    (k__line_of : PySem.W.keepIn K (.ref f__line_of) = true)
    (a_act_line : PySem.W.nsIn K mainGlobals "act_line" = some (some (.ref f_act_line)))
    (l_act_line : K.lookup f_act_line = some ⟨oc_act_line, od_act_line, .func (PySem.W.fnOf "act_line" "act_line" (defArgs s_act_line) (defBody s_act_line) (defScope s_act_line) .none kV_act_line dc_act_line pm_act_line an_act_line cd_act_line ct_act_line), sl_act_line⟩)
    (c_act_line : PySem.W.codeIn K cd_act_line "act_line" = true)
    (k_act_line : PySem.W.keepIn K (.ref f_act_line) = true)
    (a__law_cell : PySem.W.nsIn K mainGlobals "_law_cell" = some (some (.ref f__law_cell)))
    (l__law_cell : K.lookup f__law_cell = some ⟨oc__law_cell, od__law_cell, .func (PySem.W.fnOf "_law_cell" "_law_cell" (defArgs s__law_cell) (defBody s__law_cell) (defScope s__law_cell) .none kV__law_cell dc__law_cell pm__law_cell an__law_cell cd__law_cell ct__law_cell), sl__law_cell⟩)
    (c__law_cell : PySem.W.codeIn K cd__law_cell "_law_cell" = true)
    (k__law_cell : PySem.W.keepIn K (.ref f__law_cell) = true)
    (a__law_rich : PySem.W.nsIn K mainGlobals "_law_rich" = some (some (.ref f__law_rich)))
    (l__law_rich : K.lookup f__law_rich = some ⟨oc__law_rich, od__law_rich, .func (PySem.W.fnOf "_law_rich" "_law_rich" (defArgs s__law_rich) (defBody s__law_rich) (defScope s__law_rich) .none kV__law_rich dc__law_rich pm__law_rich an__law_rich cd__law_rich ct__law_rich), sl__law_rich⟩)
    (c__law_rich : PySem.W.codeIn K cd__law_rich "_law_rich" = true)
    (k__law_rich : PySem.W.keepIn K (.ref f__law_rich) = true)
    (a__law_word : PySem.W.nsIn K mainGlobals "_law_word" = some (some (.ref f__law_word)))
    (l__law_word : K.lookup f__law_word = some ⟨oc__law_word, od__law_word, .func (PySem.W.fnOf "_law_word" "_law_word" (defArgs s__law_word) (defBody s__law_word) (defScope s__law_word) .none kV__law_word dc__law_word pm__law_word an__law_word cd__law_word ct__law_word), sl__law_word⟩)
    (c__law_word : PySem.W.codeIn K cd__law_word "_law_word" = true)
    (k__law_word : PySem.W.keepIn K (.ref f__law_word) = true)
    (a__law_key : PySem.W.nsIn K mainGlobals "_law_key" = some (some (.ref f__law_key)))
    (l__law_key : K.lookup f__law_key = some ⟨oc__law_key, od__law_key, .func (PySem.W.fnOf "_law_key" "_law_key" (defArgs s__law_key) (defBody s__law_key) (defScope s__law_key) .none kV__law_key dc__law_key pm__law_key an__law_key cd__law_key ct__law_key), sl__law_key⟩)
    (c__law_key : PySem.W.codeIn K cd__law_key "_law_key" = true)
    (k__law_key : PySem.W.keepIn K (.ref f__law_key) = true)
    (a__law_bound : PySem.W.nsIn K mainGlobals "_law_bound" = some (some (.ref f__law_bound)))
    (l__law_bound : K.lookup f__law_bound = some ⟨oc__law_bound, od__law_bound, .func (PySem.W.fnOf "_law_bound" "_law_bound" (defArgs s__law_bound) (defBody s__law_bound) (defScope s__law_bound) .none kV__law_bound dc__law_bound pm__law_bound an__law_bound cd__law_bound ct__law_bound), sl__law_bound⟩)
    (c__law_bound : PySem.W.codeIn K cd__law_bound "_law_bound" = true)
    (k__law_bound : PySem.W.keepIn K (.ref f__law_bound) = true)
    (a__law_value : PySem.W.nsIn K mainGlobals "_law_value" = some (some (.ref f__law_value)))
    (l__law_value : K.lookup f__law_value = some ⟨oc__law_value, od__law_value, .func (PySem.W.fnOf "_law_value" "_law_value" (defArgs s__law_value) (defBody s__law_value) (defScope s__law_value) .none kV__law_value dc__law_value pm__law_value an__law_value cd__law_value ct__law_value), sl__law_value⟩)
    (c__law_value : PySem.W.codeIn K cd__law_value "_law_value" = true)
    (k__law_value : PySem.W.keepIn K (.ref f__law_value) = true)
    (a__law_range : PySem.W.nsIn K mainGlobals "_law_range" = some (some (.ref f__law_range)))
    (l__law_range : K.lookup f__law_range = some ⟨oc__law_range, od__law_range, .func (PySem.W.fnOf "_law_range" "_law_range" (defArgs s__law_range) (defBody s__law_range) (defScope s__law_range) .none kV__law_range dc__law_range pm__law_range an__law_range cd__law_range ct__law_range), sl__law_range⟩)
    (c__law_range : PySem.W.codeIn K cd__law_range "_law_range" = true)
    (k__law_range : PySem.W.keepIn K (.ref f__law_range) = true)
    (a__law_operation : PySem.W.nsIn K mainGlobals "_law_operation" = some (some (.ref f__law_operation)))
    (l__law_operation : K.lookup f__law_operation = some ⟨oc__law_operation, od__law_operation, .func (PySem.W.fnOf "_law_operation" "_law_operation" (defArgs s__law_operation) (defBody s__law_operation) (defScope s__law_operation) .none kV__law_operation dc__law_operation pm__law_operation an__law_operation cd__law_operation ct__law_operation), sl__law_operation⟩)
    (c__law_operation : PySem.W.codeIn K cd__law_operation "_law_operation" = true)
    (k__law_operation : PySem.W.keepIn K (.ref f__law_operation) = true)
    (a__law_answer : PySem.W.nsIn K mainGlobals "_law_answer" = some (some (.ref f__law_answer)))
    (l__law_answer : K.lookup f__law_answer = some ⟨oc__law_answer, od__law_answer, .func (PySem.W.fnOf "_law_answer" "_law_answer" (defArgs s__law_answer) (defBody s__law_answer) (defScope s__law_answer) .none kV__law_answer dc__law_answer pm__law_answer an__law_answer cd__law_answer ct__law_answer), sl__law_answer⟩)
    (c__law_answer : PySem.W.codeIn K cd__law_answer "_law_answer" = true)
    (k__law_answer : PySem.W.keepIn K (.ref f__law_answer) = true)
    (a__law_rows : PySem.W.nsIn K mainGlobals "_law_rows" = some (some (.ref f__law_rows)))
    (l__law_rows : K.lookup f__law_rows = some ⟨oc__law_rows, od__law_rows, .func (PySem.W.fnOf "_law_rows" "_law_rows" (defArgs s__law_rows) (defBody s__law_rows) (defScope s__law_rows) .none kV__law_rows dc__law_rows pm__law_rows an__law_rows cd__law_rows ct__law_rows), sl__law_rows⟩)
    (c__law_rows : PySem.W.codeIn K cd__law_rows "_law_rows" = true)
    (k__law_rows : PySem.W.keepIn K (.ref f__law_rows) = true)
    (a__law_pairs : PySem.W.nsIn K mainGlobals "_law_pairs" = some (some (.ref f__law_pairs)))
    (l__law_pairs : K.lookup f__law_pairs = some ⟨oc__law_pairs, od__law_pairs, .func (PySem.W.fnOf "_law_pairs" "_law_pairs" (defArgs s__law_pairs) (defBody s__law_pairs) (defScope s__law_pairs) .none kV__law_pairs dc__law_pairs pm__law_pairs an__law_pairs cd__law_pairs ct__law_pairs), sl__law_pairs⟩)
    (c__law_pairs : PySem.W.codeIn K cd__law_pairs "_law_pairs" = true)
    (k__law_pairs : PySem.W.keepIn K (.ref f__law_pairs) = true)
    (a__law_letter : PySem.W.nsIn K mainGlobals "_law_letter" = some (some (.ref f__law_letter)))
    (l__law_letter : K.lookup f__law_letter = some ⟨oc__law_letter, od__law_letter, .func (PySem.W.fnOf "_law_letter" "_law_letter" (defArgs s__law_letter) (defBody s__law_letter) (defScope s__law_letter) .none kV__law_letter dc__law_letter pm__law_letter an__law_letter cd__law_letter ct__law_letter), sl__law_letter⟩)
    (c__law_letter : PySem.W.codeIn K cd__law_letter "_law_letter" = true)
    (k__law_letter : PySem.W.keepIn K (.ref f__law_letter) = true)
    (a__law_act : PySem.W.nsIn K mainGlobals "_law_act" = some (some (.ref f__law_act)))
    (l__law_act : K.lookup f__law_act = some ⟨oc__law_act, od__law_act, .func (PySem.W.fnOf "_law_act" "_law_act" (defArgs s__law_act) (defBody s__law_act) (defScope s__law_act) .none kV__law_act dc__law_act pm__law_act an__law_act cd__law_act ct__law_act), sl__law_act⟩)
    (c__law_act : PySem.W.codeIn K cd__law_act "_law_act" = true)
    (k__law_act : PySem.W.keepIn K (.ref f__law_act) = true)
    (a__law_line : PySem.W.nsIn K mainGlobals "_law_line" = some (some (.ref f__law_line)))
    (l__law_line : K.lookup f__law_line = some ⟨oc__law_line, od__law_line, .func (PySem.W.fnOf "_law_line" "_law_line" (defArgs s__law_line) (defBody s__law_line) (defScope s__law_line) .none kV__law_line dc__law_line pm__law_line an__law_line cd__law_line ct__law_line), sl__law_line⟩)
    (c__law_line : PySem.W.codeIn K cd__law_line "_law_line" = true)
    (k__law_line : PySem.W.keepIn K (.ref f__law_line) = true)
    (a__law_skipped : PySem.W.nsIn K mainGlobals "_law_skipped" = some (some (.ref f__law_skipped)))
    (l__law_skipped : K.lookup f__law_skipped = some ⟨oc__law_skipped, od__law_skipped, .func (PySem.W.fnOf "_law_skipped" "_law_skipped" (defArgs s__law_skipped) (defBody s__law_skipped) (defScope s__law_skipped) .none kV__law_skipped dc__law_skipped pm__law_skipped an__law_skipped cd__law_skipped ct__law_skipped), sl__law_skipped⟩)
    (c__law_skipped : PySem.W.codeIn K cd__law_skipped "_law_skipped" = true)
    (k__law_skipped : PySem.W.keepIn K (.ref f__law_skipped) = true)
    (a_law : PySem.W.nsIn K mainGlobals "law" = some (some (.ref f_law)))
    (l_law : K.lookup f_law = some ⟨oc_law, od_law, .func (PySem.W.fnOf "law" "law" (defArgs s_law) (defBody s_law) (defScope s_law) .none kV_law dc_law pm_law an_law cd_law ct_law), sl_law⟩)
    (c_law : PySem.W.codeIn K cd_law "law" = true)
    (k_law : PySem.W.keepIn K (.ref f_law) = true)
    : ∃ fd : FuncData, (∀ (s : Shared) (u : Value), BindsTo s fd ⟨[u], []⟩ [("_law_script", u)]) ∧ ∀ base : Heap, K.In base → base.Ns mainGlobals mg → FnOk P w K mg base (L2.CX P w) 31 fa fd ["_law_script"] (spLaw K) := by
  have e := hfa.symm.trans (PySem.W.mg_of X G a_law)
  cases e
  refine ⟨PySem.W.fnOf "law" "law" (defArgs s_law) (defBody s_law) (defScope s_law) .none kV_law dc_law pm_law an_law cd_law ct_law, fun s u => .of_eq rfl, fun base _ _ => ?_⟩
  have gC_BadText : mg "BadText" = some (.ref C_BadText) := PySem.W.mg_of X G aC_BadText
  have gC_BadSchedule : mg "BadSchedule" = some (.ref C_BadSchedule) := PySem.W.mg_of X G aC_BadSchedule
  have ox_BadSchedule : OexC K C_BadSchedule := ⟨⟨nm_BadSchedule, q_BadSchedule, N_BadSchedule, bs_BadSchedule, _, sn_BadSchedule, sub_BadSchedule, ab_BadSchedule, col_BadSchedule, dd_BadSchedule, m0_BadSchedule, m1_BadSchedule, m2_BadSchedule, m3_BadSchedule, m5_BadSchedule, xL_BadSchedule, (refs_own refs_end)⟩, sa_BadSchedule, eC_BadSchedule, tC_BadSchedule, kc_BadSchedule⟩
  have F_is_printable := fun_mk (st := s_is_printable) l_is_printable c_is_printable k_is_printable
  have b_is_printable := F_is_printable.binds (ps := ["value"]) fun _ _ _ _ _ _ us hl => match us, hl with | [_], _ => rfl
  have F_is_integer := fun_mk (st := s_is_integer) l_is_integer c_is_integer k_is_integer
  have b_is_integer := F_is_integer.binds (ps := ["value", "least", "greatest"]) fun _ _ _ _ _ _ us hl => match us, hl with | [_, _, _], _ => rfl
  have F__written := fun_mk (st := s__written) l__written c__written k__written
  have b__written := F__written.binds (ps := ["value", "depth"]) fun _ _ _ _ _ _ us hl => match us, hl with | [_, _], _ => rfl
  have F_encode := fun_mk (st := s_encode) l_encode c_encode k_encode
  have b_encode := F_encode.binds (ps := ["value"]) fun _ _ _ _ _ _ us hl => match us, hl with | [_], _ => rfl
  have F__read_string := fun_mk (st := s__read_string) l__read_string c__read_string k__read_string
  have b__read_string := F__read_string.binds (ps := ["text", "start"]) fun _ _ _ _ _ _ us hl => match us, hl with | [_, _], _ => rfl
  have F__read_integer := fun_mk (st := s__read_integer) l__read_integer c__read_integer k__read_integer
  have b__read_integer := F__read_integer.binds (ps := ["text", "start"]) fun _ _ _ _ _ _ us hl => match us, hl with | [_, _], _ => rfl
  have F__read_tuple := fun_mk (st := s__read_tuple) l__read_tuple c__read_tuple k__read_tuple
  have b__read_tuple := F__read_tuple.binds (ps := ["text", "start", "depth"]) fun _ _ _ _ _ _ us hl => match us, hl with | [_, _, _], _ => rfl
  have F__read := fun_mk (st := s__read) l__read c__read k__read
  have b__read := F__read.binds (ps := ["text", "start", "depth"]) fun _ _ _ _ _ _ us hl => match us, hl with | [_, _, _], _ => rfl
  have F_decode := fun_mk (st := s_decode) l_decode c_decode k_decode
  have b_decode := F_decode.binds (ps := ["text"]) fun _ _ _ _ _ _ us hl => match us, hl with | [_], _ => rfl
  have F_BadSchedule___init__ := fun_mk (st := s_BadSchedule___init__) l_BadSchedule___init__ c_BadSchedule___init__ k_BadSchedule___init__
  have b_BadSchedule___init__ := F_BadSchedule___init__.binds (ps := ["self", "line", "reason"]) fun _ _ _ _ _ _ us hl => match us, hl with | [_, _, _], _ => rfl
  have F_check_act := fun_mk (st := s_check_act) l_check_act c_check_act k_check_act
  have b_check_act := F_check_act.binds (ps := ["act"]) fun _ _ _ _ _ _ us hl => match us, hl with | [_], _ => rfl
  have F_is_bound := fun_mk (st := s_is_bound) l_is_bound c_is_bound k_is_bound
  have b_is_bound := F_is_bound.binds (ps := ["value"]) fun _ _ _ _ _ _ us hl => match us, hl with | [_], _ => rfl
  have F_is_key := fun_mk (st := s_is_key) l_is_key c_is_key k_is_key
  have b_is_key := F_is_key.binds (ps := ["value"]) fun _ _ _ _ _ _ us hl => match us, hl with | [_], _ => rfl
  have F_is_value := fun_mk (st := s_is_value) l_is_value c_is_value k_is_value
  have b_is_value := F_is_value.binds (ps := ["value"]) fun _ _ _ _ _ _ us hl => match us, hl with | [_], _ => rfl
  have F_is_operation := fun_mk (st := s_is_operation) l_is_operation c_is_operation k_is_operation
  have b_is_operation := F_is_operation.binds (ps := ["value"]) fun _ _ _ _ _ _ us hl => match us, hl with | [_], _ => rfl
  have F_number_of := fun_mk (st := s_number_of) l_number_of c_number_of k_number_of
  have b_number_of := F_number_of.binds (ps := ["word"]) fun _ _ _ _ _ _ us hl => match us, hl with | [_], _ => rfl
  have F__client_of := fun_mk (st := s__client_of) l__client_of c__client_of k__client_of
  have b__client_of := F__client_of.binds (ps := ["word"]) fun _ _ _ _ _ _ us hl => match us, hl with | [_], _ => rfl
  have F__value_of := fun_mk (st := s__value_of) l__value_of c__value_of k__value_of
  have b__value_of := F__value_of.binds (ps := ["kind", "text", "line"]) fun _ _ _ _ _ _ us hl => match us, hl with | [_, _, _], _ => rfl
  have F__item_of := fun_mk (st := s__item_of) l__item_of c__item_of k__item_of
  have b__item_of := F__item_of.binds (ps := ["kind", "word", "line"]) fun _ _ _ _ _ _ us hl => match us, hl with | [_, _, _], _ => rfl
  have F__act_of := fun_mk (st := s__act_of) l__act_of c__act_of k__act_of
  have b__act_of := F__act_of.binds (ps := ["text", "line"]) fun _ _ _ _ _ _ us hl => match us, hl with | [_, _], _ => rfl
  have F__world_of := fun_mk (st := s__world_of) l__world_of c__world_of k__world_of
  have b__world_of := F__world_of.binds (ps := ["words", "line"]) fun _ _ _ _ _ _ us hl => match us, hl with | [_, _], _ => rfl
  have F_parse_schedule := fun_mk (st := s_parse_schedule) l_parse_schedule c_parse_schedule k_parse_schedule
  have b_parse_schedule := F_parse_schedule.binds (ps := ["text"]) fun _ _ _ _ _ _ us hl => match us, hl with | [_], _ => rfl
  have F__line_of := fun_mk (st := s__line_of) l__line_of c__line_of k__line_of
  have b__line_of := F__line_of.binds (ps := ["act"]) fun _ _ _ _ _ _ us hl => match us, hl with | [_], _ => rfl
  have F_act_line := fun_mk (st := s_act_line) l_act_line c_act_line k_act_line
  have b_act_line := F_act_line.binds (ps := ["act"]) fun _ _ _ _ _ _ us hl => match us, hl with | [_], _ => rfl
  have F__law_cell := fun_mk (st := s__law_cell) l__law_cell c__law_cell k__law_cell
  have b__law_cell := F__law_cell.binds (ps := ["_law_script", "_law_k"]) fun _ _ _ _ _ _ us hl => match us, hl with | [_, _], _ => rfl
  have F__law_rich := fun_mk (st := s__law_rich) l__law_rich c__law_rich k__law_rich
  have b__law_rich := F__law_rich.binds (ps := ["_law_cell_here", "_law_k"]) fun _ _ _ _ _ _ us hl => match us, hl with | [_, _], _ => rfl
  have F__law_word := fun_mk (st := s__law_word) l__law_word c__law_word k__law_word
  have b__law_word := F__law_word.binds (ps := ["_law_size", "_law_chars", "_law_seed"]) fun _ _ _ _ _ _ us hl => match us, hl with | [_, _, _], _ => rfl
  have F__law_key := fun_mk (st := s__law_key) l__law_key c__law_key k__law_key
  have b__law_key := F__law_key.binds (ps := ["_law_rich_here"]) fun _ _ _ _ _ _ us hl => match us, hl with | [_], _ => rfl
  have F__law_bound := fun_mk (st := s__law_bound) l__law_bound c__law_bound k__law_bound
  have b__law_bound := F__law_bound.binds (ps := ["_law_rich_here"]) fun _ _ _ _ _ _ us hl => match us, hl with | [_], _ => rfl
  have F__law_value := fun_mk (st := s__law_value) l__law_value c__law_value k__law_value
  have b__law_value := F__law_value.binds (ps := ["_law_rich_here"]) fun _ _ _ _ _ _ us hl => match us, hl with | [_], _ => rfl
  have F__law_range := fun_mk (st := s__law_range) l__law_range c__law_range k__law_range
  have b__law_range := F__law_range.binds (ps := ["_law_rich_here"]) fun _ _ _ _ _ _ us hl => match us, hl with | [_], _ => rfl
  have F__law_operation := fun_mk (st := s__law_operation) l__law_operation c__law_operation k__law_operation
  have b__law_operation := F__law_operation.binds (ps := ["_law_rich_here"]) fun _ _ _ _ _ _ us hl => match us, hl with | [_], _ => rfl
  have F__law_answer := fun_mk (st := s__law_answer) l__law_answer c__law_answer k__law_answer
  have b__law_answer := F__law_answer.binds (ps := ["_law_rich_here"]) fun _ _ _ _ _ _ us hl => match us, hl with | [_], _ => rfl
  have F__law_rows := fun_mk (st := s__law_rows) l__law_rows c__law_rows k__law_rows
  have b__law_rows := F__law_rows.binds (ps := ["_law_rich_here"]) fun _ _ _ _ _ _ us hl => match us, hl with | [_], _ => rfl
  have F__law_pairs := fun_mk (st := s__law_pairs) l__law_pairs c__law_pairs k__law_pairs
  have b__law_pairs := F__law_pairs.binds (ps := ["_law_low", "_law_high", "_law_rich_here"]) fun _ _ _ _ _ _ us hl => match us, hl with | [_, _, _], _ => rfl
  have F__law_letter := fun_mk (st := s__law_letter) l__law_letter c__law_letter k__law_letter
  have b__law_letter := F__law_letter.binds (ps := ["_law_rich_here"]) fun _ _ _ _ _ _ us hl => match us, hl with | [_], _ => rfl
  have F__law_act := fun_mk (st := s__law_act) l__law_act c__law_act k__law_act
  have b__law_act := F__law_act.binds (ps := ["_law_rich_here"]) fun _ _ _ _ _ _ us hl => match us, hl with | [_], _ => rfl
  have F__law_line := fun_mk (st := s__law_line) l__law_line c__law_line k__law_line
  have b__law_line := F__law_line.binds (ps := ["_law_act_here"]) fun _ _ _ _ _ _ us hl => match us, hl with | [_], _ => rfl
  have F__law_skipped := fun_mk (st := s__law_skipped) l__law_skipped c__law_skipped k__law_skipped
  have b__law_skipped := F__law_skipped.binds (ps := ["_law_rich_here"]) fun _ _ _ _ _ _ us hl => match us, hl with | [_], _ => rfl
  have F_law := fun_mk (st := s_law) l_law c_law k_law
  have q0 : mg "ord" = none := PySem.W.mg_none_of X G z_ord
  have q1 : GC K mg "PERCENT" c_PERCENT := gc_int X G gc_PERCENT
  have q2 : mg "isinstance" = none := PySem.W.mg_none_of X G z_isinstance
  have q3 : mg "str" = none := PySem.W.mg_none_of X G z_str
  have o_is_printable : FnOk P w K mg base (L2.CX P w) 1 f_is_printable _ ["value"] (spD nm K mg 1 V_is_printable) := ok_is_printable F_is_printable q0 q1 q2 q3
  have q4 : mg "int" = none := PySem.W.mg_none_of X G z_int
  have q5 : mg "bool" = none := PySem.W.mg_none_of X G z_bool
  have o_is_integer : FnOk P w K mg base (L2.CX P w) 1 f_is_integer _ ["value", "least", "greatest"] (spD nm K mg 3 V_is_integer) := ok_is_integer F_is_integer q2 q4 q5
  have q6 : DefOk P w K mg base nm 1 "is_integer" 3 V_is_integer := def_mk (PySem.W.mg_of X G a_is_integer) k_is_integer rfl b_is_integer o_is_integer
  have q7 : GC K mg "GREATEST" c_GREATEST := gc_int X G gc_GREATEST
  have q8 : ExcOk K mg "BadText" := ⟨C_BadText, gC_BadText, xI_BadText, kc_BadText, eC_BadText, tC_BadText⟩
  have q9 : mg "tuple" = none := PySem.W.mg_none_of X G z_tuple
  have q10 : GC K mg "MOST_DEPTH" c_MOST_DEPTH := gc_int X G gc_MOST_DEPTH
  have q11 : DefOk P w K mg base nm 1 "is_printable" 1 V_is_printable := def_mk (PySem.W.mg_of X G a_is_printable) k_is_printable rfl b_is_printable o_is_printable
  have r__written : ∀ j : Nat, FnOk P w K mg base (L2.CX P w) (1 + j) f__written (PySem.W.fnOf "_written" "_written" (defArgs s__written) (defBody s__written) (defScope s__written) .none kV__written dc__written pm__written an__written cd__written ct__written) ["value", "depth"] (spD nm K mg 2 (VR__written j)) := by
      intro j
      induction j with
      | zero => exact (fnok_stuck rfl)
      | succ j ih => exact ok__written (Nat.le_add_right _ _) F__written q3 q6 q7 q8 q2 q9 (def_mk (PySem.W.mg_of X G a__written) k__written rfl b__written ih) q10 q11
  have o__written : FnOk P w K mg base (L2.CX P w) 17 f__written (PySem.W.fnOf "_written" "_written" (defArgs s__written) (defBody s__written) (defScope s__written) .none kV__written dc__written pm__written an__written cd__written ct__written) ["value", "depth"] (spD nm K mg 2 V__written) := (r__written 16)
  have q12 : mg "len" = none := PySem.W.mg_none_of X G z_len
  have q13 : GC K mg "MOST_LENGTH" c_MOST_LENGTH := gc_int X G gc_MOST_LENGTH
  have q14 : DefOk P w K mg base nm 17 "_written" 2 V__written := def_mk (PySem.W.mg_of X G a__written) k__written rfl b__written o__written
  have o_encode : FnOk P w K mg base (L2.CX P w) 18 f_encode _ ["value"] (spD nm K mg 1 V_encode) := ok_encode F_encode q12 q13 q8 q14
  have o__read_string : FnOk P w K mg base (L2.CX P w) 1 f__read_string _ ["text", "start"] (spD nm K mg 2 V__read_string) := ok__read_string F__read_string q8
  have q15 : GC K mg "MOST_DIGITS" c_MOST_DIGITS := gc_int X G gc_MOST_DIGITS
  have q16 : GC K mg "DIGITS" c_DIGITS := gc_str X G gc_DIGITS
  have o__read_integer : FnOk P w K mg base (L2.CX P w) 1 f__read_integer _ ["text", "start"] (spD nm K mg 2 V__read_integer) := ok__read_integer F__read_integer q4 q8 q15 q12 q16
  have q17 : DefOk P w K mg base nm 1 "_read_integer" 2 V__read_integer := def_mk (PySem.W.mg_of X G a__read_integer) k__read_integer rfl b__read_integer o__read_integer
  have q18 : DefOk P w K mg base nm 1 "_read_string" 2 V__read_string := def_mk (PySem.W.mg_of X G a__read_string) k__read_string rfl b__read_string o__read_string
  have r__read_tuple : ∀ j : Nat, FnOk P w K mg base (L2.CX P w) (1 + j) f__read_tuple (PySem.W.fnOf "_read_tuple" "_read_tuple" (defArgs s__read_tuple) (defBody s__read_tuple) (defScope s__read_tuple) .none kV__read_tuple dc__read_tuple pm__read_tuple an__read_tuple cd__read_tuple ct__read_tuple) ["text", "start", "depth"] (spD nm K mg 3 (VR__read_tuple j)) ∧ FnOk P w K mg base (L2.CX P w) (1 + j) f__read (PySem.W.fnOf "_read" "_read" (defArgs s__read) (defBody s__read) (defScope s__read) .none kV__read dc__read pm__read an__read cd__read ct__read) ["text", "start", "depth"] (spD nm K mg 3 (VR__read j)) := by
      intro j
      induction j with
      | zero => exact ⟨(fnok_stuck rfl), (fnok_stuck rfl)⟩
      | succ j ih => exact ⟨ok__read_tuple (Nat.le_add_right _ _) F__read_tuple q8 q9 (def_mk (PySem.W.mg_of X G a__read) k__read rfl b__read ih.2) q10, ok__read (Nat.le_add_right _ _) F__read q17 (def_mk (PySem.W.mg_of X G a__read_tuple) k__read_tuple rfl b__read_tuple ih.1) q18⟩
  have o__read_tuple : FnOk P w K mg base (L2.CX P w) 25 f__read_tuple (PySem.W.fnOf "_read_tuple" "_read_tuple" (defArgs s__read_tuple) (defBody s__read_tuple) (defScope s__read_tuple) .none kV__read_tuple dc__read_tuple pm__read_tuple an__read_tuple cd__read_tuple ct__read_tuple) ["text", "start", "depth"] (spD nm K mg 3 V__read_tuple) := (r__read_tuple 24).1
  have o__read : FnOk P w K mg base (L2.CX P w) 25 f__read (PySem.W.fnOf "_read" "_read" (defArgs s__read) (defBody s__read) (defScope s__read) .none kV__read dc__read pm__read an__read cd__read ct__read) ["text", "start", "depth"] (spD nm K mg 3 V__read) := (r__read_tuple 24).2
  have q19 : DefOk P w K mg base nm 25 "_read" 3 V__read := def_mk (PySem.W.mg_of X G a__read) k__read rfl b__read o__read
  have o_decode : FnOk P w K mg base (L2.CX P w) 26 f_decode _ ["text"] (spD nm K mg 1 V_decode) := ok_decode F_decode q12 q8 q19 q11 q13
  have o_BadSchedule___init__ : FnOk P w K mg base (L2.CX P w) 1 f_BadSchedule___init__ _ ["self", "line", "reason"] (spX2 K (nm.fld 0) (nm.fld 1)) := ok_BadSchedule___init__ F_BadSchedule___init__ 
  have q20 : mg "zip" = none := PySem.W.mg_none_of X G z_zip
  have q21 : GC K mg "MOST_NUMBER" c_MOST_NUMBER := gc_int X G gc_MOST_NUMBER
  have q22 : Exc2Ok P w K mg base nm 1 22 0 1 := exc2_mk cl_BadSchedule gC_BadSchedule ox_BadSchedule a_BadSchedule___init__ t_BadSchedule___init__ rfl b_BadSchedule___init__ o_BadSchedule___init__ fl_line fl_reason nf_BadSchedule_line nf_BadSchedule_reason (by decide +kernel) (by decide +kernel)
  have q23 : GC K mg "MOST_TICKS" c_MOST_TICKS := gc_int X G gc_MOST_TICKS
  have q24 : TC P w K mg "ACTS" c_ACTS := tc_mk (L := [(.inr "tick", .str "tick" tk0_ACTS, .ref tb0_ACTS), (.inr "submit", .str "submit" tk1_ACTS, .ref tb1_ACTS), (.inr "deliver", .str "deliver" tk2_ACTS, .ref tb2_ACTS), (.inr "round", .str "round" tk3_ACTS, .ref tb3_ACTS), (.inr "calm", .str "calm" tk4_ACTS, .ref tb4_ACTS), (.inr "lose", .str "lose" tk5_ACTS, .ref tb5_ACTS), (.inr "double", .str "double" tk6_ACTS, .ref tb6_ACTS), (.inr "move", .str "move" tk7_ACTS, .ref tb7_ACTS), (.inr "order", .str "order" tk8_ACTS, .ref tb8_ACTS), (.inr "arm", .str "arm" tk9_ACTS, .ref tb9_ACTS), (.inr "crash", .str "crash" tk10_ACTS, .ref tb10_ACTS), (.inr "restart", .str "restart" tk11_ACTS, .ref tb11_ACTS)]) (PySem.W.mg_of X G aT_ACTS) lT_ACTS rfl zT_ACTS (by simp [keyIs_str, keyIs_int]) (by decide +kernel : ([.inr "tick", .inr "submit", .inr "deliver", .inr "round", .inr "calm", .inr "lose", .inr "double", .inr "move", .inr "order", .inr "arm", .inr "crash", .inr "restart"] : List Key).Nodup) (.cons (tv_tup lt0_ACTS (.cons cv_str .nil)) (.cons (tv_tup lt1_ACTS (.cons cv_str (.cons cv_str .nil))) (.cons (tv_tup lt2_ACTS (.cons cv_str .nil)) (.cons (tv_tup lt3_ACTS .nil) (.cons (tv_tup lt4_ACTS (.cons cv_str .nil)) (.cons (tv_tup lt5_ACTS (.cons cv_str .nil)) (.cons (tv_tup lt6_ACTS (.cons cv_str .nil)) (.cons (tv_tup lt7_ACTS (.cons cv_str .nil)) (.cons (tv_tup lt8_ACTS (.cons cv_str (.cons cv_str .nil))) (.cons (tv_tup lt9_ACTS (.cons cv_str (.cons cv_str .nil))) (.cons (tv_tup lt10_ACTS (.cons cv_str .nil)) (.cons (tv_tup lt11_ACTS (.cons cv_str (.cons cv_str .nil))) .nil))))))))))))
  have o_check_act : FnOk P w K mg base (L2.CX P w) 3 f_check_act _ ["act"] (spD nm K mg 1 V_check_act) := ok_check_act F_check_act q20 q6 q21 q22 q23 q12 q24 q2 q9 q3
  have q25 : GC K mg "LETTERS" c_LETTERS := gc_str X G gc_LETTERS
  have q26 : GC K mg "MOST_KEY" c_MOST_KEY := gc_int X G gc_MOST_KEY
  have o_is_bound : FnOk P w K mg base (L2.CX P w) 1 f_is_bound _ ["value"] (spD nm K mg 1 V_is_bound) := ok_is_bound F_is_bound q25 q2 q3 q12 q26
  have q27 : DefOk P w K mg base nm 1 "is_bound" 1 V_is_bound := def_mk (PySem.W.mg_of X G a_is_bound) k_is_bound rfl b_is_bound o_is_bound
  have o_is_key : FnOk P w K mg base (L2.CX P w) 2 f_is_key _ ["value"] (spD nm K mg 1 V_is_key) := ok_is_key F_is_key q27
  have q28 : GC K mg "MOST_VALUE" c_MOST_VALUE := gc_int X G gc_MOST_VALUE
  have o_is_value : FnOk P w K mg base (L2.CX P w) 2 f_is_value _ ["value"] (spD nm K mg 1 V_is_value) := ok_is_value F_is_value q11 q12 q28
  have q29 : DefOk P w K mg base nm 2 "is_value" 1 V_is_value := def_mk (PySem.W.mg_of X G a_is_value) k_is_value rfl b_is_value o_is_value
  have q30 : mg "all" = none := PySem.W.mg_none_of X G z_all
  have q31 : DefOk P w K mg base nm 2 "is_key" 1 V_is_key := def_mk (PySem.W.mg_of X G a_is_key) k_is_key rfl b_is_key o_is_key
  have q32 : GC K mg "MOST_PAGE" c_MOST_PAGE := gc_int X G gc_MOST_PAGE
  have q33 : TC P w K mg "SIZES" c_SIZES := tc_mk (L := [(.inr "get", .str "get" tk0_SIZES, .int 2 tv0_SIZES), (.inr "put", .str "put" tk1_SIZES, .int 3 tv1_SIZES), (.inr "drop", .str "drop" tk2_SIZES, .int 2 tv2_SIZES), (.inr "swap", .str "swap" tk3_SIZES, .int 4 tv3_SIZES), (.inr "page", .str "page" tk4_SIZES, .int 3 tv4_SIZES)]) (PySem.W.mg_of X G aT_SIZES) lT_SIZES rfl zT_SIZES (by simp [keyIs_str, keyIs_int]) (by decide +kernel : ([.inr "get", .inr "put", .inr "drop", .inr "swap", .inr "page"] : List Key).Nodup) (.cons tv_int (.cons tv_int (.cons tv_int (.cons tv_int (.cons tv_int .nil)))))
  have o_is_operation : FnOk P w K mg base (L2.CX P w) 3 f_is_operation _ ["value"] (spD nm K mg 1 V_is_operation) := ok_is_operation F_is_operation q29 q30 q31 q27 q6 q32 q33 q12 q2 q9 q3
  have q34 : GC K mg "MOST_FIGURES" c_MOST_FIGURES := gc_int X G gc_MOST_FIGURES
  have o_number_of : FnOk P w K mg base (L2.CX P w) 1 f_number_of _ ["word"] (spD nm K mg 1 V_number_of) := ok_number_of F_number_of q4 q12 q34
  have q35 : DefOk P w K mg base nm 1 "number_of" 1 V_number_of := def_mk (PySem.W.mg_of X G a_number_of) k_number_of rfl b_number_of o_number_of
  have o__client_of : FnOk P w K mg base (L2.CX P w) 2 f__client_of _ ["word"] (spD nm K mg 1 V__client_of) := ok__client_of F__client_of q35
  have q36 : DefOk P w K mg base nm 3 "is_operation" 1 V_is_operation := def_mk (PySem.W.mg_of X G a_is_operation) k_is_operation rfl b_is_operation o_is_operation
  have q37 : DefOk P w K mg base nm 26 "decode" 1 V_decode := def_mk (PySem.W.mg_of X G a_decode) k_decode rfl b_decode o_decode
  have o__value_of : FnOk P w K mg base (L2.CX P w) 27 f__value_of _ ["kind", "text", "line"] (spD nm K mg 3 V__value_of) := ok__value_of F__value_of q2 q9 q36 q22 q37
  have q38 : DefOk P w K mg base nm 2 "_client_of" 1 V__client_of := def_mk (PySem.W.mg_of X G a__client_of) k__client_of rfl b__client_of o__client_of
  have q39 : DefOk P w K mg base nm 27 "_value_of" 3 V__value_of := def_mk (PySem.W.mg_of X G a__value_of) k__value_of rfl b__value_of o__value_of
  have o__item_of : FnOk P w K mg base (L2.CX P w) 28 f__item_of _ ["kind", "word", "line"] (spD nm K mg 3 V__item_of) := ok__item_of F__item_of q22 q38 q35 q39
  have q40 : DefOk P w K mg base nm 28 "_item_of" 3 V__item_of := def_mk (PySem.W.mg_of X G a__item_of) k__item_of rfl b__item_of o__item_of
  have o__act_of : FnOk P w K mg base (L2.CX P w) 29 f__act_of _ ["text", "line"] (spD nm K mg 2 V__act_of) := ok__act_of F__act_of q9 q20 q40 q12 q22 q24
  have o__world_of : FnOk P w K mg base (L2.CX P w) 3 f__world_of _ ["words", "line"] (spD nm K mg 2 V__world_of) := ok__world_of F__world_of q22 q35 q12
  have q41 : mg "enumerate" = none := PySem.W.mg_none_of X G z_enumerate
  have q42 : DefOk P w K mg base nm 3 "_world_of" 2 V__world_of := def_mk (PySem.W.mg_of X G a__world_of) k__world_of rfl b__world_of o__world_of
  have q43 : DefOk P w K mg base nm 29 "_act_of" 2 V__act_of := def_mk (PySem.W.mg_of X G a__act_of) k__act_of rfl b__act_of o__act_of
  have o_parse_schedule : FnOk P w K mg base (L2.CX P w) 30 f_parse_schedule _ ["text"] (spD nm K mg 1 V_parse_schedule) := ok_parse_schedule F_parse_schedule q22 q41 q42 q43 q11
  have q44 : DefOk P w K mg base nm 18 "encode" 1 V_encode := def_mk (PySem.W.mg_of X G a_encode) k_encode rfl b_encode o_encode
  have o__line_of : FnOk P w K mg base (L2.CX P w) 19 f__line_of _ ["act"] (spD nm K mg 1 V__line_of) := ok__line_of F__line_of q20 q24 q44 q3
  have q45 : DefOk P w K mg base nm 19 "_line_of" 1 V__line_of := def_mk (PySem.W.mg_of X G a__line_of) k__line_of rfl b__line_of o__line_of
  have q46 : DefOk P w K mg base nm 3 "check_act" 1 V_check_act := def_mk (PySem.W.mg_of X G a_check_act) k_check_act rfl b_check_act o_check_act
  have o_act_line : FnOk P w K mg base (L2.CX P w) 30 f_act_line _ ["act"] (spD nm K mg 1 V_act_line) := ok_act_line F_act_line q22 q43 q45 q46
  have o__law_cell : FnOk P w K mg base (L2.CX P w) 1 f__law_cell _ ["_law_script", "_law_k"] (spD nm K mg 2 V__law_cell) := ok__law_cell F__law_cell q12 q4
  have o__law_rich : FnOk P w K mg base (L2.CX P w) 1 f__law_rich _ ["_law_cell_here", "_law_k"] (spD nm K mg 2 V__law_rich) := ok__law_rich F__law_rich q4
  have q47 : mg "range" = none := PySem.W.mg_none_of X G z_range
  have o__law_word : FnOk P w K mg base (L2.CX P w) 1 f__law_word _ ["_law_size", "_law_chars", "_law_seed"] (spD nm K mg 3 V__law_word) := ok__law_word F__law_word q47 q12 q4
  have q48 : DefOk P w K mg base nm 1 "_law_word" 3 V__law_word := def_mk (PySem.W.mg_of X G a__law_word) k__law_word rfl b__law_word o__law_word
  have o__law_key : FnOk P w K mg base (L2.CX P w) 2 f__law_key _ ["_law_rich_here"] (spD nm K mg 1 V__law_key) := ok__law_key F__law_key q48 q4
  have q49 : DefOk P w K mg base nm 2 "_law_key" 1 V__law_key := def_mk (PySem.W.mg_of X G a__law_key) k__law_key rfl b__law_key o__law_key
  have o__law_bound : FnOk P w K mg base (L2.CX P w) 3 f__law_bound _ ["_law_rich_here"] (spD nm K mg 1 V__law_bound) := ok__law_bound F__law_bound q49 q4
  have o__law_value : FnOk P w K mg base (L2.CX P w) 2 f__law_value _ ["_law_rich_here"] (spD nm K mg 1 V__law_value) := ok__law_value F__law_value q48 q4
  have q50 : mg "max" = none := PySem.W.mg_none_of X G z_max
  have q51 : mg "min" = none := PySem.W.mg_none_of X G z_min
  have q52 : DefOk P w K mg base nm 3 "_law_bound" 1 V__law_bound := def_mk (PySem.W.mg_of X G a__law_bound) k__law_bound rfl b__law_bound o__law_bound
  have o__law_range : FnOk P w K mg base (L2.CX P w) 4 f__law_range _ ["_law_rich_here"] (spD nm K mg 1 V__law_range) := ok__law_range F__law_range q50 q51 q52
  have q53 : DefOk P w K mg base nm 2 "_law_value" 1 V__law_value := def_mk (PySem.W.mg_of X G a__law_value) k__law_value rfl b__law_value o__law_value
  have o__law_operation : FnOk P w K mg base (L2.CX P w) 4 f__law_operation _ ["_law_rich_here"] (spD nm K mg 1 V__law_operation) := ok__law_operation F__law_operation q53 q49 q52
  have q54 : mg "sorted" = none := PySem.W.mg_none_of X G z_sorted
  have o__law_answer : FnOk P w K mg base (L2.CX P w) 3 f__law_answer _ ["_law_rich_here"] (spD nm K mg 1 V__law_answer) := ok__law_answer F__law_answer q54 q9 q47 q53 q49
  have q55 : DefOk P w K mg base nm 3 "_law_answer" 1 V__law_answer := def_mk (PySem.W.mg_of X G a__law_answer) k__law_answer rfl b__law_answer o__law_answer
  have o__law_rows : FnOk P w K mg base (L2.CX P w) 4 f__law_rows _ ["_law_rich_here"] (spD nm K mg 1 V__law_rows) := ok__law_rows F__law_rows q54 q9 q47 q55
  have o__law_pairs : FnOk P w K mg base (L2.CX P w) 3 f__law_pairs _ ["_law_low", "_law_high", "_law_rich_here"] (spD nm K mg 3 V__law_pairs) := ok__law_pairs F__law_pairs q54 q9 q47 q53 q49
  have q56 : DefOk P w K mg base nm 4 "_law_rows" 1 V__law_rows := def_mk (PySem.W.mg_of X G a__law_rows) k__law_rows rfl b__law_rows o__law_rows
  have q57 : DefOk P w K mg base nm 3 "_law_pairs" 3 V__law_pairs := def_mk (PySem.W.mg_of X G a__law_pairs) k__law_pairs rfl b__law_pairs o__law_pairs
  have q58 : DefOk P w K mg base nm 4 "_law_range" 1 V__law_range := def_mk (PySem.W.mg_of X G a__law_range) k__law_range rfl b__law_range o__law_range
  have q59 : DefOk P w K mg base nm 4 "_law_operation" 1 V__law_operation := def_mk (PySem.W.mg_of X G a__law_operation) k__law_operation rfl b__law_operation o__law_operation
  have o__law_letter : FnOk P w K mg base (L2.CX P w) 5 f__law_letter _ ["_law_rich_here"] (spD nm K mg 1 V__law_letter) := ok__law_letter F__law_letter q56 q57 q52 q12 q58 q55 q59
  have q60 : DefOk P w K mg base nm 5 "_law_letter" 1 V__law_letter := def_mk (PySem.W.mg_of X G a__law_letter) k__law_letter rfl b__law_letter o__law_letter
  have o__law_act : FnOk P w K mg base (L2.CX P w) 6 f__law_act _ ["_law_rich_here"] (spD nm K mg 1 V__law_act) := ok__law_act F__law_act q60 q59
  have o__law_line : FnOk P w K mg base (L2.CX P w) 19 f__law_line _ ["_law_act_here"] (spD nm K mg 1 V__law_line) := ok__law_line F__law_line q2 q9 q44 q3
  have o__law_skipped : FnOk P w K mg base (L2.CX P w) 1 f__law_skipped _ ["_law_rich_here"] (spD nm K mg 1 V__law_skipped) := ok__law_skipped F__law_skipped 
  have q61 : mg "list" = none := PySem.W.mg_none_of X G z_list
  have q62 : DefOk P w K mg base nm 30 "parse_schedule" 1 V_parse_schedule := def_mk (PySem.W.mg_of X G a_parse_schedule) k_parse_schedule rfl b_parse_schedule o_parse_schedule
  have q63 : DefOk P w K mg base nm 30 "act_line" 1 V_act_line := def_mk (PySem.W.mg_of X G a_act_line) k_act_line rfl b_act_line o_act_line
  have q64 : DefOk P w K mg base nm 19 "_law_line" 1 V__law_line := def_mk (PySem.W.mg_of X G a__law_line) k__law_line rfl b__law_line o__law_line
  have q65 : DefOk P w K mg base nm 6 "_law_act" 1 V__law_act := def_mk (PySem.W.mg_of X G a__law_act) k__law_act rfl b__law_act o__law_act
  have q66 : DefOk P w K mg base nm 1 "_law_skipped" 1 V__law_skipped := def_mk (PySem.W.mg_of X G a__law_skipped) k__law_skipped rfl b__law_skipped o__law_skipped
  have q67 : DefOk P w K mg base nm 1 "_law_rich" 2 V__law_rich := def_mk (PySem.W.mg_of X G a__law_rich) k__law_rich rfl b__law_rich o__law_rich
  have q68 : DefOk P w K mg base nm 1 "_law_cell" 2 V__law_cell := def_mk (PySem.W.mg_of X G a__law_cell) k__law_cell rfl b__law_cell o__law_cell
  exact law_end (ok_law F_law q2 q9 q61 q12 q62 q47 q63 q46 q64 q65 q66 q67 q3 q68) hF
end L_k64
open PySem PySem.W PyProof.Rows
set_option maxRecDepth 100000 in
set_option maxHeartbeats 0 in
theorem PySem.Challenge.cw_boundstone_k64_schedules_read_back_holds : PySem.Challenge.rw_boundstone_k64_schedules_read_back.Holds := by
  refine T_k64 ⟨runF_k64, runT_k64, ?_⟩
  k_fill
  refine BS.walk (l := PySem.Challenge.rw_boundstone_k64_schedules_read_back) (k := 31) (x := "_law_script") rfl rfl ⟨rfl, by decide, by decide⟩ (fun w h Y => PySem.W.kIn_of Y) ?F
  case F =>
    intro w mg fa h KX G hmg
    apply L_k64.all_mk L_k64.law_true KX G hmg <;> first | k_is | k_exc | rfl | decide +kernel
