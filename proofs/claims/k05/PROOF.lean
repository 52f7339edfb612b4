import PyProof.Rows.All
import Wide.All
import OpenK.AllK
import Wide.FinOn
import PyProof.EqAt
import PyProof.EqKinds
import PyProof.TupleCall
import HandS.ForMost
import HandS.Exc
import HandS.TryOnly
import HandS.ExcOwn
import HandS.WordsExc
import HandS.More
import HandS.Deep
import HandS.IsInst
import HandS.Wide
import HandS.Lambda
import HandS.Style
import HandS.Codes
import KE.SortKeyHeap
import HandS.EndTab
import HandS.DictComp
import KE.KDictCopyH
import KE.KDictKeyed
import PyProof.Draws
import PyProof.Rows.StrMul
import HandS.TupAny
import PySem.Challenge.RW_cardwhole_k05_deeds_that_fit
import KE.SortLaws
import KE.KNestM
import KE.KLam
set_option Elab.async false
set_option linter.all false
set_option maxRecDepth 100000
set_option maxHeartbeats 2000000
/-! Cw, part A: data that stands still (S), a ledger of what may change (L), names by data; the judgements. -/
namespace Cw
open PySem PySem.Spec PyProof.Rows L2

/-! ### paired lists -/
section
variable {α β : Type} {F G : α → β → Prop}
theorem pget : ∀ {xs : List α} {ys : List β} {i : Nat} {y : β}, Paired F xs ys → ys[i]? = some y → ∃ x, xs[i]? = some x ∧ F x y
  | _, _, _, _, .nil, h => by simp at h
  | _, _, 0, _, .cons r _, h => ⟨_, rfl, by have e := Option.some.inj h; subst e; exact r⟩
  | _, _, i + 1, y, .cons _ t, h => by
    obtain ⟨x, h1, h2⟩ := pget (i := i) (y := y) t (by simpa using h)
    exact ⟨x, by simpa using h1, h2⟩
theorem pgetL : ∀ {xs : List α} {ys : List β} {i : Nat} {x : α}, Paired F xs ys → xs[i]? = some x → ∃ y, ys[i]? = some y ∧ F x y
  | _, _, _, _, .nil, h => by simp at h
  | _, _, 0, _, .cons r _, h => ⟨_, rfl, by have e := Option.some.inj h; subst e; exact r⟩
  | _, _, i + 1, x, .cons _ t, h => by
    obtain ⟨y, h1, h2⟩ := pgetL (i := i) (x := x) t (by simpa using h)
    exact ⟨y, by simpa using h1, h2⟩
theorem papp : ∀ {xs xs' : List α} {ys ys' : List β}, Paired F xs ys → Paired F xs' ys' → Paired F (xs ++ xs') (ys ++ ys')
  | _, _, _, _, .nil, s => s
  | _, _, _, _, .cons r t, s => .cons r (papp t s)
theorem ptake : ∀ {xs : List α} {ys : List β} (n : Nat), Paired F xs ys → Paired F (xs.take n) (ys.take n)
  | _, _, 0, _ => .nil
  | _, _, _ + 1, .nil => .nil
  | _, _, n + 1, .cons r t => .cons r (ptake n t)
theorem pdrop : ∀ {xs : List α} {ys : List β} (n : Nat), Paired F xs ys → Paired F (xs.drop n) (ys.drop n)
  | _, _, 0, r => r
  | _, _, _ + 1, .nil => .nil
  | _, _, n + 1, .cons _ t => pdrop n t
theorem pset {x : α} {y : β} (r : F x y) : ∀ {xs : List α} {ys : List β} (i : Nat), Paired F xs ys → Paired F (xs.set i x) (ys.set i y)
  | _, _, _, .nil => .nil
  | _, _, 0, .cons _ t => .cons r t
  | _, _, i + 1, .cons q t => .cons q (pset r i t)
theorem prev : ∀ {xs : List α} {ys : List β}, Paired F xs ys → Paired F xs.reverse ys.reverse
  | _, _, .nil => .nil
  | _, _, .cons r t => by
    rw [List.reverse_cons, List.reverse_cons]
    exact papp (prev t) (.cons r .nil)
theorem pflat : ∀ {xss : List α} {ys : List β}, Paired F xss ys → (∀ a b, F a b → G a b) → Paired G xss ys
  | _, _, .nil, _ => .nil
  | _, _, .cons r t, f => .cons (f _ _ r) (pflat t f)
theorem pmap {γ δ : Type} {R : γ → δ → Prop} {f : α → γ} {g : β → δ} (h : ∀ a b, F a b → R (f a) (g b)) : ∀ {xs : List α} {ys : List β}, Paired F xs ys → Paired R (xs.map f) (ys.map g)
  | _, _, .nil => .nil
  | _, _, .cons r t => .cons (h _ _ r) (pmap h t)
end

/-! ### what stands still -/
def Sub (H H' : Hp) : Prop := ∀ a o, H a = some o → H' a = some o
theorem Sub.refl (H : Hp) : Sub H H := fun _ _ h => h
theorem Sub.trans {H H1 H2 : Hp} (a : Sub H H1) (b : Sub H1 H2) : Sub H H2 := fun c o h => b c o (a c o h)
theorem Sub.new {H : Hp} {p : Addr} {o : HO} (h : H p = none) : Sub H (upd H p o) := fun b u e => by
  rw [upd_ne (ne_of_none e h)]
  exact e
theorem Sub.both {S H : Hp} {p : Addr} {o : HO} (h : Sub S H) : Sub (upd S p o) (upd H p o) := fun b u e => by
  by_cases hb : b = p
  · subst hb
    rw [upd_same] at e ⊢
    exact e
  · rw [upd_ne hb] at e ⊢
    exact h b u e
theorem Sub.none {S H : Hp} {p : Addr} (h : Sub S H) (hp : H p = none) : S p = none := by
  cases q : S p with
  | none => rfl
  | some o =>
    rw [h p o q] at hp
    cases hp
/-- H changes where S has nothing -/
theorem Sub.mut {S H : Hp} {p : Addr} {o : HO} (h : Sub S H) (hp : S p = Option.none) : Sub S (upd H p o) := fun b u e => by
  rw [upd_ne (ne_of_none e hp)]
  exact h b u e

mutual
/-- v is the data d, all of whose parts stand in S -/
inductive Da (S : Hp) : V → PyData → Prop
  | non : Da S .non .none
  | bl (b : Bool) : Da S (.bl b) (.bool b)
  | int (i : Int) : Da S (.int i) (.int i)
  | str (x : Str) : Da S (.str x) (.str x)
  | lst {a : Addr} {xs : List V} {ds : List PyData} : S a = some (.lst xs) → DaAll S xs ds → Da S (.ref a) (.list ds)
  | tup {a : Addr} {xs : List V} {ds : List PyData} : S a = some (.tup xs) → DaAll S xs ds → Da S (.ref a) (.tuple ds)
inductive DaAll (S : Hp) : List V → List PyData → Prop
  | nil : DaAll S [] []
  | cons {v : V} {vs : List V} {d : PyData} {ds : List PyData} : Da S v d → DaAll S vs ds → DaAll S (v :: vs) (d :: ds)
end
section
variable {S S' : Hp} {K : PySem.W.Frag}
theorem DaAll.pd : ∀ {xs : List V} {ds : List PyData}, DaAll S xs ds → Paired (Da S) xs ds
  | _, _, .nil => .nil
  | _, _, .cons h t => .cons h t.pd
theorem DaAll.of : ∀ {xs : List V} {ds : List PyData}, Paired (Da S) xs ds → DaAll S xs ds
  | _, _, .nil => .nil
  | _, _, .cons h t => .cons h (DaAll.of t)
mutual
theorem Da.mono (h : Sub S S') : ∀ {v : V} {d : PyData}, Da S v d → Da S' v d
  | _, _, .non => .non
  | _, _, .bl b => .bl b
  | _, _, .int i => .int i
  | _, _, .str x => .str x
  | _, _, .lst e t => .lst (h _ _ e) (DaAll.mono h t)
  | _, _, .tup e t => .tup (h _ _ e) (DaAll.mono h t)
theorem DaAll.mono (h : Sub S S') : ∀ {xs : List V} {ds : List PyData}, DaAll S xs ds → DaAll S' xs ds
  | _, _, .nil => .nil
  | _, _, .cons a t => .cons (Da.mono h a) (DaAll.mono h t)
end
mutual
theorem Da.dp : ∀ {v : V} {d : PyData}, Da S v d → Dp K S v d
  | _, _, .non => .non
  | _, _, .bl b => .bl b
  | _, _, .int i => .int i
  | _, _, .str x => .str x
  | _, _, .lst e t => .lst (SqL.of e) (DaAll.dp t)
  | _, _, .tup e t => .tup (SqT.of e) (DaAll.dp t)
theorem DaAll.dp : ∀ {xs : List V} {ds : List PyData}, DaAll S xs ds → DpAll K S xs ds
  | _, _, .nil => .nil
  | _, _, .cons a t => .cons (Da.dp a) (DaAll.dp t)
end
end

/-! ### results, objects that may change -/
/-- a value: data, or the very value (a handle) -/
inductive Rv where
  | dt (x : PyData) | vl (x : V)
def Rv.is (S : Hp) : Rv → V → Prop
  | .dt x, u => Da S u x
  | .vl x, u => u = x
theorem Rv.is.mono {S S' : Hp} (h : Sub S S') : ∀ {r : Rv} {v : V}, r.is S v → r.is S' v
  | .dt _, _, a => Da.mono h a
  | .vl _, _, a => a
abbrev Rvs (S : Hp) (rs : List Rv) (vs : List V) : Prop := Paired (fun r v => Rv.is S r v) rs vs
theorem Rvs.mono {S S' : Hp} (h : Sub S S') {rs : List Rv} {vs : List V} (a : Rvs S rs vs) : Rvs S' rs vs := pflat a fun _ _ => Rv.is.mono h
theorem Rvs.data {S : Hp} : ∀ {ds : List PyData} {vs : List V}, Rvs S (ds.map Rv.dt) vs → DaAll S vs ds
  | [], _, .nil => .nil
  | _ :: _, _, .cons a t => .cons a (Rvs.data t)
theorem Rvs.of {S : Hp} : ∀ {ds : List PyData} {vs : List V}, DaAll S vs ds → Rvs S (ds.map Rv.dt) vs
  | _, _, .nil => .nil
  | _, _, .cons a t => .cons a (Rvs.of t)
inductive MO where
  | lst (rs : List Rv)
  | ins (C : Addr) (fs : List (Str × Rv))
  | dK (kvs : List (Key × Rv))
  | dT (kvs : List (List Key × Rv))
  /-- a list that is read alone: the script -/
  | frz (rs : List Rv)
  /-- a table of code objects of the name q -/
  | tab (q : Str)
abbrev RF (S : Hp) {κ : Type} (fs : List (κ × Rv)) (gs : List (κ × V)) : Prop := Paired (fun p q => p.1 = q.1 ∧ Rv.is S p.2 q.2) fs gs
theorem RF.mono {S S' : Hp} {κ : Type} (h : Sub S S') {rs : List (κ × Rv)} {vs : List (κ × V)} (a : RF S rs vs) : RF S' rs vs := pflat a fun _ _ r => ⟨r.1, r.2.mono h⟩
def MO.is (S : Hp) : MO → HO → Prop
  | .lst rs, o => ∃ xs, o = .lst xs ∧ Rvs S rs xs
  | .ins C fs, o => ∃ dx gs, o = .ins C dx gs ∧ RF S fs gs
  | .dK kvs, o => ∃ gs, o = .dK gs ∧ RF S kvs gs
  | .dT kvs, o => ∃ gs, o = .dT gs ∧ RF S kvs gs
  | .frz rs, o => ∃ ob xs, o = .frz ob (.lst xs) ∧ Rvs S rs xs
  | .tab q, o => ∃ ps : Array Value, o = .tbl ps ∧ TriplesOk ps.toList ∧ ∀ pos cv, codeAmong pos ps.toList = some cv → ∃ c, cv = .ref c ∧ S c = some (LamX.CodeO c q)
theorem MO.is.mono {S S' : Hp} (h : Sub S S') : ∀ {m : MO} {o : HO}, m.is S o → m.is S' o
  | .lst _, _, ⟨xs, e, r⟩ => ⟨xs, e, r.mono h⟩
  | .ins _ _, _, ⟨dx, gs, e, r⟩ => ⟨dx, gs, e, RF.mono h r⟩
  | .dK _, _, ⟨gs, e, r⟩ => ⟨gs, e, RF.mono h r⟩
  | .dT _, _, ⟨gs, e, r⟩ => ⟨gs, e, RF.mono h r⟩
  | .frz _, _, ⟨ob, xs, e, r⟩ => ⟨ob, xs, e, r.mono h⟩
  | .tab _, _, ⟨ps, e, t, r⟩ => ⟨ps, e, t, fun p cv z => let ⟨c, e1, e2⟩ := r p cv z; ⟨c, e1, h _ _ e2⟩⟩
abbrev Led := Addr → Option MO
def updL (L : Led) (a : Addr) (m : MO) : Led := fun b => if b = a then some m else L b
theorem updL_same {L : Led} {a : Addr} {m : MO} : updL L a m a = some m := by unfold updL; rw [if_pos rfl]
theorem updL_ne {L : Led} {a b : Addr} {m : MO} (h : b ≠ a) : updL L a m b = L b := by unfold updL; rw [if_neg h]
theorem updL_updL {L : Led} {a : Addr} {m n : MO} : updL (updL L a m) a n = updL L a n := by
  funext b; unfold updL; split <;> rfl
theorem updL_comm {L : Led} {a b : Addr} {m n : MO} (h : a ≠ b) : updL (updL L a m) b n = updL (updL L b n) a m := by
  funext c
  unfold updL
  by_cases h1 : c = a
  · subst h1
    rw [if_neg h, if_pos rfl, if_pos rfl]
  · by_cases h2 : c = b
    · subst h2
      rw [if_pos rfl, if_neg h1, if_pos rfl]
    · rw [if_neg h2, if_neg h1, if_neg h1, if_neg h2]
theorem updL_eta {L : Led} {a : Addr} {m : MO} (h : L a = some m) : updL L a m = L := by
  funext b
  unfold updL
  split
  · rename_i e
    subst e
    exact h.symm
  · rfl
def delL (L : Led) (a : Addr) : Led := fun b => if b = a then none else L b
def Le (L L' : Led) : Prop := ∀ a m, L a = some m → L' a = some m
theorem Le.refl (L : Led) : Le L L := fun _ _ h => h
theorem Le.trans {L L1 L2 : Led} (a : Le L L1) (b : Le L1 L2) : Le L L2 := fun c o h => b c o (a c o h)

structure Ok (S H : Hp) (L : Led) : Prop where
  sub : Sub S H
  led : ∀ a m, L a = some m → S a = none ∧ ∃ o, H a = some o ∧ m.is S o
section
variable {S H : Hp} {L L' : Led} {p : Addr} {o o' : HO} {m : MO}
theorem Ok.le (k : Ok S H L) (h : Le L' L) : Ok S H L' := ⟨k.sub, fun a m e => k.led a m (h a m e)⟩
theorem Ok.free (k : Ok S H L) (h : H p = none) : L p = none := by
  cases q : L p with
  | none => rfl
  | some m =>
    obtain ⟨_, o, e, _⟩ := k.led p m q
    rw [h] at e
    cases e
/-- a new object, for good -/
theorem Ok.still (k : Ok S H L) (h : H p = none) : Ok (upd S p o) (upd H p o) L := ⟨k.sub.both, fun a m e => by
  obtain ⟨s, o', e', i⟩ := k.led a m e
  have ne : a ≠ p := ne_of_none e' h
  exact ⟨by rw [upd_ne ne]; exact s, o', by rw [upd_ne ne]; exact e', i.mono (Sub.new (k.sub.none h))⟩⟩
/-- a new object that may change -/
theorem Ok.new (k : Ok S H L) (h : H p = none) (i : m.is S o) : Ok S (upd H p o) (updL L p m) := ⟨k.sub.mut (k.sub.none h), fun a m' e => by
  by_cases ha : a = p
  · subst ha
    rw [updL_same] at e
    cases e
    exact ⟨k.sub.none h, o, upd_same, i⟩
  · rw [updL_ne ha] at e
    obtain ⟨s, o', e', i'⟩ := k.led a m' e
    exact ⟨s, o', by rw [upd_ne ha]; exact e', i'⟩⟩
/-- a new object that nobody asks after -/
theorem Ok.dust (k : Ok S H L) (h : H p = none) : Ok S (upd H p o) L := ⟨k.sub.mut (k.sub.none h), fun a m' e => by
  obtain ⟨s, o', e', i'⟩ := k.led a m' e
  exact ⟨s, o', by rw [upd_ne (ne_of_none e' h)]; exact e', i'⟩⟩
/-- an object of the ledger changes -/
theorem Ok.write {m0 : MO} (k : Ok S H L) (h : L p = some m0) (i : m.is S o) : Ok S (upd H p o) (updL L p m) := by
  have sp := (k.led p m0 h).1
  exact ⟨k.sub.mut sp, fun a m' e => by
    by_cases ha : a = p
    · subst ha
      rw [updL_same] at e
      cases e
      exact ⟨sp, o, upd_same, i⟩
    · rw [updL_ne ha] at e
      obtain ⟨s, o', e', i'⟩ := k.led a m' e
      exact ⟨s, o', by rw [upd_ne ha]; exact e', i'⟩⟩
/-- a list of the ledger is data from now on -/
theorem Ok.settle {ds : List PyData} (k : Ok S H L) (h : L p = some (.lst (ds.map Rv.dt))) : ∃ S', Sub S S' ∧ Ok S' H (delL L p) ∧ Da S' (.ref p) (.list ds) ∧ ∀ a o, S' a = some o → S a = none → a = p := by
  obtain ⟨sp, o, e, xs, rfl, i⟩ := k.led p _ h
  have sub : Sub S (upd S p (.lst xs)) := Sub.new sp
  refine ⟨upd S p (.lst xs), sub, ⟨fun b u eb => ?_, fun a m' ea => ?_⟩, .lst upd_same ((Rvs.data i).mono sub), fun a o e n => ?_⟩
  · by_cases hb : b = p
    · subst hb
      rw [upd_same] at eb
      cases eb
      exact e
    · rw [upd_ne hb] at eb
      exact k.sub b u eb
  · unfold delL at ea
    split at ea
    · cases ea
    · rename_i ne
      obtain ⟨s, o', e', i'⟩ := k.led a m' ea
      exact ⟨by rw [upd_ne ne]; exact s, o', e', i'.mono sub⟩
  · by_cases ha : a = p
    · exact ha
    · rw [upd_ne ha, n] at e
      cases e
end

/-! ### steps -/
/-- from (S, H, L) to (S', H', L'): what stands stands; what no ledger knew is as it was; what is new in the ledger was nothing -/
structure Step (S H : Hp) (L : Led) (S' H' : Hp) (L' : Led) : Prop where
  sub : Sub S S'
  ok : Ok S' H' L'
  fr : ∀ a o, H a = some o → L a = none → H' a = some o
  nw : ∀ a m, L' a = some m → L a = none → H a = none
  ns : ∀ a o, S' a = some o → S a = none → L a = none → H a = none
section
variable {S H S1 H1 S2 H2 : Hp} {L L' La Lb : Led} {p : Addr} {o : HO} {m m0 : MO}
theorem Step.refl (k : Ok S H L) : Step S H L S H L := ⟨Sub.refl S, k, fun _ _ e _ => e, (fun _ _ e n => by rw [e] at n; cases n), fun _ _ e n _ => by rw [e] at n; cases n⟩
theorem Step.trans (a : Step S H L S1 H1 La) (b : Step S1 H1 La S2 H2 Lb) : Step S H L S2 H2 Lb := ⟨a.sub.trans b.sub, b.ok, fun c o e n => b.fr c o (a.fr c o e n) (by
  cases q : La c with
  | none => rfl
  | some m =>
    have z := a.nw c m q n
    rw [e] at z
    cases z), (fun c m e n => by
  cases q : La c with
  | some m' => exact a.nw c m' q n
  | none =>
    have z := b.nw c m e q
    cases r : H c with
    | none => rfl
    | some o =>
      rw [a.fr c o r n] at z
      cases z), fun c o e n nl => by
  cases q : S1 c with
  | some o' => exact a.ns c o' q n nl
  | none =>
    cases q2 : La c with
    | some m' => exact a.nw c m' q2 nl
    | none =>
      have z := b.ns c o e q q2
      cases r : H c with
      | none => rfl
      | some o =>
        rw [a.fr c o r nl] at z
        cases z⟩
theorem Step.still (k : Ok S H L) (h : H p = none) : Step S H L (upd S p o) (upd H p o) L := ⟨Sub.new (k.sub.none h), k.still h, fun a u e _ => Sub.new h a u e, (fun _ _ e n => by rw [e] at n; cases n), fun a u e n _ => by
  by_cases ha : a = p
  · subst ha
    exact h
  · rw [upd_ne ha, n] at e
    cases e⟩
theorem Step.new (k : Ok S H L) (h : H p = none) (i : m.is S o) : Step S H L S (upd H p o) (updL L p m) := ⟨Sub.refl S, k.new h i, fun a u e _ => Sub.new h a u e, (fun a m' e n => by
  by_cases ha : a = p
  · subst ha
    exact h
  · rw [updL_ne ha, n] at e
    cases e), fun _ _ e n _ => by rw [e] at n; cases n⟩
theorem Step.dust (k : Ok S H L) (h : H p = none) : Step S H L S (upd H p o) L := ⟨Sub.refl S, k.dust h, fun a u e _ => Sub.new h a u e, (fun _ _ e n => by rw [e] at n; cases n), fun _ _ e n _ => by rw [e] at n; cases n⟩
theorem Step.write (k : Ok S H L) (h : L p = some m0) (i : m.is S o) : Step S H L S (upd H p o) (updL L p m) := ⟨Sub.refl S, k.write h i, (fun a u e n => by
  have ne : a ≠ p := fun z => by rw [z, h] at n; cases n
  rw [upd_ne ne]
  exact e), (fun a m' e n => by
  have ne : a ≠ p := fun z => by rw [z, h] at n; cases n
  rw [updL_ne ne, n] at e
  cases e), fun _ _ e n _ => by rw [e] at n; cases n⟩
theorem Step.le (t : Step S H L S1 H1 La) (h : Le Lb La) : Step S H L S1 H1 Lb := ⟨t.sub, t.ok.le h, t.fr, fun a m e n => t.nw a m (h a m e) n, t.ns⟩
/-- the ledger ahead may be forgotten -/
theorem Step.pre (t : Step S H L S1 H1 La) (h : Le L L') (k : Ok S H L') : Step S H L' S1 H1 La := ⟨t.sub, t.ok, fun a o e n => t.fr a o e (by
  cases q : L a with
  | none => rfl
  | some m => rw [h a m q] at n; cases n), (fun a m e n => t.nw a m e (by
  cases q : L a with
  | none => rfl
  | some m => rw [h a m q] at n; cases n)), fun a o e n nl => t.ns a o e n (by
  cases q : L a with
  | none => rfl
  | some m => rw [h a m q] at nl; cases nl)⟩
theorem Step.settle {ds : List PyData} (k : Ok S H L) (h : L p = some (.lst (ds.map Rv.dt))) : ∃ S', Step S H L S' H (delL L p) ∧ Da S' (.ref p) (.list ds) := by
  obtain ⟨S', a, b, c, d⟩ := k.settle h
  exact ⟨S', ⟨a, b, fun _ _ e _ => e, (fun x m e n => by
    unfold delL at e
    split at e
    · cases e
    · rw [e] at n
      cases n), fun x o e n nl => by
    have z := d x o e n
    rw [z, h] at nl
    cases nl⟩, c⟩
end

/-! ### names -/
abbrev Slots := List (Option V)
abbrev Rho := List (Option Rv)
structure Es (S : Hp) (σ : Slots) (ρ : Rho) : Prop where
  len : σ.length = ρ.length
  at_ : ∀ (i : Nat) (r : Rv), ρ[i]? = some (some r) → ∃ v, σ[i]? = some (some v) ∧ r.is S v
section
variable {S S' : Hp} {σ : Slots} {ρ : Rho}
theorem Es.mono (h : Sub S S') (e : Es S σ ρ) : Es S' σ ρ := ⟨e.len, fun i r q => by
  obtain ⟨v, a, b⟩ := e.at_ i r q
  exact ⟨v, a, b.mono h⟩⟩
theorem Es.set {i : Nat} {r : Rv} {v : V} (e : Es S σ ρ) (q : r.is S v) : Es S (σ.set i (some v)) (ρ.set i (some r)) := ⟨by rw [List.length_set, List.length_set]; exact e.len, fun j r' h => by
  by_cases hj : i = j
  · subst hj
    have hl : i < ρ.length := by
      have := (List.getElem?_eq_some_iff.mp h).1
      rwa [List.length_set] at this
    rw [List.getElem?_set_self hl] at h
    cases h
    exact ⟨v, List.getElem?_set_self (by rw [e.len]; exact hl), q⟩
  · rw [List.getElem?_set_ne hj] at h ⊢
    exact e.at_ j r' h⟩
/-- slots forgotten -/
def Fg (ρ ρ' : Rho) : Prop := ρ.length = ρ'.length ∧ ∀ (i : Nat) (r : Rv), ρ[i]? = some (some r) → ρ'[i]? = some (some r)
theorem Es.fg {ρ' : Rho} (e : Es S σ ρ') (h : Fg ρ ρ') : Es S σ ρ := ⟨e.len.trans h.1.symm, fun i r q => e.at_ i r (h.2 i r q)⟩
theorem Es.wipe (e : Es S σ ρ) : ∀ (vs : List Nat), Es S (L2.wipe σ vs) (vs.foldr (fun v ρ => ρ.set v none) ρ)
  | [] => e
  | v :: vs => by
    have q := Es.wipe e vs
    refine ⟨?_, fun j r h => ?_⟩
    · show ((L2.wipe σ vs).set v none).length = ((vs.foldr (fun v ρ => ρ.set v none) ρ).set v none).length
      rw [List.length_set, List.length_set]
      exact q.len
    · have h' : ((vs.foldr (fun v ρ => ρ.set v none) ρ).set v none)[j]? = some (some r) := h
      show ∃ w, ((L2.wipe σ vs).set v none)[j]? = some (some w) ∧ _
      by_cases hj : v = j
      · subst hj
        by_cases hl : v < (vs.foldr (fun v ρ => ρ.set v none) ρ).length
        · rw [List.getElem?_set_self hl] at h'
          cases h'
        · rw [List.getElem?_eq_none (by rw [List.length_set]; omega)] at h'
          cases h'
      · rw [List.getElem?_set_ne hj] at h' ⊢
        exact q.at_ j r h'
end

/-! ### the judgements -/
structure Cm where
  X : Cx
  W : WX
  xc : Value → Rho → Led → Prop
  tk : Takes X W
  po : PassesOwn (model X.prog X.w) X.A X.env X.xe
structure At (Y : Cm) (ρ : Rho) (L : Led) (S : Hp) (σ : Slots) (H : Hp) : Prop where
  ok : Ok S H L
  es : Es S σ ρ
  lx : ∀ c ρ' L' S' H' σ', Y.xc c ρ' L' → Step S H L S' H' L' → Es S' σ' ρ' → Y.W c none σ' H'
theorem At.next {Y : Cm} {ρ : Rho} {L L' : Led} {S S' : Hp} {σ : Slots} {H H' : Hp} (a : At Y ρ L S σ H) (t : Step S H L S' H' L') : At Y ρ L' S' σ H' :=
  ⟨t.ok, a.es.mono t.sub, fun c ρ2 L2 S2 H2 σ2 x s => a.lx c ρ2 L2 S2 H2 σ2 x (t.trans s)⟩
theorem At.env {Y : Cm} {ρ ρ' : Rho} {L : Led} {S : Hp} {σ σ' : Slots} {H : Hp} (a : At Y ρ L S σ H) (e : Es S σ' ρ') : At Y ρ' L S σ' H := ⟨a.ok, e, a.lx⟩

def wE (X : Cx) (e : Expr) : TE := fun σ H Q => ∀ pins s, Inv X pins σ H s → wpAny (model X.prog X.w) X.A (eval e X.env) (EP X pins σ Q) X.xe s
def wT (X : Cx) (e : Expr) : TT := fun σ H Q => ∀ pins s, Inv X pins σ H s → wpAny (model X.prog X.w) X.A (isTrue e X.env (eval e X.env)) (TP X pins σ Q) X.xe s
def wW (X : Cx) (e : Expr) : TT := fun σ H Q => ∀ whole pins s, Inv X pins σ H s → wpAny (model X.prog X.w) X.A (isTrue e X.env whole) (TP X pins σ Q) X.xe s
def wA (X : Cx) (es : List Expr) : TA := fun σ H Q => ∀ pos pins s, Inv X pins σ H s → wpAny (model X.prog X.w) X.A (spliced (backTo pos (starEach es X.env))) (AP X pins σ Q) X.xe s
def wS (X : Cx) (st : Stmt) : TS := fun D σ H => ∀ pins s, Inv X pins σ H s → wpAny (model X.prog X.w) X.A (exec st X.env) (SP X pins D) X.xe s
def wSs (X : Cx) (st : List Stmt) : TS := fun D σ H => ∀ pins s, Inv X pins σ H s → wpAny (model X.prog X.w) X.A (execs st X.env) (SP X pins D) X.xe s
def wI (X : Cx) (tg iter : Expr) : TI := fun σ H R => ∀ pins s, Inv X pins σ H s → wpAny (model X.prog X.w) X.A (eval iter X.env) (fun v s1 => wpAny (model X.prog X.w) X.A (pyIter v) (PIE X pins σ tg R) X.xe s1) X.xe s
section
variable {X : Cx} {e : Expr} {es : List Expr} {st : Stmt} {sts : List Stmt}
theorem wE.pe : PE X e (wE X e) := ⟨fun pins s _ _ _ I h => h pins s I⟩
theorem wT.pt : PT X e (wT X e) := ⟨fun pins s _ _ _ I h => h pins s I⟩
theorem wW.pw : PW X e (wW X e) := ⟨fun wh pins s _ _ _ I h => h wh pins s I⟩
theorem wA.pa : PA X es (wA X es) := ⟨fun pos pins s _ _ _ I h => h pos pins s I⟩
theorem wS.ps : PS X st (wS X st) := ⟨fun pins s _ _ _ I h => h pins s I⟩
theorem wSs.ps : PSs X sts (wSs X sts) := ⟨fun pins s _ _ _ I h => h pins s I⟩
theorem wI.pi {tg : Expr} : PI X tg e (wI X tg e) := ⟨fun pins s _ _ _ I h => h pins s I⟩
theorem wE.of {t : TE} (h : PE X e t) {σ : Slots} {H : Hp} {Q : VK} (q : t σ H Q) : wE X e σ H Q := fun pins s I => h.run pins s σ H Q I q
theorem wT.of {t : TT} (h : PT X e t) {σ : Slots} {H : Hp} {Q : Bool → Hp → Prop} (q : t σ H Q) : wT X e σ H Q := fun pins s I => h.run pins s σ H Q I q
theorem wW.of {t : TT} (h : PW X e t) {σ : Slots} {H : Hp} {Q : Bool → Hp → Prop} (q : t σ H Q) : wW X e σ H Q := fun wh pins s I => h.run wh pins s σ H Q I q
theorem wA.of {t : TA} (h : PA X es t) {σ : Slots} {H : Hp} {Q : List V → Hp → Prop} (q : t σ H Q) : wA X es σ H Q := fun pos pins s I => h.run pos pins s σ H Q I q
theorem wS.of {t : TS} (h : PS X st t) {σ : Slots} {H : Hp} {D : Ends} (q : t D σ H) : wS X st D σ H := fun pins s I => h.run pins s σ H D I q
theorem wSs.of {t : TS} (h : PSs X sts t) {σ : Slots} {H : Hp} {D : Ends} (q : t D σ H) : wSs X sts D σ H := fun pins s I => h.run pins s σ H D I q
theorem wI.of {tg : Expr} {t : TI} (h : PI X tg e t) {σ : Slots} {H : Hp} {R : It → Hp → Prop} (q : t σ H R) : wI X tg e σ H R := fun pins s I => h.run pins s σ H R I q
end

/-- e, from (ρ, L), gives a value and a ledger that K holds of -/
structure ME (Y : Cm) (e : Expr) (ρ : Rho) (L : Led) (K : Rv → Led → Prop) : Prop where
  run : ∀ S σ H, At Y ρ L S σ H → ∀ Q : VK, (∀ r L' S' H' v, K r L' → Step S H L S' H' L' → r.is S' v → Q v H') → wE Y.X e σ H Q
structure MT (Y : Cm) (e : Expr) (ρ : Rho) (L : Led) (K : Bool → Led → Prop) : Prop where
  run : ∀ S σ H, At Y ρ L S σ H → ∀ Q : Bool → Hp → Prop, (∀ b L' S' H', K b L' → Step S H L S' H' L' → Q b H') → wT Y.X e σ H Q
structure MW (Y : Cm) (e : Expr) (ρ : Rho) (L : Led) (K : Bool → Led → Prop) : Prop where
  run : ∀ S σ H, At Y ρ L S σ H → ∀ Q : Bool → Hp → Prop, (∀ b L' S' H', K b L' → Step S H L S' H' L' → Q b H') → wW Y.X e σ H Q
structure MA (Y : Cm) (es : List Expr) (ρ : Rho) (L : Led) (K : List Rv → Led → Prop) : Prop where
  run : ∀ S σ H, At Y ρ L S σ H → ∀ Q : List V → Hp → Prop, (∀ rs L' S' H' vs, K rs L' → Step S H L S' H' L' → Rvs S' rs vs → Q vs H') → wA Y.X es σ H Q
/-- .. exactly r and L' -/
abbrev EX (Y : Cm) (e : Expr) (ρ : Rho) (L : Led) (r : Rv) (L' : Led) : Prop := ME Y e ρ L fun r1 L1 => r1 = r ∧ L1 = L'
abbrev TX (Y : Cm) (e : Expr) (ρ : Rho) (L : Led) (b : Bool) (L' : Led) : Prop := MT Y e ρ L fun r1 L1 => r1 = b ∧ L1 = L'
abbrev WX' (Y : Cm) (e : Expr) (ρ : Rho) (L : Led) (b : Bool) (L' : Led) : Prop := MW Y e ρ L fun r1 L1 => r1 = b ∧ L1 = L'
abbrev AX (Y : Cm) (es : List Expr) (ρ : Rho) (L : Led) (rs : List Rv) (L' : Led) : Prop := MA Y es ρ L fun r1 L1 => r1 = rs ∧ L1 = L'
theorem ME.imp {Y : Cm} {e : Expr} {ρ : Rho} {L : Led} {K K' : Rv → Led → Prop} (h : ME Y e ρ L K) (i : ∀ r L', K r L' → K' r L') : ME Y e ρ L K' := ⟨fun S σ H a Q q => h.run S σ H a Q fun r L' S' H' v k => q r L' S' H' v (i r L' k)⟩
theorem MT.imp {Y : Cm} {e : Expr} {ρ : Rho} {L : Led} {K K' : Bool → Led → Prop} (h : MT Y e ρ L K) (i : ∀ r L', K r L' → K' r L') : MT Y e ρ L K' := ⟨fun S σ H a Q q => h.run S σ H a Q fun r L' S' H' k => q r L' S' H' (i r L' k)⟩
theorem EX.to {Y : Cm} {e : Expr} {ρ : Rho} {L L' : Led} {r : Rv} {K : Rv → Led → Prop} (h : EX Y e ρ L r L') (k : K r L') : ME Y e ρ L K := ME.imp h fun _ _ ⟨a, b⟩ => by subst a; subst b; exact k
theorem EX.eq {Y : Cm} {e : Expr} {ρ : Rho} {L L' : Led} {r r' : Rv} (h : EX Y e ρ L r L') (k : r = r') : EX Y e ρ L r' L' := by subst k; exact h
theorem TX.eq {Y : Cm} {e : Expr} {ρ : Rho} {L L' : Led} {r r' : Bool} (h : TX Y e ρ L r L') (k : r = r') : TX Y e ρ L r' L' := by subst k; exact h

/-- what is wanted behind a statement that does not go on -/
structure Nd where
  rt : Rv → Led → Prop
  bk : Rho → Led → Prop := fun _ _ => False
  ct : Rho → Led → Prop := fun _ _ => False
structure Lift (S H : Hp) (L : Led) (N : Rho → Led → Prop) (D : Nd) (De : Ends) : Prop where
  nx : ∀ ρ L' S' H' σ, N ρ L' → Step S H L S' H' L' → Es S' σ ρ → De.nx σ H'
  rt : ∀ r L' S' H' v, D.rt r L' → Step S H L S' H' L' → r.is S' v → De.rt v H'
  bk : ∀ ρ L' S' H' σ, D.bk ρ L' → Step S H L S' H' L' → Es S' σ ρ → De.bk σ H'
  ct : ∀ ρ L' S' H' σ, D.ct ρ L' → Step S H L S' H' L' → Es S' σ ρ → De.ct σ H'
theorem Lift.mono {S S' H H' : Hp} {L L' : Led} {N : Rho → Led → Prop} {D : Nd} {De : Ends} (l : Lift S H L N D De) (t : Step S H L S' H' L') : Lift S' H' L' N D De :=
  ⟨fun ρ L S2 H σ k s => l.nx ρ L S2 H σ k (t.trans s), fun r L S2 H v k s => l.rt r L S2 H v k (t.trans s), fun ρ L S2 H σ k s => l.bk ρ L S2 H σ k (t.trans s), fun ρ L S2 H σ k s => l.ct ρ L S2 H σ k (t.trans s)⟩
structure MS (Y : Cm) (st : Stmt) (N : Rho → Led → Prop) (D : Nd) (ρ : Rho) (L : Led) : Prop where
  run : ∀ S σ H, At Y ρ L S σ H → ∀ De, Lift S H L N D De → wS Y.X st De σ H
structure MSs (Y : Cm) (sts : List Stmt) (N : Rho → Led → Prop) (D : Nd) (ρ : Rho) (L : Led) : Prop where
  run : ∀ S σ H, At Y ρ L S σ H → ∀ De, Lift S H L N D De → wSs Y.X sts De σ H
end Cw

set_option Elab.async false
set_option linter.all false
set_option maxRecDepth 100000
set_option maxHeartbeats 2000000
/-! Cw, part B: expressions. -/
namespace Cw
open PySem PySem.Spec PyProof.Rows L2

/-! ### what a list or a tuple is, by data or as a handle -/
/-- r is a list of rs: data, or an object of the ledger -/
def LR (L : Led) (r : Rv) (rs : List Rv) : Prop := (∃ ds, r = .dt (.list ds) ∧ rs = ds.map Rv.dt) ∨ ∃ p, r = .vl (.ref p) ∧ L p = some (.lst rs)
abbrev LL (L : Led) (r : Rv) (ds : List PyData) : Prop := LR L r (ds.map Rv.dt)
theorem LR.at_ {S H : Hp} {L : Led} {r : Rv} {rs : List Rv} {x : V} (h : LR L r rs) (k : Ok S H L) (i : r.is S x) : ∃ a xs, x = .ref a ∧ H a = some (.lst xs) ∧ Rvs S rs xs := by
  rcases h with ⟨ds, rfl, rfl⟩ | ⟨p, rfl, e⟩
  · cases i with
    | lst e t => exact ⟨_, _, rfl, k.sub _ _ e, Rvs.of t⟩
  · obtain ⟨_, o, e2, xs, rfl, t⟩ := k.led p _ e
    exact ⟨p, xs, i, e2, t⟩
theorem LL.at_ {S H : Hp} {L : Led} {r : Rv} {ds : List PyData} {x : V} (h : LL L r ds) (k : Ok S H L) (i : r.is S x) : ∃ a xs, x = .ref a ∧ H a = some (.lst xs) ∧ DaAll S xs ds := by
  obtain ⟨a, xs, e, e2, t⟩ := LR.at_ h k i
  exact ⟨a, xs, e, e2, Rvs.data t⟩
theorem LL.dt {L : Led} {ds : List PyData} : LL L (.dt (.list ds)) ds := .inl ⟨ds, rfl, rfl⟩
theorem LR.h {L : Led} {p : Addr} {rs : List Rv} (h : L p = some (.lst rs)) : LR L (.vl (.ref p)) rs := .inr ⟨p, rfl, h⟩
theorem LL.h {L : Led} {p : Addr} {ds : List PyData} (h : L p = some (.lst (ds.map Rv.dt))) : LL L (.vl (.ref p)) ds := .inr ⟨p, rfl, h⟩
theorem Da.tupAt {S H : Hp} {L : Led} {ds : List PyData} {x : V} (k : Ok S H L) (i : Rv.is S (.dt (.tuple ds)) x) : ∃ a xs, x = .ref a ∧ S a = some (.tup xs) ∧ H a = some (.tup xs) ∧ DaAll S xs ds := by
  cases i with
  | tup e t => exact ⟨_, _, rfl, e, k.sub _ _ e, t⟩
theorem Da.intAt {S : Hp} {n : Int} {x : V} (i : Rv.is S (.dt (.int n)) x) : x = .int n := by cases i; rfl
theorem Da.strAt {S : Hp} {z : Str} {x : V} (i : Rv.is S (.dt (.str z)) x) : x = .str z := by cases i; rfl
theorem Da.blAt {S : Hp} {z : Bool} {x : V} (i : Rv.is S (.dt (.bool z)) x) : x = .bl z := by cases i; rfl
theorem Da.nonAt {S : Hp} {x : V} (i : Rv.is S (.dt .none) x) : x = .non := by cases i; rfl
theorem DaAll.len {S : Hp} {xs : List V} {ds : List PyData} (h : DaAll S xs ds) : xs.length = ds.length := h.pd.length
theorem Rvs.len {S : Hp} {rs : List Rv} {xs : List V} (h : Rvs S rs xs) : rs.length = xs.length := Paired.length h

mutual
/-- r reads as the data d: data, or lists of the ledger all the way down -/
inductive DD (L : Led) : Rv → PyData → Prop
  | dt {d : PyData} : DD L (.dt d) d
  | lst {p : Addr} {rs : List Rv} {ds : List PyData} : L p = some (.lst rs) → DDs L rs ds → DD L (.vl (.ref p)) (.list ds)
inductive DDs (L : Led) : List Rv → List PyData → Prop
  | nil : DDs L [] []
  | cons {r : Rv} {rs : List Rv} {d : PyData} {ds : List PyData} : DD L r d → DDs L rs ds → DDs L (r :: rs) (d :: ds)
end
theorem DDs.pd {L : Led} : ∀ {rs : List Rv} {ds : List PyData}, DDs L rs ds → Paired (DD L) rs ds
  | _, _, .nil => .nil
  | _, _, .cons a t => .cons a t.pd
theorem DDs.of {L : Led} : ∀ {rs : List Rv} {ds : List PyData}, Paired (DD L) rs ds → DDs L rs ds
  | _, _, .nil => .nil
  | _, _, .cons a t => .cons a (DDs.of t)
theorem DDs.data {L : Led} : ∀ (ds : List PyData), DDs L (ds.map Rv.dt) ds
  | [] => .nil
  | _ :: ds => .cons .dt (DDs.data ds)
theorem DD.lists {L : Led} {r : Rv} {ds : List PyData} (h : DD L r (.list ds)) : ∃ rs, LR L r rs ∧ Paired (DD L) rs ds := by
  cases h with
  | dt => exact ⟨_, LL.dt, (DDs.data ds).pd⟩
  | lst e t => exact ⟨_, LR.h e, t.pd⟩
theorem DD.ofLL {L : Led} {p : Addr} {ds : List PyData} (h : L p = some (.lst (ds.map Rv.dt))) : DD L (.vl (.ref p)) (.list ds) := .lst h (DDs.data ds)
mutual
theorem DD.at_ {K : PySem.W.Frag} {S H : Hp} {L : Led} (k : Ok S H L) : ∀ {r : Rv} {d : PyData} {x : V}, DD L r d → r.is S x → Dp K H x d
  | _, _, _, .dt, i => (Da.mono k.sub i).dp
  | _, _, x, .lst (p := p) e t, i => by
    obtain ⟨_, o, e2, xs, rfl, rv⟩ := k.led p _ e
    have ex : x = .ref p := i
    subst ex
    exact .lst (SqL.of e2) (DDs.at_ k t rv)
theorem DDs.at_ {K : PySem.W.Frag} {S H : Hp} {L : Led} (k : Ok S H L) : ∀ {rs : List Rv} {ds : List PyData} {xs : List V}, DDs L rs ds → Rvs S rs xs → DpAll K H xs ds
  | _, _, _, .nil, .nil => .nil
  | _, _, _, .cons a t, .cons i is => .cons (DD.at_ k a i) (DDs.at_ k t is)
end
mutual
theorem DD.mono {L L' : Led} (h : ∀ a rs, L a = some (.lst rs) → L' a = some (.lst rs)) : ∀ {r : Rv} {d : PyData}, DD L r d → DD L' r d
  | _, _, .dt => .dt
  | _, _, .lst e t => .lst (h _ _ e) (DDs.mono h t)
theorem DDs.mono {L L' : Led} (h : ∀ a rs, L a = some (.lst rs) → L' a = some (.lst rs)) : ∀ {rs : List Rv} {ds : List PyData}, DDs L rs ds → DDs L' rs ds
  | _, _, .nil => .nil
  | _, _, .cons a t => .cons (DD.mono h a) (DDs.mono h t)
end

section
variable {Y : Cm} {ρ : Rho} {L L1 L2 L3 : Led} {r ra rb rc : Rv} {e a b c : Expr} {es : List Expr} {pos : Pos}

/-! ### names, constants -/
theorem ex_var (i : Nat) {x : Str} (h : ρ[i]? = some (some r)) (hN : Y.X.N[i]? = some x) (hv : Vis Y.X.env.scope x) (hd : (x == ("__debug__" : Str)) = false := by decide) (hcd : (x == ("__classdict__" : Str)) = false := by decide) : EX Y (.Name x pos) ρ L r L :=
  ⟨fun S σ H A Q q => wE.of (pe_var hN hv hd hcd) (by
    obtain ⟨v, e, k⟩ := A.es.at_ i r h
    exact ⟨v, e, q r L S H v ⟨rfl, rfl⟩ (Step.refl A.ok) k⟩)⟩
theorem ex_pe {v : V} (h : PE Y.X e (tC v)) (hr : ∀ S, r.is S v) : EX Y e ρ L r L := ⟨fun S σ H A Q q => wE.of h (q r L S H v ⟨rfl, rfl⟩ (Step.refl A.ok) (hr S))⟩
theorem ex_int {i : Int} {j} : EX Y (.Constant (.int i) j pos) ρ L (.dt (.int i)) L := ex_pe pe_int fun _ => .int i
theorem ex_bl {i : Bool} {j} : EX Y (.Constant (.bool i) j pos) ρ L (.dt (.bool i)) L := ex_pe pe_bl fun _ => .bl i
theorem ex_non {j} : EX Y (.Constant .none j pos) ρ L (.dt .none) L := ex_pe pe_non fun _ => .non
theorem ex_str {i : Str} {j} : EX Y (.Constant (.str i) j pos) ρ L (.dt (.str i)) L := ex_pe pe_str fun _ => .str i
theorem ex_gint {x : Str} {i : Int} {u : Value} (hg : Gl Y.X x) (hm : Y.X.mg x = some u) (hr : RelV (.int i) u) (hd : (x == ("__debug__" : Str)) = false := by decide) : EX Y (.Name x pos) ρ L (.dt (.int i)) L := ex_pe (pe_glob hg hm hr hd) fun _ => .int i
theorem ex_gstr {x : Str} {i : Str} {u : Value} (hg : Gl Y.X x) (hm : Y.X.mg x = some u) (hr : RelV (.str i) u) (hd : (x == ("__debug__" : Str)) = false := by decide) : EX Y (.Name x pos) ρ L (.dt (.str i)) L := ex_pe (pe_glob hg hm hr hd) fun _ => .str i
/-- a built-in type as a value -/
theorem ex_type {x : Str} {T : String} (hg : Gl Y.X x) (hm : Y.X.mg x = none) (hv : bootBuiltins x = some (.type T)) (hn : x ≠ "__name__" := by decide) (hd : (x == ("__debug__" : Str)) = false := by decide) : EX Y (.Name x pos) ρ L (.vl (.ty T)) L := ex_pe (pe_bltn (v := .ty T) hg hm hv rfl hn hd) fun _ => rfl

/-! ### arguments, displays -/
theorem ax_nil : AX Y [] ρ L [] L := ⟨fun S σ H A Q q => wA.of pa_nil (q [] L S H [] ⟨rfl, rfl⟩ (Step.refl A.ok) .nil)⟩
theorem ma_cons {K1 : Rv → Led → Prop} {K : List Rv → Led → Prop} (h : ME Y e ρ L K1) (t : ∀ r L1, K1 r L1 → MA Y es ρ L1 fun rs L2 => K (r :: rs) L2) (hs : starEach (e :: es) Y.X.env = (false, eval e Y.X.env) :: starEach es Y.X.env := by rfl) : MA Y (e :: es) ρ L K :=
  ⟨fun S σ H A Q q => wA.of (pa_cons wE.pe wA.pa hs) (h.run S σ H A _ fun r L1 S1 H1 v k t1 i => (t r L1 k).run S1 σ H1 (A.next t1) _ fun rs L2 S2 H2 vs kk t2 is => q (r :: rs) L2 S2 H2 (v :: vs) kk (t1.trans t2) (.cons (i.mono t2.sub) is))⟩
theorem MA.imp {K K' : List Rv → Led → Prop} (h : MA Y es ρ L K) (i : ∀ rs L', K rs L' → K' rs L') : MA Y es ρ L K' := ⟨fun S σ H a Q q => h.run S σ H a Q fun r L' S' H' v k => q r L' S' H' v (i r L' k)⟩
theorem ax_cons {rs : List Rv} (h : EX Y e ρ L r L1) (t : AX Y es ρ L1 rs L2) (hs : starEach (e :: es) Y.X.env = (false, eval e Y.X.env) :: starEach es Y.X.env := by rfl) : AX Y (e :: es) ρ L (r :: rs) L2 :=
  ma_cons h (fun r' L' ⟨e1, e2⟩ => by
    subst e1 e2
    exact t.imp fun rs' L3 ⟨e3, e4⟩ => by
      subst e3 e4
      exact ⟨rfl, rfl⟩) hs
theorem me_tup {k} {ds : List PyData} {K : Rv → Led → Prop} (h : MA Y es ρ L fun rs L' => ∃ ds : List PyData, rs = ds.map Rv.dt ∧ ds.length ≤ sizeLine ∧ K (.dt (.tuple ds)) L') : ME Y (.Tuple es k pos) ρ L K := ⟨fun S σ H A Q q => wE.of (pe_tup wA.pa) (h.run S σ H A _ fun rs L' S1 H1 vs ⟨ds, e, z, kk⟩ t1 is => by
  subst e
  have hd := Rvs.data is
  exact ⟨by rw [hd.len]; exact z, fun p hp => q _ L' (upd S1 p (.tup vs)) _ _ kk (t1.trans (Step.still t1.ok hp)) (.tup upd_same (hd.mono (Sub.new (t1.ok.sub.none hp))))⟩)⟩
theorem ex_tup {k} {ds : List PyData} (h : AX Y es ρ L (ds.map Rv.dt) L1) (hz : ds.length ≤ sizeLine) : EX Y (.Tuple es k pos) ρ L (.dt (.tuple ds)) L1 := me_tup (ds := ds) (MA.imp h fun _ _ ⟨a, b⟩ => ⟨ds, a, hz, rfl, b⟩)
theorem me_lst {K : Rv → Led → Prop} (h : MA Y es ρ L fun rs L' => rs.length ≤ sizeLine ∧ ∀ p, L' p = none → K (.vl (.ref p)) (updL L' p (.lst rs))) : ME Y (.List es pos) ρ L K := ⟨fun S σ H A Q q => wE.of (pe_lst wA.pa) (h.run S σ H A _ fun rs L' S1 H1 vs ⟨z, kk⟩ t1 is =>
  ⟨by rw [← Rvs.len is]; exact z, fun p hp => q _ _ S1 _ _ (kk p (t1.ok.free hp)) (t1.trans (Step.new t1.ok hp ⟨vs, rfl, is⟩)) rfl⟩)⟩
theorem ex_lst {ds : List PyData} (h : AX Y es ρ L (ds.map Rv.dt) L1) (hz : ds.length ≤ sizeLine) : EX Y (.List es pos) ρ L (.dt (.list ds)) L1 := ⟨fun S σ H A Q q => wE.of (pe_lst wA.pa) (h.run S σ H A _ fun rs L' S1 H1 vs ⟨e, e2⟩ t1 is => by
  subst e e2
  have hd := Rvs.data is
  exact ⟨by rw [hd.len]; exact hz, fun p hp => q _ _ (upd S1 p (.lst vs)) _ _ ⟨rfl, rfl⟩ (t1.trans (Step.still t1.ok hp)) (.lst upd_same (hd.mono (Sub.new (t1.ok.sub.none hp))))⟩)⟩

/-! ### operators by what they give on data -/
/-- a rule r of two values gives c from a and b -/
def RM (r : R2) (a b : Rv) (L : Led) (c : Rv) : Prop := ∀ S H x y, Ok S H L → a.is S x → b.is S y → ∀ Q : VK, (∀ S' H' v, Step S H L S' H' L → c.is S' v → Q v H') → r x y H Q
/-- f is binaryOp op, inplaceOp op or compareOp op -/
def Op2 (X : Cx) (f : Value → Value → Sem Value) (a b : Rv) (L : Led) (c : Rv) : Prop := ∃ r, OpR X f r ∧ RM r a b L c
theorem ex_bin {op : Operator} (ha : EX Y a ρ L ra L1) (hb : EX Y b ρ L1 rb L2) (h : Op2 Y.X (binaryOp op) ra rb L2 rc) : EX Y (.BinOp a op b pos) ρ L rc L2 := ⟨fun S σ H A Q q => by
  obtain ⟨r, ho, hr⟩ := h
  refine wE.of (pe_op ho wE.pe wE.pe) (ha.run S σ H A _ fun r1 L1' S1 H1 x ⟨e1, e2⟩ t1 i1 => ?_)
  subst e1 e2
  refine hb.run S1 σ H1 (A.next t1) _ fun r2 L2' S2 H2 y ⟨e1, e2⟩ t2 i2 => ?_
  subst e1 e2
  exact hr S2 H2 x y t2.ok (i1.mono t2.sub) i2 Q fun S' H' v t3 i3 => q _ _ S' H' v ⟨rfl, rfl⟩ ((t1.trans t2).trans t3) i3⟩
theorem ex_cmp {op : CmpOp} (ha : EX Y a ρ L ra L1) (hb : EX Y b ρ L1 rb L2) (h : Op2 Y.X (compareOp op) ra rb L2 rc) (hm : behindInMarks op b = false) : EX Y (.Compare a [op] [b] pos) ρ L rc L2 := ⟨fun S σ H A Q q => by
  obtain ⟨r, ho, hr⟩ := h
  refine wE.of (pe_cmpR ho wE.pe wE.pe hm) (ha.run S σ H A _ fun r1 L1' S1 H1 x ⟨e1, e2⟩ t1 i1 => ?_)
  subst e1 e2
  refine hb.run S1 σ H1 (A.next t1) _ fun r2 L2' S2 H2 y ⟨e1, e2⟩ t2 i2 => ?_
  subst e1 e2
  exact hr S2 H2 x y t2.ok (i1.mono t2.sub) i2 Q fun S' H' v t3 i3 => q _ _ S' H' v ⟨rfl, rfl⟩ ((t1.trans t2).trans t3) i3⟩
theorem tx_cmp {op : CmpOp} {k : Bool} (ha : EX Y a ρ L ra L1) (hb : EX Y b ρ L1 rb L2) (h : Op2 Y.X (compareOp op) ra rb L2 (.dt (.bool k))) (hm : behindInMarks op b = false) : TX Y (.Compare a [op] [b] pos) ρ L k L2 := ⟨fun S σ H A Q q => by
  obtain ⟨r, ho, hr⟩ := h
  refine wT.of (pt_cmpR ho wE.pe wE.pe hm) (ha.run S σ H A _ fun r1 L1' S1 H1 x ⟨e1, e2⟩ t1 i1 => ?_)
  subst e1 e2
  refine hb.run S1 σ H1 (A.next t1) _ fun r2 L2' S2 H2 y ⟨e1, e2⟩ t2 i2 => ?_
  subst e1 e2
  exact hr S2 H2 x y t2.ok (i1.mono t2.sub) i2 _ fun S' H' v t3 i3 => ⟨k, Da.blAt i3, q _ _ S' H' ⟨rfl, rfl⟩ ((t1.trans t2).trans t3)⟩⟩

theorem rm_I0 {g : Int → Int → V} {i j : Int} (h : ∀ S, rc.is S (g i j)) : RM (rI0 g) (.dt (.int i)) (.dt (.int j)) L rc := fun S H x y k hx hy Q q => ⟨i, j, Da.intAt hx, Da.intAt hy, q S H _ (Step.refl k) (h S)⟩
theorem rm_I {C : Int → Int → Prop} {g : Int → Int → V} {i j : Int} (hc : C i j) (h : ∀ S, rc.is S (g i j)) : RM (rI C g) (.dt (.int i)) (.dt (.int j)) L rc := fun S H x y k hx hy Q q => ⟨i, j, Da.intAt hx, Da.intAt hy, hc, q S H _ (Step.refl k) (h S)⟩
section
variable {X : Cx} {i j : Int}
theorem o_add : Op2 X (binaryOp .Add) (.dt (.int i)) (.dt (.int j)) L (.dt (.int (i + j))) := ⟨_, op_add, rm_I0 fun _ => .int _⟩
theorem o_sub : Op2 X (binaryOp .Sub) (.dt (.int i)) (.dt (.int j)) L (.dt (.int (i - j))) := ⟨_, op_sub, rm_I0 fun _ => .int _⟩
theorem o_mul (h : CMul i j) : Op2 X (binaryOp .Mult) (.dt (.int i)) (.dt (.int j)) L (.dt (.int (i * j))) := ⟨_, op_mul, rm_I h fun _ => .int _⟩
theorem o_mulW (h : CMulW i j) : Op2 X (binaryOp .Mult) (.dt (.int i)) (.dt (.int j)) L (.dt (.int (i * j))) := ⟨_, op_mulW, rm_I h fun _ => .int _⟩
theorem o_mod (h : 0 < j) : Op2 X (binaryOp .Mod) (.dt (.int i)) (.dt (.int j)) L (.dt (.int (i % j))) := ⟨_, op_mod, rm_I h fun _ => .int _⟩
theorem o_div (h : CDiv i j) : Op2 X (binaryOp .FloorDiv) (.dt (.int i)) (.dt (.int j)) L (.dt (.int (i / j))) := ⟨_, op_fdiv, rm_I h fun _ => .int _⟩
theorem o_divW (h : CDivW i j) : Op2 X (binaryOp .FloorDiv) (.dt (.int i)) (.dt (.int j)) L (.dt (.int (i / j))) := ⟨_, op_fdivW, rm_I h fun _ => .int _⟩
theorem o_pow (h : CPow i j) : Op2 X (binaryOp .Pow) (.dt (.int i)) (.dt (.int j)) L (.dt (.int (i ^ j.toNat))) := ⟨_, op_pow, rm_I h fun _ => .int _⟩
theorem o_lt : Op2 X (compareOp .Lt) (.dt (.int i)) (.dt (.int j)) L (.dt (.bool (decide (i < j)))) := ⟨_, op_lt, rm_I0 fun _ => .bl _⟩
theorem o_le : Op2 X (compareOp .LtE) (.dt (.int i)) (.dt (.int j)) L (.dt (.bool (decide (i ≤ j)))) := ⟨_, op_le, rm_I0 fun _ => .bl _⟩
theorem o_gt : Op2 X (compareOp .Gt) (.dt (.int i)) (.dt (.int j)) L (.dt (.bool (decide (j < i)))) := ⟨_, op_gt, rm_I0 fun _ => .bl _⟩
theorem o_ge : Op2 X (compareOp .GtE) (.dt (.int i)) (.dt (.int j)) L (.dt (.bool (decide (j ≤ i)))) := ⟨_, op_ge, rm_I0 fun _ => .bl _⟩
theorem o_iadd : Op2 X (inplaceOp .Add) (.dt (.int i)) (.dt (.int j)) L (.dt (.int (i + j))) := ⟨_, iop_add, rm_I0 fun _ => .int _⟩
theorem o_isub : Op2 X (inplaceOp .Sub) (.dt (.int i)) (.dt (.int j)) L (.dt (.int (i - j))) := ⟨_, iop_sub, rm_I0 fun _ => .int _⟩
end
/-- scalars, as == sees them -/
theorem rm_eq {d d' : PyData} {k : Bool} (h : ∀ S x y, Da S x d → Da S y d' → scal x y = true ∧ decide (x = y) = k) : RM rEq (.dt d) (.dt d') L (.dt (.bool k)) := fun S H x y ok hx hy Q q => by
  obtain ⟨h1, h2⟩ := h S x y hx hy
  exact ⟨h1, q S H _ (Step.refl ok) (h2 ▸ .bl _)⟩
theorem rm_ne {d d' : PyData} {k : Bool} (h : ∀ S x y, Da S x d → Da S y d' → scal x y = true ∧ (!decide (x = y)) = k) : RM rNe (.dt d) (.dt d') L (.dt (.bool k)) := fun S H x y ok hx hy Q q => by
  obtain ⟨h1, h2⟩ := h S x y hx hy
  exact ⟨h1, q S H _ (Step.refl ok) (h2 ▸ .bl _)⟩
section
variable {X : Cx}
theorem dec_v {i j : Int} : decide (V.int i = V.int j) = decide (i = j) := decide_eq_decide.mpr ⟨V.int.inj, congrArg _⟩
theorem dec_b {i j : Bool} : decide (V.bl i = V.bl j) = decide (i = j) := decide_eq_decide.mpr ⟨V.bl.inj, congrArg _⟩
theorem dec_s {i j : Str} : decide (V.str i = V.str j) = decide (i = j) := decide_eq_decide.mpr ⟨V.str.inj, congrArg _⟩
theorem o_eqI {i j : Int} : Op2 X (compareOp .Eq) (.dt (.int i)) (.dt (.int j)) L (.dt (.bool (decide (i = j)))) := ⟨_, op_eq, rm_eq fun S x y hx hy => by cases hx; cases hy; exact ⟨rfl, dec_v⟩⟩
theorem o_neI {i j : Int} : Op2 X (compareOp .NotEq) (.dt (.int i)) (.dt (.int j)) L (.dt (.bool (!decide (i = j)))) := ⟨_, op_ne, rm_ne fun S x y hx hy => by cases hx; cases hy; exact ⟨rfl, congrArg _ dec_v⟩⟩
theorem o_eqB {i j : Bool} : Op2 X (compareOp .Eq) (.dt (.bool i)) (.dt (.bool j)) L (.dt (.bool (decide (i = j)))) := ⟨_, op_eq, rm_eq fun S x y hx hy => by cases hx; cases hy; exact ⟨rfl, dec_b⟩⟩
theorem o_neB {i j : Bool} : Op2 X (compareOp .NotEq) (.dt (.bool i)) (.dt (.bool j)) L (.dt (.bool (!decide (i = j)))) := ⟨_, op_ne, rm_ne fun S x y hx hy => by cases hx; cases hy; exact ⟨rfl, congrArg _ dec_b⟩⟩
theorem o_eqS {i j : Str} : Op2 X (compareOp .Eq) (.dt (.str i)) (.dt (.str j)) L (.dt (.bool (decide (i = j)))) := ⟨_, op_eq, rm_eq fun S x y hx hy => by cases hx; cases hy; exact ⟨rfl, dec_s⟩⟩
theorem o_neS {i j : Str} : Op2 X (compareOp .NotEq) (.dt (.str i)) (.dt (.str j)) L (.dt (.bool (!decide (i = j)))) := ⟨_, op_ne, rm_ne fun S x y hx hy => by cases hx; cases hy; exact ⟨rfl, congrArg _ dec_s⟩⟩
/-- data of any depth -/
theorem o_eqD {d d' : PyData} (hu : X.A.units + 64 < cLine) (h1 : SeqAt.shaped d = true) (h2 : SeqAt.shaped d' = true) : Op2 X (compareOp .Eq) (.dt d) (.dt d') L (.dt (.bool (PyData.eqv d d'))) :=
  ⟨_, op_eqD hu, fun S H x y k hx hy Q q => ⟨d, d', (Da.mono k.sub hx).dp, (Da.mono k.sub hy).dp, h1, h2, q S H _ (Step.refl k) (.bl _)⟩⟩
theorem o_neD {d d' : PyData} (hu : X.A.units + 64 < cLine) (h1 : SeqAt.shaped d = true) (h2 : SeqAt.shaped d' = true) : Op2 X (compareOp .NotEq) (.dt d) (.dt d') L (.dt (.bool (!PyData.eqv d d'))) :=
  ⟨_, op_neD hu, fun S H x y k hx hy Q q => ⟨d, d', (Da.mono k.sub hx).dp, (Da.mono k.sub hy).dp, h1, h2, q S H _ (Step.refl k) (.bl _)⟩⟩
theorem o_eqR {r r' : Rv} {d d' : PyData} (hu : X.A.units + 64 < cLine) (a : DD L r d) (b : DD L r' d') (h1 : SeqAt.shaped d = true) (h2 : SeqAt.shaped d' = true) : Op2 X (compareOp .Eq) r r' L (.dt (.bool (PyData.eqv d d'))) :=
  ⟨_, op_eqD hu, fun S H x y k hx hy Q q => ⟨d, d', DD.at_ k a hx, DD.at_ k b hy, h1, h2, q S H _ (Step.refl k) (.bl _)⟩⟩
theorem o_neR {r r' : Rv} {d d' : PyData} (hu : X.A.units + 64 < cLine) (a : DD L r d) (b : DD L r' d') (h1 : SeqAt.shaped d = true) (h2 : SeqAt.shaped d' = true) : Op2 X (compareOp .NotEq) r r' L (.dt (.bool (!PyData.eqv d d'))) :=
  ⟨_, op_neD hu, fun S H x y k hx hy Q q => ⟨d, d', DD.at_ k a hx, DD.at_ k b hy, h1, h2, q S H _ (Step.refl k) (.bl _)⟩⟩
/-- x in l, items of any depth -/
theorem o_inR {r r' : Rv} {d : PyData} {ds : List PyData} (hu : X.A.units + 65 < cLine) (a : DD L r d) (b : DD L r' (.list ds)) (h1 : SeqAt.shaped d = true) (h2 : SeqAt.shaped (.list ds) = true) : Op2 X (compareOp .In) r r' L (.dt (.bool (ds.any fun z => PyData.eqv z d))) :=
  ⟨_, op_inD hu, fun S H x y k hx hy Q q => ⟨d, ds, DD.at_ k a hx, DD.at_ k b hy, h1, h2, q S H _ (Step.refl k) (.bl _)⟩⟩
theorem o_notInR {r r' : Rv} {d : PyData} {ds : List PyData} (hu : X.A.units + 65 < cLine) (a : DD L r d) (b : DD L r' (.list ds)) (h1 : SeqAt.shaped d = true) (h2 : SeqAt.shaped (.list ds) = true) : Op2 X (compareOp .NotIn) r r' L (.dt (.bool (!ds.any fun z => PyData.eqv z d))) :=
  ⟨_, op_notInD hu, fun S H x y k hx hy Q q => ⟨d, ds, DD.at_ k a hx, DD.at_ k b hy, h1, h2, q S H _ (Step.refl k) (.bl _)⟩⟩
/-- is None -/
def isNone : Rv → Bool
  | .dt .none => true
  | .vl .non => true
  | _ => false
theorem isNone_at {S : Hp} {x : V} (h : r.is S x) : decide (x = .non) = isNone r := by
  cases r with
  | vl y => cases (show x = y from h); cases x <;> rfl
  | dt d => cases h <;> rfl
theorem o_isN : Op2 X (compareOp .Is) r (.dt .none) L (.dt (.bool (isNone r))) := ⟨_, op_isN, fun S H x y k hx hy Q q => ⟨Da.nonAt hy, q S H _ (Step.refl k) (by rw [isNone_at hx]; exact .bl _)⟩⟩
theorem o_notN : Op2 X (compareOp .IsNot) r (.dt .none) L (.dt (.bool (!isNone r))) := ⟨_, op_notN, fun S H x y k hx hy Q q => ⟨Da.nonAt hy, q S H _ (Step.refl k) (by rw [isNone_at hx]; exact .bl _)⟩⟩
/-- texts -/
theorem o_addS {i j : Str} (h : i.length + j.length ≤ sizeLine) : Op2 X (binaryOp .Add) (.dt (.str i)) (.dt (.str j)) L (.dt (.str (i ++ j))) := ⟨_, op_add_str, fun S H x y k hx hy Q q => ⟨i, j, Da.strAt hx, Da.strAt hy, h, q S H _ (Step.refl k) (.str _)⟩⟩
/-- lists glued: a new list that nobody changes -/
theorem o_cat {r r' : Rv} {ds es : List PyData} (a : LL L r ds) (b : LL L r' es) (hz : ds.length + es.length ≤ sizeLine) : Op2 X (binaryOp .Add) r r' L (.dt (.list (ds ++ es))) := ⟨_, op_cat, fun S H x y k hx hy Q q => by
  obtain ⟨p, xs, rfl, e1, t1⟩ := LL.at_ a k hx
  obtain ⟨p', ys, rfl, e2, t2⟩ := LL.at_ b k hy
  refine ⟨p, p', xs, ys, rfl, rfl, e1, e2, by rw [t1.len, t2.len]; exact hz, fun n hn => ?_⟩
  have sn := Sub.new (o := HO.lst (xs ++ ys)) (k.sub.none hn)
  exact q (upd S n (.lst (xs ++ ys))) _ _ (Step.still k hn) (.lst upd_same (.of (papp (t1.mono sn).pd (t2.mono sn).pd)))⟩
theorem o_rep {r : Rv} {ds : List PyData} {n : Int} (a : LL L r ds) (h0 : -(2 ^ 63) ≤ n) (h1 : n < 2 ^ 63) (hz : ds.length * n.toNat ≤ sizeLine) : Op2 X (binaryOp .Mult) r (.dt (.int n)) L (.dt (.list (List.replicate n.toNat ds).flatten)) := ⟨_, op_rep, fun S H x y k hx hy Q q => by
  obtain ⟨p, xs, rfl, e1, t1⟩ := LL.at_ a k hx
  have ey := Da.intAt hy
  subst ey
  refine ⟨p, n, xs, rfl, rfl, e1, h0, h1, by rw [t1.len]; exact hz, fun m hm => ?_⟩
  have sn := fun o => Sub.new (o := o) (k.sub.none hm)
  have go : ∀ (T : Hp), Paired (Da T) xs ds → ∀ w : Nat, Paired (Da T) (List.replicate w xs).flatten (List.replicate w ds).flatten := fun T tt w => by
    induction w with
    | zero => exact .nil
    | succ w ih =>
      rw [List.replicate_succ, List.replicate_succ, List.flatten_cons, List.flatten_cons]
      exact papp tt ih
  exact q (upd S m _) _ _ (Step.still k hm) (.lst upd_same (.of (go _ (t1.mono (sn _)).pd _)))⟩
/-- tuples glued, the left one not empty, the right one not either -/
theorem o_catT {ds es : List PyData} (h : ds ≠ []) (h' : es ≠ []) (hz : ds.length + es.length ≤ sizeLine) : Op2 X (binaryOp .Add) (.dt (.tuple ds)) (.dt (.tuple es)) L (.dt (.tuple (ds ++ es))) := ⟨_, op_catT, fun S H x y k hx hy Q q => by
  obtain ⟨p, xs, rfl, _, e1, t1⟩ := Da.tupAt k hx
  obtain ⟨p', ys, rfl, _, e2, t2⟩ := Da.tupAt k hy
  have n1 : xs ≠ [] := fun z => h (List.eq_nil_of_length_eq_zero (by rw [← t1.len, z] <;> rfl))
  have n2 : ys ≠ [] := fun z => h' (List.eq_nil_of_length_eq_zero (by rw [← t2.len, z] <;> rfl))
  refine ⟨p, p', xs, ys, rfl, rfl, SqT.of e1, SqT.of e2, n1, by rw [t1.len, t2.len]; exact hz, fun z => absurd z n2, fun _ n hn => ?_⟩
  have sn := Sub.new (o := HO.tup (xs ++ ys)) (k.sub.none hn)
  exact q (upd S n (.tup (xs ++ ys))) _ _ (Step.still k hn) (.tup upd_same (.of (papp (t1.mono sn).pd (t2.mono sn).pd)))⟩
end
end
end Cw

set_option Elab.async false
set_option linter.all false
set_option maxRecDepth 100000
set_option maxHeartbeats 2000000
/-! Cw, part C: subscripts, slices, calls of built-ins, methods of lists, tests. -/
namespace Cw
open PySem PySem.Spec PyProof.Rows L2

theorem patI {α β : Type} {F : α → β → Prop} {xs : List α} {ys : List β} {i : Int} {x : α} (h : Paired F xs ys) (e : atI xs i = some x) : ∃ y, atI ys i = some y ∧ F x y := by
  have hl := Paired.length h
  unfold atI at e ⊢
  rw [← hl]
  cases q : ixN xs.length i with
  | none =>
    rw [q] at e
    cases e
  | some j =>
    rw [q] at e
    exact pgetL h e
theorem patI' {α β : Type} {F : α → β → Prop} {xs : List α} {ys : List β} {i : Int} {y : β} (h : Paired F xs ys) (e : atI ys i = some y) : ∃ x, atI xs i = some x ∧ F x y := by
  have hl := Paired.length h
  unfold atI at e ⊢
  rw [hl]
  cases q : ixN ys.length i with
  | none =>
    rw [q] at e
    cases e
  | some j =>
    rw [q] at e
    exact pget h e
def cut {α : Type} (xs : List α) (lo hi : Option Int) : List α := (xs.drop (HT.sIx xs.length 0 lo)).take (HT.sIx xs.length xs.length hi - HT.sIx xs.length 0 lo)
theorem pcut {α β : Type} {F : α → β → Prop} {xs : List α} {ys : List β} {lo hi : Option Int} (h : Paired F xs ys) : Paired F (cut xs lo hi) (cut ys lo hi) := by
  unfold cut
  rw [Paired.length h]
  exact ptake _ (pdrop _ h)

section
variable {Y : Cm} {ρ : Rho} {L L1 L2 L3 : Led} {r ra rb rc : Rv} {e a b c : Expr} {es : List Expr} {pos : Pos} {X : Cx}

/-! ### a[i] -/
def OpIx (X : Cx) (a b : Rv) (L : Led) (c : Rv) : Prop := ∃ r, IxR X r ∧ RM r a b L c
theorem ex_ix (ha : EX Y a ρ L ra L1) (hb : EX Y b ρ L1 rb L2) (h : OpIx Y.X ra rb L2 rc) (hs : PlainIx b) : EX Y (.Subscript a b pos) ρ L rc L2 := ⟨fun S σ H A Q q => by
  obtain ⟨r, ho, hr⟩ := h
  refine wE.of (pe_ix ho wE.pe wE.pe hs) (ha.run S σ H A _ fun r1 L1' S1 H1 x ⟨e1, e2⟩ t1 i1 => ?_)
  subst e1 e2
  refine hb.run S1 σ H1 (A.next t1) _ fun r2 L2' S2 H2 y ⟨e1, e2⟩ t2 i2 => ?_
  subst e1 e2
  exact hr S2 H2 x y t2.ok (i1.mono t2.sub) i2 Q fun S' H' v t3 i3 => q _ _ S' H' v ⟨rfl, rfl⟩ ((t1.trans t2).trans t3) i3⟩
theorem i_lstR {rs : List Rv} {i : Int} (a : LR L r rs) (h : atI rs i = some rc) : OpIx X r (.dt (.int i)) L rc := ⟨_, ix_list, fun S H x y k hx hy Q q => by
  obtain ⟨p, xs, rfl, e1, t1⟩ := LR.at_ a k hx
  obtain ⟨v, e2, i2⟩ := patI t1 h
  exact ⟨p, xs, i, v, rfl, Da.intAt hy, SqL.of e1, e2, q S H v (Step.refl k) i2⟩⟩
theorem i_lst {ds : List PyData} {d : PyData} {i : Int} (a : LL L r ds) (h : atI ds i = some d) : OpIx X r (.dt (.int i)) L (.dt d) := ⟨_, ix_list, fun S H x y k hx hy Q q => by
  obtain ⟨p, xs, rfl, e1, t1⟩ := LL.at_ a k hx
  obtain ⟨v, e2, i2⟩ := patI' t1.pd h
  exact ⟨p, xs, i, v, rfl, Da.intAt hy, SqL.of e1, e2, q S H v (Step.refl k) i2⟩⟩
theorem i_tup {ds : List PyData} {d : PyData} {i : Int} (h : atI ds i = some d) : OpIx X (.dt (.tuple ds)) (.dt (.int i)) L (.dt d) := ⟨_, ix_tup, fun S H x y k hx hy Q q => by
  obtain ⟨p, xs, rfl, _, e1, t1⟩ := Da.tupAt k hx
  obtain ⟨v, e2, i2⟩ := patI' t1.pd h
  exact ⟨p, xs, i, v, rfl, Da.intAt hy, SqT.of e1, e2, q S H v (Step.refl k) i2⟩⟩
theorem i_str {z : Str} {i : Int} {c : Nat} (hz : z.length ≤ sizeLine) (h : atI z.cps.toList i = some c) : OpIx X (.dt (.str z)) (.dt (.int i)) L (.dt (.str ⟨#[c]⟩)) := ⟨_, ix_str, fun S H x y k hx hy Q q =>
  ⟨z, i, c, Da.strAt hx, Da.intAt hy, hz, h, q S H _ (Step.refl k) (.str _)⟩⟩

/-! ### a[lo:hi] -/
def wP (X : Cx) (e : Option Expr) : TO := fun σ H Q => ∀ pins s, Inv X pins σ H s → wpAny (model X.prog X.w) X.A (evalPart e X.env) (fun u s' => ∃ o H', Inv X pins σ H' s' ∧ IsPart u o ∧ Q o H') X.xe s
theorem wP.po {o : Option Expr} : PO X o (wP X o) := ⟨fun pins s _ _ _ I h => h pins s I⟩
theorem wP.of {o : Option Expr} {t : TO} (h : PO X o t) {σ : Slots} {H : Hp} {Q : Option Int → Hp → Prop} (q : t σ H Q) : wP X o σ H Q := fun pins s I => h.run pins s σ H Q I q
structure PX (Y : Cm) (e : Option Expr) (ρ : Rho) (L : Led) (o : Option Int) (L' : Led) : Prop where
  run : ∀ S σ H, At Y ρ L S σ H → ∀ Q : Option Int → Hp → Prop, (∀ S' H', Step S H L S' H' L' → Q o H') → wP Y.X e σ H Q
theorem px_none : PX Y none ρ L none L := ⟨fun S σ H A Q q => wP.of po_none (q S H (Step.refl A.ok))⟩
theorem px_some {i : Int} (h : EX Y e ρ L (.dt (.int i)) L1) : PX Y (some e) ρ L (some i) L1 := ⟨fun S σ H A Q q => wP.of (po_some wE.pe) (h.run S σ H A _ fun r1 L1' S1 H1 x ⟨e1, e2⟩ t1 i1 => by
  subst e1 e2
  exact ⟨i, Da.intAt i1, q S1 H1 t1⟩)⟩
def OpSl (X : Cx) (a : Rv) (lo hi : Option Int) (L : Led) (c : Rv) : Prop := ∃ r, SlR X r ∧ ∀ S H x, Ok S H L → a.is S x → ∀ Q : VK, (∀ S' H' v, Step S H L S' H' L → c.is S' v → Q v H') → r x lo hi H Q
theorem ex_slice {elo ehi : Option Expr} {lo hi : Option Int} {p2 : Pos} (ha : EX Y a ρ L ra L1) (hl : PX Y elo ρ L1 lo L2) (hh : PX Y ehi ρ L2 hi L3) (h : OpSl Y.X ra lo hi L3 rc) : EX Y (.Subscript a (.Slice elo ehi none p2) pos) ρ L rc L3 := ⟨fun S σ H A Q q => by
  obtain ⟨r, ho, hr⟩ := h
  refine wE.of (pe_slice ho wE.pe wP.po wP.po) (ha.run S σ H A _ fun r1 L1' S1 H1 x ⟨e1, e2⟩ t1 i1 => ?_)
  subst e1 e2
  refine hl.run S1 σ H1 (A.next t1) _ fun S2 H2 t2 => ?_
  refine hh.run S2 σ H2 (A.next (t1.trans t2)) _ fun S3 H3 t3 => ?_
  exact hr S3 H3 x t3.ok (i1.mono (t2.sub.trans t3.sub)) Q fun S' H' v t4 i4 => q _ _ S' H' v ⟨rfl, rfl⟩ (((t1.trans t2).trans t3).trans t4) i4⟩
theorem s_lst {ds : List PyData} {lo hi : Option Int} (a : LL L r ds) : OpSl X r lo hi L (.dt (.list (cut ds lo hi))) := ⟨_, sl_list, fun S H x k hx Q q => by
  obtain ⟨p, xs, rfl, e1, t1⟩ := LL.at_ a k hx
  refine ⟨p, xs, rfl, SqL.of e1, fun n hn => ?_⟩
  have sn := Sub.new (o := HO.lst (cutV xs lo hi)) (k.sub.none hn)
  exact q (upd S n (.lst (cutV xs lo hi))) _ _ (Step.still k hn) (.lst upd_same (.of (pcut (t1.mono sn).pd)))⟩
theorem s_str {z : Str} {lo hi : Option Int} (hz : z.length ≤ sizeLine) : OpSl X (.dt (.str z)) lo hi L (.dt (.str (cutS z lo hi))) := ⟨_, sl_str, fun S H x k hx Q q => ⟨z, Da.strAt hx, hz, q S H _ (Step.refl k) (.str _)⟩⟩
theorem ex_rev {ds : List PyData} {k : Nat} {p1 p2 p3 : Pos} (ha : EX Y a ρ L ra L1) (h : LL L1 ra ds) : EX Y (.Subscript a (.Slice none none (some (.UnaryOp .USub (.Constant (.int 1) k p1) p2)) p3) pos) ρ L (.dt (.list ds.reverse)) L1 := ⟨fun S σ H A Q q =>
  wE.of (pe_revL wE.pe) (ha.run S σ H A _ fun r1 L1' S1 H1 x ⟨e1, e2⟩ t1 i1 => by
    subst e1 e2
    obtain ⟨p, xs, rfl, e1, d1⟩ := LL.at_ h t1.ok i1
    refine ⟨p, xs, rfl, SqL.of e1, fun n hn => ?_⟩
    have sn := Sub.new (o := HO.lst xs.reverse) (t1.ok.sub.none hn)
    exact q _ _ (upd S1 n (.lst xs.reverse)) _ _ ⟨rfl, rfl⟩ (t1.trans (Step.still t1.ok hn)) (.lst upd_same (.of (prev (d1.mono sn).pd))))⟩

/-! ### one-place operators, if as an expression -/
theorem ex_neg {i : Int} (h : EX Y e ρ L (.dt (.int i)) L1) : EX Y (.UnaryOp .USub e pos) ρ L (.dt (.int (-i))) L1 := ⟨fun S σ H A Q q => wE.of (pe_un un_neg wE.pe) (h.run S σ H A _ fun r1 L1' S1 H1 x ⟨e1, e2⟩ t1 i1 => by
  subst e1 e2
  exact ⟨i, Da.intAt i1, q _ _ S1 H1 _ ⟨rfl, rfl⟩ t1 (.int _)⟩)⟩
theorem ex_not {i : Bool} (h : EX Y e ρ L (.dt (.bool i)) L1) : EX Y (.UnaryOp .Not e pos) ρ L (.dt (.bool (!i))) L1 := ⟨fun S σ H A Q q => wE.of (pe_not wE.pe) (h.run S σ H A _ fun r1 L1' S1 H1 x ⟨e1, e2⟩ t1 i1 => by
  subst e1 e2
  exact ⟨i, Da.blAt i1, q _ _ S1 H1 _ ⟨rfl, rfl⟩ t1 (.bl _)⟩)⟩
theorem me_if {K : Rv → Led → Prop} (hc : MT Y c ρ L fun k L' => (k = true → ME Y a ρ L' K) ∧ (k = false → ME Y b ρ L' K)) : ME Y (.IfExp c a b pos) ρ L K := ⟨fun S σ H A Q q => wE.of (pe_ifExp wT.pt wE.pe wE.pe) (hc.run S σ H A _ fun k L' S1 H1 ⟨h1, h2⟩ t1 => by
  cases k with
  | true => exact iteT ((h1 rfl).run S1 σ H1 (A.next t1) Q fun r L2 S2 H2 v kk t2 => q r L2 S2 H2 v kk (t1.trans t2))
  | false => exact iteF ((h2 rfl).run S1 σ H1 (A.next t1) Q fun r L2 S2 H2 v kk t2 => q r L2 S2 H2 v kk (t1.trans t2)))⟩
theorem ex_if {k : Bool} (hc : TX Y c ρ L k L1) (h1 : k = true → EX Y a ρ L1 r L2) (h2 : k = false → EX Y b ρ L1 r L2) : EX Y (.IfExp c a b pos) ρ L r L2 := me_if (hc.imp fun _ _ ⟨e1, e2⟩ => by
  subst e1 e2
  exact ⟨h1, h2⟩)
/-- and, or as values of bools -/
theorem ex_one {op} (h : EX Y e ρ L r L1) : EX Y (.BoolOp op [e] pos) ρ L r L1 := ⟨fun S σ H A Q q => wE.of (pe_one wE.pe) (h.run S σ H A Q q)⟩
theorem ex_and {i j : Bool} {rest : List Expr} (h : EX Y a ρ L (.dt (.bool i)) L1) (t : i = true → EX Y (.BoolOp .And (b :: rest) pos) ρ L1 (.dt (.bool j)) L1) : EX Y (.BoolOp .And (a :: b :: rest) pos) ρ L (.dt (.bool (i && j))) L1 := ⟨fun S σ H A Q q => wE.of (pe_and wE.pe wE.pe) (h.run S σ H A _ fun r1 L1' S1 H1 x ⟨e1, e2⟩ t1 i1 => by
  subst e1 e2
  refine ⟨i, Da.blAt i1, ?_⟩
  cases i with
  | true => exact iteT ((t rfl).run S1 σ H1 (A.next t1) Q fun r L2 S2 H2 v ⟨e1, e2⟩ t2 i2 => q r L2 S2 H2 v ⟨by rw [e1]; rfl, e2⟩ (t1.trans t2) i2)
  | false => exact iteF (q _ _ S1 H1 _ ⟨rfl, rfl⟩ t1 (.bl false)))⟩
theorem ex_or {i j : Bool} {rest : List Expr} (h : EX Y a ρ L (.dt (.bool i)) L1) (t : i = false → EX Y (.BoolOp .Or (b :: rest) pos) ρ L1 (.dt (.bool j)) L1) : EX Y (.BoolOp .Or (a :: b :: rest) pos) ρ L (.dt (.bool (i || j))) L1 := ⟨fun S σ H A Q q => wE.of (pe_or wE.pe wE.pe) (h.run S σ H A _ fun r1 L1' S1 H1 x ⟨e1, e2⟩ t1 i1 => by
  subst e1 e2
  refine ⟨i, Da.blAt i1, ?_⟩
  cases i with
  | false => exact iteF ((t rfl).run S1 σ H1 (A.next t1) Q fun r L2 S2 H2 v ⟨e1, e2⟩ t2 i2 => q r L2 S2 H2 v ⟨by rw [e1]; rfl, e2⟩ (t1.trans t2) i2)
  | true => exact iteT (q _ _ S1 H1 _ ⟨rfl, rfl⟩ t1 (.bl true)))⟩

/-! ### calls of built-ins -/
def OpC (X : Cx) (f : Value) (rs : List Rv) (L : Led) (c : Rv) : Prop := ∃ r, CallR X f r ∧ ∀ S H xs, Ok S H L → Rvs S rs xs → ∀ Q : VK, (∀ S' H' v, Step S H L S' H' L → c.is S' v → Q v H') → r xs H Q
theorem ex_callB {x : Str} {id : String} {rs : List Rv} {p : Pos} (ha : AX Y (e :: es) ρ L rs L1) (h : OpC Y.X (.builtin id) rs L1 rc) (hg : Gl Y.X x) (hm : Y.X.mg x = none) (hv : bootBuiltins x = some (.builtin id)) (hn : x ≠ "__name__" := by decide) (hdb : (x == ("__debug__" : Str)) = false := by decide)
    (he : starEach (e :: es) Y.X.env = (false, eval e Y.X.env) :: starEach es Y.X.env := by rfl) (hpl : (backTo pos (starEach es Y.X.env)).any (·.1) = false := by rfl) : EX Y (.Call (.Name x p) (e :: es) [] pos) ρ L rc L1 := ⟨fun S σ H A Q q => by
  obtain ⟨r, ho, hr⟩ := h
  refine wE.of (pe_callB ho hg hm hv wA.pa hn hdb he hpl) (ha.run S σ H A _ fun r1 L1' S1 H1 xs ⟨e1, e2⟩ t1 i1 => ?_)
  subst e1 e2
  exact hr S1 H1 xs t1.ok i1 Q fun S' H' v t2 i2 => q _ _ S' H' v ⟨rfl, rfl⟩ (t1.trans t2) i2⟩
theorem ex_callTy {x : Str} {T : String} {rs : List Rv} {p : Pos} (ha : AX Y (e :: es) ρ L rs L1) (h : OpC Y.X (.type T) rs L1 rc) (hg : Gl Y.X x) (hm : Y.X.mg x = none) (hv : bootBuiltins x = some (.type T)) (hn : x ≠ "__name__" := by decide) (hdb : (x == ("__debug__" : Str)) = false := by decide)
    (he : starEach (e :: es) Y.X.env = (false, eval e Y.X.env) :: starEach es Y.X.env := by rfl) (hpl : (backTo pos (starEach es Y.X.env)).any (·.1) = false := by rfl) : EX Y (.Call (.Name x p) (e :: es) [] pos) ρ L rc L1 := ⟨fun S σ H A Q q => by
  obtain ⟨r, ho, hr⟩ := h
  refine wE.of (pe_callTy ho hg hm hv wA.pa hn hdb he hpl) (ha.run S σ H A _ fun r1 L1' S1 H1 xs ⟨e1, e2⟩ t1 i1 => ?_)
  subst e1 e2
  exact hr S1 H1 xs t1.ok i1 Q fun S' H' v t2 i2 => q _ _ S' H' v ⟨rfl, rfl⟩ (t1.trans t2) i2⟩
theorem rvs1 {S : Hp} {xs : List V} (h : Rvs S [r] xs) : ∃ x, xs = [x] ∧ r.is S x := by
  cases h with
  | cons a t => cases t; exact ⟨_, rfl, a⟩
theorem rvs2 {S : Hp} {xs : List V} (h : Rvs S [ra, rb] xs) : ∃ x y, xs = [x, y] ∧ ra.is S x ∧ rb.is S y := by
  cases h with
  | cons a t =>
    cases t with
    | cons b t => cases t; exact ⟨_, _, rfl, a, b⟩
theorem c_lenR {rs : List Rv} (a : LR L r rs) : OpC X (.builtin "len") [r] L (.dt (.int rs.length)) := ⟨_, call_len_seq, fun S H xs k hx Q q => by
  obtain ⟨x, rfl, i⟩ := rvs1 hx
  obtain ⟨p, ys, rfl, e1, t1⟩ := LR.at_ a k i
  exact ⟨p, ys, rfl, .inl (SqL.of e1), by rw [← Rvs.len t1]; exact q S H _ (Step.refl k) (.int _)⟩⟩
theorem c_lenL {ds : List PyData} (a : LL L r ds) : OpC X (.builtin "len") [r] L (.dt (.int ds.length)) := by
  have h := c_lenR (X := X) a
  rwa [List.length_map] at h
theorem c_lenT {ds : List PyData} : OpC X (.builtin "len") [.dt (.tuple ds)] L (.dt (.int ds.length)) := ⟨_, call_len_seq, fun S H xs k hx Q q => by
  obtain ⟨x, rfl, i⟩ := rvs1 hx
  obtain ⟨p, ys, rfl, _, e1, t1⟩ := Da.tupAt k i
  exact ⟨p, ys, rfl, .inr (SqT.of e1), by rw [t1.len]; exact q S H _ (Step.refl k) (.int _)⟩⟩
theorem c_lenS {z : Str} (hz : z.length ≤ sizeLine) : OpC X (.builtin "len") [.dt (.str z)] L (.dt (.int z.length)) := ⟨_, call_len_str, fun S H xs k hx Q q => by
  obtain ⟨x, rfl, i⟩ := rvs1 hx
  exact ⟨z, by rw [Da.strAt i], hz, q S H _ (Step.refl k) (.int _)⟩⟩
theorem c_int {i : Int} : OpC X (.type "int") [.dt (.int i)] L (.dt (.int i)) := ⟨_, call_int1, fun S H xs k hx Q q => by
  obtain ⟨x, rfl, h⟩ := rvs1 hx
  exact .inl ⟨i, by rw [Da.intAt h], q S H _ (Step.refl k) (.int _)⟩⟩
theorem c_intB {i : Bool} : OpC X (.type "int") [.dt (.bool i)] L (.dt (.int (if i then 1 else 0))) := ⟨_, call_int1, fun S H xs k hx Q q => by
  obtain ⟨x, rfl, h⟩ := rvs1 hx
  exact .inr ⟨i, by rw [Da.blAt h], q S H _ (Step.refl k) (.int _)⟩⟩
theorem c_max {i j : Int} (hc : X.calm = true) : OpC X (.builtin "max") [.dt (.int i), .dt (.int j)] L (.dt (.int (if j > i then j else i))) := ⟨_, call_max2 hc, fun S H xs k hx Q q => by
  obtain ⟨x, y, rfl, h1, h2⟩ := rvs2 hx
  exact ⟨i, j, by rw [Da.intAt h1, Da.intAt h2], q S H _ (Step.refl k) (.int _)⟩⟩
theorem c_min {i j : Int} (hc : X.calm = true) : OpC X (.builtin "min") [.dt (.int i), .dt (.int j)] L (.dt (.int (if j < i then j else i))) := ⟨_, call_min2 hc, fun S H xs k hx Q q => by
  obtain ⟨x, y, rfl, h1, h2⟩ := rvs2 hx
  exact ⟨i, j, by rw [Da.intAt h1, Da.intAt h2], q S H _ (Step.refl k) (.int _)⟩⟩
theorem c_ord {z : Str} (hz : z.length = 1) : OpC X (.builtin "ord") [.dt (.str z)] L (.dt (.int (z.cps.getD 0 0 : Nat))) := ⟨_, call_ord, fun S H xs k hx Q q => by
  obtain ⟨x, rfl, i⟩ := rvs1 hx
  exact ⟨z, by rw [Da.strAt i], hz, q S H _ (Step.refl k) (.int _)⟩⟩
/-- list(x): a new list that nobody changes -/
theorem c_list {ds : List PyData} (a : LL L r ds) : OpC X (.type "list") [r] L (.dt (.list ds)) := ⟨_, call_list_of, fun S H xs k hx Q q => by
  obtain ⟨x, rfl, i⟩ := rvs1 hx
  obtain ⟨p, ys, rfl, e1, t1⟩ := LL.at_ a k i
  refine ⟨p, ys, rfl, .inl (SqL.of e1), fun n hn => ?_⟩
  have sn := Sub.new (o := HO.lst ys) (k.sub.none hn)
  exact q _ _ _ (Step.still k hn) (.lst upd_same (t1.mono sn))⟩
theorem c_listT {ds : List PyData} : OpC X (.type "list") [.dt (.tuple ds)] L (.dt (.list ds)) := ⟨_, call_list_of, fun S H xs k hx Q q => by
  obtain ⟨x, rfl, i⟩ := rvs1 hx
  obtain ⟨p, ys, rfl, _, e1, t1⟩ := Da.tupAt k i
  refine ⟨p, ys, rfl, .inr (SqT.of e1), fun n hn => ?_⟩
  have sn := Sub.new (o := HO.lst ys) (k.sub.none hn)
  exact q _ _ _ (Step.still k hn) (.lst upd_same (t1.mono sn))⟩
theorem c_tuple {ds : List PyData} (a : LL L r ds) : OpC X (.type "tuple") [r] L (.dt (.tuple ds)) := ⟨_, call_tuple_of, fun S H xs k hx Q q => by
  obtain ⟨x, rfl, i⟩ := rvs1 hx
  obtain ⟨p, ys, rfl, e1, t1⟩ := LL.at_ a k i
  refine ⟨p, ys, rfl, .inl ⟨SqL.of e1, fun n hn => ?_⟩⟩
  have sn := Sub.new (o := HO.tup ys) (k.sub.none hn)
  exact q _ _ _ (Step.still k hn) (.tup upd_same (t1.mono sn))⟩
theorem c_tupleT {ds : List PyData} : OpC X (.type "tuple") [.dt (.tuple ds)] L (.dt (.tuple ds)) := ⟨_, call_tuple_of, fun S H xs k hx Q q => by
  obtain ⟨x, rfl, i⟩ := rvs1 hx
  obtain ⟨p, ys, rfl, e0, e1, t1⟩ := Da.tupAt k i
  exact ⟨p, ys, rfl, .inr ⟨SqT.of e1, q S H _ (Step.refl k) (.tup e0 t1)⟩⟩⟩
/-- isinstance -/
def tyName : PyData → String
  | .none => "NoneType"
  | .bool _ => "bool"
  | .int _ => "int"
  | .str _ => "str"
  | .list _ => "list"
  | .tuple _ => "tuple"
  | .dict _ => "dict"
theorem tyx {K : PySem.W.Frag} {S H : Hp} {d : PyData} {x : V} (k : Sub S H) (h : Da S x d) : TyX K H x (.type (tyName d)) := by
  cases h with
  | non => exact .base .non
  | bl b => exact .base (.bl b)
  | int b => exact .base (.int b)
  | str b => exact .base (.str b)
  | lst e t => exact .base (.lst (k _ _ e))
  | tup e t => exact .base (.tup (k _ _ e))
theorem tyxD {K : PySem.W.Frag} {S H : Hp} {d : PyData} {x : V} (k : Ok S H L) (hd : DD L r d) (h : r.is S x) : TyX K H x (.type (tyName d)) := by
  cases hd with
  | dt => exact tyx k.sub h
  | @lst p rs ds e t =>
    obtain ⟨_, o, e2, xs, rfl, rv⟩ := k.led p _ e
    have ex : x = .ref p := h
    subst ex
    exact .base (.lst e2)
def isK (a b : String) : Bool := a == b || (a == "bool" && b == "int")
abbrev TyNs : List String := ["bool", "int", "str", "list", "tuple"]
theorem kit_str : ∀ a ∈ ["NoneType", "bool", "int", "str", "list", "tuple", "dict"], ∀ b ∈ TyNs, kitB a b = some (isK a b) := by decide +kernel
theorem kit_all (d : PyData) {T : String} (hT : T ∈ TyNs) : kitB (tyName d) T = some (isK (tyName d) T) := kit_str _ (by cases d <;> simp [tyName]) T hT
theorem c_isi {d : PyData} {T : String} (hd : DD L r d) (hT : T ∈ TyNs) : OpC X (.builtin "isinstance") [r, .vl (.ty T)] L (.dt (.bool (isK (tyName d) T))) := ⟨_, call_isi, fun S H xs ok hx Q q => by
  obtain ⟨x, y, rfl, h1, h2⟩ := rvs2 hx
  cases (show y = .ty T from h2)
  exact ⟨x, .ty T, _, _, _, rfl, .ty T, tyxD ok hd h1, kit_ty (kit_all d hT), q S H _ (Step.refl ok) (.bl _)⟩⟩
/-- isinstance(x, (T1, T2)) -/
theorem ex_isi2 {d : PyData} {T1 T2 : String} {x y z : Str} {p p1 p2 p3 : Pos} {kk : Nat} (ha : EX Y e ρ L r L1) (hd : DD L1 r d) (hT1 : T1 ∈ TyNs) (hT2 : T2 ∈ TyNs)
    (hg : Gl Y.X x) (hm : Y.X.mg x = none) (hv : bootBuiltins x = some (.builtin "isinstance")) (hg1 : Gl Y.X y) (hm1 : Y.X.mg y = none) (hv1 : bootBuiltins y = some (.type T1)) (hg2 : Gl Y.X z) (hm2 : Y.X.mg z = none) (hv2 : bootBuiltins z = some (.type T2))
    (hn : x ≠ "__name__" := by decide) (hdb : (x == ("__debug__" : Str)) = false := by decide) (hn1 : y ≠ "__name__" := by decide) (hdb1 : (y == ("__debug__" : Str)) = false := by decide) (hn2 : z ≠ "__name__" := by decide) (hdb2 : (z == ("__debug__" : Str)) = false := by decide)
    (he : starEach (e :: [.Tuple [.Name y p1, .Name z p2] kk p3]) Y.X.env = (false, eval e Y.X.env) :: starEach [.Tuple [.Name y p1, .Name z p2] kk p3] Y.X.env := by rfl) (hpl : (backTo pos (starEach [.Tuple [.Name y p1, .Name z p2] kk p3] Y.X.env)).any (·.1) = false := by rfl)
    (he1 : starEach [.Tuple [.Name y p1, .Name z p2] kk p3] Y.X.env = (false, eval (.Tuple [.Name y p1, .Name z p2] kk p3) Y.X.env) :: starEach [] Y.X.env := by rfl)
    (he2 : starEach [.Name y p1, .Name z p2] Y.X.env = (false, eval (.Name y p1) Y.X.env) :: starEach [.Name z p2] Y.X.env := by rfl) (he3 : starEach [.Name z p2] Y.X.env = (false, eval (.Name z p2) Y.X.env) :: starEach [] Y.X.env := by rfl) :
    EX Y (.Call (.Name x p) [e, .Tuple [.Name y p1, .Name z p2] kk p3] [] pos) ρ L (.dt (.bool (isK (tyName d) T1 || isK (tyName d) T2))) L1 := ⟨fun S σ H A Q q => by
  refine wE.of (pe_callB call_isiT hg hm hv (pa_cons wE.pe (pa_cons (pe_tup (pa_cons (pe_bltn (v := .ty T1) hg1 hm1 hv1 rfl hn1 hdb1) (pa_cons (pe_bltn (v := .ty T2) hg2 hm2 hv2 rfl hn2 hdb2) pa_nil he3) he2)) pa_nil he1) he) hn hdb he hpl) (ha.run S σ H A _ fun r1 L1' S1 H1 v ⟨e1, e2⟩ t1 i1 => ?_)
  subst e1 e2
  refine ⟨by show 2 ≤ sizeLine; decide, fun t ht => ?_⟩
  refine ⟨v, t, [.ty T1, .ty T2], _, [.type T1, .type T2], isK (tyName d) T1 || isK (tyName d) T2, rfl, upd_same, .cons (.ty _) (.cons (.ty _) .nil), tyxD (t1.ok.dust ht) hd i1, kitAny_cons (kit_ty (kit_all d hT1)) (fun e => ?_) (fun e => by rw [e] <;> rfl), q _ _ S1 _ _ ⟨rfl, rfl⟩ (t1.trans (Step.dust t1.ok ht)) (.bl _)⟩
  rw [e]
  refine kitAny_cons (kit_ty (kit_all d hT2)) (fun e2 => ?_) (fun e2 => ?_)
  · rw [e2]
    exact kitAny_nil
  · rw [e2] <;> rfl⟩

/-! ### tests -/
theorem tx_val {k : Bool} (h : EX Y e ρ L (.dt (.bool k)) L1) (he : ∀ whole, isTrue e Y.X.env whole = (do let v ← whole; standAt e.pos; holding [v] (truthy v)) := by intro _; rfl) : TX Y e ρ L k L1 := ⟨fun S σ H A Q q => wT.of (pt_val wE.pe he) (h.run S σ H A _ fun r1 L1' S1 H1 x ⟨e1, e2⟩ t1 i1 => by
  subst e1 e2
  exact ⟨k, Da.blAt i1, q _ _ S1 H1 ⟨rfl, rfl⟩ t1⟩)⟩
theorem tx_not {k : Bool} (h : TX Y e ρ L k L1) : TX Y (.UnaryOp .Not e pos) ρ L (!k) L1 := ⟨fun S σ H A Q q => wT.of (pt_not wT.pt) (h.run S σ H A _ fun r1 L1' S1 H1 ⟨e1, e2⟩ t1 => by
  subst e1 e2
  exact q _ _ S1 H1 ⟨rfl, rfl⟩ t1)⟩
theorem tx_w {k : Bool} (h : WX' Y e ρ L k L1) : TX Y e ρ L k L1 := ⟨fun S σ H A Q q => wT.of wW.pw.pt (h.run S σ H A Q q)⟩
theorem wx_and1 {k : Bool} (h : TX Y e ρ L k L1) : WX' Y (.BoolOp .And [e] pos) ρ L k L1 := ⟨fun S σ H A Q q => wW.of (pw_and1 wT.pt) (h.run S σ H A Q q)⟩
theorem wx_or1 {k : Bool} (h : TX Y e ρ L k L1) : WX' Y (.BoolOp .Or [e] pos) ρ L k L1 := ⟨fun S σ H A Q q => wW.of (pw_or1 wT.pt) (h.run S σ H A Q q)⟩
theorem wx_and {i j : Bool} {rest : List Expr} (h : TX Y a ρ L i L1) (t : i = true → WX' Y (.BoolOp .And (b :: rest) pos) ρ L1 j L1) : WX' Y (.BoolOp .And (a :: b :: rest) pos) ρ L (i && j) L1 := ⟨fun S σ H A Q q => wW.of (pw_and wT.pt wW.pw) (h.run S σ H A _ fun r1 L1' S1 H1 ⟨e1, e2⟩ t1 => by
  subst e1 e2
  cases r1 with
  | true => exact iteT ((t rfl).run S1 σ H1 (A.next t1) Q fun r L2 S2 H2 ⟨e1, e2⟩ t2 => q r L2 S2 H2 ⟨by rw [e1]; rfl, e2⟩ (t1.trans t2))
  | false => exact iteF (q _ _ S1 H1 ⟨rfl, rfl⟩ t1))⟩
theorem wx_or {i j : Bool} {rest : List Expr} (h : TX Y a ρ L i L1) (t : i = false → WX' Y (.BoolOp .Or (b :: rest) pos) ρ L1 j L1) : WX' Y (.BoolOp .Or (a :: b :: rest) pos) ρ L (i || j) L1 := ⟨fun S σ H A Q q => wW.of (pw_or wT.pt wW.pw) (h.run S σ H A _ fun r1 L1' S1 H1 ⟨e1, e2⟩ t1 => by
  subst e1 e2
  cases r1 with
  | false => exact iteF ((t rfl).run S1 σ H1 (A.next t1) Q fun r L2 S2 H2 ⟨e1, e2⟩ t2 => q r L2 S2 H2 ⟨by rw [e1]; rfl, e2⟩ (t1.trans t2))
  | true => exact iteT (q _ _ S1 H1 ⟨rfl, rfl⟩ t1))⟩
/-- x op y op' z -/
theorem rm_bl {rr : R2} {k : Bool} (h : RM rr ra rb L (.dt (.bool k))) : ∀ S H x y, Ok S H L → ra.is S x → rb.is S y → ∀ Q : VK, (∀ S' H', Step S H L S' H' L → Q (.bl k) H') → rr x y H Q := fun S H x y ok hx hy Q q =>
  h S H x y ok hx hy Q fun S' H' v s i => by
    rw [Da.blAt i]
    exact q S' H' s
theorem ex_chain {op op' : CmpOp} {i j : Bool} (ha : EX Y a ρ L ra L1) (hb : EX Y b ρ L1 rb L2) (hc : i = true → EX Y c ρ L2 rc L2) (h : Op2 Y.X (compareOp op) ra rb L2 (.dt (.bool i))) (h' : i = true → Op2 Y.X (compareOp op') rb rc L2 (.dt (.bool j))) (h0 : ∃ r, OpR Y.X (compareOp op') r)
    (hm : lastMarks [op, op'] [b, c] = false := by rfl) : EX Y (.Compare a [op, op'] [b, c] pos) ρ L (.dt (.bool (i && j))) L2 := ⟨fun S σ H A Q q => by
  obtain ⟨r, ho, hr⟩ := h
  obtain ⟨r', ho', hr'⟩ : ∃ r', OpR Y.X (compareOp op') r' ∧ (i = true → RM r' rb rc L2 (.dt (.bool j))) := by
    cases i with
    | true =>
      obtain ⟨r', a, b⟩ := h' rfl
      exact ⟨r', a, fun _ => b⟩
    | false =>
      obtain ⟨r', a⟩ := h0
      exact ⟨r', a, fun z => by cases z⟩
  refine wE.of (pe_chain ho ho' wE.pe wE.pe wE.pe hm) (ha.run S σ H A _ fun r1 L1' S1 H1 x ⟨e1, e2⟩ t1 i1 => ?_)
  subst e1 e2
  refine hb.run S1 σ H1 (A.next t1) _ fun r2 L2' S2 H2 y ⟨e1, e2⟩ t2 i2 => ?_
  subst e1 e2
  refine rm_bl hr S2 H2 x y t2.ok (i1.mono t2.sub) i2 _ fun S3 H3 t3 => ⟨i, rfl, ?_⟩
  cases i with
  | false => exact iteF (q _ _ S3 H3 _ ⟨rfl, rfl⟩ ((t1.trans t2).trans t3) (.bl _))
  | true =>
    refine iteT ((hc rfl).run S3 σ H3 (A.next ((t1.trans t2).trans t3)) _ fun r4 L4 S4 H4 z ⟨e1, e2⟩ t4 i4 => ?_)
    subst e1 e2
    exact hr' rfl S4 H4 y z t4.ok ((i2.mono t3.sub).mono t4.sub) i4 Q fun S5 H5 v t5 i5 => q _ _ S5 H5 v ⟨rfl, rfl⟩ ((((t1.trans t2).trans t3).trans t4).trans t5) i5⟩
end
end Cw

set_option Elab.async false
set_option linter.all false
set_option maxRecDepth 100000
set_option maxHeartbeats 2000000
/-! Cw, part D: defs and their calls; statements; loops; comprehensions; lists that change; objects. -/
namespace Cw
open PySem PySem.Spec PyProof.Rows L2

/-! ### what a def promises, on data -/
abbrev Fs := List Rv → Led → (Rv → Led → Prop) → (Value → Led → Prop) → Prop
def lift (sp : Fs) : Sp := fun vs H Q E => ∃ S L as K XC, Ok S H L ∧ Rvs S as vs ∧ sp as L K XC ∧ (∀ r L' S' H' v, K r L' → Step S H L S' H' L' → r.is S' v → Q v H') ∧ (∀ c L' S' H', XC c L' → Step S H L S' H' L' → E c none H')
def noX : Value → Led → Prop := fun _ _ => False
/-- the def x lets nothing out -/
structure FnM (P : Program) (w : World) (K : PySem.W.Frag) (mg : Str → Option Value) (base : Heap) (k : Nat) (x : Str) (ps : List Str) (sp : Fs) : Prop where
  ex : ∃ f fd, mg x = some (.ref f) ∧ PySem.W.keepIn K (.ref f) = true ∧ Binds K fd ps [] ∧ FnOk P w K mg base CX0 k f fd ps (lift sp)
/-- .. may let an error out -/
structure FnX (P : Program) (w : World) (K : PySem.W.Frag) (mg : Str → Option Value) (base : Heap) (k : Nat) (x : Str) (ps : List Str) (sp : Fs) : Prop where
  ex : ∃ f fd, mg x = some (.ref f) ∧ PySem.W.keepIn K (.ref f) = true ∧ Binds K fd ps [] ∧ FnOk P w K mg base (L2.CX P w) k f fd ps (lift sp)
/-- a method m of the class at C -/
structure MtM (P : Program) (w : World) (K : PySem.W.Frag) (mg : Str → Option Value) (base : Heap) (k : Nat) (C : Addr) (m : Str) (ps : List Str) (sp : Fs) : Prop where
  ex : ∃ f fd, Meth K C m f ∧ Binds K fd ps [] ∧ FnOk P w K mg base CX0 k f fd ps (lift sp)
structure MtX (P : Program) (w : World) (K : PySem.W.Frag) (mg : Str → Option Value) (base : Heap) (k : Nat) (C : Addr) (m : Str) (ps : List Str) (sp : Fs) : Prop where
  ex : ∃ f fd, Meth K C m f ∧ Binds K fd ps [] ∧ FnOk P w K mg base (L2.CX P w) k f fd ps (lift sp)

section
variable {Y : Cm} {ρ : Rho} {L La Lb Lc : Led} {r ra rb rc : Rv} {e a b c : Expr} {es : List Expr} {pos p : Pos} {X : Cx} {sp : Fs} {k : Nat} {x m : Str} {ps : List Str} {K : Rv → Led → Prop}

theorem me_call (G : FnM Y.X.prog Y.X.w Y.X.K Y.X.mg Y.X.base k x ps sp) (hr : Room k Y.X.A) (hg : Gl Y.X x) (ha : MA Y (e :: es) ρ L fun rs L1 => sp rs L1 K noX) (hdb : (x == ("__debug__" : Str)) = false := by decide)
    (he : starEach (e :: es) Y.X.env = (false, eval e Y.X.env) :: starEach es Y.X.env := by rfl) (hpl : (backTo pos (starEach es Y.X.env)).any (·.1) = false := by rfl) : ME Y (.Call (.Name x p) (e :: es) [] pos) ρ L K := ⟨fun S σ H A Q q => by
  obtain ⟨f, fd, hm, hk, hb, F⟩ := G.ex
  refine wE.of (pe_call F hr hg hm hk hb .nil pass0 wA.pa hdb he hpl) (ha.run S σ H A _ fun rs L1 S1 H1 vs h t1 i1 => ?_)
  rw [List.append_nil]
  exact ⟨S1, L1, rs, K, noX, t1.ok, i1, h, fun r L' S' H' v kk t i => q r L' S' H' v kk (t1.trans t) i, fun _ _ _ _ z => z.elim⟩⟩
theorem me_call0 (G : FnM Y.X.prog Y.X.w Y.X.K Y.X.mg Y.X.base k x ps sp) (hr : Room k Y.X.A) (hg : Gl Y.X x) (ha : sp [] L K noX) (hdb : (x == ("__debug__" : Str)) = false := by decide) : ME Y (.Call (.Name x p) [] [] pos) ρ L K := ⟨fun S σ H A Q q => by
  obtain ⟨f, fd, hm, hk, hb, F⟩ := G.ex
  refine wE.of (pe_call0 F hr hg hm hk hb .nil pass0 hdb) ?_
  exact ⟨S, L, [], K, noX, A.ok, .nil, ha, fun r L' S' H' v kk t i => q r L' S' H' v kk t i, fun _ _ _ _ z => z.elim⟩⟩
theorem me_callX (G : FnX Y.X.prog Y.X.w Y.X.K Y.X.mg Y.X.base k x ps sp) (hr : Room k Y.X.A) (hg : Gl Y.X x) (ha : MA Y (e :: es) ρ L fun rs L1 => sp rs L1 K fun c L' => Y.xc c ρ L') (hdb : (x == ("__debug__" : Str)) = false := by decide)
    (he : starEach (e :: es) Y.X.env = (false, eval e Y.X.env) :: starEach es Y.X.env := by rfl) (hpl : (backTo pos (starEach es Y.X.env)).any (·.1) = false := by rfl) : ME Y (.Call (.Name x p) (e :: es) [] pos) ρ L K := ⟨fun S σ H A Q q => by
  obtain ⟨f, fd, hm, hk, hb, F⟩ := G.ex
  refine wE.of (pe_callS F hr hg hm hk hb (fun σ => passAt Y.tk σ) wA.pa hdb he hpl) (ha.run S σ H A _ fun rs L1 S1 H1 vs h t1 i1 => ?_)
  exact ⟨S1, L1, rs, K, _, t1.ok, i1, h, fun r L' S' H' v kk t i => q r L' S' H' v kk (t1.trans t) i, fun c L' S' H' z t => A.lx c ρ L' S' H' σ z (t1.trans t) (A.es.mono (t1.trans t).sub)⟩⟩
/-- the instance's attributes -/
theorem rf_lookup {S : Hp} {f : Str} : ∀ {fs : List (Str × Rv)} {gs : List (Str × V)}, RF S fs gs → (fs.lookup f = none → gs.lookup f = none) ∧ ∀ r, fs.lookup f = some r → ∃ v, gs.lookup f = some v ∧ r.is S v
  | _, _, .nil => ⟨fun _ => rfl, fun _ h => by cases h⟩
  | (g, r) :: fs, (g', v) :: gs, .cons ⟨e, i⟩ t => by
    have ih := rf_lookup (f := f) t
    have e' : g = g' := e
    subst e'
    cases q : (f == g) with
    | true =>
      refine ⟨fun h => ?_, fun r' h => ?_⟩
      · rw [List.lookup_cons, q] at h
        cases h
      · rw [List.lookup_cons, q] at h
        cases h
        exact ⟨v, by rw [List.lookup_cons, q], i⟩
    | false =>
      refine ⟨fun h => ?_, fun r' h => ?_⟩
      · rw [List.lookup_cons, q] at h ⊢
        exact ih.1 h
      · rw [List.lookup_cons, q] at h
        obtain ⟨v', h1, h2⟩ := ih.2 r' h
        exact ⟨v', by rw [List.lookup_cons, q]; exact h1, h2⟩
theorem Ok.ins {S H : Hp} {q : Addr} {C : Addr} {fs : List (Str × Rv)} (k : Ok S H L) (h : L q = some (.ins C fs)) : ∃ dx gs, H q = some (.ins C dx gs) ∧ RF S fs gs := by
  obtain ⟨_, o, e, dx, gs, rfl, i⟩ := k.led q _ h
  exact ⟨dx, gs, e, i⟩
/-- o.m(e, ..) -/
theorem me_meth {pl : Sem Bool} {q C : Addr} {fs : List (Str × Rv)} {apos : Pos} (ho : EX Y a ρ L (.vl (.ref q)) La) (hq : La q = some (.ins C fs)) (hn : fs.lookup m = none) (c : Cls Y.X.K C) (G : MtM Y.X.prog Y.X.w Y.X.K Y.X.mg Y.X.base k C m ps sp) (hr : Room k Y.X.A)
    (ha : MA Y (e :: es) ρ La fun rs L1 => sp (.vl (.ref q) :: rs) L1 K noX)
    (hst : starEach (e :: es) Y.X.env = (false, eval e Y.X.env) :: starEach es Y.X.env := by rfl) (hpl : (backTo pos (starEach es Y.X.env)).any (·.1) = false := by rfl)
    (ht : eval (.Call (.Attribute a m apos) (e :: es) [] pos) Y.X.env = (do
      let ov ← eval a Y.X.env
      standAt apos.atName
      let (f, first) ← holding [ov] (getMethod ov m pl)
      callWith pos f first (backTo pos (starEach (e :: es) Y.X.env)) (backToKw pos (keywordEach [] Y.X.env))) := by rfl) : ME Y (.Call (.Attribute a m apos) (e :: es) [] pos) ρ L K := ⟨fun S σ H A Q qq => by
  obtain ⟨f, fd, hm, hb, F⟩ := G.ex
  refine wE.of (pe_meth (pl := pl) wE.pe c hm F hr hb .nil pass0 wA.pa hst hpl ht) (ho.run S σ H A _ fun r1 L1' S1 H1 x ⟨e1, e2⟩ t1 i1 => ?_)
  subst e1 e2
  obtain ⟨dx, gs, hg, rf⟩ := t1.ok.ins hq
  refine ⟨q, dx, gs, i1, hg, (rf_lookup rf).1 hn, ?_⟩
  refine ha.run S1 σ H1 (A.next t1) _ fun rs L2 S2 H2 vs h t2 i2 => ?_
  rw [List.append_nil]
  exact ⟨S2, L2, _, K, noX, t2.ok, .cons (show Rv.is S2 (.vl (.ref q)) x from i1) i2, h, fun r L' S' H' v kk t i => qq r L' S' H' v kk ((t1.trans t2).trans t) i, fun _ _ _ _ z => z.elim⟩⟩
theorem me_meth0 {pl : Sem Bool} {q C : Addr} {fs : List (Str × Rv)} {apos : Pos} (ho : EX Y a ρ L (.vl (.ref q)) La) (hq : La q = some (.ins C fs)) (hn : fs.lookup m = none) (c : Cls Y.X.K C) (G : MtM Y.X.prog Y.X.w Y.X.K Y.X.mg Y.X.base k C m ps sp) (hr : Room k Y.X.A)
    (ha : sp [.vl (.ref q)] La K noX)
    (ht : eval (.Call (.Attribute a m apos) [] [] pos) Y.X.env = (do
      let ov ← eval a Y.X.env
      standAt apos.atName
      let (f, first) ← holding [ov] (getMethod ov m pl)
      callWith pos f first (backTo pos (starEach [] Y.X.env)) (backToKw pos (keywordEach [] Y.X.env))) := by rfl) : ME Y (.Call (.Attribute a m apos) [] [] pos) ρ L K := ⟨fun S σ H A Q qq => by
  obtain ⟨f, fd, hm, hb, F⟩ := G.ex
  refine wE.of (pe_meth0 (pl := pl) wE.pe c hm F hr hb .nil pass0 ht) (ho.run S σ H A _ fun r1 L1' S1 H1 x ⟨e1, e2⟩ t1 i1 => ?_)
  subst e1 e2
  obtain ⟨dx, gs, hg, rf⟩ := t1.ok.ins hq
  refine ⟨q, dx, gs, i1, hg, (rf_lookup rf).1 hn, ?_⟩
  exact ⟨S1, L1', _, K, noX, t1.ok, .cons i1 .nil, ha, fun r L' S' H' v kk t i => qq r L' S' H' v kk (t1.trans t) i, fun _ _ _ _ z => z.elim⟩⟩
/-- C(e, ..): a new instance; sp: what __init__ promises -/
theorem me_make {C : Addr} {f : Addr} {fd : FuncData} (M : Mk Y.X.K C f) (F : FnOk Y.X.prog Y.X.w Y.X.K Y.X.mg Y.X.base CX0 k f fd ps (lift sp)) (hb : Binds Y.X.K fd ps []) (hr : Room (k + 1) Y.X.A) (hg : Gl Y.X x) (hm : Y.X.mg x = some (.ref C))
    (ha : MA Y (e :: es) ρ L fun rs L1 => ∀ q, L1 q = none → sp (.vl (.ref q) :: rs) (updL L1 q (.ins C [])) (fun r L2 => r = .dt .none ∧ K (.vl (.ref q)) L2) noX) (hdb : (x == ("__debug__" : Str)) = false := by decide)
    (he : starEach (e :: es) Y.X.env = (false, eval e Y.X.env) :: starEach es Y.X.env := by rfl) (hpl : (backTo pos (starEach es Y.X.env)).any (·.1) = false := by rfl) : ME Y (.Call (.Name x p) (e :: es) [] pos) ρ L K := ⟨fun S σ H A Q q => by
  refine wE.of (pe_make M F hr hg hm hb .nil pass0 wA.pa hdb he hpl) (ha.run S σ H A _ fun rs L1 S1 H1 vs h t1 i1 => ?_)
  intro z dx hz hdx hne
  rw [List.append_nil]
  have t2 := Step.dust (o := HO.own z) t1.ok hdx
  have hz' : upd H1 dx (.own z) z = none := by rw [upd_ne (Ne.symm hne)]; exact hz
  have t3 := Step.new (o := HO.ins C dx []) (m := MO.ins C []) t2.ok hz' ⟨dx, [], rfl, .nil⟩
  refine ⟨S1, _, _, _, noX, t3.ok, .cons (show Rv.is S1 (.vl (.ref z)) (.ref z) from rfl) i1, h z (t1.ok.free hz), fun r L' S' H' v ⟨e1, kk⟩ t i => ?_, fun _ _ _ _ z => z.elim⟩
  subst e1
  exact ⟨Da.nonAt i, q _ L' S' H' _ kk (((t1.trans t2).trans t3).trans t) rfl⟩⟩
theorem me_make0 {C : Addr} {f : Addr} {fd : FuncData} (M : Mk Y.X.K C f) (F : FnOk Y.X.prog Y.X.w Y.X.K Y.X.mg Y.X.base CX0 k f fd ps (lift sp)) (hb : Binds Y.X.K fd ps []) (hr : Room (k + 1) Y.X.A) (hg : Gl Y.X x) (hm : Y.X.mg x = some (.ref C))
    (ha : ∀ q, L q = none → sp [.vl (.ref q)] (updL L q (.ins C [])) (fun r L2 => r = .dt .none ∧ K (.vl (.ref q)) L2) noX) (hdb : (x == ("__debug__" : Str)) = false := by decide) : ME Y (.Call (.Name x p) [] [] pos) ρ L K := ⟨fun S σ H A Q q => by
  refine wE.of (pe_make0 M F hr hg hm hb .nil pass0 hdb) ?_
  intro z dx hz hdx hne
  have t2 := Step.dust (o := HO.own z) A.ok hdx
  have hz' : upd H dx (.own z) z = none := by rw [upd_ne (Ne.symm hne)]; exact hz
  have t3 := Step.new (o := HO.ins C dx []) (m := MO.ins C []) t2.ok hz' ⟨dx, [], rfl, .nil⟩
  refine ⟨S, _, _, _, noX, t3.ok, .cons (show Rv.is S (.vl (.ref z)) (.ref z) from rfl) .nil, ha z (A.ok.free hz), fun r L' S' H' v ⟨e1, kk⟩ t i => ?_, fun _ _ _ _ z => z.elim⟩
  subst e1
  exact ⟨Da.nonAt i, q _ L' S' H' _ kk ((t2.trans t3).trans t) rfl⟩⟩
/-- o.f -/
theorem ex_fld {q C : Addr} {fs : List (Str × Rv)} {f : Str} (ho : EX Y a ρ L (.vl (.ref q)) La) (hq : La q = some (.ins C fs)) (hf : fs.lookup f = some r) (c : Cls Y.X.K C) (n : NoAttr Y.X.K C f) (hb : attributeBase a f Y.X.env (eval a Y.X.env) = eval a Y.X.env := by rfl) : EX Y (.Attribute a f pos) ρ L r La := ⟨fun S σ H A Q qq => by
  refine wE.of (pe_fld wE.pe hb) (ho.run S σ H A _ fun r1 L1' S1 H1 x ⟨e1, e2⟩ t1 i1 => ?_)
  subst e1 e2
  obtain ⟨dx, gs, hg, rf⟩ := t1.ok.ins hq
  obtain ⟨v, h1, h2⟩ := (rf_lookup rf).2 r hf
  exact ⟨q, C, dx, gs, v, i1, hg, c, n, h1, qq _ _ S1 H1 v ⟨rfl, rfl⟩ t1 h2⟩⟩
end

/-! ### the body of a def -/
def start (N : List Str) (as : List Rv) : Rho := as.map some ++ List.replicate (N.length - as.length) none
theorem es_start {S : Hp} {N : List Str} {as : List Rv} {vs : List V} (h : Rvs S as vs) : Es S (L2.start N vs) (start N as) := by
  have hl := Rvs.len h
  refine ⟨?_, fun i r q => ?_⟩
  · unfold L2.start start
    rw [List.length_append, List.length_append, List.length_map, List.length_map, List.length_replicate, List.length_replicate, hl]
  · unfold start at q
    by_cases hi : i < as.length
    · rw [List.getElem?_append_left (by rw [List.length_map]; exact hi), List.getElem?_map] at q
      obtain ⟨r', e⟩ : ∃ r', as[i]? = some r' := ⟨_, List.getElem?_eq_getElem hi⟩
      rw [e] at q
      cases q
      obtain ⟨v, e2, i2⟩ := pgetL h e
      refine ⟨v, ?_, i2⟩
      unfold L2.start
      rw [List.getElem?_append_left (by rw [List.length_map, ← hl]; exact hi), List.getElem?_map, e2]
      rfl
    · rw [List.getElem?_append_right (by rw [List.length_map]; omega)] at q
      rw [List.getElem?_replicate] at q
      split at q <;> cases q
/-- the context of a def's body that lets nothing out -/
abbrev y0 (P : Program) (w : World) (K : PySem.W.Frag) (mg : Str → Option Value) (base : Heap) (N : List Str) (qual : Str) (sc : Scope) (f : Addr) (cdv : Value) (A : Around) (outer : List Env) (s : Shared) (H : Hp) (E : XK) : Cm :=
  ⟨(cxOf CX0 P w K mg base N qual sc f cdv A outer s H E).nox, fun _ _ _ _ => False, fun _ _ _ => False, takes0, PassesOwn.never⟩
section
variable {P : Program} {w : World} {K : PySem.W.Frag} {mg : Str → Option Value} {base : Heap} {x qual : Str} {st : Stmt} {f : Addr} {fd : FuncData} {N ps : List Str} {k : Nat} {sp : Fs}
theorem fnok0 (F : Fun K x qual st f fd) (S : FnScope N ps (defScope st)) (len : ∀ as L Kp XC, sp as L Kp XC → as.length = ps.length)
    (body : ∀ cdv A outer s H E, Room k (A.deeper (envOfC qual (defScope st) s.heap.objs.size f cdv)) → ∀ as L Kp XC, sp as L Kp XC → MSs (y0 P w K mg base N qual (defScope st) f cdv A outer s H E) (defBody st) (fun _ L' => Kp (.dt .none) L') ⟨Kp, fun _ _ => False, fun _ _ => False⟩ (start N as) L) :
    FnOk P w K mg base CX0 (k + 1) f fd ps (lift sp) := by
  refine F.ok S (fun vs H Q E h => ?_) (fun cdv A outer s H vs Q E hr h => ?_)
  · obtain ⟨S, L, as, Kp, XC, _, i, h, _⟩ := h
    rw [← Rvs.len i]
    exact len as L Kp XC h
  · obtain ⟨S, L, as, Kp, XC, ok, i, h, q, _⟩ := h
    refine ⟨wSs _ (defBody st), wSs.ps, (body cdv A outer s H E hr as L Kp XC h).run S _ H ⟨ok, es_start i, fun _ _ _ _ _ _ z => z.elim⟩ _ ⟨fun ρ L' S' H' σ kk t _ => q _ L' S' H' _ kk t .non, fun r L' S' H' v kk t ii => q r L' S' H' v kk t ii, fun _ _ _ _ _ z => z.elim, fun _ _ _ _ _ z => z.elim⟩⟩
/-- the context of a def's body that may let an error out -/
abbrev yX (P : Program) (w : World) (K : PySem.W.Frag) (mg : Str → Option Value) (base : Heap) (N : List Str) (qual : Str) (sc : Scope) (f : Addr) (cdv : Value) (A : Around) (outer : List Env) (s : Shared) (H : Hp) (E : XK) (XC : Value → Led → Prop) : Cm :=
  ⟨cxOf (L2.CX P w) P w K mg base N qual sc f cdv A outer s H E, fun cls d _ H => E cls d H, fun c _ L => XC c L, takes_of rfl rfl rfl rfl, PassesOwn.leaving⟩
theorem fnokX (F : Fun K x qual st f fd) (S : FnScope N ps (defScope st)) (len : ∀ as L Kp XC, sp as L Kp XC → as.length = ps.length)
    (body : ∀ cdv A outer s H E, Room k (A.deeper (envOfC qual (defScope st) s.heap.objs.size f cdv)) → ∀ as L Kp XC, sp as L Kp XC → MSs (yX P w K mg base N qual (defScope st) f cdv A outer s H E XC) (defBody st) (fun _ L' => Kp (.dt .none) L') ⟨Kp, fun _ _ => False, fun _ _ => False⟩ (start N as) L) :
    FnOk P w K mg base (L2.CX P w) (k + 1) f fd ps (lift sp) := by
  refine F.okX S (fun vs H Q E h => ?_) (fun cdv A outer s H vs Q E hr h => ?_)
  · obtain ⟨S, L, as, Kp, XC, _, i, h, _⟩ := h
    rw [← Rvs.len i]
    exact len as L Kp XC h
  · obtain ⟨S, L, as, Kp, XC, ok, i, h, q, qx⟩ := h
    refine ⟨wSs _ (defBody st), wSs.ps, (body cdv A outer s H E hr as L Kp XC h).run S _ H ⟨ok, es_start i, fun c _ L' S' H' _ z t _ => qx c L' S' H' z t⟩ _ ⟨fun ρ L' S' H' σ kk t _ => q _ L' S' H' _ kk t .non, fun r L' S' H' v kk t ii => q r L' S' H' v kk t ii, fun _ _ _ _ _ z => z.elim, fun _ _ _ _ _ z => z.elim⟩⟩
end

/-! ### blocks and small statements -/
section
variable {Y : Cm} {ρ ρ' : Rho} {L L' La : Led} {r ra rb rc : Rv} {e a b c : Expr} {es : List Expr} {pos p : Pos} {st : Stmt} {sts rest sa sb : List Stmt} {N : Rho → Led → Prop} {D : Nd}
theorem mss_nil (h : N ρ L) : MSs Y [] N D ρ L := ⟨fun S σ H A De l => wSs.of pss_nil (l.nx ρ L S H σ h (Step.refl A.ok) A.es)⟩
theorem mss_cons (h : MS Y st (fun ρ L => MSs Y rest N D ρ L) D ρ L) : MSs Y (st :: rest) N D ρ L := ⟨fun S σ H A De l => wSs.of (pss_cons wS.ps wSs.ps) (h.run S σ H A { De with nx := wSs Y.X rest De } ⟨fun ρ' L' S' H' σ' k t es => k.run S' σ' H' ((A.next t).env es) De (l.mono t), l.rt, l.bk, l.ct⟩)⟩
theorem mss_one (h : MS Y st N D ρ L) : MSs Y [st] N D ρ L := mss_cons ⟨fun S σ H A De l => h.run S σ H A De ⟨fun ρ' L' S' H' σ' k t es => l.nx ρ' L' S' H' σ' (mss_nil k) t es, l.rt, l.bk, l.ct⟩⟩
/-- the ledger and the names forgotten in part -/
theorem MSs.le (h : MSs Y sts N D ρ' L') (hl : Le L' L) (hf : Fg ρ' ρ) : MSs Y sts N D ρ L := ⟨fun S σ H A De l =>
  have t : Step S H L S H L' := (Step.refl A.ok).le hl
  h.run S σ H ((A.next t).env (A.es.fg hf)) De (l.mono t)⟩
theorem MSs.settle {q : Addr} {ds : List PyData} (i : Nat) (hi : ρ[i]? = some (some (.vl (.ref q)))) (hq : L q = some (.lst (ds.map Rv.dt))) (h : MSs Y sts N D (ρ.set i (some (.dt (.list ds)))) (delL L q)) : MSs Y sts N D ρ L := ⟨fun S σ H A De l => by
  obtain ⟨S', t, da⟩ := Step.settle A.ok hq
  have es := (A.next t).es
  have hl : i < ρ.length := (List.getElem?_eq_some_iff.mp hi).1
  obtain ⟨v, e1, e2⟩ := es.at_ i _ hi
  have e3 : v = .ref q := e2
  subst e3
  refine h.run S' σ H ((A.next t).env ⟨by rw [List.length_set]; exact es.len, fun j r q' => ?_⟩) De (l.mono t)
  by_cases hj : i = j
  · subst hj
    rw [List.getElem?_set_self hl] at q'
    cases q'
    exact ⟨_, e1, da⟩
  · rw [List.getElem?_set_ne hj] at q'
    exact es.at_ j r q'⟩
theorem ms_pass (h : N ρ L) : MS Y (.Pass pos) N D ρ L := ⟨fun S σ H A De l => wS.of ps_pass (l.nx ρ L S H σ h (Step.refl A.ok) A.es)⟩
theorem ms_break (h : D.bk ρ L) : MS Y (.Break pos) N D ρ L := ⟨fun S σ H A De l => wS.of ps_break (l.bk ρ L S H σ h (Step.refl A.ok) A.es)⟩
theorem ms_cont (h : D.ct ρ L) : MS Y (.Continue pos) N D ρ L := ⟨fun S σ H A De l => wS.of ps_continue (l.ct ρ L S H σ h (Step.refl A.ok) A.es)⟩
theorem ms_expr (h : ME Y e ρ L fun _ L' => N ρ L') (hs : swapsWith e none pos.line Y.X.env = pure false := by rfl) : MS Y (.Expr e pos) N D ρ L := ⟨fun S σ H A De l => wS.of (ps_expr wE.pe hs) (h.run S σ H A _ fun r L' S' H' v k t _ => l.nx ρ L' S' H' σ k t (A.es.mono t.sub))⟩
theorem ms_ret (h : ME Y e ρ L D.rt) : MS Y (.Return (some e) pos) N D ρ L := ⟨fun S σ H A De l => wS.of (ps_ret wE.pe) (h.run S σ H A _ fun r L' S' H' v k t i => l.rt r L' S' H' v k t i)⟩
theorem ms_retN (h : D.rt (.dt .none) L) : MS Y (.Return none pos) N D ρ L := ⟨fun S σ H A De l => wS.of ps_retN (l.rt _ L S H _ h (Step.refl A.ok) .non)⟩
theorem ms_if (hc : MT Y c ρ L fun k L' => (k = true → MSs Y sa N D ρ L') ∧ (k = false → MSs Y sb N D ρ L')) : MS Y (.If c sa sb pos) N D ρ L := ⟨fun S σ H A De l => wS.of (ps_if wT.pt wSs.ps wSs.ps) (hc.run S σ H A _ fun k L' S1 H1 ⟨h1, h2⟩ t1 => by
  cases k with
  | true => exact iteT ((h1 rfl).run S1 σ H1 (A.next t1) De (l.mono t1))
  | false => exact iteF ((h2 rfl).run S1 σ H1 (A.next t1) De (l.mono t1)))⟩
theorem ms_ifx {k : Bool} (hc : TX Y c ρ L k La) (h1 : k = true → MSs Y sa N D ρ La) (h2 : k = false → MSs Y sb N D ρ La) : MS Y (.If c sa sb pos) N D ρ L := ms_if (hc.imp fun _ _ ⟨e1, e2⟩ => by
  subst e1 e2
  exact ⟨h1, h2⟩)
/-- x = e -/
theorem ms_set (i : Nat) {x : Str} {pos' : Pos} (hN : Y.X.N.Nodup) (hi : Y.X.N[i]? = some x) (hx : Loc Y.X.env.scope x) (h : ME Y e ρ L fun r L' => N (ρ.set i (some r)) L') (hs : swapsWith e (some (.Name x pos')) pos.line Y.X.env = pure false := by rfl) (hf : Y.X.fn x = true ∨ Y.X.env.scope.names.lookup x = some .local := by first | exact .inl rfl | exact .inr rfl) :
    MS Y (.Assign [.Name x pos'] e pos) N D ρ L := ⟨fun S σ H A De l => wS.of (ps_set hN hi hx wE.pe hs hf) (h.run S σ H A _ fun r L' S' H' v k t ii => l.nx _ L' S' H' _ k t ((A.es.mono t.sub).set ii))⟩
/-- x op= e -/
theorem ms_aug (i : Nat) {x : Str} {op : Operator} {pos' : Pos} (hN : Y.X.N.Nodup) (hi : Y.X.N[i]? = some x) (hx : Loc Y.X.env.scope x) (h0 : ρ[i]? = some (some ra)) (he : EX Y e ρ L rb La) (h : Op2 Y.X (inplaceOp op) ra rb La rc) (k : N (ρ.set i (some rc)) La)
    (hf : Y.X.fn x = true ∨ Y.X.env.scope.names.lookup x = some .local := by first | exact .inl rfl | exact .inr rfl) : MS Y (.AugAssign (.Name x pos') op e pos) N D ρ L := ⟨fun S σ H A De l => by
  obtain ⟨rr, ho, hr⟩ := h
  refine wS.of (ps_aug (ti := fun x y H Q => rr x y H Q) hN hi hx wE.pe (fun pins s σ H x y v u Q I rx ry q => ho pins s σ H x y v u Q I rx ry q) hf) ?_
  obtain ⟨v, e1, i1⟩ := A.es.at_ i ra h0
  refine ⟨v, e1, he.run S σ H A _ fun r1 L1' S1 H1 y ⟨e2, e3⟩ t1 i2 => ?_⟩
  subst e2 e3
  exact hr S1 H1 v y t1.ok (i1.mono t1.sub) i2 _ fun S2 H2 z t2 i3 => l.nx _ _ S2 H2 _ k (t1.trans t2) ((A.es.mono (t1.trans t2).sub).set i3)⟩

/-! ### targets -/
inductive Tg where
  | n (i : Nat) | t (is : List Nat)
def gNs : List Nat → TGs
  | [] => gNil
  | i :: is => gCons (gName i) (gNs is)
def gTg (K : PySem.W.Frag) : Tg → TG
  | .n i => gName i
  | .t is => gTup K is.length (gNs is)
def Tg.slots : Tg → List Nat
  | .n i => [i]
  | .t is => is
inductive Yd where
  | r (x : Rv) | t (xs : List Rv)
def Yd.is (S H : Hp) : Yd → V → Prop
  | .r x, u => x.is S u
  | .t xs, u => ∃ p vs, u = .ref p ∧ H p = some (.tup vs) ∧ Rvs S xs vs
def setAll : List Nat → List Rv → Rho → Rho
  | i :: is, r :: rs, ρ => setAll is rs (ρ.set i (some r))
  | _, _, ρ => ρ
def setT : Tg → Yd → Rho → Option Rho
  | .n i, .r x, ρ => some (ρ.set i (some x))
  | .t is, .r (.dt (.tuple ds)), ρ => if ds.length = is.length then some (setAll is (ds.map Rv.dt) ρ) else none
  | .t is, .t xs, ρ => if xs.length = is.length then some (setAll is xs ρ) else none
  | _, _, _ => none
/-- σ and σ' are alike but at vs -/
def But (vs : List Nat) (σ σ' : Slots) : Prop := σ.length = σ'.length ∧ ∀ i, i ∉ vs → σ[i]? = σ'[i]?
theorem wipe_at (σ : Slots) (i : Nat) : ∀ vs : List Nat, (wipe σ vs)[i]? = if i ∈ vs ∧ i < σ.length then some none else σ[i]?
  | [] => by simp [wipe]
  | v :: vs => by
    unfold wipe
    by_cases hi : v = i
    · subst hi
      by_cases hl : v < σ.length
      · rw [List.getElem?_set_self (by rw [wipe_length]; exact hl), if_pos ⟨List.mem_cons_self, hl⟩]
      · rw [if_neg (fun z => hl z.2), List.getElem?_eq_none (by rw [List.length_set, wipe_length]; omega), List.getElem?_eq_none (by omega)]
    · rw [List.getElem?_set_ne hi, wipe_at σ i vs]
      have e : (i ∈ v :: vs) ↔ (i ∈ vs) := by
        rw [List.mem_cons]
        exact ⟨fun z => z.elim (fun q => absurd q.symm hi) id, .inr⟩
      simp only [e]
theorem But.wipe {vs : List Nat} {σ σ' : Slots} (h : But vs σ σ') : L2.wipe σ' vs = L2.wipe σ vs := by
  apply List.ext_getElem?
  intro i
  rw [wipe_at, wipe_at, h.1]
  by_cases hi : i ∈ vs
  · by_cases hl : i < σ'.length
    · rw [if_pos ⟨hi, hl⟩, if_pos ⟨hi, hl⟩]
    · rw [if_neg (fun z => hl z.2), if_neg (fun z => hl z.2), List.getElem?_eq_none (by omega), List.getElem?_eq_none (by rw [h.1]; omega)]
  · rw [if_neg (fun z => hi z.1), if_neg (fun z => hi z.1), h.2 i hi]
theorem But.wipeL {vs : List Nat} {σ σ' : Slots} (h : But vs (L2.wipe σ vs) σ') : L2.wipe σ' vs = L2.wipe σ vs := by
  rw [But.wipe h]
  apply List.ext_getElem?
  intro i
  rw [wipe_at, wipe_at, wipe_length]
  by_cases hi : i ∈ vs ∧ i < σ.length
  · rw [if_pos hi, if_pos hi]
  · rw [if_neg hi, if_neg hi]
theorem gNs_ok {S : Hp} : ∀ {is : List Nat} {xs : List Rv} {vs : List V} {σ : Slots} {ρ : Rho} {H : Hp} {Q : Slots → Hp → Prop}, Rvs S xs vs → xs.length = is.length → Es S σ ρ → (∀ σ', Es S σ' (setAll is xs ρ) → But is σ σ' → Q σ' H) → gNs is vs σ H Q
  | [], [], _, σ, ρ, H, Q, .nil, _, es, q => ⟨rfl, q σ es ⟨rfl, fun _ _ => rfl⟩⟩
  | i :: is, x :: xs, _, σ, ρ, H, Q, .cons a t, hl, es, q => ⟨_, _, rfl, gNs_ok t (Nat.succ.inj hl) (es.set a) fun σ' es' b => q σ' es' ⟨by rw [← b.1, List.length_set], fun j hj => by
      rw [← b.2 j fun z => hj (List.mem_cons_of_mem _ z), List.getElem?_set_ne fun z => hj (by rw [z]; exact List.mem_cons_self)]⟩⟩
theorem gTg_ok {K : PySem.W.Frag} {S H : Hp} {tg : Tg} {y : Yd} {u : V} {σ : Slots} {ρ ρ' : Rho} {Q : Slots → Hp → Prop} (sub : Sub S H) (h : y.is S H u) (e : setT tg y ρ = some ρ') (es : Es S σ ρ) (q : ∀ σ', Es S σ' ρ' → But tg.slots σ σ' → Q σ' H) : gTg K tg u σ H Q := by
  cases tg with
  | n i =>
    cases y with
    | t xs => cases e
    | r x =>
      cases e
      exact q _ (es.set h) ⟨by rw [List.length_set], fun j hj => by
        rw [List.getElem?_set_ne fun z => hj (by rw [z]; exact List.mem_cons_self)]⟩
  | t is =>
    cases y with
    | r x =>
      cases x with
      | vl v => cases e
      | dt d =>
        cases d with
        | tuple ds =>
          have e' : (if ds.length = is.length then some (setAll is (ds.map Rv.dt) ρ) else none) = some ρ' := e
          split at e'
          · rename_i hl
            cases e'
            cases h with
            | tup e0 t => exact ⟨_, _, rfl, SqT.of (sub _ _ e0), by rw [t.len]; exact hl, gNs_ok (Rvs.of t) (by rw [List.length_map]; exact hl) es q⟩
          · cases e'
        | _ => cases e
    | t xs =>
      have e' : (if xs.length = is.length then some (setAll is xs ρ) else none) = some ρ' := e
      split at e'
      · rename_i hl
        cases e'
        obtain ⟨p, vs, rfl, hp, i⟩ := h
        exact ⟨p, vs, rfl, SqT.of hp, by rw [← Rvs.len i]; exact hl, gNs_ok i hl es q⟩
      · cases e'
theorem pgn_name {X : Cx} (i : Nat) {x : Str} {pos : Pos} (hN : X.N.Nodup) (hi : X.N[i]? = some x) (hx : Loc X.env.scope x) (hf : X.fn x = true ∨ X.env.scope.names.lookup x = some .local := by first | exact .inl rfl | exact .inr rfl) : PG X (.Name x pos) (gTg X.K (.n i)) := pg_name hN hi hx hf
theorem pgn_nil {X : Cx} : PGs X [] (gNs []) := pgs_nil
theorem pgn_cons {X : Cx} (i : Nat) {is : List Nat} {x : Str} {pos : Pos} {es : List Expr} (hN : X.N.Nodup) (hi : X.N[i]? = some x) (hx : Loc X.env.scope x) (t : PGs X es (gNs is)) (hf : X.fn x = true ∨ X.env.scope.names.lookup x = some .local := by first | exact .inl rfl | exact .inr rfl)
    (hs : (assignEach (.Name x pos :: es) X.env).map (·.2) = assign (.Name x pos) X.env :: (assignEach es X.env).map (·.2) := by rfl) : PGs X (.Name x pos :: es) (gNs (i :: is)) := pgs_cons (pg_name hN hi hx hf) t hs
theorem pgn_tup {X : Cx} {is : List Nat} {es : List Expr} {k : Nat} {pos : Pos} (hc : X.calm = true) (t : PGs X es (gNs is)) (hn : (assignEach es X.env).length = is.length := by rfl) (hst : (assignEach es X.env).findIdx? (·.1) = none := by rfl) : PG X (.Tuple es k pos) (gTg X.K (.t is)) := pg_tup hc t hn hst
/-- a, b, .. = e -/
theorem ms_tup {tg : Expr} {is : List Nat} (hg : PG Y.X tg (gTg Y.X.K (.t is))) (h : ME Y e ρ L fun r L' => ∃ ρ', setT (.t is) (.r r) ρ = some ρ' ∧ N ρ' L') (hs : swapsWithSole [tg] e pos.line Y.X.env = pure false := by rfl) (hw : swappedStores [tg] e Y.X.env = pure none := by rfl)
    (h1 : (assignEach [tg] Y.X.env).map (·.2) = [assign tg Y.X.env] := by rfl) : MS Y (.Assign [tg] e pos) N D ρ L := ⟨fun S σ H A De l => wS.of (ps_asg wE.pe hg hs hw h1) (h.run S σ H A _ fun r L' S' H' v ⟨ρ', e1, k⟩ t i =>
  gTg_ok (y := .r r) t.ok.sub i e1 (A.es.mono t.sub) fun σ' es _ => l.nx ρ' L' S' H' σ' k t es)⟩

/-! ### what is walked -/
/-- an iterator gives ys, one after another, as long as P holds of the ledger -/
structure Yl (J : It) (S : Hp) (P : Led → Prop) (ys : List Yd) : Prop where
  go : ∀ (i : Nat) S' H L, Sub S S' → Ok S' H L → P L → i < ys.length → J.go i H
  stop : ∀ (i : Nat) S' H L, Sub S S' → Ok S' H L → P L → i = ys.length → J.stop i H
  yld : ∀ (i : Nat) S' H L u H' y, Sub S S' → Ok S' H L → P L → ys[i]? = some y → J.yld i H u H' → Step S' H L S' H' L ∧ y.is S' H' u
structure MI (Y : Cm) (tg iter : Expr) (ρ : Rho) (L : Led) (K : List Yd → (Led → Prop) → Led → Prop) : Prop where
  run : ∀ S σ H, At Y ρ L S σ H → ∀ R : It → Hp → Prop, (∀ ys P L' S' H' J, K ys P L' → Step S H L S' H' L' → Yl J S' P ys → R J H') → wI Y.X tg iter σ H R
abbrev IX (Y : Cm) (tg iter : Expr) (ρ : Rho) (L : Led) (ys : List Yd) (P : Led → Prop) (L' : Led) : Prop := MI Y tg iter ρ L fun ys' P' L1 => ys' = ys ∧ P' = P ∧ L1 = L'
theorem MI.imp {tg iter : Expr} {K K' : List Yd → (Led → Prop) → Led → Prop} (h : MI Y tg iter ρ L K) (i : ∀ ys P L', K ys P L' → K' ys P L') : MI Y tg iter ρ L K' := ⟨fun S σ H A R q => h.run S σ H A R fun ys P L' S' H' J k => q ys P L' S' H' J (i ys P L' k)⟩
def anyL : Led → Prop := fun _ => True
/-- a list of data -/
theorem ix_data {tg : Expr} {ds : List PyData} (h : EX Y e ρ L (.dt (.list ds)) La) : IX Y tg e ρ L (ds.map fun d => .r (.dt d)) anyL La := ⟨fun S σ H A R q => wI.of (pi_list wE.pe) (h.run S σ H A _ fun r L' S1 H1 v ⟨e1, e2⟩ t i => by
  subst e1 e2
  cases i with
  | @lst a xs ds e0 d0 =>
    refine ⟨a, rfl, ⟨xs, SqL.of (t.ok.sub _ _ e0)⟩, q _ _ _ S1 H1 _ ⟨rfl, rfl, rfl⟩ t ⟨fun i S' H L s k _ hl => ?_, fun i S' H L s k _ hl => ?_, fun i S' H L u H' y s k _ hy ⟨e1, e2⟩ => ?_⟩⟩
    · rw [List.length_map] at hl
      obtain ⟨x, hx, _⟩ := pget d0.pd (List.getElem?_eq_getElem hl)
      exact ⟨xs, x, SqL.of (k.sub _ _ (s _ _ e0)), hx⟩
    · rw [List.length_map] at hl
      exact ⟨xs, SqL.of (k.sub _ _ (s _ _ e0)), by rw [d0.len]; omega⟩
    · subst e1
      refine ⟨Step.refl k, ?_⟩
      rw [List.getElem?_map] at hy
      cases hd : ds[i]? with
      | none => rw [hd] at hy; cases hy
      | some d =>
        rw [hd] at hy
        cases hy
        obtain ⟨x, hx, dx⟩ := pget d0.pd hd
        have eu := Option.some.inj ((e2 _ (SqL.of (k.sub _ _ (s _ _ e0)))).symm.trans hx)
        subst eu
        exact dx.mono s)⟩
/-- a list of the ledger -/
theorem ix_led {tg : Expr} {rs : List Rv} {q : Addr} (h : EX Y e ρ L (.vl (.ref q)) La) (hq : La q = some (.lst rs)) : IX Y tg e ρ L (rs.map Yd.r) (fun L => L q = some (.lst rs)) La := ⟨fun S σ H A R qq => wI.of (pi_list wE.pe) (h.run S σ H A _ fun r L' S1 H1 v ⟨e1, e2⟩ t i => by
  subst e1 e2
  have ei : v = .ref q := i
  subst ei
  obtain ⟨_, _, e0, xs, rfl, d0⟩ := t.ok.led q _ hq
  have at_ : ∀ {S' H L}, Ok S' H L → L q = some (.lst rs) → ∃ xs, H q = some (.lst xs) ∧ Rvs S' rs xs := fun k hL => by
    obtain ⟨_, _, e0, xs, rfl, d0⟩ := k.led q _ hL
    exact ⟨xs, e0, d0⟩
  refine ⟨q, rfl, ⟨xs, SqL.of e0⟩, qq _ _ _ S1 H1 _ ⟨rfl, rfl, rfl⟩ t ⟨fun i S' H L s k hL hl => ?_, fun i S' H L s k hL hl => ?_, fun i S' H L u H' y s k hL hy ⟨e1, e2⟩ => ?_⟩⟩
  · rw [List.length_map] at hl
    obtain ⟨xs, e0, d0⟩ := at_ k hL
    obtain ⟨x, hx, _⟩ := pgetL d0 (List.getElem?_eq_getElem hl)
    exact ⟨xs, x, SqL.of e0, hx⟩
  · rw [List.length_map] at hl
    obtain ⟨xs, e0, d0⟩ := at_ k hL
    exact ⟨xs, SqL.of e0, by rw [← Rvs.len d0]; omega⟩
  · subst e1
    refine ⟨Step.refl k, ?_⟩
    rw [List.getElem?_map] at hy
    cases hd : rs[i]? with
    | none => rw [hd] at hy; cases hy
    | some d =>
      rw [hd] at hy
      cases hy
      obtain ⟨xs, e0, d0⟩ := at_ k hL
      obtain ⟨x, hx, dx⟩ := pgetL d0 hd
      have eu := Option.some.inj ((e2 _ (SqL.of e0)).symm.trans hx)
      subst eu
      exact dx)⟩
def rgY (lo : Int) (n : Nat) : List Yd := (List.range n).map fun i => .r (.dt (.int (lo + (i : Nat))))
theorem rgY_len {lo : Int} {n : Nat} : (rgY lo n).length = n := by unfold rgY; rw [List.length_map, List.length_range]
theorem rgY_at {lo : Int} {n i : Nat} {y : Yd} (h : (rgY lo n)[i]? = some y) : i < n ∧ y = .r (.dt (.int (lo + (i : Nat)))) := by
  unfold rgY at h
  rw [List.getElem?_map] at h
  by_cases hi : i < n
  · rw [List.getElem?_range hi] at h
    exact ⟨hi, (Option.some.inj h).symm⟩
  · rw [List.getElem?_eq_none (by rw [List.length_range]; omega)] at h
    cases h
theorem yl_range {lo : Int} {n : Nat} {S : Hp} : Yl (Itr lo n) S anyL (rgY lo n) := ⟨fun i S' H L s k _ hl => by rw [rgY_len] at hl; exact hl, fun i S' H L s k _ hl => by rw [rgY_len] at hl; exact Nat.le_of_eq hl.symm, fun i S' H L u H' y s k _ hy ⟨e1, e2⟩ => by
  subst e1 e2
  obtain ⟨_, rfl⟩ := rgY_at hy
  exact ⟨Step.refl k, .int _⟩⟩
theorem ix_range1 {tg : Expr} {j : Int} (h : AX Y [a] ρ L [.dt (.int j)] La) (h1 : -(2 ^ 62) ≤ j) (h2 : j < 2 ^ 62) (hg : Gl Y.X "range") (hm : Y.X.mg "range" = none) (hs : starEach [a] Y.X.env = [(false, eval a Y.X.env)] := by rfl) : IX Y tg (.Call (.Name "range" p) [a] [] pos) ρ L (rgY 0 j.toNat) anyL La := ⟨fun S σ H A R q => wI.of (pi_range1 hg hm wA.pa hs) (h.run S σ H A _ fun rs L' S1 H1 vs ⟨e1, e2⟩ t i => by
  subst e1 e2
  obtain ⟨x, rfl, i0⟩ := rvs1 i
  exact ⟨j, by rw [Da.intAt i0], h1, h2, q _ _ _ S1 H1 _ ⟨rfl, rfl, rfl⟩ t yl_range⟩)⟩
theorem ix_range2 {tg : Expr} {i j : Int} (h : AX Y [a, b] ρ L [.dt (.int i), .dt (.int j)] La) (hb : -(2 ^ 62) ≤ i ∧ i < 2 ^ 62 ∧ -(2 ^ 62) ≤ j ∧ j < 2 ^ 62) (hg : Gl Y.X "range") (hm : Y.X.mg "range" = none) (hs : starEach [a, b] Y.X.env = [(false, eval a Y.X.env), (false, eval b Y.X.env)] := by rfl) (hs2 : starEach [b] Y.X.env = [(false, eval b Y.X.env)] := by rfl) :
    IX Y tg (.Call (.Name "range" p) [a, b] [] pos) ρ L (rgY i (j - i).toNat) anyL La := ⟨fun S σ H A R q => wI.of (pi_range2 hg hm wA.pa hs hs2) (h.run S σ H A _ fun rs L' S1 H1 vs ⟨e1, e2⟩ t ii => by
  subst e1 e2
  obtain ⟨x, y, rfl, i1, i2⟩ := rvs2 ii
  exact ⟨i, j, by rw [Da.intAt i1, Da.intAt i2], hb, q _ _ _ S1 H1 _ ⟨rfl, rfl, rfl⟩ t yl_range⟩)⟩

/-! ### for -/
theorem ms_for {tg iter : Expr} {body : List Stmt} {ys : List Yd} {P : Led → Prop} {tgt : Tg} (hc : Y.X.calm = true) (hi : IX Y tg iter ρ L ys P La) (hg : PG Y.X tg (gTg Y.X.K tgt)) (I : Nat → Rho → Led → Prop) (h0 : I 0 ρ La) (hP : ∀ (i : Nat) ρ L, i ≤ ys.length → I i ρ L → P L)
    (hs : ∀ (i : Nat) y ρ L, ys[i]? = some y → I i ρ L → ∃ ρ', setT tgt y ρ = some ρ' ∧ MSs Y body (I (i + 1)) { D with ct := I (i + 1), bk := N } ρ' L) (hd : ∀ ρ L, I ys.length ρ L → N ρ L)
    (hf : ∀ x, foldedSetIterable iter Y.X.env x = pure x := by intro _; rfl) : MS Y (.For tg iter body [] pos) N D ρ L := ⟨fun S σ H A De l => by
  refine wS.of (ps_for Y.po hc wI.pi hg wSs.ps hf) (hi.run S σ H A _ fun ys' P' L' S1 H1 J ⟨e1, e2, e3⟩ t1 yl => ?_)
  subst e1 e2 e3
  refine ⟨fun i m σ' H' => m = ys'.length - i ∧ i ≤ ys'.length ∧ ∃ S' ρ' L2, Step S H L S' H' L2 ∧ Sub S1 S' ∧ Es S' σ' ρ' ∧ I i ρ' L2, ⟨_, rfl, Nat.zero_le _, S1, ρ, L', t1, Sub.refl _, A.es.mono t1.sub, h0⟩, ?_⟩
  rintro i m σ2 H2 ⟨rfl, hle, S2, ρ2, L2, t2, s2, es2, i2⟩
  have p2 := hP i ρ2 L2 hle i2
  by_cases hlt : i < ys'.length
  · refine .inr ⟨yl.go i S2 H2 L2 s2 t2.ok p2 hlt, fun σ' H' => ∃ S' ρ' L2, Step S H L S' H' L2 ∧ Sub S1 S' ∧ Es S' σ' ρ' ∧ I (i + 1) ρ' L2, fun σ' H' n => ⟨_, by omega, rfl, hlt, n⟩, fun u H3 hy => ?_⟩
    obtain ⟨y, ey⟩ : ∃ y, ys'[i]? = some y := ⟨_, List.getElem?_eq_getElem hlt⟩
    obtain ⟨t3, iy⟩ := yl.yld i S2 H2 L2 u H3 y s2 t2.ok p2 ey hy
    obtain ⟨ρ3, e3, hb⟩ := hs i y ρ2 L2 ey i2
    have t23 := t2.trans t3
    refine gTg_ok t3.ok.sub iy e3 es2 fun σ4 es4 _ => ?_
    exact hb.run S2 σ4 H3 ((A.next t23).env es4) _ ⟨fun ρ' L' S' H' σ' k t es => ⟨S', ρ', L', t23.trans t, s2.trans t.sub, es, k⟩, fun r L' S' H' v k t ii => l.rt r L' S' H' v k (t23.trans t) ii, fun ρ' L' S' H' σ' k t es => l.nx ρ' L' S' H' σ' k (t23.trans t) es, fun ρ' L' S' H' σ' k t es => ⟨S', ρ', L', t23.trans t, s2.trans t.sub, es, k⟩⟩
  · have e : i = ys'.length := by omega
    subst e
    exact .inl ⟨yl.stop _ S2 H2 L2 s2 t2.ok p2 rfl, l.nx ρ2 L2 S2 H2 σ2 (hd ρ2 L2 i2) t2 es2⟩⟩
/-- while -/
theorem ms_while {body : List Stmt} (W : Nat → Rho → Led → Prop) (m0 : Nat) (h0 : W m0 ρ L) (hs : ∀ m ρ L, W m ρ L → MT Y c ρ L fun k L' => (k = true → MSs Y body (fun ρ L => ∃ m', m' < m ∧ W m' ρ L) { D with ct := fun ρ L => ∃ m', m' < m ∧ W m' ρ L, bk := N } ρ L') ∧ (k = false → N ρ L')) :
    MS Y (.While c body [] pos) N D ρ L := ⟨fun S σ H A De l => by
  refine wS.of (ps_while Y.po wT.pt wSs.ps) ⟨fun m σ' H' => ∃ S' ρ' L2, Step S H L S' H' L2 ∧ Es S' σ' ρ' ∧ W m ρ' L2, ⟨m0, S, ρ, L, Step.refl A.ok, A.es, h0⟩, ?_⟩
  rintro m σ2 H2 ⟨S2, ρ2, L2, t2, es2, w2⟩
  refine (hs m ρ2 L2 w2).run S2 σ2 H2 ((A.next t2).env es2) _ fun k L3 S3 H3 ⟨h1, h2⟩ t3 => ?_
  have t23 := t2.trans t3
  cases k with
  | true =>
    refine iteT ⟨fun σ' H' => ∃ m', m' < m ∧ ∃ S' ρ' L2, Step S H L S' H' L2 ∧ Es S' σ' ρ' ∧ W m' ρ' L2, fun _ _ n => n, ?_⟩
    exact (h1 rfl).run S3 σ2 H3 ((A.next t23).env (es2.mono t3.sub)) _ ⟨fun ρ' L' S' H' σ' ⟨m', hm, k⟩ t es => ⟨m', hm, S', ρ', L', t23.trans t, es, k⟩, fun r L' S' H' v k t ii => l.rt r L' S' H' v k (t23.trans t) ii, fun ρ' L' S' H' σ' k t es => l.nx ρ' L' S' H' σ' k (t23.trans t) es, fun ρ' L' S' H' σ' ⟨m', hm, k⟩ t es => ⟨m', hm, S', ρ', L', t23.trans t, es, k⟩⟩
  | false => exact iteF (l.nx ρ2 L3 S3 H3 σ2 (h2 rfl) t23 (es2.mono t3.sub))⟩
end
end Cw

set_option Elab.async false
set_option linter.all false
set_option maxRecDepth 100000
set_option maxHeartbeats 2000000
/-! Cw, part E: comprehensions; lists that change; stores; more iterators; errors. -/
namespace Cw
open PySem PySem.Spec PyProof.Rows L2

/-! ### comprehensions -/
abbrev yB (Y : Cm) (s : Shared) (H : Hp) (scope : Scope) (cl : List (Str × Addr)) (C : Addr) (fp : List Addr) : Cm :=
  ⟨Y.X.blk s H scope (compEnvC scope cl C Y.X.env) fp, fun _ _ _ _ => False, fun _ _ _ => False, takes0, PassesOwn.never⟩
def wipeR (ρ : Rho) (vs : List Nat) : Rho := vs.foldr (fun v ρ => ρ.set v none) ρ
def wTs (X : Cx) (ifs : List Expr) : TT := fun σ H Q => ∀ pins s, Inv X pins σ H s →
  wpAny (model X.prog X.w) X.A (forIn ifs true fun c r => if r = true then do let ok ← isTrue c X.env (eval c X.env); pure (ForInStep.yield ok) else pure (ForInStep.yield r)) (TP X pins σ Q) X.xe s
structure MTs (Y : Cm) (ifs : List Expr) (ρ : Rho) (L : Led) (K : Bool → Led → Prop) : Prop where
  run : ∀ S σ H, At Y ρ L S σ H → ∀ Q : Bool → Hp → Prop, (∀ b L' S' H', K b L' → Step S H L S' H' L' → Q b H') → wTs Y.X ifs σ H Q
theorem mts_nil {Y : Cm} {ρ : Rho} {L : Led} {K : Bool → Led → Prop} (h : K true L) : MTs Y [] ρ L K := ⟨fun S σ H A Q q pins s I => pts_nil.run pins s σ H Q I (q true L S H h (Step.refl A.ok))⟩
theorem mts_one {Y : Cm} {c : Expr} {ρ : Rho} {L : Led} {K : Bool → Led → Prop} (h : MT Y c ρ L K) : MTs Y [c] ρ L K := ⟨fun S σ H A Q q pins s I => (pts_one wT.pt).run pins s σ H Q I (h.run S σ H A Q q)⟩
section
variable {Y : Cm} {ρ : Rho} {L La : Led} {elt tg iter : Expr} {ifs : List Expr} {scope : Scope} {own : List (Str × Nat)} {pos : Pos} {ys : List Yd} {P : Led → Prop} {tgt : Tg} {K : Rv → Led → Prop}
/-- the readings that serve at every block -/
def uT (Y : Cm) (scope : Scope) (ifs : List Expr) : TT := fun σ H Q => ∀ s H0 C cl fp, wTs (Y.X.blk s H0 scope (compEnvC scope cl C Y.X.env) fp) ifs σ H Q
def uE (Y : Cm) (scope : Scope) (elt : Expr) : TE := fun σ H Q => ∀ s H0 C cl fp, wE (Y.X.blk s H0 scope (compEnvC scope cl C Y.X.env) fp) elt σ H Q
theorem lc_read {S : Hp} {σ : Slots} {H : Hp} {Q : VK} (A : At Y ρ L S σ H) (hi : IX Y tg iter ρ L ys P La) (hsl : tgt.slots = own.map (·.2)) (hz : ys.length ≤ sizeLine)
    (I : Nat → List Rv → Led → Prop) (h0 : I 0 [] La) (hP : ∀ (i : Nat) acc L, i ≤ ys.length → I i acc L → P L)
    (hs : ∀ (i : Nat) y acc L, ys[i]? = some y → I i acc L → ∃ ρ', setT tgt y (wipeR ρ (own.map (·.2))) = some ρ' ∧ ∃ Kt : Bool → Led → Prop, (∀ s H C cl fp, MTs (yB Y s H scope cl C fp) ifs ρ' L Kt) ∧ ∀ b L2, Kt b L2 → (b = true → ∀ s H C cl fp, ME (yB Y s H scope cl C fp) elt ρ' L2 fun r L3 => I (i + 1) (acc ++ [r]) L3) ∧ (b = false → I (i + 1) acc L2))
    (hd : ∀ acc L, I ys.length acc L → ∀ D, L D = none → (∃ ds, acc = ds.map Rv.dt ∧ K (.dt (.list ds)) L) ∨ K (.vl (.ref D)) (updL L D (.lst acc)))
    (q : ∀ r L' S' H' v, K r L' → Step S H L S' H' L' → r.is S' v → Q v H') : tLc (wI Y.X tg iter) (gTg Y.X.K tgt) (uT Y scope ifs) (uE Y scope elt) (own.map (·.2)) σ H Q := by
  refine hi.run S σ H A _ fun ys' P' L1 S1 H1 J ⟨e1, e2, e3⟩ t1 yl => ?_
  subst e1 e2 e3
  intro D hD
  have sD : S1 D = none := t1.ok.sub.none hD
  have lD : L1 D = none := t1.ok.free hD
  -- what holds between two turns
  refine ⟨fun i m H' => m = ys'.length - i ∧ i ≤ ys'.length ∧ ∃ S' L2 acc vs, Step S1 H1 L1 S' H' L2 ∧ H' D = some (.lst vs) ∧ S' D = none ∧ L2 D = none ∧ Rvs S' acc vs ∧ acc.length ≤ i ∧ I i acc L2,
    ⟨_, rfl, Nat.zero_le _, S1, L1, [], [], Step.dust t1.ok hD, upd_same, sD, lD, .nil, Nat.le_refl _, h0⟩, ?_⟩
  rintro i m H2 ⟨rfl, hle, S2, L2, acc, vs, t2, d2, s2, l2, rv, hacc, inv⟩
  have p2 := hP i acc L2 hle inv
  -- all of it behind the entry
  have tE : Step S H L S2 H2 L2 := t1.trans t2
  have hD0 : L D = none → H D = none := fun n => by
    cases z : H D with
    | none => rfl
    | some o =>
      have := t1.fr D o z n
      rw [hD] at this
      cases this
  by_cases hlt : i < ys'.length
  · refine .inr ⟨yl.go i S2 H2 L2 t2.sub t2.ok p2 hlt, fun H' => ∃ S' L2 acc vs, Step S1 H1 L1 S' H' L2 ∧ H' D = some (.lst vs) ∧ S' D = none ∧ L2 D = none ∧ Rvs S' acc vs ∧ acc.length ≤ i + 1 ∧ I (i + 1) acc L2, fun H' n => ⟨_, by omega, rfl, hlt, n⟩, fun u H3 hy => ?_⟩
    obtain ⟨y, ey⟩ : ∃ y, ys'[i]? = some y := ⟨_, List.getElem?_eq_getElem hlt⟩
    obtain ⟨t3, iy⟩ := yl.yld i S2 H2 L2 u H3 y t2.sub t2.ok p2 ey hy
    obtain ⟨ρ3, e3, Kt, hb, hk⟩ := hs i y acc L2 ey inv
    have es2 : Es S2 (wipe σ (own.map (·.2))) (wipeR ρ (own.map (·.2))) := (A.es.mono tE.sub).wipe _
    refine gTg_ok t3.ok.sub iy e3 es2 fun σ4 es4 bt => ⟨?_, ?_⟩
    · rw [hsl] at bt
      exact But.wipeL bt
    · intro s0 H0 C cl fp
      have keep : ∀ {S5 H5 L5}, Step S2 H3 L2 S5 H5 L5 → H5 D = some (.lst vs) ∧ S5 D = none ∧ L5 D = none := fun {S5 H5 L5} t5 => by
        have d3 := t3.fr D _ d2 l2
        refine ⟨t5.fr D _ d3 l2, ?_, ?_⟩
        · cases z : S5 D with
          | none => rfl
          | some o =>
            have := t5.ns D o z s2 l2
            rw [d3] at this
            cases this
        · cases z : L5 D with
          | none => rfl
          | some m =>
            have := t5.nw D m z l2
            rw [d3] at this
            cases this
      refine (hb s0 H0 C cl fp).run S2 σ4 H3 ⟨t3.ok, es4, fun _ _ _ _ _ _ z => z.elim⟩ _ fun b L5 S5 H5 kt t5 => ?_
      obtain ⟨k1, k2⟩ := hk b L5 kt
      obtain ⟨d5, s5, l5⟩ := keep t5
      have t25 := (t2.trans t3).trans t5
      cases b with
      | false => exact iteF ⟨S5, L5, acc, vs, t25, d5, s5, l5, rv.mono (t3.sub.trans t5.sub), by omega, k2 rfl⟩
      | true =>
        refine iteT fun s0' H0' C' cl' fp' => ?_
        refine (k1 rfl s0' H0' C' cl' fp').run S5 σ4 H5 ⟨t5.ok, es4.mono t5.sub, fun _ _ _ _ _ _ z => z.elim⟩ _ fun r L6 S6 H6 v k6 t6 i6 => ?_
        obtain ⟨d6, s6, l6⟩ := keep (t5.trans t6)
        have rl := Rvs.len rv
        refine ⟨vs, d6, by omega, S6, L6, acc ++ [r], vs ++ [v], ?_, upd_same, s6, l6, papp (rv.mono ((t3.sub.trans t5.sub).trans t6.sub)) (.cons i6 .nil), by rw [List.length_append, List.length_singleton]; omega, k6⟩
        have t26 := t25.trans t6
        refine ⟨t26.sub, ⟨t26.ok.sub.mut s6, fun a m e => ?_⟩, fun a o e n => ?_, t26.nw, t26.ns⟩
        · obtain ⟨h1, o, h2, h3⟩ := t26.ok.led a m e
          have ne : a ≠ D := fun z => by rw [z, l6] at e; cases e
          exact ⟨h1, o, by rw [upd_ne ne]; exact h2, h3⟩
        · rw [upd_ne (ne_of_none e hD)]
          exact t26.fr a o e n
  · have e : i = ys'.length := by omega
    subst e
    refine .inl ⟨yl.stop _ S2 H2 L2 t2.sub t2.ok p2 rfl, ?_⟩
    rcases hd acc L2 inv D l2 with ⟨ds, rfl, k⟩ | k
    · have sn : Sub S2 (upd S2 D (.lst vs)) := Sub.new s2
      refine q _ L2 (upd S2 D (.lst vs)) H2 _ k ⟨tE.sub.trans sn, ⟨fun b u eb => ?_, fun a m ea => ?_⟩, tE.fr, tE.nw, fun a o ea n nl => ?_⟩ (.lst upd_same ((Rvs.data rv).mono sn))
      · by_cases hb : b = D
        · subst hb
          rw [upd_same] at eb
          cases eb
          exact d2
        · rw [upd_ne hb] at eb
          exact t2.ok.sub b u eb
      · obtain ⟨h1, o, h2, h3⟩ := t2.ok.led a m ea
        have ne : a ≠ D := fun z => by rw [z, l2] at ea; cases ea
        exact ⟨by rw [upd_ne ne]; exact h1, o, h2, h3.mono sn⟩
      · by_cases ha : a = D
        · subst ha
          exact hD0 nl
        · rw [upd_ne ha] at ea
          exact tE.ns a o ea n nl
    · refine q _ _ S2 H2 _ k ⟨tE.sub, ⟨t2.ok.sub, fun a m ea => ?_⟩, tE.fr, fun a m ea n => ?_, tE.ns⟩ rfl
      · by_cases ha : a = D
        · subst ha
          rw [updL_same] at ea
          cases ea
          exact ⟨s2, _, d2, vs, rfl, rv⟩
        · rw [updL_ne ha] at ea
          exact t2.ok.led a m ea
      · by_cases ha : a = D
        · subst ha
          exact hD0 n
        · rw [updL_ne ha] at ea
          exact tE.nw a m ea n
/-- [elt for tg in iter if ..] as a value -/
theorem me_lc (hc : Y.X.calm = true) (hN : Y.X.N.Nodup) (hi : IX Y tg iter ρ L ys P La) (ok : BlkOk Y.X.N Y.X.env.scope scope own) (hsl : tgt.slots = own.map (·.2)) (hg : ∀ s H C cl fp, PG (Y.X.blk s H scope (compEnvC scope cl C Y.X.env) fp) tg (gTg Y.X.K tgt)) (hz : ys.length ≤ sizeLine)
    (I : Nat → List Rv → Led → Prop) (h0 : I 0 [] La) (hP : ∀ (i : Nat) acc L, i ≤ ys.length → I i acc L → P L)
    (hs : ∀ (i : Nat) y acc L, ys[i]? = some y → I i acc L → ∃ ρ', setT tgt y (wipeR ρ (own.map (·.2))) = some ρ' ∧ ∃ Kt : Bool → Led → Prop, (∀ s H C cl fp, MTs (yB Y s H scope cl C fp) ifs ρ' L Kt) ∧ ∀ b L2, Kt b L2 → (b = true → ∀ s H C cl fp, ME (yB Y s H scope cl C fp) elt ρ' L2 fun r L3 => I (i + 1) (acc ++ [r]) L3) ∧ (b = false → I (i + 1) acc L2))
    (hd : ∀ acc L, I ys.length acc L → ∀ D, L D = none → (∃ ds, acc = ds.map Rv.dt ∧ K (.dt (.list ds)) L) ∨ K (.vl (.ref D)) (updL L D (.lst acc)))
    (hf : ∀ x, foldedSetIterable iter Y.X.env x = pure x := by intro _; rfl) : ME Y (.ListComp elt [⟨tg, iter, ifs, 0⟩] scope pos) ρ L K := ⟨fun S σ H A Q q =>
  wE.of (pe_lc (tt := uT Y scope ifs) (te := uE Y scope elt) hc hN wI.pi ok hg (fun s H C cl fp => ⟨fun pins s' σ H' Q I h => h s H C cl fp pins s' I⟩) (fun s H C cl fp => ⟨fun pins s' σ H' Q I h => h s H C cl fp pins s' I⟩) hf) (lc_read A hi hsl hz I h0 hP hs hd q)⟩
/-- y = [..] -/
theorem ms_setlc {N : Rho → Led → Prop} {D : Nd} {i : Nat} {y : Str} {py spos : Pos} (hc : Y.X.calm = true) (hN : Y.X.N.Nodup) (hy : Y.X.N[i]? = some y) (hyl : Y.X.env.scope.names.lookup y = some .local) (hsw : swapsWith (.ListComp elt [⟨tg, iter, ifs, 0⟩] scope pos) (some (.Name y py)) spos.line Y.X.env = pure true)
    (hi : IX Y tg iter ρ L ys P La) (ok : BlkOk Y.X.N Y.X.env.scope scope own) (hsl : tgt.slots = own.map (·.2)) (hg : ∀ s H C cl fp, PG (Y.X.blk s H scope (compEnvC scope cl C Y.X.env) fp) tg (gTg Y.X.K tgt)) (hz : ys.length ≤ sizeLine)
    (I : Nat → List Rv → Led → Prop) (h0 : I 0 [] La) (hP : ∀ (i : Nat) acc L, i ≤ ys.length → I i acc L → P L)
    (hs : ∀ (i : Nat) y acc L, ys[i]? = some y → I i acc L → ∃ ρ', setT tgt y (wipeR ρ (own.map (·.2))) = some ρ' ∧ ∃ Kt : Bool → Led → Prop, (∀ s H C cl fp, MTs (yB Y s H scope cl C fp) ifs ρ' L Kt) ∧ ∀ b L2, Kt b L2 → (b = true → ∀ s H C cl fp, ME (yB Y s H scope cl C fp) elt ρ' L2 fun r L3 => I (i + 1) (acc ++ [r]) L3) ∧ (b = false → I (i + 1) acc L2))
    (hd : ∀ acc L, I ys.length acc L → ∀ D', L D' = none → (∃ ds, acc = ds.map Rv.dt ∧ N (ρ.set i (some (.dt (.list ds)))) L) ∨ N (ρ.set i (some (.vl (.ref D')))) (updL L D' (.lst acc)))
    (hf : ∀ x, foldedSetIterable iter Y.X.env x = pure x := by intro _; rfl) : MS Y (.Assign [.Name y py] (.ListComp elt [⟨tg, iter, ifs, 0⟩] scope pos) spos) N D ρ L := ⟨fun S σ H A De l =>
  wS.of (ps_setLc (tt := uT Y scope ifs) (te := uE Y scope elt) hc hN hy hyl hsw wI.pi ok hg (fun s H C cl fp => ⟨fun pins s' σ H' Q I h => h s H C cl fp pins s' I⟩) (fun s H C cl fp => ⟨fun pins s' σ H' Q I h => h s H C cl fp pins s' I⟩) hf)
    (lc_read (K := fun r L' => N (ρ.set i (some r)) L') A hi hsl hz I h0 hP hs hd fun r L' S' H' v k t ii => l.nx _ L' S' H' _ k t ((A.es.mono t.sub).set ii))⟩
end
end Cw

set_option Elab.async false
set_option linter.all false
set_option maxRecDepth 100000
set_option maxHeartbeats 2000000
/-! Cw, part F: pure comprehensions; lists that change; stores; more iterators; errors. -/
namespace Cw
open PySem PySem.Spec PyProof.Rows L2

section
variable {Y : Cm} {ρ : Rho} {L La Lb Lc : Led} {elt tg iter c : Expr} {ifs : List Expr} {scope : Scope} {own : List (Str × Nat)} {pos : Pos} {ys : List Yd} {P : Led → Prop} {tgt : Tg}
theorem take_snoc {α : Type} {l : List α} {i : Nat} {x : α} (h : l[i]? = some x) : l.take (i + 1) = l.take i ++ [x] := by
  rw [List.take_add_one, h]
  rfl
/-- [elt for tg in iter], elt without effect -/
theorem me_lcp {K : Rv → Led → Prop} (g : Yd → PyData) (hc : Y.X.calm = true) (hN : Y.X.N.Nodup) (hi : IX Y tg iter ρ L ys P La) (hP : P La) (ok : BlkOk Y.X.N Y.X.env.scope scope own) (hsl : tgt.slots = own.map (·.2)) (hg : ∀ s H C cl fp, PG (Y.X.blk s H scope (compEnvC scope cl C Y.X.env) fp) tg (gTg Y.X.K tgt)) (hz : ys.length ≤ sizeLine)
    (hs : ∀ (i : Nat) y, ys[i]? = some y → ∃ ρ', setT tgt y (wipeR ρ (own.map (·.2))) = some ρ' ∧ ∀ s H C cl fp, EX (yB Y s H scope cl C fp) elt ρ' La (.dt (g y)) La) (k : K (.dt (.list (ys.map g))) La)
    (hf : ∀ x, foldedSetIterable iter Y.X.env x = pure x := by intro _; rfl) : ME Y (.ListComp elt [⟨tg, iter, [], 0⟩] scope pos) ρ L K :=
  me_lc hc hN hi ok hsl hg hz (fun i acc L => acc = ((ys.take i).map g).map Rv.dt ∧ L = La) ⟨rfl, rfl⟩ (fun i acc L _ ⟨_, e⟩ => by rw [e]; exact hP) (fun i y acc L ey ⟨e1, e2⟩ => by
    obtain ⟨ρ', e, h⟩ := hs i y ey
    subst e2
    refine ⟨ρ', e, fun b L' => b = true ∧ L' = L, fun s H C cl fp => mts_nil ⟨rfl, rfl⟩, fun b L2 ⟨eb, eL⟩ => ⟨fun _ s H C cl fp => ?_, fun z => by rw [eb] at z; cases z⟩⟩
    subst eL
    refine EX.to (h s H C cl fp) ⟨?_, rfl⟩
    rw [e1, take_snoc ey, List.map_append, List.map_append]
    rfl) (fun acc L ⟨e1, e2⟩ D _ => .inl ⟨ys.map g, by rw [e1, List.take_length], by rw [e2]; exact k⟩) hf
theorem ex_lcp (g : Yd → PyData) (hc : Y.X.calm = true) (hN : Y.X.N.Nodup) (hi : IX Y tg iter ρ L ys P La) (hP : P La) (ok : BlkOk Y.X.N Y.X.env.scope scope own) (hsl : tgt.slots = own.map (·.2)) (hg : ∀ s H C cl fp, PG (Y.X.blk s H scope (compEnvC scope cl C Y.X.env) fp) tg (gTg Y.X.K tgt)) (hz : ys.length ≤ sizeLine)
    (hs : ∀ (i : Nat) y, ys[i]? = some y → ∃ ρ', setT tgt y (wipeR ρ (own.map (·.2))) = some ρ' ∧ ∀ s H C cl fp, EX (yB Y s H scope cl C fp) elt ρ' La (.dt (g y)) La)
    (hf : ∀ x, foldedSetIterable iter Y.X.env x = pure x := by intro _; rfl) : EX Y (.ListComp elt [⟨tg, iter, [], 0⟩] scope pos) ρ L (.dt (.list (ys.map g))) La := me_lcp g hc hN hi hP ok hsl hg hz hs ⟨rfl, rfl⟩ hf
theorem ms_setlcp {N : Rho → Led → Prop} {D : Nd} {i : Nat} {y : Str} {py spos : Pos} (g : Yd → PyData) (hc : Y.X.calm = true) (hN : Y.X.N.Nodup) (hy : Y.X.N[i]? = some y) (hyl : Y.X.env.scope.names.lookup y = some .local) (hsw : swapsWith (.ListComp elt [⟨tg, iter, [], 0⟩] scope pos) (some (.Name y py)) spos.line Y.X.env = pure true)
    (hi : IX Y tg iter ρ L ys P La) (hP : P La) (ok : BlkOk Y.X.N Y.X.env.scope scope own) (hsl : tgt.slots = own.map (·.2)) (hg : ∀ s H C cl fp, PG (Y.X.blk s H scope (compEnvC scope cl C Y.X.env) fp) tg (gTg Y.X.K tgt)) (hz : ys.length ≤ sizeLine)
    (hs : ∀ (i : Nat) y, ys[i]? = some y → ∃ ρ', setT tgt y (wipeR ρ (own.map (·.2))) = some ρ' ∧ ∀ s H C cl fp, EX (yB Y s H scope cl C fp) elt ρ' La (.dt (g y)) La) (k : N (ρ.set i (some (.dt (.list (ys.map g))))) La)
    (hf : ∀ x, foldedSetIterable iter Y.X.env x = pure x := by intro _; rfl) : MS Y (.Assign [.Name y py] (.ListComp elt [⟨tg, iter, [], 0⟩] scope pos) spos) N D ρ L :=
  ms_setlc hc hN hy hyl hsw hi ok hsl hg hz (fun i acc L => acc = ((ys.take i).map g).map Rv.dt ∧ L = La) ⟨rfl, rfl⟩ (fun i acc L _ ⟨_, e⟩ => by rw [e]; exact hP) (fun i y acc L ey ⟨e1, e2⟩ => by
    obtain ⟨ρ', e, h⟩ := hs i y ey
    subst e2
    refine ⟨ρ', e, fun b L' => b = true ∧ L' = L, fun s H C cl fp => mts_nil ⟨rfl, rfl⟩, fun b L2 ⟨eb, eL⟩ => ⟨fun _ s H C cl fp => ?_, fun z => by rw [eb] at z; cases z⟩⟩
    subst eL
    refine EX.to (h s H C cl fp) ⟨?_, rfl⟩
    rw [e1, take_snoc ey, List.map_append, List.map_append]
    rfl) (fun acc L ⟨e1, e2⟩ D _ => .inl ⟨ys.map g, by rw [e1, List.take_length], by rw [e2]; exact k⟩) hf
/-- [elt for tg in iter if c], both without effect -/
theorem me_lcf {K : Rv → Led → Prop} (g : Yd → PyData) (t : Yd → Bool) (hc : Y.X.calm = true) (hN : Y.X.N.Nodup) (hi : IX Y tg iter ρ L ys P La) (hP : P La) (ok : BlkOk Y.X.N Y.X.env.scope scope own) (hsl : tgt.slots = own.map (·.2)) (hg : ∀ s H C cl fp, PG (Y.X.blk s H scope (compEnvC scope cl C Y.X.env) fp) tg (gTg Y.X.K tgt)) (hz : ys.length ≤ sizeLine)
    (hs : ∀ (i : Nat) y, ys[i]? = some y → ∃ ρ', setT tgt y (wipeR ρ (own.map (·.2))) = some ρ' ∧ (∀ s H C cl fp, TX (yB Y s H scope cl C fp) c ρ' La (t y) La) ∧ (t y = true → ∀ s H C cl fp, EX (yB Y s H scope cl C fp) elt ρ' La (.dt (g y)) La)) (k : K (.dt (.list ((ys.filter t).map g))) La)
    (hf : ∀ x, foldedSetIterable iter Y.X.env x = pure x := by intro _; rfl) : ME Y (.ListComp elt [⟨tg, iter, [c], 0⟩] scope pos) ρ L K :=
  me_lc hc hN hi ok hsl hg hz (fun i acc L => acc = (((ys.take i).filter t).map g).map Rv.dt ∧ L = La) ⟨rfl, rfl⟩ (fun i acc L _ ⟨_, e⟩ => by rw [e]; exact hP) (fun i y acc L ey ⟨e1, e2⟩ => by
    obtain ⟨ρ', e, h1, h2⟩ := hs i y ey
    subst e2
    refine ⟨ρ', e, fun b L' => b = t y ∧ L' = L, fun s H C cl fp => mts_one (h1 s H C cl fp), fun b L2 ⟨eb, eL⟩ => ⟨fun z s H C cl fp => ?_, fun z => ?_⟩⟩
    · subst eL
      rw [z] at eb
      refine EX.to (h2 eb.symm s H C cl fp) ⟨?_, rfl⟩
      rw [e1, take_snoc ey, List.filter_append, List.map_append, List.map_append, List.filter_cons, ← eb]
      rfl
    · rw [z] at eb
      refine ⟨?_, eL⟩
      rw [e1, take_snoc ey, List.filter_append, List.map_append, List.map_append, List.filter_cons, ← eb]
      simp) (fun acc L ⟨e1, e2⟩ D _ => .inl ⟨(ys.filter t).map g, by rw [e1, List.take_length], by rw [e2]; exact k⟩) hf
theorem ms_setlcf {N : Rho → Led → Prop} {D : Nd} {i : Nat} {y : Str} {py spos : Pos} (g : Yd → PyData) (t : Yd → Bool) (hc : Y.X.calm = true) (hN : Y.X.N.Nodup) (hy : Y.X.N[i]? = some y) (hyl : Y.X.env.scope.names.lookup y = some .local) (hsw : swapsWith (.ListComp elt [⟨tg, iter, [c], 0⟩] scope pos) (some (.Name y py)) spos.line Y.X.env = pure true)
    (hi : IX Y tg iter ρ L ys P La) (hP : P La) (ok : BlkOk Y.X.N Y.X.env.scope scope own) (hsl : tgt.slots = own.map (·.2)) (hg : ∀ s H C cl fp, PG (Y.X.blk s H scope (compEnvC scope cl C Y.X.env) fp) tg (gTg Y.X.K tgt)) (hz : ys.length ≤ sizeLine)
    (hs : ∀ (i : Nat) y, ys[i]? = some y → ∃ ρ', setT tgt y (wipeR ρ (own.map (·.2))) = some ρ' ∧ (∀ s H C cl fp, TX (yB Y s H scope cl C fp) c ρ' La (t y) La) ∧ (t y = true → ∀ s H C cl fp, EX (yB Y s H scope cl C fp) elt ρ' La (.dt (g y)) La)) (k : N (ρ.set i (some (.dt (.list ((ys.filter t).map g))))) La)
    (hf : ∀ x, foldedSetIterable iter Y.X.env x = pure x := by intro _; rfl) : MS Y (.Assign [.Name y py] (.ListComp elt [⟨tg, iter, [c], 0⟩] scope pos) spos) N D ρ L :=
  ms_setlc hc hN hy hyl hsw hi ok hsl hg hz (fun i acc L => acc = (((ys.take i).filter t).map g).map Rv.dt ∧ L = La) ⟨rfl, rfl⟩ (fun i acc L _ ⟨_, e⟩ => by rw [e]; exact hP) (fun i y acc L ey ⟨e1, e2⟩ => by
    obtain ⟨ρ', e, h1, h2⟩ := hs i y ey
    subst e2
    refine ⟨ρ', e, fun b L' => b = t y ∧ L' = L, fun s H C cl fp => mts_one (h1 s H C cl fp), fun b L2 ⟨eb, eL⟩ => ⟨fun z s H C cl fp => ?_, fun z => ?_⟩⟩
    · subst eL
      rw [z] at eb
      refine EX.to (h2 eb.symm s H C cl fp) ⟨?_, rfl⟩
      rw [e1, take_snoc ey, List.filter_append, List.map_append, List.map_append, List.filter_cons, ← eb]
      rfl
    · rw [z] at eb
      refine ⟨?_, eL⟩
      rw [e1, take_snoc ey, List.filter_append, List.map_append, List.map_append, List.filter_cons, ← eb]
      simp) (fun acc L ⟨e1, e2⟩ D _ => .inl ⟨(ys.filter t).map g, by rw [e1, List.take_length], by rw [e2]; exact k⟩) hf
end

/-! ### methods of a list of the ledger -/
section
variable {Y : Cm} {ρ : Rho} {L La Lb Lc : Led} {r ra rb rc : Rv} {e a b c o : Expr} {es : List Expr} {pos apos p : Pos} {X : Cx} {N : Rho → Led → Prop} {D : Nd}
theorem Ok.lstAt {S H : Hp} {q : Addr} {rs : List Rv} (k : Ok S H L) (h : L q = some (.lst rs)) : ∃ xs, H q = some (.lst xs) ∧ Rvs S rs xs := by
  obtain ⟨_, o, e, xs, rfl, i⟩ := k.led q _ h
  exact ⟨xs, e, i⟩
/-- o.append(e) -/
theorem me_append {K : Rv → Led → Prop} {q : Addr} {rs0 : List Rv} (ho : EX Y o ρ L (.vl (.ref q)) La) (h0 : La q = some (.lst rs0)) (he : ME Y e ρ La fun r Lb => ∃ rs, Lb q = some (.lst rs) ∧ rs.length < sizeLine ∧ K (.dt .none) (updL Lb q (.lst (rs ++ [r]))))
    (hbase : attributeBase o "append" Y.X.env (eval o Y.X.env) = eval o Y.X.env := by rfl)
    (hfew : ((backTo pos (starEach (e :: []) Y.X.env)).all (fun x => !x.1) && (backToKw pos (keywordEach [] Y.X.env)).all (fun x => x.1.isSome) && decide ((e :: []).length + ([] : List Keyword).length + (if ([] : List Keyword).isEmpty then 0 else 1) < 30)) = true := by rfl)
    (hline : (apos.endLine == pos.line) = true := by rfl) (hs : starEach (e :: []) Y.X.env = (false, eval e Y.X.env) :: starEach [] Y.X.env := by rfl) (hplain : (backTo pos (starEach [] Y.X.env)).any (·.1) = false := by rfl) :
    ME Y (.Call (.Attribute o "append" apos) [e] [] pos) ρ L K := ⟨fun S σ H A Q qq => by
  refine wE.of (pe_bm PySem.F.plainAttrs_list PySem.F.slot_list_append PySem.F.type_list_append mt_append wE.pe (pa_cons wE.pe pa_nil hs) hbase hfew hline hs hplain) (ho.run S σ H A _ fun r1 L1' S1 H1 x ⟨e1, e2⟩ t1 i1 => ?_)
  subst e1 e2
  have ex : x = .ref q := i1
  subst ex
  obtain ⟨xs0, e0, _⟩ := t1.ok.lstAt h0
  refine ⟨.inl ⟨rfl, _, SqL.of e0⟩, he.run S1 σ H1 (A.next t1) _ fun r Lb S2 H2 v ⟨rs, h2, hz, k⟩ t2 i2 => ?_⟩
  obtain ⟨xs, e3, rv⟩ := t2.ok.lstAt h2
  refine ⟨q, xs, v, rfl, rfl, e3, by rw [← Rvs.len rv]; exact hz, qq _ _ S2 _ _ k ((t1.trans t2).trans (Step.write t2.ok h2 ⟨_, rfl, papp rv (.cons i2 .nil)⟩)) .non⟩⟩
theorem ex_append {q : Addr} {rs rs0 : List Rv} (ho : EX Y o ρ L (.vl (.ref q)) La) (h0 : La q = some (.lst rs0)) (he : EX Y e ρ La r Lb) (h2 : Lb q = some (.lst rs)) (hz : rs.length < sizeLine)
    (hbase : attributeBase o "append" Y.X.env (eval o Y.X.env) = eval o Y.X.env := by rfl)
    (hfew : ((backTo pos (starEach (e :: []) Y.X.env)).all (fun x => !x.1) && (backToKw pos (keywordEach [] Y.X.env)).all (fun x => x.1.isSome) && decide ((e :: []).length + ([] : List Keyword).length + (if ([] : List Keyword).isEmpty then 0 else 1) < 30)) = true := by rfl)
    (hline : (apos.endLine == pos.line) = true := by rfl) (hs : starEach (e :: []) Y.X.env = (false, eval e Y.X.env) :: starEach [] Y.X.env := by rfl) (hplain : (backTo pos (starEach [] Y.X.env)).any (·.1) = false := by rfl) :
    EX Y (.Call (.Attribute o "append" apos) [e] [] pos) ρ L (.dt .none) (updL Lb q (.lst (rs ++ [r]))) := me_append ho h0 (EX.to he ⟨rs, h2, hz, rfl, rfl⟩) hbase hfew hline hs hplain
/-- o.extend(e) -/
theorem ex_extend {q : Addr} {rs : List Rv} {ds : List Rv} (ho : EX Y o ρ L (.vl (.ref q)) La) (he : EX Y e ρ La r Lb) (h0 : La q = some (.lst rs)) (h2 : Lb q = some (.lst rs)) (hd : LR Lb r ds) (hz : rs.length + ds.length ≤ sizeLine)
    (hbase : attributeBase o "extend" Y.X.env (eval o Y.X.env) = eval o Y.X.env := by rfl)
    (hfew : ((backTo pos (starEach (e :: []) Y.X.env)).all (fun x => !x.1) && (backToKw pos (keywordEach [] Y.X.env)).all (fun x => x.1.isSome) && decide ((e :: []).length + ([] : List Keyword).length + (if ([] : List Keyword).isEmpty then 0 else 1) < 30)) = true := by rfl)
    (hline : (apos.endLine == pos.line) = true := by rfl) (hs : starEach (e :: []) Y.X.env = (false, eval e Y.X.env) :: starEach [] Y.X.env := by rfl) (hplain : (backTo pos (starEach [] Y.X.env)).any (·.1) = false := by rfl) :
    EX Y (.Call (.Attribute o "extend" apos) [e] [] pos) ρ L (.dt .none) (updL Lb q (.lst (rs ++ ds))) := ⟨fun S σ H A Q qq => by
  refine wE.of (pe_bm PySem.F.plainAttrs_list PySem.F.slot_list_extend PySem.F.type_list_extend mt_extend wE.pe (pa_cons wE.pe pa_nil hs) hbase hfew hline hs hplain) (ho.run S σ H A _ fun r1 L1' S1 H1 x ⟨e1, e2⟩ t1 i1 => ?_)
  subst e1 e2
  have ex : x = .ref q := i1
  subst ex
  obtain ⟨xs0, e0, _⟩ := t1.ok.lstAt h0
  refine ⟨.inl ⟨rfl, _, SqL.of e0⟩, he.run S1 σ H1 (A.next t1) _ fun r' Lb' S2 H2 v ⟨e1, e2⟩ t2 i2 => ?_⟩
  subst e1 e2
  obtain ⟨xs, e3, rv⟩ := t2.ok.lstAt h2
  obtain ⟨b, zs, rfl, e4, rz⟩ := LR.at_ hd t2.ok i2
  refine ⟨q, b, xs, zs, rfl, rfl, e3, e4, by rw [← Rvs.len rv, ← Rvs.len rz]; exact hz, qq _ _ S2 _ _ ⟨rfl, rfl⟩ ((t1.trans t2).trans (Step.write t2.ok h2 ⟨_, rfl, papp rv rz⟩)) .non⟩⟩
/-- o.insert(i, e) -/
theorem ex_insert {q : Addr} {rs : List Rv} {i : Int} (ho : EX Y o ρ L (.vl (.ref q)) La) (h0 : La q = some (.lst rs)) (ha : AX Y [a, e] ρ La [.dt (.int i), r] Lb) (h2 : Lb q = some (.lst rs)) (hz : rs.length < sizeLine) (i0 : 0 ≤ i) (i1 : i < 2 ^ 63)
    (hbase : attributeBase o "insert" Y.X.env (eval o Y.X.env) = eval o Y.X.env := by rfl)
    (hfew : ((backTo pos (starEach (a :: [e]) Y.X.env)).all (fun x => !x.1) && (backToKw pos (keywordEach [] Y.X.env)).all (fun x => x.1.isSome) && decide ((a :: [e]).length + ([] : List Keyword).length + (if ([] : List Keyword).isEmpty then 0 else 1) < 30)) = true := by rfl)
    (hline : (apos.endLine == pos.line) = true := by rfl) (hs : starEach (a :: [e]) Y.X.env = (false, eval a Y.X.env) :: starEach [e] Y.X.env := by rfl) (hplain : (backTo pos (starEach [e] Y.X.env)).any (·.1) = false := by rfl) :
    EX Y (.Call (.Attribute o "insert" apos) [a, e] [] pos) ρ L (.dt .none) (updL Lb q (.lst (rs.take i.toNat ++ [r] ++ rs.drop i.toNat))) := ⟨fun S σ H A Q qq => by
  refine wE.of (pe_bm PySem.F.plainAttrs_list PySem.F.slot_list_insert (by rfl) mt_insert wE.pe wA.pa hbase hfew hline hs hplain) (ho.run S σ H A _ fun r1 L1' S1 H1 x ⟨e1, e2⟩ t1 ii1 => ?_)
  subst e1 e2
  have ex : x = .ref q := ii1
  subst ex
  obtain ⟨xs0, e0, _⟩ := t1.ok.lstAt h0
  refine ⟨.inl ⟨rfl, _, SqL.of e0⟩, ha.run S1 σ H1 (A.next t1) _ fun r' Lb' S2 H2 vs ⟨e1, e2⟩ t2 i2 => ?_⟩
  subst e1 e2
  obtain ⟨u, v, rfl, iu, iv⟩ := rvs2 i2
  obtain ⟨xs, e3, rv⟩ := t2.ok.lstAt h2
  refine ⟨q, xs, i, v, rfl, by rw [Da.intAt iu], e3, by rw [← Rvs.len rv]; exact hz, i0, i1, qq _ _ S2 _ _ ⟨rfl, rfl⟩ ((t1.trans t2).trans (Step.write t2.ok h2 ⟨_, rfl, papp (papp (ptake _ rv) (.cons iv .nil)) (pdrop _ rv)⟩)) .non⟩⟩

/-! ### stores -/
/-- o[i] = e -/
theorem ms_setix {q : Addr} {rs : List Rv} {i : Int} {j : Nat} {tpos : Pos} (he : EX Y e ρ L r La) (ho : EX Y o ρ La (.vl (.ref q)) Lb) (hi : EX Y a ρ Lb (.dt (.int i)) Lc) (h : Lc q = some (.lst rs)) (hj : ixN rs.length i = some j) (k : N ρ (updL Lc q (.lst (rs.set j r))))
    (ha : ∀ v, assign (.Subscript o a tpos) Y.X.env v = (do
      let ov ← holding [v] (eval o Y.X.env)
      let iv ← holding [v, ov] (eval a Y.X.env)
      standAt tpos
      holding [v, ov, iv] (setItem ov iv v)
      release [v, ov, iv] []) := by intro _; rfl)
    (hs : swapsWithSole [.Subscript o a tpos] e pos.line Y.X.env = pure false := by rfl) (hw : swappedStores [.Subscript o a tpos] e Y.X.env = pure none := by rfl) (h1 : (assignEach [.Subscript o a tpos] Y.X.env).map (·.2) = [assign (.Subscript o a tpos) Y.X.env] := by rfl) :
    MS Y (.Assign [.Subscript o a tpos] e pos) N D ρ L := ⟨fun S σ H A De l => by
  refine wS.of (ps_asg wE.pe (pg_sub wE.pe wE.pe set_list ha) hs hw h1) (he.run S σ H A _ fun r1 L1 S1 H1 v ⟨e1, e2⟩ t1 i1 => ?_)
  subst e1 e2
  refine ho.run S1 σ H1 (A.next t1) _ fun r2 L2 S2 H2 x ⟨e1, e2⟩ t2 i2 => ?_
  subst e1 e2
  refine hi.run S2 σ H2 (A.next (t1.trans t2)) _ fun r3 L3 S3 H3 y ⟨e1, e2⟩ t3 i3 => ?_
  subst e1 e2
  have ex : x = .ref q := i2
  obtain ⟨xs, e3, rv⟩ := t3.ok.lstAt h
  refine ⟨q, xs, i, j, ex, Da.intAt i3, e3, by rw [← Rvs.len rv]; exact hj, ?_⟩
  have t4 := Step.write t3.ok h (m := .lst (rs.set j r1)) ⟨_, rfl, pset (i1.mono (t2.sub.trans t3.sub)) j rv⟩
  exact l.nx ρ _ S3 _ σ k (((t1.trans t2).trans t3).trans t4) (A.es.mono ((t1.trans t2).trans t3).sub)⟩
theorem pget_list : PGet X (rIxL X.K) := by
  intro pins s σ H x y v u Q I rx ry h
  obtain ⟨p, xs, i, z, rfl, rfl, hq, he, q⟩ := h
  cases rx
  obtain ⟨t, rfl⟩ := ry
  obtain ⟨its, r, pl, hz⟩ := I.list hq
  obtain ⟨j, h1, h2, h3, h4, h5⟩ := atI_get he
  obtain ⟨w, ew, rw'⟩ := r.get h2
  have hl := r.length
  have hn := line63
  have fin : EP X pins σ Q w s := ⟨z, H, I, rw', q⟩
  by_cases h0 : 0 ≤ i
  · have hj : i.toNat = j := by
      rw [seqIndex_of h0 h5] at h1
      exact Option.some.inj h1
    exact wpAny_getItem_list pl.isList h0 (by omega) (by rw [hj]; simpa using ew) fin
  · have hj : (i + (its.toArray.size : Int)).toNat = j := by
      rw [seqIndex_neg (by omega) h4] at h1
      rw [List.size_toArray, ← hl]
      exact Option.some.inj h1
    exact wpAny_getItem_list_neg pl.isList (by omega) (by rw [List.size_toArray] <;> omega) (by omega) (by rw [hj]; simpa using ew) fin
/-- o[i] op= e -/
theorem ms_augix {q : Addr} {rs : List Rv} {i : Int} {j : Nat} {op : Operator} {tpos : Pos} (ho : EX Y o ρ L (.vl (.ref q)) La) (hi : EX Y a ρ La (.dt (.int i)) Lb) (h : Lb q = some (.lst rs)) (hr : atI rs i = some ra) (he : EX Y e ρ Lb rb Lc) (hop : Op2 Y.X (inplaceOp op) ra rb Lc rc)
    (h' : Lc q = some (.lst rs)) (hj : ixN rs.length i = some j) (k : N ρ (updL Lc q (.lst (rs.set j rc))))
    (ha : ∀ ov iv new, augStore a ov iv new = (do holding [new, ov, iv] (setItem ov iv new); release [new, ov, iv] []; pure .next) := by intros; rfl) : MS Y (.AugAssign (.Subscript o a tpos) op e pos) N D ρ L := ⟨fun S σ H A De l => by
  obtain ⟨rr, hr1, hr2⟩ := hop
  refine wS.of (ps_augS (tip := fun x y H Q => rr x y H Q) wE.pe wE.pe pget_list wE.pe (fun pins s σ H x y v u Q I rx ry q => hr1 pins s σ H x y v u Q I rx ry q) set_list ha) (ho.run S σ H A _ fun r1 L1 S1 H1 x ⟨e1, e2⟩ t1 i1 => ?_)
  subst e1 e2
  refine hi.run S1 σ H1 (A.next t1) _ fun r2 L2 S2 H2 y ⟨e1, e2⟩ t2 i2 => ?_
  subst e1 e2
  have ex : x = .ref q := i1
  subst ex
  have ey := Da.intAt i2
  subst ey
  obtain ⟨xs, e3, rv⟩ := t2.ok.lstAt h
  obtain ⟨z, ez, iz⟩ := patI rv hr
  refine ⟨q, xs, i, z, rfl, rfl, SqL.of e3, ez, ?_⟩
  refine he.run S2 σ H2 (A.next (t1.trans t2)) _ fun r3 L3 S3 H3 w ⟨e1, e2⟩ t3 i3 => ?_
  subst e1 e2
  refine hr2 S3 H3 z w t3.ok (iz.mono t3.sub) i3 _ fun S4 H4 v t4 i4 => ?_
  obtain ⟨xs', e5, rv'⟩ := t4.ok.lstAt h'
  refine ⟨q, xs', i, j, rfl, rfl, e5, by rw [← Rvs.len rv']; exact hj, ?_⟩
  have t5 := Step.write t4.ok h' (m := .lst (rs.set j rc)) ⟨_, rfl, pset i4 j rv'⟩
  exact l.nx ρ _ S4 _ σ k ((((t1.trans t2).trans t3).trans t4).trans t5) (A.es.mono (((t1.trans t2).trans t3).trans t4).sub)⟩
def putR (f : Str) (v : Rv) : List (Str × Rv) → List (Str × Rv)
  | [] => [(f, v)]
  | (g, w) :: r => if g = f then (g, v) :: r else (g, w) :: putR f v r
theorem rf_put {S : Hp} {f : Str} {r : Rv} {v : V} (i : r.is S v) : ∀ {fs : List (Str × Rv)} {gs : List (Str × V)}, RF S fs gs → RF S (putR f r fs) (putF f v gs)
  | _, _, .nil => .cons ⟨rfl, i⟩ .nil
  | (g, w) :: fs, (g', w') :: gs, .cons ⟨e, i'⟩ t => by
    have e' : g = g' := e
    subst e'
    unfold putR putF
    by_cases h : g = f
    · rw [if_pos h, if_pos h]
      exact .cons ⟨rfl, i⟩ t
    · rw [if_neg h, if_neg h]
      exact .cons ⟨rfl, i'⟩ (rf_put i t)
/-- o.f = e -/
theorem ms_setfld {q C : Addr} {fs : List (Str × Rv)} {f : Str} {pos' : Pos} (he : EX Y e ρ L r La) (ho : EX Y o ρ La (.vl (.ref q)) Lb) (h : Lb q = some (.ins C fs)) (c : Cls Y.X.K C) (n : NoAttr Y.X.K C f) (hl : fs.length < 1000) (k : N ρ (updL Lb q (.ins C (putR f r fs))))
    (hs : swapsWith e (some (.Attribute o f pos')) pos.line Y.X.env = pure false := by rfl) : MS Y (.Assign [.Attribute o f pos'] e pos) N D ρ L := ⟨fun S σ H A De l => by
  refine wS.of (ps_fld wE.pe wE.pe hs) (he.run S σ H A _ fun r1 L1 S1 H1 v ⟨e1, e2⟩ t1 i1 => ?_)
  subst e1 e2
  refine ho.run S1 σ H1 (A.next t1) _ fun r2 L2 S2 H2 x ⟨e1, e2⟩ t2 i2 => ?_
  subst e1 e2
  obtain ⟨dx, gs, hg, rf⟩ := t2.ok.ins h
  refine ⟨q, C, dx, gs, i2, hg, c, n, by rw [← Paired.length rf]; exact hl, ?_⟩
  have t3 := Step.write t2.ok h (m := .ins C (putR f r1 fs)) (o := .ins C dx (putF f v gs)) ⟨_, _, rfl, rf_put (i1.mono t2.sub) rf⟩
  exact l.nx ρ _ S2 _ σ k ((t1.trans t2).trans t3) (A.es.mono (t1.trans t2).sub)⟩
/-- o.f op= e -/
theorem ms_augfld {q C : Addr} {fs : List (Str × Rv)} {f : Str} {op : Operator} {tpos : Pos} (ho : EX Y o ρ L (.vl (.ref q)) La) (h : La q = some (.ins C fs)) (c : Cls Y.X.K C) (n : NoAttr Y.X.K C f) (hf : fs.lookup f = some ra) (he : EX Y e ρ La rb Lb) (hop : Op2 Y.X (inplaceOp op) ra rb Lb rc) (h' : Lb q = some (.ins C fs)) (hl : fs.length < 1000)
    (k : N ρ (updL Lb q (.ins C (putR f rc fs)))) : MS Y (.AugAssign (.Attribute o f tpos) op e pos) N D ρ L := ⟨fun S σ H A De l => by
  obtain ⟨rr, hr1, hr2⟩ := hop
  refine wS.of (ps_fldaug (rd := fun x y H Q => rr x y H Q) wE.pe wE.pe (fun pins s σ H x y v u Q I rx ry q => hr1 pins s σ H x y v u Q I rx ry q)) (ho.run S σ H A _ fun r1 L1 S1 H1 x ⟨e1, e2⟩ t1 i1 => ?_)
  subst e1 e2
  obtain ⟨dx, gs, hg, rf⟩ := t1.ok.ins h
  obtain ⟨v, ev, iv⟩ := (rf_lookup rf).2 _ hf
  refine ⟨q, C, dx, gs, v, i1, hg, c, n, ev, he.run S1 σ H1 (A.next t1) _ fun r2 L2 S2 H2 y ⟨e1, e2⟩ t2 i2 => ?_⟩
  subst e1 e2
  refine hr2 S2 H2 v y t2.ok (iv.mono t2.sub) i2 _ fun S3 H3 z t3 i3 => ?_
  obtain ⟨dx', gs', hg', rf'⟩ := t3.ok.ins h'
  refine ⟨dx', gs', hg', by rw [← Paired.length rf']; exact hl, ?_⟩
  have t4 := Step.write t3.ok h' (m := .ins C (putR f rc fs)) (o := .ins C dx' (putF f z gs')) ⟨_, _, rfl, rf_put i3 rf'⟩
  exact l.nx ρ _ S3 _ σ k (((t1.trans t2).trans t3).trans t4) (A.es.mono ((t1.trans t2).trans t3).sub)⟩
end
end Cw

set_option Elab.async false
set_option linter.all false
set_option maxRecDepth 100000
set_option maxHeartbeats 2000000
/-! Cw, part G: the script; short forms; new lists that change; more iterators; errors. -/
namespace Cw
open PySem PySem.Spec PyProof.Rows L2

/-! ### the script -/
/-- the list at a is the ints ns, to be read -/
def Scr (K : PySem.W.Frag) (L : Led) (a : Addr) (ns : List Int) : Prop := (L a = some (.frz (ns.map fun i => .dt (.int i))) ∨ L a = some (.lst (ns.map fun i => .dt (.int i)))) ∨ ∀ H, SqL K H a (ns.map V.int)
theorem rvs_ints {S : Hp} : ∀ {ns : List Int} {xs : List V}, Rvs S (ns.map fun i => .dt (.int i)) xs → xs = ns.map V.int
  | [], _, .nil => rfl
  | n :: ns, _, .cons a t => by
    rw [rvs_ints t, Da.intAt a]
    rfl
theorem Scr.at_ {K : PySem.W.Frag} {S H : Hp} {L : Led} {a : Addr} {ns : List Int} (h : Scr K L a ns) (k : Ok S H L) : SqL K H a (ns.map V.int) := by
  rcases h with (h | h) | h
  · obtain ⟨_, o, e, ob, xs, rfl, i⟩ := k.led a _ h
    rw [rvs_ints i] at e
    exact .inl (.inr ⟨ob, e⟩)
  · obtain ⟨_, o, e, xs, rfl, i⟩ := k.led a _ h
    rw [rvs_ints i] at e
    exact .inl (.inl e)
  · exact h H
theorem Scr.mono {K : PySem.W.Frag} {L L' : Led} {a : Addr} {ns : List Int} (h : Scr K L a ns) (l : Le L L') : Scr K L' a ns := h.imp (fun h => h.imp (fun h => l _ _ h) fun h => l _ _ h) id
theorem Scr.upd {K : PySem.W.Frag} {L : Led} {a p : Addr} {m : MO} {ns : List Int} (h : Scr K L a ns) (hp : L p = none) : Scr K (updL L p m) a ns := h.mono fun b n e => by
  rw [updL_ne fun z => by rw [z, hp] at e; cases e]
  exact e
theorem da_ints {S : Hp} : ∀ {ns : List Int}, DaAll S (ns.map V.int) (ns.map PyData.int)
  | [] => .nil
  | n :: ns => .cons (.int n) da_ints
section
variable {X : Cx} {L : Led} {a : Addr} {ns : List Int}
theorem c_lenF (h : Scr X.K L a ns) : OpC X (.builtin "len") [.vl (.ref a)] L (.dt (.int ns.length)) := ⟨_, call_len_seq, fun S H xs k hx Q q => by
  obtain ⟨x, rfl, i⟩ := rvs1 hx
  cases (show x = .ref a from i)
  refine ⟨a, _, rfl, .inl (h.at_ k), ?_⟩
  rw [List.length_map]
  exact q S H _ (Step.refl k) (.int _)⟩
theorem i_lstF {i : Int} {z : Int} (h : Scr X.K L a ns) (e : atI ns i = some z) : OpIx X (.vl (.ref a)) (.dt (.int i)) L (.dt (.int z)) := ⟨_, ix_list, fun S H x y k hx hy Q q => by
  cases (show x = .ref a from hx)
  have e2 : atI (ns.map V.int) i = some (.int z) := by
    unfold atI at e ⊢
    rw [List.length_map]
    cases w : ixN ns.length i with
    | none => rw [w] at e; cases e
    | some j =>
      rw [w] at e
      have e' : ns[j]? = some z := e
      show (ns.map V.int)[j]? = _
      rw [List.getElem?_map, e']
      rfl
  exact ⟨a, _, i, _, rfl, Da.intAt hy, h.at_ k, e2, q S H _ (Step.refl k) (.int _)⟩⟩
theorem c_listF (h : Scr X.K L a ns) : OpC X (.type "list") [.vl (.ref a)] L (.dt (.list (ns.map PyData.int))) := ⟨_, call_list_of, fun S H xs k hx Q q => by
  obtain ⟨x, rfl, i⟩ := rvs1 hx
  cases (show x = .ref a from i)
  refine ⟨a, _, rfl, .inl (h.at_ k), fun n hn => ?_⟩
  exact q _ _ _ (Step.still k hn) (.lst upd_same da_ints)⟩
end

/-! ### short forms -/
section
variable {Y : Cm} {ρ : Rho} {L La Lb Lc : Led} {r ra rb rc : Rv} {e a b c o : Expr} {es : List Expr} {pos apos p : Pos} {sp : Fs} {k : Nat} {x m : Str} {ps : List Str} {N : Rho → Led → Prop} {D : Nd}
theorem ad_nil : AX Y [] ρ L (([] : List PyData).map Rv.dt) L := ax_nil
theorem ad_cons {d : PyData} {ds : List PyData} (h : EX Y e ρ L (.dt d) La) (t : AX Y es ρ La (ds.map Rv.dt) Lb) (hs : starEach (e :: es) Y.X.env = (false, eval e Y.X.env) :: starEach es Y.X.env := by rfl) : AX Y (e :: es) ρ L ((d :: ds).map Rv.dt) Lb := ax_cons h t hs
theorem ex_call {rs : List Rv} (G : FnM Y.X.prog Y.X.w Y.X.K Y.X.mg Y.X.base k x ps sp) (hr : Room k Y.X.A) (hg : Gl Y.X x) (ha : AX Y (e :: es) ρ L rs La) (h : sp rs La (fun r' L' => r' = rc ∧ L' = Lc) noX) (hdb : (x == ("__debug__" : Str)) = false := by decide)
    (he : starEach (e :: es) Y.X.env = (false, eval e Y.X.env) :: starEach es Y.X.env := by rfl) (hpl : (backTo pos (starEach es Y.X.env)).any (·.1) = false := by rfl) : EX Y (.Call (.Name x p) (e :: es) [] pos) ρ L rc Lc := me_call G hr hg (MA.imp ha fun _ _ ⟨e1, e2⟩ => by
  subst e1 e2
  exact h) hdb he hpl
theorem ex_call0 (G : FnM Y.X.prog Y.X.w Y.X.K Y.X.mg Y.X.base k x ps sp) (hr : Room k Y.X.A) (hg : Gl Y.X x) (h : sp [] L (fun r' L' => r' = rc ∧ L' = Lc) noX) (hdb : (x == ("__debug__" : Str)) = false := by decide) : EX Y (.Call (.Name x p) [] [] pos) ρ L rc Lc := me_call0 G hr hg h hdb
theorem ex_meth {rs : List Rv} {pl : Sem Bool} {q C : Addr} {fs : List (Str × Rv)} (ho : EX Y a ρ L (.vl (.ref q)) La) (hq : La q = some (.ins C fs)) (hn : fs.lookup m = none) (c : Cls Y.X.K C) (G : MtM Y.X.prog Y.X.w Y.X.K Y.X.mg Y.X.base k C m ps sp) (hr : Room k Y.X.A)
    (ha : AX Y (e :: es) ρ La rs Lb) (h : sp (.vl (.ref q) :: rs) Lb (fun r' L' => r' = rc ∧ L' = Lc) noX)
    (hst : starEach (e :: es) Y.X.env = (false, eval e Y.X.env) :: starEach es Y.X.env := by rfl) (hpl : (backTo pos (starEach es Y.X.env)).any (·.1) = false := by rfl)
    (ht : eval (.Call (.Attribute a m apos) (e :: es) [] pos) Y.X.env = (do
      let ov ← eval a Y.X.env
      standAt apos.atName
      let (f, first) ← holding [ov] (getMethod ov m pl)
      callWith pos f first (backTo pos (starEach (e :: es) Y.X.env)) (backToKw pos (keywordEach [] Y.X.env))) := by rfl) : EX Y (.Call (.Attribute a m apos) (e :: es) [] pos) ρ L rc Lc := me_meth (pl := pl) ho hq hn c G hr (MA.imp ha fun _ _ ⟨e1, e2⟩ => by
  subst e1 e2
  exact h) hst hpl ht
theorem ex_meth0 {pl : Sem Bool} {q C : Addr} {fs : List (Str × Rv)} (ho : EX Y a ρ L (.vl (.ref q)) La) (hq : La q = some (.ins C fs)) (hn : fs.lookup m = none) (c : Cls Y.X.K C) (G : MtM Y.X.prog Y.X.w Y.X.K Y.X.mg Y.X.base k C m ps sp) (hr : Room k Y.X.A)
    (h : sp [.vl (.ref q)] La (fun r' L' => r' = rc ∧ L' = Lc) noX)
    (ht : eval (.Call (.Attribute a m apos) [] [] pos) Y.X.env = (do
      let ov ← eval a Y.X.env
      standAt apos.atName
      let (f, first) ← holding [ov] (getMethod ov m pl)
      callWith pos f first (backTo pos (starEach [] Y.X.env)) (backToKw pos (keywordEach [] Y.X.env))) := by rfl) : EX Y (.Call (.Attribute a m apos) [] [] pos) ρ L rc Lc := me_meth0 (pl := pl) ho hq hn c G hr h ht

/-! ### what the heap itself bounds -/
theorem MSs.len {sts : List Stmt} {rs : List Rv} (i : Nat) (hi : ρ[i]? = some (some r)) (h : LR L r rs) (k : rs.length ≤ sizeLine → MSs Y sts N D ρ L) : MSs Y sts N D ρ L := ⟨fun S σ H A De l pins s I => by
  obtain ⟨v, _, iv⟩ := A.es.at_ i r hi
  obtain ⟨a, xs, _, e, rv⟩ := LR.at_ h A.ok iv
  obtain ⟨z, _⟩ := (show ObjOk Y.X.prog Y.X.w H s.heap a (.lst xs) from I.hok a _ e)
  exact (k (by rw [Rvs.len rv]; exact z)).run S σ H A De l pins s I⟩
theorem MSs.lenT {sts : List Stmt} {ds : List PyData} (i : Nat) (hi : ρ[i]? = some (some (.dt (.tuple ds)))) (k : ds.length ≤ sizeLine → MSs Y sts N D ρ L) : MSs Y sts N D ρ L := ⟨fun S σ H A De l pins s I => by
  obtain ⟨v, _, iv⟩ := A.es.at_ i _ hi
  obtain ⟨a, xs, _, _, e, rv⟩ := Da.tupAt A.ok iv
  obtain ⟨z, _⟩ := (show ObjOk Y.X.prog Y.X.w H s.heap a (.tup xs) from I.hok a _ e)
  exact (k (by rw [← rv.len]; exact z)).run S σ H A De l pins s I⟩

/-! ### new lists that change -/
theorem me_lst0 {K : Rv → Led → Prop} (h : ∀ p, L p = none → K (.vl (.ref p)) (updL L p (.lst []))) : ME Y (.List [] pos) ρ L K := me_lst (MA.imp ax_nil fun rs L' ⟨e1, e2⟩ => by
  subst e1 e2
  exact ⟨Nat.zero_le _, h⟩)
theorem me_lstH {K : Rv → Led → Prop} {rs : List Rv} (ha : AX Y es ρ L rs La) (hz : rs.length ≤ sizeLine) (h : ∀ p, La p = none → K (.vl (.ref p)) (updL La p (.lst rs))) : ME Y (.List es pos) ρ L K := me_lst (MA.imp ha fun rs L' ⟨e1, e2⟩ => by
  subst e1 e2
  exact ⟨hz, h⟩)
/-- list(x), to be changed -/
theorem me_listH {K : Rv → Led → Prop} {rs : List Rv} (ha : EX Y e ρ L r La) (hr : LR La r rs) (h : ∀ q, La q = none → K (.vl (.ref q)) (updL La q (.lst rs))) (hg : Gl Y.X "list") (hm : Y.X.mg "list" = none) (hv : bootBuiltins "list" = some (.type "list"))
    (he : starEach (e :: []) Y.X.env = (false, eval e Y.X.env) :: starEach [] Y.X.env := by rfl) (hpl : (backTo pos (starEach [] Y.X.env)).any (·.1) = false := by rfl) : ME Y (.Call (.Name "list" p) [e] [] pos) ρ L K := ⟨fun S σ H A Q q => by
  refine wE.of (pe_callTy call_list_of hg hm hv (pa_cons wE.pe pa_nil he) (by decide) (by decide) he hpl) (ha.run S σ H A _ fun r1 L1' S1 H1 x ⟨e1, e2⟩ t1 i1 => ?_)
  subst e1 e2
  obtain ⟨b, ys, rfl, e1, rv⟩ := LR.at_ hr t1.ok i1
  exact ⟨b, ys, rfl, .inl (SqL.of e1), fun n hn => q _ _ S1 _ _ (h n (t1.ok.free hn)) (t1.trans (Step.new t1.ok hn ⟨_, rfl, rv⟩)) rfl⟩⟩
/-- xs[lo:hi], to be changed -/
theorem me_sliceH {K : Rv → Led → Prop} {rs : List Rv} {elo ehi : Option Expr} {lo hi : Option Int} {p2 : Pos} (ha : EX Y a ρ L r La) (hl : PX Y elo ρ La lo Lb) (hh : PX Y ehi ρ Lb hi Lc) (hr : LR Lc r rs) (h : ∀ q, Lc q = none → K (.vl (.ref q)) (updL Lc q (.lst (cut rs lo hi)))) :
    ME Y (.Subscript a (.Slice elo ehi none p2) pos) ρ L K := ⟨fun S σ H A Q q => by
  refine wE.of (pe_slice sl_list wE.pe wP.po wP.po) (ha.run S σ H A _ fun r1 L1' S1 H1 x ⟨e1, e2⟩ t1 i1 => ?_)
  subst e1 e2
  refine hl.run S1 σ H1 (A.next t1) _ fun S2 H2 t2 => ?_
  refine hh.run S2 σ H2 (A.next (t1.trans t2)) _ fun S3 H3 t3 => ?_
  obtain ⟨b, ys, rfl, e1, rv⟩ := LR.at_ hr t3.ok (i1.mono (t2.sub.trans t3.sub))
  exact ⟨b, ys, rfl, SqL.of e1, fun n hn => q _ _ S3 _ _ (h n (t3.ok.free hn)) (((t1.trans t2).trans t3).trans (Step.new t3.ok hn ⟨_, rfl, pcut rv⟩)) rfl⟩⟩
/-- xs + ys, to be changed -/
theorem me_catH {K : Rv → Led → Prop} {rs ss : List Rv} (ha : EX Y a ρ L ra La) (hb : EX Y b ρ La rb Lb) (h1 : LR Lb ra rs) (h2 : LR Lb rb ss) (hz : rs.length + ss.length ≤ sizeLine) (h : ∀ q, Lb q = none → K (.vl (.ref q)) (updL Lb q (.lst (rs ++ ss)))) : ME Y (.BinOp a .Add b pos) ρ L K := ⟨fun S σ H A Q q => by
  refine wE.of (pe_op op_cat wE.pe wE.pe) (ha.run S σ H A _ fun r1 L1' S1 H1 x ⟨e1, e2⟩ t1 i1 => ?_)
  subst e1 e2
  refine hb.run S1 σ H1 (A.next t1) _ fun r2 L2' S2 H2 y ⟨e1, e2⟩ t2 i2 => ?_
  subst e1 e2
  obtain ⟨b1, ys, rfl, e1, rv⟩ := LR.at_ h1 t2.ok (i1.mono t2.sub)
  obtain ⟨b2, zs, rfl, e2, rw'⟩ := LR.at_ h2 t2.ok i2
  exact ⟨b1, b2, ys, zs, rfl, rfl, e1, e2, by rw [← Rvs.len rv, ← Rvs.len rw']; exact hz, fun n hn => q _ _ S2 _ _ (h n (t2.ok.free hn)) ((t1.trans t2).trans (Step.new t2.ok hn ⟨_, rfl, papp rv rw'⟩)) rfl⟩⟩

/-! ### more that is walked -/
theorem ix_str {tg : Expr} {z : Str} (h : EX Y e ρ L (.dt (.str z)) La) : IX Y tg e ρ L (z.cps.toList.map fun c => .r (.dt (.str ⟨#[c]⟩))) anyL La := ⟨fun S σ H A R q => wI.of (pi_str wE.pe) (h.run S σ H A _ fun r L' S1 H1 v ⟨e1, e2⟩ t i => by
  subst e1 e2
  refine ⟨z, Da.strAt i, q _ _ _ S1 H1 _ ⟨rfl, rfl, rfl⟩ t ⟨fun i S' H L s k _ hl => ?_, fun i S' H L s k _ hl => ?_, fun i S' H L u H' y s k _ hy ⟨e1, c, hc, e2⟩ => ?_⟩⟩
  · rw [List.length_map, Array.length_toList] at hl
    exact hl
  · rw [List.length_map, Array.length_toList] at hl
    exact Nat.le_of_eq hl.symm
  · subst e1 e2
    refine ⟨Step.refl k, ?_⟩
    rw [List.getElem?_map, Array.getElem?_toList, hc] at hy
    cases hy
    exact .str _)⟩
def rgC (lo c : Int) (n : Nat) : List Yd := (List.range n).map fun i => .r (.dt (.int (lo + (i : Nat) * c)))
theorem rgC_len {lo c : Int} {n : Nat} : (rgC lo c n).length = n := by unfold rgC; rw [List.length_map, List.length_range]
theorem rgC_at {lo c : Int} {n i : Nat} {y : Yd} (h : (rgC lo c n)[i]? = some y) : i < n ∧ y = .r (.dt (.int (lo + (i : Nat) * c))) := by
  unfold rgC at h
  rw [List.getElem?_map] at h
  by_cases hi : i < n
  · rw [List.getElem?_range hi] at h
    exact ⟨hi, (Option.some.inj h).symm⟩
  · rw [List.getElem?_eq_none (by rw [List.length_range]; omega)] at h
    cases h
/-- range(i, j, -1) and the like -/
theorem ix_range3 {tg : Expr} {i j s : Int} {n : Nat} (h : AX Y [a, b, c] ρ L [.dt (.int i), .dt (.int j), .dt (.int s)] La) (hb : RgC i j s n) (hg : Gl Y.X "range") (hm : Y.X.mg "range" = none)
    (hs : starEach [a, b, c] Y.X.env = (false, eval a Y.X.env) :: starEach [b, c] Y.X.env := by rfl) (hpl : (backTo pos (starEach [b, c] Y.X.env)).any (·.1) = false := by rfl) : IX Y tg (.Call (.Name "range" p) [a, b, c] [] pos) ρ L (rgC i s n) anyL La := ⟨fun S σ H A R q => wI.of (pi_range3 hg hm wA.pa hs hpl) (h.run S σ H A _ fun rs L' S1 H1 vs ⟨e1, e2⟩ t ii => by
  subst e1 e2
  cases ii with
  | cons i1 ii =>
    obtain ⟨y, z, rfl, i2, i3⟩ := rvs2 ii
    refine ⟨i, j, s, n, by rw [Da.intAt i1, Da.intAt i2, Da.intAt i3], hb, q _ _ _ S1 H1 _ ⟨rfl, rfl, rfl⟩ t ⟨fun i S' H L s k _ hl => by rw [rgC_len] at hl; exact hl, fun i S' H L s k _ hl => by rw [rgC_len] at hl; exact Nat.le_of_eq hl.symm, fun i S' H L u H' y s k _ hy ⟨e1, e2⟩ => ?_⟩⟩
    subst e1 e2
    obtain ⟨_, rfl⟩ := rgC_at hy
    exact ⟨Step.refl k, .int _⟩)⟩
/-- the list that r is, wherever it stands -/
def LW (r : Rv) (rs : List Rv) (L : Led) : Prop := LR L r rs
theorem LR.sq {K : PySem.W.Frag} {S H : Hp} {L : Led} {r : Rv} {rs : List Rv} {x : V} (h : LR L r rs) (k : Ok S H L) (i : r.is S x) : ∃ a xs, x = .ref a ∧ SqL K H a xs ∧ H a = some (.lst xs) ∧ Rvs S rs xs := by
  obtain ⟨a, xs, e, e2, t⟩ := LR.at_ h k i
  exact ⟨a, xs, e, SqL.of e2, e2, t⟩
theorem sql_inj {K : PySem.W.Frag} {S H : Hp} {L : Led} {r : Rv} {rs : List Rv} {a : Addr} (h : LR L r rs) (k : Ok S H L) (i : r.is S (.ref a)) : ∃ xs, H a = some (.lst xs) ∧ Rvs S rs xs := by
  obtain ⟨a', xs, e, e2, t⟩ := LR.at_ h k i
  cases e
  exact ⟨xs, e2, t⟩
def enumY (rs : List Rv) : List Yd := rs.mapIdx fun i r => .t [.dt (.int (i : Nat)), r]
theorem ix_enum {elts : List Expr} {kk : Nat} {tpos : Pos} {rs : List Rv} (h : AX Y [e] ρ L [r] La) (hr : LR La r rs) (hg : Gl Y.X "enumerate") (hm : Y.X.mg "enumerate" = none) (hs : starEach [e] Y.X.env = [(false, eval e Y.X.env)] := by rfl) :
    IX Y (.Tuple elts kk tpos) (.Call (.Name "enumerate" p) [e] [] pos) ρ L (enumY rs) (LW r rs) La := ⟨fun S σ H A R q => wI.of (pi_enum hg hm wA.pa hs) (h.run S σ H A _ fun rr L' S1 H1 vs ⟨e1, e2⟩ t ii => by
  subst e1 e2
  obtain ⟨x, rfl, ix⟩ := rvs1 ii
  obtain ⟨b, xs, rfl, e1, rv⟩ := LR.at_ hr t.ok ix
  have isAt : ∀ {S' : Hp}, Sub S1 S' → r.is S' (.ref b) := fun s => ix.mono s
  have ln : (enumY rs).length = rs.length := by unfold enumY; rw [List.length_mapIdx]
  refine ⟨b, xs, rfl, SqL.of e1, q _ _ _ S1 H1 _ ⟨rfl, rfl, rfl⟩ t ⟨fun i S' H L s k hL hl => ?_, fun i S' H L s k hL hl => ?_, fun i S' H L u H' y s k hL hy ⟨T, z, e2, hT, e3, e4⟩ => ?_⟩⟩
  · obtain ⟨ys, e5, rv'⟩ := sql_inj (K := Y.X.K) hL k (isAt s)
    rw [ln] at hl
    obtain ⟨w, hw, _⟩ := pgetL rv' (List.getElem?_eq_getElem hl)
    exact ⟨ys, w, SqL.of e5, hw⟩
  · obtain ⟨ys, e5, rv'⟩ := sql_inj (K := Y.X.K) hL k (isAt s)
    rw [ln] at hl
    exact ⟨ys, SqL.of e5, by rw [← Rvs.len rv']; omega⟩
  · subst e2 e3
    obtain ⟨ys, e5, rv'⟩ := sql_inj (K := Y.X.K) hL k (isAt s)
    refine ⟨Step.dust k hT, ?_⟩
    unfold enumY at hy
    rw [List.getElem?_mapIdx] at hy
    cases hd : rs[i]? with
    | none => rw [hd] at hy; cases hy
    | some d =>
      rw [hd] at hy
      cases hy
      obtain ⟨w, hw, iw⟩ := pgetL rv' hd
      have ez := Option.some.inj ((e4 _ (SqL.of e5)).symm.trans hw)
      subst ez
      exact ⟨T, _, rfl, upd_same, .cons (.int _) (.cons iw .nil)⟩)⟩
def zipY (rs ss : List Rv) : List Yd := (rs.zip ss).map fun p => .t [p.1, p.2]
theorem ix_zip {elts : List Expr} {kk : Nat} {tpos : Pos} {rs ss : List Rv} (h : AX Y [a, b] ρ L [ra, rb] La) (h1 : LR La ra rs) (h2 : LR La rb ss) (hg : Gl Y.X "zip") (hm : Y.X.mg "zip" = none)
    (hs : starEach [a, b] Y.X.env = (false, eval a Y.X.env) :: starEach [b] Y.X.env := by rfl) (hpl : (backTo pos (starEach [b] Y.X.env)).any (·.1) = false := by rfl) :
    IX Y (.Tuple elts kk tpos) (.Call (.Name "zip" p) [a, b] [] pos) ρ L (zipY rs ss) (fun L => LR L ra rs ∧ LR L rb ss) La := ⟨fun S σ H A R q => wI.of (pi_zip hg hm wA.pa hs hpl) (h.run S σ H A _ fun rr L' S1 H1 vs ⟨e1, e2⟩ t ii => by
  subst e1 e2
  obtain ⟨x, y, rfl, ix, iy⟩ := rvs2 ii
  obtain ⟨b1, xs, rfl, e1, rv⟩ := LR.at_ h1 t.ok ix
  obtain ⟨b2, ys, rfl, e2, rw'⟩ := LR.at_ h2 t.ok iy
  have ln : (zipY rs ss).length = min rs.length ss.length := by unfold zipY; rw [List.length_map, List.length_zip]
  refine ⟨b1, b2, xs, ys, rfl, SqL.of e1, SqL.of e2, q _ _ _ S1 H1 _ ⟨rfl, rfl, rfl⟩ t ⟨fun i S' H L s k hL hl => ?_, fun i S' H L s k hL hl => ?_, fun i S' H L u H' y s k hL hy ⟨T, z, w, e3, hT, e4, e5, e6⟩ => ?_⟩⟩
  · obtain ⟨xs', f1, rv1⟩ := sql_inj (K := Y.X.K) hL.1 k (ix.mono s)
    obtain ⟨ys', f2, rv2⟩ := sql_inj (K := Y.X.K) hL.2 k (iy.mono s)
    rw [ln] at hl
    obtain ⟨w1, g1, _⟩ := pgetL rv1 (List.getElem?_eq_getElem (show i < rs.length by omega))
    obtain ⟨w2, g2, _⟩ := pgetL rv2 (List.getElem?_eq_getElem (show i < ss.length by omega))
    exact ⟨xs', ys', w1, w2, SqL.of f1, SqL.of f2, g1, g2⟩
  · obtain ⟨xs', f1, rv1⟩ := sql_inj (K := Y.X.K) hL.1 k (ix.mono s)
    obtain ⟨ys', f2, rv2⟩ := sql_inj (K := Y.X.K) hL.2 k (iy.mono s)
    rw [ln] at hl
    refine ⟨xs', ys', SqL.of f1, SqL.of f2, ?_⟩
    rw [← Rvs.len rv1, ← Rvs.len rv2]
    omega
  · subst e3 e4
    obtain ⟨xs', f1, rv1⟩ := sql_inj (K := Y.X.K) hL.1 k (ix.mono s)
    obtain ⟨ys', f2, rv2⟩ := sql_inj (K := Y.X.K) hL.2 k (iy.mono s)
    refine ⟨Step.dust k hT, ?_⟩
    unfold zipY at hy
    rw [List.getElem?_map] at hy
    cases hd : (rs.zip ss)[i]? with
    | none => rw [hd] at hy; cases hy
    | some d =>
      rw [hd] at hy
      cases hy
      obtain ⟨d1, d2⟩ := d
      obtain ⟨q1, q2⟩ := List.getElem?_zip_eq_some.mp hd
      obtain ⟨w1, g1, i1⟩ := pgetL rv1 q1
      obtain ⟨w2, g2, i2⟩ := pgetL rv2 q2
      have ez := Option.some.inj ((e5 _ (SqL.of f1)).symm.trans g1)
      have ew := Option.some.inj ((e6 _ (SqL.of f2)).symm.trans g2)
      subst ez ew
      exact ⟨T, _, rfl, upd_same, .cons i1 (.cons i2 .nil)⟩)⟩

/-! ### errors -/
/-- raise X('..') -/
theorem ms_raise {C : Addr} {bmB : List Value} {B newId initId : String} {x m : Str} {j : Nat} {p p2 pos pos2 : Pos} (F : ExcBaseFacts B newId initId bmB) (q : PySem.W.excIn Y.X.K C bmB newId = true) (gC : Y.X.mg x = some (.ref C)) (kC : PySem.W.keepIn Y.X.K (.ref C) = true) (r : Raises Y.X (.ref C)) (hg : Gl Y.X x)
    (hc : Y.X.calm = true) (h : Y.xc (.ref C) ρ L) (hdb : (x == ("__debug__" : Str)) = false := by decide) : MS Y (.Raise (some (.Call (.Name x p) [.Constant (.str m) j p2] [] pos)) none pos2) N D ρ L := ⟨fun S σ H A De l =>
  wS.of (ps_raise hc Y.tk (pmk_own F q gC kC r hg hdb)) (A.lx _ ρ L S H σ h (Step.refl A.ok) A.es)⟩
end
end Cw

set_option Elab.async false
set_option linter.all false
set_option maxRecDepth 100000
set_option maxHeartbeats 2000000
/-! Cw, part H: promises turned; more small rules. -/
namespace Cw
open PySem PySem.Spec PyProof.Rows L2

/-! ### cuts -/
section
variable {α : Type}
theorem cut_to (xs : List α) (k : Nat) : cut xs none (some (k : Int)) = xs.take k := by
  unfold cut
  rw [HT.sIx_nat, HT.sIx_none, List.drop_zero, Nat.sub_zero]
  rcases Nat.le_total k xs.length with h | h
  · rw [Nat.min_eq_left h]
  · rw [Nat.min_eq_right h, List.take_length, List.take_of_length_le h]
theorem cut_from (xs : List α) (k : Nat) : cut xs (some (k : Int)) none = xs.drop k := by
  unfold cut
  rw [HT.sIx_nat, HT.sIx_none]
  rcases Nat.le_total k xs.length with h | h
  · rw [Nat.min_eq_left h]
    exact List.take_of_length_le (by rw [List.length_drop]; omega)
  · rw [Nat.min_eq_right h, List.drop_length, List.drop_eq_nil_of_le h, List.take_nil]
theorem cut_all (xs : List α) : cut xs none none = xs := by
  unfold cut
  rw [HT.sIx_none, HT.sIx_none, List.drop_zero, Nat.sub_zero, List.take_length]
theorem cut_mid (xs : List α) (j k : Nat) : cut xs (some (j : Int)) (some (k : Int)) = (xs.take k).drop j := by
  unfold cut
  rw [HT.sIx_nat, HT.sIx_nat]
  apply List.ext_getElem?
  intro i
  simp only [List.getElem?_take, List.getElem?_drop]
  by_cases h : i < min k xs.length - min j xs.length
  · have e : min j xs.length = j := by omega
    rw [if_pos h, if_pos (by omega), e]
  · rw [if_neg h]
    by_cases h2 : j + i < k
    · rw [if_pos h2, List.getElem?_eq_none (by omega)]
    · rw [if_neg h2]
theorem cut_map {β : Type} (f : α → β) (xs : List α) (lo hi : Option Int) : cut (xs.map f) lo hi = (cut xs lo hi).map f := by
  unfold cut
  rw [List.length_map, List.map_take, List.map_drop]
/-- the last k -/
theorem cut_last (xs : List α) (k : Nat) (h : k ≤ xs.length) (hk : 0 < k) : cut xs (some (-(k : Int))) none = xs.drop (xs.length - k) := by
  unfold cut
  rw [HT.sIx_none]
  have e : HT.sIx xs.length 0 (some (-(k : Int))) = xs.length - k := by
    show (if -(k : Int) < 0 then (-(k : Int) + (xs.length : Int)).toNat else _) = _
    rw [if_pos (by omega)]
    omega
  rw [e]
  exact List.take_of_length_le (by rw [List.length_drop]; omega)
end

/-! ### promises -/
theorem lift_imp {sp sp' : Fs} (h : ∀ as L K X, sp' as L K X → sp as L K X) : ∀ vs H Q E, lift sp' vs H Q E → lift sp vs H Q E := fun vs H Q E ⟨S, L, as, K, XC, a, b, c, d⟩ => ⟨S, L, as, K, XC, a, b, h as L K XC c, d⟩
theorem FnM.imp {P : Program} {w : World} {K : PySem.W.Frag} {mg : Str → Option Value} {base : Heap} {k : Nat} {x : Str} {ps : List Str} {sp sp' : Fs} (G : FnM P w K mg base k x ps sp) (h : ∀ as L K X, sp' as L K X → sp as L K X) : FnM P w K mg base k x ps sp' := by
  obtain ⟨f, fd, a, b, c, d⟩ := G.ex
  exact ⟨f, fd, a, b, c, d.imp (lift_imp h)⟩
/-- a new list handed back, taken as data -/
def asData (sp : Fs) : Fs := fun as L Q X => sp as L (fun r L' => ∃ p ds L0, r = .vl (.ref p) ∧ L' = updL L0 p (.lst (ds.map Rv.dt)) ∧ L0 p = none ∧ Q (.dt (.list ds)) L0) X
theorem lift_data {sp : Fs} : ∀ vs H Q E, lift (asData sp) vs H Q E → lift sp vs H Q E := fun vs H Q E ⟨S, L, as, K, XC, a, b, c, d, e⟩ => ⟨S, L, as, _, XC, a, b, c, fun r L' S' H' v ⟨p, ds, L0, e1, e2, e3, k⟩ t i => by
  subst e1 e2
  obtain ⟨S2, t2, da⟩ := Step.settle t.ok (p := p) (ds := ds) updL_same
  have ev : v = .ref p := i
  subst ev
  exact d _ L0 S2 H' _ k ((t.trans t2).le fun x m hx => by
    have ne : x ≠ p := fun z => by rw [z, e3] at hx; cases hx
    unfold delL
    rw [if_neg ne, updL_ne ne]
    exact hx) da, e⟩
theorem FnM.data {P : Program} {w : World} {K : PySem.W.Frag} {mg : Str → Option Value} {base : Heap} {k : Nat} {x : Str} {ps : List Str} {sp : Fs} (G : FnM P w K mg base k x ps sp) : FnM P w K mg base k x ps (asData sp) := by
  obtain ⟨f, fd, a, b, c, d⟩ := G.ex
  exact ⟨f, fd, a, b, c, d.imp lift_data⟩
theorem MtM.data {P : Program} {w : World} {K : PySem.W.Frag} {mg : Str → Option Value} {base : Heap} {k : Nat} {C : Addr} {x : Str} {ps : List Str} {sp : Fs} (G : MtM P w K mg base k C x ps sp) : MtM P w K mg base k C x ps (asData sp) := by
  obtain ⟨f, fd, a, b, d⟩ := G.ex
  exact ⟨f, fd, a, b, d.imp lift_data⟩
theorem ne_led {L : Led} {a p : Addr} {m : MO} (h : L a = some m) (hp : L p = none) : a ≠ p := fun z => by
  rw [z, hp] at h
  cases h
theorem le_upd {L : Led} {p : Addr} {m : MO} (hp : L p = none) : Le L (updL L p m) := fun a m' h => by
  rw [updL_ne (ne_led h hp)]
  exact h
theorem le_updU {L L' : Led} {p : Addr} {m : MO} (h : Le L L') : Le (updL L p m) (updL L' p m) := fun a m' e => by
  by_cases ha : a = p
  · subst ha
    rw [updL_same] at e ⊢
    exact e
  · rw [updL_ne ha] at e ⊢
    exact h a m' e

section
variable {Y : Cm} {ρ : Rho} {L La Lb Lc : Led} {r ra rb rc : Rv} {e a b c o : Expr} {es : List Expr} {pos apos p : Pos} {X : Cx} {N : Rho → Led → Prop} {D : Nd}
theorem LR.upd {p : Addr} {m : MO} {rs : List Rv} (h : LR L r rs) (hp : L p = none) : LR (updL L p m) r rs := h.imp id fun ⟨q, e, h⟩ => ⟨q, e, by rw [updL_ne (ne_led h hp)]; exact h⟩
/-- a list, wherever it stands -/
theorem ix_lr {tg : Expr} {rs : List Rv} (h : EX Y e ρ L r La) (hr : LR La r rs) : IX Y tg e ρ L (rs.map Yd.r) (LW r rs) La := ⟨fun S σ H A R q => wI.of (pi_list wE.pe) (h.run S σ H A _ fun r' L' S1 H1 v ⟨e1, e2⟩ t ix => by
  subst e1 e2
  obtain ⟨b, xs, rfl, e1, rv⟩ := LR.at_ hr t.ok ix
  have isAt : ∀ {S' : Hp}, Sub S1 S' → r'.is S' (.ref b) := fun s => ix.mono s
  refine ⟨b, rfl, ⟨xs, SqL.of e1⟩, q _ _ _ S1 H1 _ ⟨rfl, rfl, rfl⟩ t ⟨fun i S' H L s k hL hl => ?_, fun i S' H L s k hL hl => ?_, fun i S' H L u H' y s k hL hy ⟨e2, e4⟩ => ?_⟩⟩
  · obtain ⟨ys, e5, rv'⟩ := sql_inj (K := Y.X.K) hL k (isAt s)
    rw [List.length_map] at hl
    obtain ⟨w, hw, _⟩ := pgetL rv' (List.getElem?_eq_getElem hl)
    exact ⟨ys, w, SqL.of e5, hw⟩
  · obtain ⟨ys, e5, rv'⟩ := sql_inj (K := Y.X.K) hL k (isAt s)
    rw [List.length_map] at hl
    exact ⟨ys, SqL.of e5, by rw [← Rvs.len rv']; omega⟩
  · subst e2
    obtain ⟨ys, e5, rv'⟩ := sql_inj (K := Y.X.K) hL k (isAt s)
    refine ⟨Step.refl k, ?_⟩
    rw [List.getElem?_map] at hy
    cases hd : rs[i]? with
    | none => rw [hd] at hy; cases hy
    | some d =>
      rw [hd] at hy
      cases hy
      obtain ⟨w, hw, iw⟩ := pgetL rv' hd
      have ez := Option.some.inj ((e4 _ (SqL.of e5)).symm.trans hw)
      subst ez
      exact iw)⟩
/-- o.f = e, e a new thing -/
theorem ms_setfldM {q C : Addr} {fs : List (Str × Rv)} {f : Str} {pos' : Pos} (he : ME Y e ρ L fun r La => EX Y o ρ La (.vl (.ref q)) La ∧ La q = some (.ins C fs) ∧ fs.length < 1000 ∧ N ρ (updL La q (.ins C (putR f r fs)))) (c : Cls Y.X.K C) (n : NoAttr Y.X.K C f)
    (hs : swapsWith e (some (.Attribute o f pos')) pos.line Y.X.env = pure false := by rfl) : MS Y (.Assign [.Attribute o f pos'] e pos) N D ρ L := ⟨fun S σ H A De l => by
  refine wS.of (ps_fld wE.pe wE.pe hs) (he.run S σ H A _ fun r1 L1 S1 H1 v ⟨ho, h, hl, k⟩ t1 i1 => ?_)
  refine ho.run S1 σ H1 (A.next t1) _ fun r2 L2 S2 H2 x ⟨e1, e2⟩ t2 i2 => ?_
  subst e1 e2
  obtain ⟨dx, gs, hg, rf⟩ := t2.ok.ins h
  refine ⟨q, C, dx, gs, i2, hg, c, n, by rw [← Paired.length rf]; exact hl, ?_⟩
  have t3 := Step.write t2.ok h (m := .ins C (putR f r1 fs)) (o := .ins C dx (putF f v gs)) ⟨_, _, rfl, rf_put (i1.mono t2.sub) rf⟩
  exact l.nx ρ _ S2 _ σ k ((t1.trans t2).trans t3) (A.es.mono (t1.trans t2).sub)⟩
/-- None == 3 -/
theorem o_eqNI {j : Int} : Op2 X (compareOp .Eq) (.dt .none) (.dt (.int j)) L (.dt (.bool false)) := ⟨_, op_eq, rm_eq fun S x y hx hy => by cases hx; cases hy; exact ⟨rfl, decide_eq_false (fun z => nomatch z)⟩⟩
/-- o.append(e), o a call -/
theorem me_append' {K : Rv → Led → Prop} (ho : ME Y o ρ L fun r La => ∃ q rs0, r = .vl (.ref q) ∧ La q = some (.lst rs0) ∧ ME Y e ρ La fun r2 Lb => ∃ rs, Lb q = some (.lst rs) ∧ rs.length < sizeLine ∧ K (.dt .none) (updL Lb q (.lst (rs ++ [r2]))))
    (hbase : attributeBase o "append" Y.X.env (eval o Y.X.env) = eval o Y.X.env := by rfl)
    (hfew : ((backTo pos (starEach (e :: []) Y.X.env)).all (fun x => !x.1) && (backToKw pos (keywordEach [] Y.X.env)).all (fun x => x.1.isSome) && decide ((e :: []).length + ([] : List Keyword).length + (if ([] : List Keyword).isEmpty then 0 else 1) < 30)) = true := by rfl)
    (hline : (apos.endLine == pos.line) = true := by rfl) (hs : starEach (e :: []) Y.X.env = (false, eval e Y.X.env) :: starEach [] Y.X.env := by rfl) (hplain : (backTo pos (starEach [] Y.X.env)).any (·.1) = false := by rfl) :
    ME Y (.Call (.Attribute o "append" apos) [e] [] pos) ρ L K := ⟨fun S σ H A Q qq => by
  refine wE.of (pe_bm PySem.F.plainAttrs_list PySem.F.slot_list_append PySem.F.type_list_append mt_append wE.pe (pa_cons wE.pe pa_nil hs) hbase hfew hline hs hplain) (ho.run S σ H A _ fun r1 L1 S1 H1 x ⟨q, rs0, e1, h0, he⟩ t1 i1 => ?_)
  subst e1
  have ex : x = .ref q := i1
  subst ex
  obtain ⟨xs0, e0, _⟩ := t1.ok.lstAt h0
  refine ⟨.inl ⟨rfl, _, SqL.of e0⟩, he.run S1 σ H1 (A.next t1) _ fun r Lb S2 H2 v ⟨rs, h2, hz, k⟩ t2 i2 => ?_⟩
  obtain ⟨xs, e3, rv⟩ := t2.ok.lstAt h2
  exact ⟨q, xs, v, rfl, rfl, e3, by rw [← Rvs.len rv]; exact hz, qq _ _ S2 _ _ k ((t1.trans t2).trans (Step.write t2.ok h2 ⟨_, rfl, papp rv (.cons i2 .nil)⟩)) .non⟩⟩
/-- a, b, .. = a list -/
theorem ms_unl {es : List Expr} {k : Nat} {tpos : Pos} {is : List Nat} (hc : Y.X.calm = true) (hg : PGs Y.X es (gNs is)) (h : ME Y e ρ L fun r L' => ∃ rs, LR L' r rs ∧ rs.length = is.length ∧ N (setAll is rs ρ) L')
    (hn : (assignEach es Y.X.env).length = is.length := by rfl) (hst : (assignEach es Y.X.env).findIdx? (·.1) = none := by rfl)
    (hs : swapsWithSole [.Tuple es k tpos] e pos.line Y.X.env = pure false := by rfl) (hw : swappedStores [.Tuple es k tpos] e Y.X.env = pure none := by rfl)
    (h1 : (assignEach [.Tuple es k tpos] Y.X.env).map (·.2) = [assign (.Tuple es k tpos) Y.X.env] := by rfl) : MS Y (.Assign [.Tuple es k tpos] e pos) N D ρ L := ⟨fun S σ H A De l => wS.of (ps_asg wE.pe (pg_lst hc hg hn hst) hs hw h1) (h.run S σ H A _ fun r L' S' H' v ⟨rs, lr, hl, k⟩ t i => by
  obtain ⟨a, xs, rfl, e1, rv⟩ := LR.at_ lr t.ok i
  exact ⟨a, xs, rfl, SqL.of e1, by rw [← Rvs.len rv]; exact hl, gNs_ok rv hl (A.es.mono t.sub) fun σ' es' _ => l.nx _ L' S' H' σ' k t es'⟩)⟩
end
end Cw

set_option Elab.async false
set_option linter.all false
set_option maxRecDepth 100000
set_option maxHeartbeats 2000000
/-! Cw, part I: the law's promise, from the script as the head gives it. -/
namespace Cw
open PySem PySem.Spec PyProof.Rows L2
def S0 : Hp := fun _ => none
theorem rvs_scr (S : Hp) : ∀ ns : List Int, Rvs S (ns.map fun i => .dt (.int i)) (ns.map V.int)
  | [] => .nil
  | n :: ns => .cons (.int n) (rvs_scr S ns)
theorem lift_law {sp : Fs} {K : PySem.W.Frag} {H : Hp} {a : Addr} {ns : List Int} (hO : Only H) (hS : SqL K H a (ns.map V.int))
    (h : ∀ L, Scr K L a ns → sp [.vl (.ref a)] L (fun r _ => r = .dt (.bool true)) noX) : lift sp [.ref a] H (fun v _ => v = .bl true) fun _ _ _ => False := by
  have hav : Rvs S0 [.vl (.ref a)] [.ref a] := .cons rfl .nil
  have fin : ∀ (r : Rv) (L' : Led) (S' H' : Hp) (v : V), r = .dt (.bool true) → Step S0 H (fun _ => none) S' H' L' → r.is S' v → v = .bl true := fun r L' S' H' v e _ i => by
    subst e
    exact Da.blAt i
  rcases hS with hS | hS
  · have hf : ∃ ob, H a = some (.frz ob (.lst (ns.map V.int))) := by
      rcases hS with h1 | ⟨ob, h1⟩
      · rcases hO a with h2 | ⟨o, xs, h2⟩
        · rw [h2] at h1; cases h1
        · rw [h2] at h1; cases h1
      · exact ⟨ob, h1⟩
    obtain ⟨ob, e⟩ := hf
    refine ⟨S0, fun b => if b = a then some (.frz (ns.map fun i => .dt (.int i))) else none, _, _, noX, ⟨fun b o z => (by cases z), fun b m z => ?_⟩, hav, h _ (.inl (.inl (if_pos rfl))), fun r L' S' H' v e t i => ?_, fun _ _ _ _ z => z.elim⟩
    · replace z : (if b = a then some (MO.frz (ns.map fun i => .dt (.int i))) else none) = some m := z
      split at z
      next hb =>
        cases z
        subst hb
        exact ⟨rfl, _, e, ob, _, rfl, rvs_scr _ ns⟩
      next => cases z
    · subst e
      exact Da.blAt i
  · refine ⟨S0, fun _ => none, _, _, noX, ⟨fun b o z => (by cases z), fun b m z => (by cases z)⟩, hav, h _ (.inr fun H => .inr hS), fun r L' S' H' v e t i => ?_, fun _ _ _ _ z => z.elim⟩
    subst e
    exact Da.blAt i
end Cw

set_option Elab.async false
set_option linter.all false
set_option maxRecDepth 100000
set_option maxHeartbeats 2000000
/-! Cw, part J: texts. -/
namespace Cw
open PySem PySem.Spec PyProof.Rows L2
section
variable {X : Cx} {Y : Cm} {ρ : Rho} {L La Lb : Led} {r ra rb : Rv} {o e : Expr} {pos apos : Pos}
/-- x not in (a, b) -/
theorem o_notIn2S {x a b : Str} : Op2 X (compareOp .NotIn) (.dt (.str x)) (.dt (.tuple [.str a, .str b])) L (.dt (.bool (!(decide (x = a) || decide (x = b))))) := ⟨_, op_notIn_seq, fun S H u v k hx hy Q q => by
  obtain ⟨p, xs, rfl, hs, e, rv⟩ := Da.tupAt k hy
  have hxs : xs = [.str a, .str b] := by
    cases rv with
    | cons a1 r1 =>
      cases r1 with
      | cons a2 r2 =>
        cases r2
        rw [Da.strAt a1, Da.strAt a2]
  subst hxs
  have hu := Da.strAt hx
  subst hu
  refine ⟨p, _, rfl, .inr (.inl (.inl e)), rfl, rfl, ?_⟩
  have ev : (!inV (V.str x) [V.str a, V.str b]) = (!(decide (x = a) || decide (x = b))) := by
    show (!((a == x) || ((b == x) || false))) = _
    have e0 : ∀ a : Str, (a == x) = decide (x = a) := fun a => by
      by_cases h : a = x
      · subst h
        rw [decide_eq_true rfl]
        exact beq_self_eq_true a
      · rw [decide_eq_false fun e => h e.symm]
        exact beq_eq_false_iff_ne.mpr h
    have e1 := e0 a
    have e2 := e0 b
    rw [e1, e2, Bool.or_false]
  show Q (V.bl (!inV (V.str x) [V.str a, V.str b])) H
  rw [ev]
  exact q S H _ (Step.refl k) (.bl _)⟩
/-- sep.join(l) -/
theorem ex_join {a : Str} {ys : List Str} (ho : EX Y o ρ L (.dt (.str a)) La) (he : EX Y e ρ La r Lb) (hr : LL Lb r (ys.map PyData.str)) (hz : (ys.map (·.length)).sum + ys.length * a.length ≤ 16777216)
    (hs : starEach [e] Y.X.env = [(false, eval e Y.X.env)] := by rfl) (hbase : attributeBase o "join" Y.X.env (eval o Y.X.env) = eval o Y.X.env := by rfl) (hline : (apos.endLine == pos.line) = true := by rfl) :
    EX Y (.Call (.Attribute o "join" apos) [e] [] pos) ρ L (.dt (.str (Txt.join a ys))) Lb := ⟨fun S σ H A Q qq => by
  refine wE.of (pe_join wE.pe wE.pe hs hbase hline) (ho.run S σ H A _ fun r1 L1' S1 H1 x ⟨e1, e2⟩ t1 i1 => ?_)
  subst e1 e2
  refine ⟨⟨a, Da.strAt i1⟩, he.run S1 σ H1 (A.next t1) _ fun r2 L2 S2 H2 v ⟨e3, e4⟩ t2 i2 => ?_⟩
  subst e3 e4
  obtain ⟨p, xs, rfl, e5, rv⟩ := LR.at_ hr t2.ok i2
  have hxs : xs = ys.map V.str := by
    clear hz e5 i2 hr he qq
    induction ys generalizing xs with
    | nil => cases rv; rfl
    | cons y ys ih =>
      cases rv with
      | cons a1 r1 =>
        rw [ih _ r1, Da.strAt a1]
        rfl
  subst hxs
  exact ⟨a, p, ys, Da.strAt i1, rfl, .inl (SqL.of e5), hz, qq _ _ S2 _ _ ⟨rfl, rfl⟩ (t1.trans t2) (.str _)⟩⟩
end
/-! ### texts by their codes -/
def tx (l : List Nat) : Str := ⟨l.toArray⟩
theorem tx_len (l : List Nat) : (tx l).length = l.length := SX.S_len l
theorem tx_cat (a b : List Nat) : tx a ++ tx b = tx (a ++ b) := SX.S_cat a b
theorem tx_list (l : List Nat) : (tx l).cps.toList = l := by simp [tx]
theorem tx_eq {a b : List Nat} : tx a = tx b ↔ a = b := ⟨SX.S_inj, fun h => by rw [h]⟩
theorem tx_cut (l : List Nat) (lo hi : Option Int) : cutS (tx l) lo hi = tx (cut l lo hi) := by
  unfold cutS cut
  rw [tx_list, tx_len]
  rfl
theorem joinL_nil : ∀ ys : List (List Nat), TL.joinL [] ys = ys.flatten
  | [] => rfl
  | [p] => by simp [TL.joinL]
  | p :: q :: r => by
    show p ++ ([] ++ TL.joinL [] (q :: r)) = _
    rw [joinL_nil (q :: r), List.nil_append]
    rfl
theorem tx_join (ys : List (List Nat)) : Txt.join (tx []) (ys.map tx) = tx ys.flatten := by
  rw [← joinL_nil]
  exact SX.join_S [] ys
end Cw

set_option Elab.async false
set_option linter.all false
set_option maxRecDepth 100000
set_option maxHeartbeats 2000000
/-! Cw, part K: errors: methods that may raise; try .. except. -/
namespace Cw
open PySem PySem.Spec PyProof.Rows L2
section
variable {X : Cx} {CX : CXT} {k : Nat} {f C : Addr} {fd : FuncData} {ps : List Str} {sp : Sp} {E : L2.St → XK} {m : Str} {pos apos : Pos} {o : Expr} {ta : TE}
theorem pe_meth0S {pl : Sem Bool} (he : PE X o ta) (c : Cls X.K C) (hm : Meth X.K C m f) (F : FnOk X.prog X.w X.K X.mg X.base CX k f fd ps sp) (hr : Room k X.A) (hb : Binds X.K fd ps []) (hx : ∀ σ, PassesAt CX X σ (E σ))
    (ht : eval (.Call (.Attribute o m apos) [] [] pos) X.env = (do
      let ov ← eval o X.env
      standAt apos.atName
      let (f, first) ← holding [ov] (getMethod ov m pl)
      callWith pos f first (backTo pos (starEach [] X.env)) (backToKw pos (keywordEach [] X.env))) := by rfl) :
    PE X (.Call (.Attribute o m apos) [] [] pos) (fun σ H Q => ta σ H fun x H1 => ∃ a dx fs, x = .ref a ∧ H1 a = some (.ins C dx fs) ∧ fs.lookup m = none ∧ sp [x] H1 Q (E σ)) := by
  refine ⟨fun pins s σ H Q I h => ?_⟩
  refine PySem.W.methodCall_KW (pl := pl) (thn (he.run pins s σ H _ I h) fun u s1 ⟨x, H1, I1, rx, a, dx, fs, ex, ea, l, q⟩ => ?_) ht
  subst ex
  obtain rfl : u = Value.ref a := rx
  refine getmeth_ok I1 ea c hm l ?_
  exact PySem.W.callWith_K0 (first := [.ref a]) I1.kIn hm.kp (run_fnS (us := [.ref a]) (vs := [.ref a]) F hr hb (hx σ) I1 (.cons rfl .nil) q)
end
section
variable {Y : Cm} {ρ : Rho} {L La : Led} {a : Expr} {pos : Pos} {sp : Fs} {k : Nat} {m : Str} {ps : List Str} {K : Rv → Led → Prop}
/-- o.m(), that may raise -/
theorem me_meth0X {pl : Sem Bool} {q C : Addr} {fs : List (Str × Rv)} {apos : Pos} (ho : EX Y a ρ L (.vl (.ref q)) La) (hq : La q = some (.ins C fs)) (hn : fs.lookup m = none) (c : Cls Y.X.K C) (G : MtX Y.X.prog Y.X.w Y.X.K Y.X.mg Y.X.base k C m ps sp) (hr : Room k Y.X.A)
    (ha : sp [.vl (.ref q)] La K fun c L' => Y.xc c ρ L')
    (ht : eval (.Call (.Attribute a m apos) [] [] pos) Y.X.env = (do
      let ov ← eval a Y.X.env
      standAt apos.atName
      let (f, first) ← holding [ov] (getMethod ov m pl)
      callWith pos f first (backTo pos (starEach [] Y.X.env)) (backToKw pos (keywordEach [] Y.X.env))) := by rfl) : ME Y (.Call (.Attribute a m apos) [] [] pos) ρ L K := ⟨fun S σ H A Q qq => by
  obtain ⟨f, fd, hm, hb, F⟩ := G.ex
  refine wE.of (pe_meth0S (pl := pl) wE.pe c hm F hr hb (fun σ => passAt Y.tk σ) ht) (ho.run S σ H A _ fun r1 L1' S1 H1 x ⟨e1, e2⟩ t1 i1 => ?_)
  subst e1 e2
  obtain ⟨dx, gs, hg, rf⟩ := t1.ok.ins hq
  refine ⟨q, dx, gs, i1, hg, (rf_lookup rf).1 hn, ?_⟩
  exact ⟨S1, L1', _, K, _, t1.ok, .cons i1 .nil, ha, fun r L' S' H' v kk t i => qq r L' S' H' v kk (t1.trans t) i, fun c L' S' H' z t => A.lx c ρ L' S' H' σ z (t1.trans t) (A.es.mono (t1.trans t).sub)⟩⟩
/-- try: .. except x: .., without else and finally -/
theorem ms_try {N : Rho → Led → Prop} {D : Nd} {x : Str} {c : Value} {body suite : List Stmt} {b₀ : Stmt} {np pos' : Pos} (xc : Value → Rho → Led → Prop) (hs : Y.X.stack = Y.X.env :: Y.X.outer) (hf : Y.X.env.frame = some Y.X.env.locals) (hc : Names Y.X x c)
    (hb : ∀ (W : WX) (pn : List (Addr × Obj)) (xe : Value → Shared → Prop) (tk : Takes (Y.X.tr pn xe) W) (po : PassesOwn (model Y.X.prog Y.X.w) Y.X.A Y.X.env xe), MSs ⟨Y.X.tr pn xe, W, xc, tk, po⟩ body N D ρ L)
    (hx : ∀ cls ρ' L', xc cls ρ' L' → PySem.W.exmOne Y.X.K cls c = some true ∧ ∀ (a : Addr) (pn : List (Addr × Obj)), MSs ⟨Y.X.suite a pn, fun _ _ _ _ => False, fun _ _ _ => False, takes0, PassesOwn.never⟩ (b₀ :: suite) N D ρ' L') :
    MS Y (.Try body [.ExceptHandler (some (.Name x np)) none (b₀ :: suite) pos'] [] [] pos) N D ρ L := ⟨fun S σ H A De l => by
  refine wS.of (ps_try_only (Wout := fun _ _ _ _ => False) (tb := fun W D σ H => ∀ (pn : List (Addr × Obj)) (xe : Value → Shared → Prop), Takes (Y.X.tr pn xe) W → PassesOwn (model Y.X.prog Y.X.w) Y.X.A Y.X.env xe → wSs (Y.X.tr pn xe) body D σ H)
    (ts := fun a cls d D σ H => ∀ (pn : List (Addr × Obj)), wSs (Y.X.suite a pn) (b₀ :: suite) D σ H) hs hf hc takes0
    (fun W pn xe tk po => ⟨fun pins s σ H D I h => h pn xe tk po pins s I⟩)
    (fun a oe cls d pn _ _ => ⟨fun pins s σ H D I h => h _ pins s I⟩)) ?_
  intro pn xe tk po
  refine (hb _ pn xe tk po).run S σ H ⟨A.ok, A.es, fun cls ρ' L' S' H' σ' z t e => ?_⟩ De l
  obtain ⟨h1, h2⟩ := hx cls ρ' L' z
  refine ⟨true, h1, fun _ a _ pn2 => ?_, fun z => by cases z⟩
  exact (h2 a pn2).run S' σ' H' ⟨t.ok, e, fun _ _ _ _ _ _ z => z.elim⟩ De (l.mono t)⟩
/-- a op b, b no exact thing -/
theorem me_binR {b : Expr} {L1 : Led} {ra : Rv} {op : Operator} {rr : R2} (ho : OpR Y.X (binaryOp op) rr) (ha : EX Y a ρ L ra L1) (hb : ME Y b ρ L1 fun rb L2 => ∃ rc, RM rr ra rb L2 rc ∧ K rc L2) : ME Y (.BinOp a op b pos) ρ L K := ⟨fun S σ H A Q q => by
  refine wE.of (pe_op ho wE.pe wE.pe) (ha.run S σ H A _ fun r1 L1' S1 H1 x ⟨e1, e2⟩ t1 i1 => ?_)
  subst e1 e2
  refine hb.run S1 σ H1 (A.next t1) _ fun r2 L2' S2 H2 y ⟨rc, hr, k⟩ t2 i2 => ?_
  exact hr S2 H2 x y t2.ok (i1.mono t2.sub) i2 Q fun S' H' v t3 i3 => q _ _ S' H' v k ((t1.trans t2).trans t3) i3⟩
theorem rm_cat {L2 : Led} {rb : Rv} {ds es : List PyData} {ra : Rv} (a : LL L2 ra ds) (b : LL L2 rb es) (hz : ds.length + es.length ≤ sizeLine) : RM rCat ra rb L2 (.dt (.list (ds ++ es))) := fun S H x y k hx hy Q q => by
  obtain ⟨p, xs, rfl, e1, t1⟩ := LL.at_ a k hx
  obtain ⟨p', ys, rfl, e2, t2⟩ := LL.at_ b k hy
  refine ⟨p, p', xs, ys, rfl, rfl, e1, e2, by rw [t1.len, t2.len]; exact hz, fun n hn => ?_⟩
  have sn := Sub.new (o := HO.lst (xs ++ ys)) (k.sub.none hn)
  exact q (upd S n (.lst (xs ++ ys))) _ _ (Step.still k hn) (.lst upd_same (.of (papp (t1.mono sn).pd (t2.mono sn).pd)))
/-- a + b, lists, b no exact thing -/
theorem me_catD {b : Expr} {L1 : Led} {ra : Rv} (ha : EX Y a ρ L ra L1) (hb : ME Y b ρ L1 fun rb L2 => ∃ ds es, LL L2 ra ds ∧ LL L2 rb es ∧ ds.length + es.length ≤ sizeLine ∧ K (.dt (.list (ds ++ es))) L2) : ME Y (.BinOp a .Add b pos) ρ L K :=
  me_binR op_cat ha (hb.imp fun _ _ ⟨_, _, h1, h2, hz, k⟩ => ⟨_, rm_cat h1 h2 hz, k⟩)
end
/-- things made within are forgotten -/
def fgt (sp : Fs) : Fs := fun as L Q X => sp as L (fun r L' => ∃ L0, Le L0 L' ∧ Q r L0) X
theorem lift_fgt {sp : Fs} : ∀ vs H Q E, lift (fgt sp) vs H Q E → lift sp vs H Q E := fun vs H Q E ⟨S, L, as, K, XC, a, b, c, d, e⟩ => ⟨S, L, as, _, XC, a, b, c, fun r L' S' H' v ⟨L0, l, k⟩ t i => d r L0 S' H' v k (t.le l) i, e⟩
theorem FnM.forget {P : Program} {w : World} {K : PySem.W.Frag} {mg : Str → Option Value} {base : Heap} {k : Nat} {x : Str} {ps : List Str} {sp : Fs} (G : FnM P w K mg base k x ps sp) : FnM P w K mg base k x ps (fgt sp) := by
  obtain ⟨f, fd, a, b, c, d⟩ := G.ex
  exact ⟨f, fd, a, b, c, d.imp lift_fgt⟩
end Cw

set_option Elab.async false
set_option linter.all false
set_option maxRecDepth 100000
set_option maxHeartbeats 2000000
/-! Cw, part L: sorted(xs, key=lambda each: each[0]). -/
namespace Cw
open PySem PySem.Spec PyProof.Rows L2 LamX
section
variable {prog : Program} {w : World} {A : Around}
/-- the lambda called: the first item of a tuple -/
theorem lam_first {s : Shared} {f c' t : Addr} {q each : Str} {params : Arguments} {p1 p2 p3 : Pos} {kk : Nat} {scope : Scope} {pm ctv kv : Value} {its : Array Value} {k : PyData}
    (hf : s.heap.get? f = some (PySem.W.kla_obj "<lambda>" q params (.Subscript (.Name each p1) (.Constant (.int 0) kk p2) p3) scope [] pm c' ctv)) (hc : s.heap.CodeRec (.ref c') q) (lim : s.heap.NoLimit) (hroom : A.depth < recursionLimit)
    (hbind : ∀ v, bindArgs (PySem.W.kla_fn "<lambda>" q params (.Subscript (.Name each p1) (.Constant (.int 0) kk p2) p3) scope [] pm (.ref c') ctv) ⟨[v], []⟩ = pure [(each, v)])
    (hk : scope.kind = .function) (hco : scope.isCoroutine = false) (hgen : scope.isGenerator = false) (hcell : ∀ x ∈ scope.names, x.2 ≠ .cell) (hloc : scope.names.lookup each = some .local) (hd : (each == ("__debug__" : Str)) = false)
    (ht : IsTup s.heap t its) (h0 : its[0]? = some kv) (hr : Reads s.heap kv k []) :
    wpAny (model prog w) A (call (.ref f) [.ref t]) (PySem.W.KeyPure k s) (fun _ _ => False) s := by
  refine wpAny_call (PySem.W.kla_callFunE hroom hf rfl hco hgen rfl hc ?_)
  rw [hbind]
  refine wpAny_pure (wpAny_newFunctionEnv hcell (fun y hy => by rw [List.mem_singleton.mp hy]; exact hloc) (fun h₁ hns hsb => ⟨lim.fresh _ hsb, ?_⟩) hk)
  have kp : ∀ b o, s.heap.get? b = some o → h₁.get? b = some o := fun b o e => hsb.extBut b o (Nat.ne_of_lt (Heap.lt_size e)) (Heap.get?_push_of_some _ e)
  have hsz : 0 < its.size := by
    by_cases z : 0 < its.size
    · exact z
    · rw [Array.getElem?_eq_none (by omega)] at h0; cases h0
  refine PySem.W.kla_codeExpr ?_
  refine Subscript_ (wpAny_Name (wpAny_loadName_local (m := fun y => ([(each, Value.ref t)] : List (Str × Value)).reverse.lookup y) hk hloc hns (v := .ref t) (by simp [List.lookup]) ?_) hd)
  refine wpAny_Constant_int ?_
  have ht1 : IsTup h₁ t its := ht.keeps kp
  refine subscriptTail_builtinR (x := kv) (T := "tuple") ht1.typeIs slot_tuple_getitem.lookup ?_ rfl
  exact PyProof.Rows.getItem_tuple (j := 0) ht1 (by decide) (by decide) (by simp [seqIndex?, hsz]) h0 ⟨rfl, h₁, _, rfl, kp, PyProof.Rows.Reads.keeps kp hr⟩
end
section
variable {X : Cx} {pins : List (Addr × Obj)} {σ : L2.St} {H : Hp} {s : Shared}
/-- the heap behind the making of a lambda: the same, or with one code object more, which the table tells -/
def Made (H : Hp) (P : Addr) (q : Str) (ps : Array Value) (c' : Addr) (H1 : Hp) : Prop :=
  (H1 = H ∧ H c' = some (CodeO c' q)) ∨ ∃ ps' : Array Value, H1 = upd (upd H P (.tbl ps')) c' (CodeO c' q) ∧ H c' = none ∧ TriplesOk ps'.toList ∧ ∀ p' cv, codeAmong p' ps'.toList = some cv → codeAmong p' ps.toList = some cv ∨ cv = .ref c'
theorem lam_made {q : Str} {c P : Addr} {ps : Array Value} {params : Arguments} {body : Expr} {scope : Scope} {pos : Pos} {E : Value → Shared → Prop} {Q : Value → Shared → Prop} (I : Inv X pins σ H s) (TB : TabB X.base X.mg c P) (hcode : X.env.code = .ref c) (hq : X.env.qual ++ "<lambda>" = q)
    (hP : H P = some (.tbl ps)) (ht : TriplesOk ps.toList) (ha : ∀ pos cv, codeAmong pos ps.toList = some cv → ∃ c, cv = .ref c ∧ H c = some (CodeO c q)) (hdef : defaultsOf params X.env = ([], [])) (hcl : closureFor scope X.env = pure [])
    (h : ∀ (f c' : Addr) (pm ctv : Value) (H1 : Hp) (s' : Shared), Inv X pins σ H1 s' → Made H P q ps c' H1 → s'.heap.get? f = some (PySem.W.kla_obj "<lambda>" q params body scope [] pm c' ctv) → s'.heap.CodeRec (.ref c') q → Q (.ref f) s') :
    wpAny (model X.prog X.w) X.A (eval (.Lambda params body scope pos) X.env) Q E s := by
  refine PySem.W.kla_eval hdef ?_
  rw [hq]
  have bP : s.heap.BuiltinsAt X.mg P := TB.bm.keeps I.bk
  have hP' : s.heap.get? P = some { cls := .none, data := .fields ps } := I.hok P _ hP
  cases hc : codeAmong pos ps.toList with
  | none =>
    refine PySem.W.kla_makeFunction (mg := X.mg) (c := c) (P := P) (ps := ps) hcl I.ok.glob (I.mod.glob.keeps I.bk) hcode (TB.code.keeps I.bk) hP' ht hc TB.gP bP fun c' ctv h' tk hx hge hlt hrec htb => ?_
    obtain ⟨c2, oc, vs, t, e2, hoc, hd, hv⟩ := hrec
    cases e2
    have I1 := inv_table (q := q) (t' := tk) (more := #[rawInt pos.line, rawInt pos.col, .ref c']) (h' := h'.push (PySem.W.kla_obj "<lambda>" q params body scope [] ((X.mg "__name__").getD .none) c' ctv)) I hP
      (fun b o hb e => Heap.get?_push_of_some _ (hx b o hb e)) (Heap.get?_push_of_some _ htb) hge ⟨oc, vs, t, Heap.get?_push_of_some _ hoc, hd, hv⟩
    have eL : (ps ++ #[rawInt pos.line, rawInt pos.col, .ref c']).toList = ps.toList ++ [rawInt pos.line, rawInt pos.col, .ref c'] := by simp
    refine h h'.objs.size c' ((X.mg "__name__").getD .none) ctv _ _ I1 (.inr ⟨_, rfl, I.hok.fresh hge, by rw [eL]; exact PySem.TriplesOk_snoc _ _ _ _ ht, fun p' cv e => ?_⟩) (Heap.get?_push_size _ rfl) ⟨c', oc, vs, t, rfl, Heap.get?_push_of_some _ hoc, hd, hv⟩
    rw [eL] at e
    exact among_app _ ht e
  | some cv =>
    obtain ⟨c', e, hco⟩ := ha pos cv hc
    subst e
    obtain ⟨⟨oc, vs, t, e1, e2, e3⟩, _⟩ := I.hok c' _ hco
    refine PySem.W.kla_makeFunctionHit (mg := X.mg) (c := c) (P := P) (ps := ps) hcl I.ok.glob (I.mod.glob.keeps I.bk) hcode (TB.code.keeps I.bk) hP' ht hc bP fun ctv h' tk hx hsz => ?_
    have I1 : Inv X pins σ H { s with heap := h'.push (PySem.W.kla_obj "<lambda>" q params body scope [] ((X.mg "__name__").getD .none) c' ctv), toks := tk } := I.kept fun b o e => Heap.get?_push_of_some _ (hx b o e)
    exact h h'.objs.size c' ((X.mg "__name__").getD .none) ctv H _ I1 (.inl ⟨rfl, hco⟩) (Heap.get?_push_size _ rfl) ⟨c', oc, vs, t, rfl, Heap.get?_push_of_some _ (hx _ _ e1), e2, e3⟩
/-- the first item of the tuple x is the pair k -/
def KeyAt (H : Hp) (x : V) (k : Int × Int) : Prop := ∃ t b r, x = V.ref t ∧ H t = some (.tup (V.ref b :: r)) ∧ H b = some (.tup [V.int k.1, V.int k.2])
def leII (p q : Int × Int) : Bool := decide (p.1 < q.1 ∨ (p.1 = q.1 ∧ p.2 ≤ q.2))
theorem vals_of_each {α : Type} {g : α → V} {R : Value → α → Prop} (hR : ∀ v x, R v x → RelV (g x) v) : ∀ {vs : List Value} {xs : List α}, PySem.W.EachIs R vs xs → Vals (xs.map g) vs
  | _, _, .nil => .nil
  | _, _, .cons h t => .cons (hR _ _ h) (vals_of_each hR t)
theorem each_of_vals {α : Type} {g : α → V} : ∀ {xs : List α} {vs : List Value}, Vals (xs.map g) vs → PySem.W.EachIs (fun v x => RelV (g x) v) vs xs
  | [], _, .nil => .nil
  | _ :: _, _, .cons h t => .cons h (each_of_vals t)
theorem made_keep {P c' : Addr} {q : Str} {ps : Array Value} {H1 : Hp} (m : Made H P q ps c' H1) (hP : H P = some (.tbl ps)) : ∀ b o, H b = some o → (∀ ps, o ≠ .tbl ps) → H1 b = some o := fun b o e n => by
  rcases m with ⟨rfl, _⟩ | ⟨ps', rfl, nc, _⟩
  · exact e
  · rw [upd_ne (ne_of_none e nc), upd_ne (fun z => n ps (Option.some.inj (e.symm.trans (by rw [z]; exact hP))))]
    exact e
theorem made_none {P c' : Addr} {q : Str} {ps : Array Value} {H1 : Hp} (m : Made H P q ps c' H1) {b : Addr} (h : H1 b = none) : H b = none := by
  rcases m with ⟨rfl, _⟩ | ⟨ps', rfl, nc, _⟩
  · exact h
  · by_cases h1 : b = c'
    · rw [h1, upd_same] at h; cases h
    · rw [upd_ne h1] at h
      by_cases h2 : b = P
      · rw [h2, upd_same] at h; cases h
      · rw [upd_ne h2] at h; exact h
abbrev kII (z : V × Int × Int) : PyData := .tuple [.int z.2.1, .int z.2.2]
def sortQ (P : Addr) (q : Str) (x : V) (H1 : Hp) (Q : VK) : Prop := ∃ (a : Addr) (ps : Array Value) (zs : List (V × Int × Int)), x = V.ref a ∧ H1 a = some (.lst (zs.map (·.1))) ∧ (∀ z ∈ zs, KeyAt H1 z.1 z.2) ∧ H1 P = some (.tbl ps) ∧ TriplesOk ps.toList ∧ (∀ pos cv, codeAmong pos ps.toList = some cv → ∃ c, cv = .ref c ∧ H1 c = some (CodeO c q)) ∧
  ∀ c' H2 p, Made H1 P q ps c' H2 → H2 p = none → Q (V.ref p) (upd H2 p (.lst ((zs.mergeSort fun x y => leII x.2 y.2).map (·.1))))
def sortQ1 (P : Addr) (q : Str) (Q : VK) : List V → Hp → Prop
  | [x], H1 => sortQ P q x H1 Q
  | _, _ => False
theorem pe_sortLam {q each : Str} {e : Expr} {te : TE} {c P : Addr} {params : Arguments} {scope : Scope} {p p1 p2 p3 lp kp pos : Pos} {kk : Nat} (hr : Room 0 X.A) (TB : TabB X.base X.mg c P) (hcode : X.env.code = .ref c) (hq : X.env.qual ++ "<lambda>" = q)
    (hdef : defaultsOf params X.env = ([], [])) (hcl : closureFor scope X.env = pure [])
    (hbind : ∀ pm c' ctv v, bindArgs (PySem.W.kla_fn "<lambda>" q params (.Subscript (.Name each p1) (.Constant (.int 0) kk p2) p3) scope [] pm (.ref c') ctv) ⟨[v], []⟩ = pure [(each, v)])
    (hk : scope.kind = .function) (hco : scope.isCoroutine = false) (hgen : scope.isGenerator = false) (hcell : ∀ x ∈ scope.names, x.2 ≠ .cell) (hloc : scope.names.lookup each = some .local) (hd : (each == ("__debug__" : Str)) = false)
    (he : PE X e te) (hg : Gl X "sorted") (hm : X.mg "sorted" = none)
    (hpl1 : backTo pos (starEach [e] X.env) = (false, eval e X.env) :: backTo pos (starEach [] X.env) := by rfl) (hpl : (backTo pos (starEach [e] X.env)).any (·.1) = false := by rfl) (hs : starEach [e] X.env = (false, eval e X.env) :: starEach [] X.env := by rfl) :
    PE X (.Call (.Name "sorted" p) [e] [⟨some "key", .Lambda params (.Subscript (.Name each p1) (.Constant (.int 0) kk p2) p3) scope lp, kp⟩] pos)
      (fun σ H Q => te σ H fun x H1 => sortQ P q x H1 Q) := by
  refine ⟨fun pins s σ H Q I h => ?_⟩
  refine wpAny_Call_Name_kw (ld_blt I hg hm (by decide +kernel : bootBuiltins "sorted" = some (.builtin "sorted")) ?_)
  refine PyProof.Rows.callWith_kw (thn ((pa_cons he pa_nil hs).run pos pins s σ H (fun vs H1 => sortQ1 P q Q vs H1) I ?_) fun us s1 ⟨vs, H1, I1, r1, q1⟩ => ?_) hpl1 hpl
  · exact h
  · obtain ⟨x, rfl⟩ : ∃ x, vs = [x] := by
      match vs, q1 with
      | [x], _ => exact ⟨x, rfl⟩
    obtain ⟨a, ps, zs, rfl, ha, hz, hP, ht, hcs, q1⟩ := q1
    obtain rfl := Vals.ref1 r1
    show wpAny _ _ (evalAll [do let v ← eval _ X.env; standAt pos; pure v]) _ _ s1
    refine wpAny_evalAll_cons (wpAny_bind (lam_made I1 TB hcode hq hP ht hcs hdef hcl fun f c' pm ctv H2 s2 I2 md hf hrec => wpAny_bind (wpAny_standAt (wpAny_pure ?_))))
    refine wpAny_evalAll_nil ?_
    show wpAny _ _ (call (.builtin "sorted") [.ref a] [(Str.ofString "key", .ref f)]) _ _ s2
    have kp := made_keep md hP
    have ha2 : H2 a = some (.lst (zs.map (·.1))) := kp _ _ ha (fun _ z => by cases z)
    obtain ⟨hz2, its, n, rv, hob⟩ := I2.hok a _ ha2
    have hlen : zs.length ≤ sizeLine := by rw [List.length_map] at hz2; exact hz2
    have tup : ∀ t xs, H1 t = some (.tup xs) → ∃ ts, Vals xs ts ∧ IsTup s2.heap t ts.toArray := fun t xs e => by
      obtain ⟨_, ts, r, i⟩ := I2.hok t _ (kp _ _ e (fun _ z => by cases z))
      exact ⟨ts, r, i⟩
    have ev : PySem.W.EachIs (fun v z => RelV (Prod.fst z) v ∧ ∃ (t : Addr) (its : Array Value) (kv : Value), v = .ref t ∧ IsTup s2.heap t its ∧ its[0]? = some kv ∧ Reads s2.heap kv (kII z) []) its zs := by
      refine PySem.W.EachIs.of_zip (by rw [← (each_of_vals rv).length]) fun pz hpz => ?_
      have h1 := (each_of_vals rv).zip pz hpz
      have h2 := (List.of_mem_zip hpz).2
      obtain ⟨t, b, r, e1, e2, e3⟩ := hz _ h2
      refine ⟨h1, ?_⟩
      have h1' : RelV pz.2.1 pz.1 := h1
      rw [e1] at h1'
      have h3 : pz.1 = .ref t := h1'
      obtain ⟨ts, rt, it⟩ := tup _ _ e2
      obtain ⟨us, ru, iu⟩ := tup _ _ e3
      cases rt with
      | cons ra rb =>
        rename_i kv ts'
        have ra' : kv = .ref b := ra
        refine ⟨t, _, kv, h3, it, by simp, ?_⟩
        rw [ra']
        cases ru with
        | cons rc rd =>
          cases rd with
          | cons re rf =>
            cases rf
            obtain ⟨t1, rfl⟩ := rc
            obtain ⟨t2, rfl⟩ := re
            obtain ⟨o, g1, g2, n, g3⟩ := iu
            exact .tuple g1 g2 g3 (.cons (.int _ _) (.cons (.int _ _) .nil))
    have lim : s2.heap.NoLimit := I2.mod.nolimit.keeps I2.bk
    refine PySem.W.sorted_key_data (b := false) (kw := [(Str.ofString "key", .ref f)]) kII ⟨_, hob, rfl, _, rfl⟩ ev ?_ ?_ hlen ?_ (PyProof.Rows.ksk_s1 _ _) (fun _ => PyProof.Rows.ksk_l1 _ _) (fun x => PyProof.Rows.ksk_t1 f x) ?_ ?_
    · intro d hd1 d' hd2
      obtain ⟨z1, _, rfl⟩ := List.mem_map.mp hd1
      obtain ⟨z2, _, rfl⟩ := List.mem_map.mp hd2
      rfl
    · refine .inl fun d hd1 => ?_
      obtain ⟨z1, _, rfl⟩ := List.mem_map.mp hd1
      exact ⟨_, _, rfl⟩
    · intro z _
      have hu := hr.units
      have hdp : (kII z).depth ≤ 10 := Nat.le_of_ble_eq_true rfl
      omega
    · intro v z hR hz1 h tk keep
      obtain ⟨_, t, its, kv, rfl, it, h0, hrd⟩ := hR
      exact lam_first (s := { s2 with heap := h, toks := tk }) (keep _ _ hf) (hrec.keeps keep) (lim.keeps keep) hr.depth (hbind pm c' ctv) hk hco hgen hcell hloc hd (it.keeps keep) h0 (PyProof.Rows.Reads.keeps keep hrd)
    · intro out cc h' tk keep hfr hat hol hev
      rw [PySem.W.dataLe_ii (fun z : V × Int × Int => z.2.1) fun z => z.2.2] at hev
      have hv : Vals ((zs.mergeSort fun x y => leII x.2 y.2).map (·.1)) out := vals_of_each (fun _ _ hR => hR.1) hev
      have hl2 : ((zs.mergeSort fun x y => leII x.2 y.2).map (·.1)).length ≤ sizeLine := by rw [List.length_map, List.length_mergeSort]; exact hlen
      exact ⟨.ref _, upd H2 (s2.heap.objs.size + 1) (.lst ((zs.mergeSort fun x y => leII x.2 y.2).map (·.1))), I2.laid (t' := tk) keep (Nat.le_succ _) ⟨hl2, out, cc, hv, hat⟩, rfl, q1 c' H2 _ md (I2.hok.fresh (Nat.le_succ _))⟩
end
/-! ### in the layer -/
section
variable {P : Program} {w : World} {K : PySem.W.Frag} {mg : Str → Option Value} {base : Heap} {x qual : Str} {st : Stmt} {f : Addr} {fd : FuncData} {N ps : List Str} {k : Nat} {sp : Fs}
/-- fnok0, with the def's code object -/
theorem fnok0C (F : Fun K x qual st f fd) (S : FnScope N ps (defScope st)) (len : ∀ as L Kp XC, sp as L Kp XC → as.length = ps.length)
    (body : ∀ A outer s H E, Room k (A.deeper (envOfC qual (defScope st) s.heap.objs.size f fd.code)) → ∀ as L Kp XC, sp as L Kp XC → MSs (y0 P w K mg base N qual (defScope st) f fd.code A outer s H E) (defBody st) (fun _ L' => Kp (.dt .none) L') ⟨Kp, fun _ _ => False, fun _ _ => False⟩ (start N as) L) :
    FnOk P w K mg base CX0 (k + 1) f fd ps (lift sp) := by
  obtain ⟨oc, od, kV, doc, pm, an, cdv, ct, osl, rfl, lk, hcd⟩ := F.ex
  refine fn_of lk hcd S (fun vs H Q E h => ?_) fun A outer s H vs Q E hr h => ?_
  · obtain ⟨S, L, as, Kp, XC, _, i, h, _⟩ := h
    rw [← Rvs.len i]
    exact len as L Kp XC h
  · obtain ⟨S, L, as, Kp, XC, ok, i, h, q, _⟩ := h
    exact ⟨wSs _ (defBody st), PSs.nox wSs.ps, (body A outer s H E hr as L Kp XC h).run S _ H ⟨ok, es_start i, fun _ _ _ _ _ _ z => z.elim⟩ _ ⟨fun ρ L' S' H' σ kk t _ => q _ L' S' H' _ kk t .non, fun r L' S' H' v kk t ii => q r L' S' H' v kk t ii, fun _ _ _ _ _ z => z.elim, fun _ _ _ _ _ z => z.elim⟩⟩
end
/-- the key of a tuple whose first item is a pair -/
def kyD : PyData → Int × Int
  | .tuple (.tuple [.int i, .int j] :: _) => (i, j)
  | _ => (0, 0)
def Kyd (d : PyData) : Prop := ∃ i j r, d = .tuple (.tuple [.int i, .int j] :: r)
def leD (d d' : PyData) : Bool := leII (kyD d) (kyD d')
section
variable {S H : Hp} {L : Led}
theorem Da.key {x : V} {d : PyData} (s : Sub S H) (h : Da S x d) (k : Kyd d) : KeyAt H x (kyD d) := by
  obtain ⟨i, j, r, rfl⟩ := k
  cases h with
  | tup e1 r1 =>
    cases r1 with
    | cons a1 r2 =>
      cases a1 with
      | tup e2 r3 =>
        cases r3 with
        | cons a2 r4 =>
          cases r4 with
          | cons a3 r5 =>
            cases r5
            cases a2
            cases a3
            exact ⟨_, _, _, rfl, s _ _ e1, s _ _ e2⟩
theorem da_map : ∀ l : List (V × PyData), (∀ z ∈ l, Da S z.1 z.2) → DaAll S (l.map (·.1)) (l.map (·.2))
  | [], _ => .nil
  | z :: l, h => .cons (h z List.mem_cons_self) (da_map l fun y hy => h y (List.mem_cons_of_mem _ hy))
theorem DaAll.zip {xs : List V} {ds : List PyData} (h : DaAll S xs ds) : ∃ l : List (V × PyData), xs = l.map (·.1) ∧ ds = l.map (·.2) ∧ ∀ z ∈ l, Da S z.1 z.2 := by
  induction xs generalizing ds with
  | nil => cases h; exact ⟨[], rfl, rfl, fun _ h => nomatch h⟩
  | cons x xs ih =>
    cases h with
    | cons a r =>
      obtain ⟨l, e1, e2, e3⟩ := ih r
      refine ⟨(x, _) :: l, by rw [e1]; rfl, by rw [e2]; rfl, fun z hz => ?_⟩
      rcases List.mem_cons.mp hz with rfl | hz
      · exact a
      · exact e3 z hz
end
section
variable {Y : Cm} {ρ : Rho} {L L1 : Led} {r : Rv} {e : Expr}
/-- sorted(e, key=lambda each: each[0]) -/
theorem ex_sortLam {q each : Str} {c T : Addr} {params : Arguments} {scope : Scope} {p p1 p2 p3 lp kp pos : Pos} {kk k : Nat} {ds : List PyData} (he : EX Y e ρ L r L1) (hl : LL L1 r ds) (hk' : ∀ d ∈ ds, Kyd d) (hT : L1 T = some (.tab q)) (hr : Room k Y.X.A) (TB : TabB Y.X.base Y.X.mg c T) (hcode : Y.X.env.code = .ref c) (hq : Y.X.env.qual ++ "<lambda>" = q) (hg : Gl Y.X "sorted") (hm : Y.X.mg "sorted" = none)
    (hdef : defaultsOf params Y.X.env = ([], []) := by rfl) (hcl : closureFor scope Y.X.env = pure [] := by rfl)
    (hbind : ∀ pm c' ctv v, bindArgs (PySem.W.kla_fn "<lambda>" q params (.Subscript (.Name each p1) (.Constant (.int 0) kk p2) p3) scope [] pm (.ref c') ctv) ⟨[v], []⟩ = pure [(each, v)] := by intro _ _ _ _; rfl)
    (hk : scope.kind = .function := by rfl) (hco : scope.isCoroutine = false := by rfl) (hgen : scope.isGenerator = false := by rfl) (hcell : ∀ x ∈ scope.names, x.2 ≠ .cell := by decide +kernel) (hloc : scope.names.lookup each = some .local := by rfl) (hd : (each == ("__debug__" : Str)) = false := by decide +kernel)
    (hpl1 : backTo pos (starEach [e] Y.X.env) = (false, eval e Y.X.env) :: backTo pos (starEach [] Y.X.env) := by rfl) (hpl : (backTo pos (starEach [e] Y.X.env)).any (·.1) = false := by rfl) (hs : starEach [e] Y.X.env = (false, eval e Y.X.env) :: starEach [] Y.X.env := by rfl) :
    EX Y (.Call (.Name "sorted" p) [e] [⟨some "key", .Lambda params (.Subscript (.Name each p1) (.Constant (.int 0) kk p2) p3) scope lp, kp⟩] pos) ρ L (.dt (.list (ds.mergeSort leD))) L1 := ⟨fun S σ H A Q qq => by
  refine wE.of (pe_sortLam (hr.mono (Nat.zero_le _)) TB hcode hq hdef hcl hbind hk hco hgen hcell hloc hd wE.pe hg hm hpl1 hpl hs) (he.run S σ H A _ fun r1 L1' S1 H1 x ⟨e1, e2⟩ t1 i1 => ?_)
  subst e1 e2
  obtain ⟨a, xs, rfl, e1, dx⟩ := LL.at_ hl t1.ok i1
  obtain ⟨l, rfl, rfl, hz⟩ := dx.zip
  obtain ⟨sn, o, ho, ps, rfl, htr, hcs⟩ := t1.ok.led _ _ hT
  refine ⟨a, ps, l.map fun z => (z.1, kyD z.2), rfl, by rw [List.map_map]; exact e1, fun z hz' => ?_, ho, htr, fun p cv e => ?_, fun c' H2 p md hn => ?_⟩
  · obtain ⟨y, hy, rfl⟩ := List.mem_map.mp hz'
    exact Da.key t1.ok.sub (hz y hy) (hk' _ (List.mem_map.mpr ⟨y, hy, rfl⟩))
  · obtain ⟨c, e2, e3⟩ := hcs p cv e
    exact ⟨c, e2, t1.ok.sub _ _ e3⟩
  · have st : ∃ S2, Step S H L S2 H2 L1' ∧ Sub S1 S2 := by
      rcases md with ⟨rfl, _⟩ | ⟨ps', rfl, nc, h3, h4⟩
      · exact ⟨S1, t1, Sub.refl _⟩
      · have t2 := Step.still (o := CodeO c' q) t1.ok nc
        have ne : T ≠ c' := fun z => by rw [z, nc] at ho; cases ho
        have i3 : MO.is (upd S1 c' (CodeO c' q)) (.tab q) (.tbl ps') := ⟨ps', rfl, h3, fun p cv e => by
          rcases h4 p cv e with h | h
          · obtain ⟨c, e2, e3⟩ := hcs p cv h
            exact ⟨c, e2, t2.sub _ _ e3⟩
          · exact ⟨c', h, upd_same⟩⟩
        have t3 := Step.write t2.ok hT i3
        rw [updL_eta hT] at t3
        have ec : upd (upd H1 T (.tbl ps')) c' (CodeO c' q) = upd (upd H1 c' (CodeO c' q)) T (.tbl ps') := by
          funext b
          by_cases h1 : b = c'
          · subst h1; rw [upd_same, upd_ne (fun z => ne z.symm), upd_same]
          · by_cases h2 : b = T
            · subst h2; rw [upd_ne h1, upd_same, upd_same]
            · rw [upd_ne h1, upd_ne h2, upd_ne h2, upd_ne h1]
        rw [ec]
        exact ⟨_, (t1.trans t2).trans t3, t2.sub.trans t3.sub⟩
    obtain ⟨S2, t2, u2⟩ := st
    have t3 := Step.still (o := HO.lst (((l.map fun z => (z.1, kyD z.2)).mergeSort fun x y => leII x.2 y.2).map (·.1))) t2.ok hn
    have h0 : ∀ S', Sub S1 S' → DaAll S' (((l.map fun z => (z.1, kyD z.2)).mergeSort fun x y => leII x.2 y.2).map (·.1)) ((l.map (·.2)).mergeSort leD) := fun S' u => by
      have m1 := PySem.W.sort_maps (r := fun a b : V × PyData => leD a.2 b.2) (s := fun x y : V × Int × Int => leII x.2 y.2) (fun z : V × PyData => (z.1, kyD z.2)) (l := l) fun _ _ _ _ => rfl
      have m2 := PySem.W.sort_maps (r := fun a b : V × PyData => leD a.2 b.2) (s := leD) (fun z : V × PyData => z.2) (l := l) fun _ _ _ _ => rfl
      rw [← m1, ← m2, List.map_map]
      exact da_map (l.mergeSort _) fun z hz' => Da.mono u (hz z (List.mem_mergeSort.mp hz'))
    exact qq _ _ _ _ _ ⟨rfl, rfl⟩ (t2.trans t3) (.lst upd_same (h0 _ (u2.trans t3.sub)))⟩
end
end Cw

set_option Elab.async false
set_option linter.all false
set_option maxRecDepth 100000
set_option maxHeartbeats 2000000
/-! Cw, part M: dicts whose keys are pairs. -/
namespace Cw
open PySem PySem.Spec PyProof.Rows L2
section
variable {X : Cx} {pins : List (Addr × Obj)} {σ : L2.St} {H : Hp} {s : Shared}
/-- D[u] = r within a comprehension -/
theorem put_in {E : Value → Shared → Prop} {D : Addr} {y v : V} {u r : Value} {kvs : List (List Key × V)} {k : List Key} {b : Addr} {Q : Unit → Shared → Prop} (hu : X.A.units + 1 < cLine) (I : Inv X pins σ H s) (e : H D = some (.dT kvs)) (ey : y = .ref b) (eb : H b = some (.tup (k.map kV))) (l : kvs.length < sizeLine) (ry : RelV y u) (rv : RelV v r)
    (h : ∀ s', Inv X pins σ (upd H D (.dT (putK kvs k v))) s' → Q () s') : wpAny (model X.prog X.w) X.A (dictSet D u r) Q E s := by
  subst ey
  cases (show u = Value.ref b from ry)
  obtain ⟨z, hd, xs, rel, dd⟩ := dt_of I.hok e
  have hz : xs.length ≤ sizeLine := by rw [← Paired.length rel]; exact z
  have hl : (putK kvs k v).length ≤ sizeLine := by have := length_putK kvs k v; omega
  refine wpAny_dictSet_heap (hsz := hz) (show (tupleKind (mixKind X.prog X.w)).room X.A by show X.A.units < cLine; omega) (key_of I.hok eb) dd fun h' dd' hs => h _ ?_
  obtain ⟨q, es, ep, hq, h2, h3, h4, _, h5⟩ := dd'
  refine d_write I (by rw [e]; exact True.intro) hs ⟨q, hq⟩ ⟨hl, hd, _, (rel.put k eb rv).keeps fun c ys ec => ?_, q, es, ep, hq, h2, h3, h4, h5⟩
  rw [upd_ne (ne_of ec e (fun z => nomatch z))]
  exact ec
def mergeT {β : Type} (kvs more : List (List Key × β)) (pt : List (List Key × β) → List Key → β → List (List Key × β)) : List (List Key × β) := more.foldl (fun acc kv => pt acc kv.1 kv.2) kvs
theorem kt_merge {H : Hp} : ∀ {more : List (List Key × V)} {ys : List (List Key × Addr × Value)} {kvs : List (List Key × V)} {xs : List (List Key × Addr × Value)}, KT H kvs xs → KT H more ys → KT H (mergeT kvs more putK) (storedAllH xs ys)
  | _, _, _, _, h, .nil => h
  | p :: more, q :: ys, kvs, xs, h, .cons ⟨e1, e2, e3⟩ t => by
    have h1 : KT H (putK kvs p.1 p.2) (storedH xs q.1 q.2.1 q.2.2) := by
      rw [← e1]
      exact KT.put h _ e2 e3
    exact kt_merge (kvs := putK kvs p.1 p.2) (xs := storedH xs q.1 q.2.1 q.2.2) h1 t
theorem mergeT_len : ∀ (more kvs : List (List Key × V)), (mergeT kvs more putK).length ≤ kvs.length + more.length
  | [], kvs => Nat.le_refl _
  | kv :: r, kvs => by
    have h1 := mergeT_len r (putK kvs kv.1 kv.2)
    have h2 := length_putK kvs kv.1 kv.2
    show (mergeT (putK kvs kv.1 kv.2) r putK).length ≤ _
    rw [List.length_cons]
    omega
/-- d.update(e), both with keys that are tuples -/
theorem upd_dict {E : Value → Shared → Prop} {A : Around} {a b : Addr} {kvs more : List (List Key × V)} {Q : Value → Shared → Prop} (hu : A.units + 2 < cLine) (I : Inv X pins σ H s) (ea : H a = some (.dT kvs)) (eb : H b = some (.dT more)) (ne : a ≠ b) (hz : kvs.length + more.length ≤ sizeLine)
    (hap : (more.map fun x => tupleKeyHash (mixKind X.prog X.w) x.1).Nodup) (h : ∀ s', Inv X pins σ (upd H a (.dT (mergeT kvs more putK))) s' → Q .none s') :
    wpAny (model X.prog X.w) A (call (.builtin "dict.update") [.ref a, .ref b]) Q E s := by
  obtain ⟨za, ha, xs, ra, da⟩ := dt_of I.hok ea
  obtain ⟨zb, hb, ys, rb, db⟩ := dt_of I.hok eb
  have lx : xs.length = kvs.length := (Paired.length ra).symm
  have ly : ys.length = more.length := (Paired.length rb).symm
  refine call_update_dictH (knd := tupleKind (mixKind X.prog X.w)) ?_ ne hb da db (.inr ⟨?_, ?_⟩) (by omega) fun h' dd' _ hs => ?_
  · show A.units + 1 < cLine
    omega
  · intro x hx
    obtain ⟨_, _, _, _, _, _, _, his, _⟩ := db
    obtain ⟨o, its, n, h1, h2, _⟩ := his x hx
    exact ⟨o, h1, h2⟩
  · have e : ys.map (fun x => x.1) = more.map (fun x => x.1) := by
      clear hap db hz ly zb eb h
      induction rb with
      | nil => rfl
      | cons hq _ ih => rw [List.map_cons, List.map_cons, ih, hq.1]
    have e2 : (ys.map fun x => (tupleKind (mixKind X.prog X.w)).hash x.1) = more.map fun x => tupleKeyHash (mixKind X.prog X.w) x.1 := by
      rw [show (ys.map fun x => (tupleKind (mixKind X.prog X.w)).hash x.1) = (ys.map fun x => x.1).map (tupleKeyHash (mixKind X.prog X.w)) by rw [List.map_map]; rfl, e, List.map_map]
      rfl
    rw [e2]
    exact hap
  · have hl : (mergeT kvs more putK).length ≤ sizeLine := Nat.le_trans (mergeT_len _ _) hz
    obtain ⟨q, es, ep, hq, h2, h3, h4, _, h5⟩ := dd'
    refine h _ (d_write (t' := s.toks) I (by rw [ea]; exact True.intro) hs ⟨q, hq⟩ ⟨hl, ha, _, (kt_merge ra rb).keeps fun c ys ec => ?_, q, es, ep, hq, h2, h3, h4, h5⟩)
    rw [upd_ne (ne_of ec ea (fun z => nomatch z))]
    exact ec
end
section
variable {X : Cx}
/-- what a comprehension {k: v for target in iter}, its keys tuples, asks: D the new dict -/
def tDt (wi : TI) (g : TG) (tk tv : TE) (vs : List Nat) : TE := fun σ H Q => wi σ H fun J H1 => ∀ D, H1 D = none → ∃ W : Nat → Nat → Hp → Prop, (∃ m, W 0 m (upd H1 D (.dT []))) ∧ ∀ i m H, W i m H →
  (J.stop i H ∧ Q (.ref D) H) ∨ (J.go i H ∧ ∃ Nx : Hp → Prop, (∀ H', Nx H' → ∃ m', m' < m ∧ W (i + 1) m' H') ∧ ∀ x H', J.yld i H x H' → g x (wipe σ vs) H' fun σ2 H2 => wipe σ2 vs = wipe σ vs ∧
    tk σ2 H2 fun y H4 => tv σ2 H4 fun z H5 => ∃ kvs k b, y = V.ref b ∧ H5 b = some (.tup (k.map kV)) ∧ H5 D = some (.dT kvs) ∧ kvs.length < sizeLine ∧ Nx (upd H5 D (.dT (putK kvs k z))))
theorem pe_dt {kx vx tg iter : Expr} {scope : Scope} {own : List (Str × Nat)} {pos : Pos} {wi : TI} {g : TG} {tk tv : TE} (hu : X.A.units + 1 < cLine) (hc : X.calm = true) (hN : X.N.Nodup) (hi : PI X tg iter wi) (ok : BlkOk X.N X.env.scope scope own)
    (hg : ∀ (s : Shared) (H : Hp) (C : Addr) (cl : List (Str × Addr)) (fp : List Addr), PG (X.blk s H scope (compEnvC scope cl C X.env) fp) tg g)
    (hk : ∀ (s : Shared) (H : Hp) (C : Addr) (cl : List (Str × Addr)) (fp : List Addr), PE (X.blk s H scope (compEnvC scope cl C X.env) fp) kx tk)
    (he : ∀ (s : Shared) (H : Hp) (C : Addr) (cl : List (Str × Addr)) (fp : List Addr), PE (X.blk s H scope (compEnvC scope cl C X.env) fp) vx tv) (hs : ∀ x, foldedSetIterable iter X.env x = pure x := by intro _; rfl) :
    PE X (.DictComp kx vx [⟨tg, iter, [], 0⟩] scope pos) (tDt wi g tk tv (own.map (·.2))) := by
  refine ⟨fun pins s σ H Q I h => ?_⟩
  rw [arm_eval_DictComp]
  have hfree : ∀ y ∈ scope.names, y.2 = .free → ∃ c, X.env.cells.lookup y.1 = some c := fun y hy e => by
    rcases ok.free y hy e with k | k
    · exact I.ok.has _ (.inl k)
    · exact I.ok.has _ (.inr k)
  refine wpAny_comprehension_free rfl hs (closure_ok hfree) ok.kind (fun y hy e => by rw [ok.uniq y hy, e]) (thn (hi.run pins s σ H _ I h) fun xv s1 hx => thn hx fun itv s2 h2 => ?_)
  obtain ⟨it, fp, tn, J, H2, e, I2, T, st2, f2, q⟩ := h2
  subst e
  refine wpAny_newObj_type (newEnv_comp ?_)
  generalize hD : s2.heap.objs.size = D
  obtain ⟨W, ⟨m0, w0⟩, turn⟩ := q D (I2.hok.fresh (Nat.le_of_eq hD))
  generalize hs3 : ({ s2 with heap := s2.heap.push { cls := .type "dict", data := .dict #[] } } : Shared) = s3
  have h3 : s3.heap = s2.heap.push { cls := .type "dict", data := .dict #[] } := by rw [← hs3]
  have I3 : Inv X pins σ (upd H2 D (.dT [])) s3 := by
    rw [← hs3]
    refine I2.laid (t' := s2.toks) (fun b o e => Heap.get?_push_of_some _ e) (Nat.le_of_eq hD) ?_
    rw [← hD]
    exact dt_empty s2.heap I2.big
  have f3 : ∀ b ∈ fp, FpOk X pins (upd H2 D (.dT [])) b ∧ b < s3.heap.objs.size := fun b hb => by
    obtain ⟨o, e, _⟩ := T.obj _ _ st2 b hb
    have hlt := Heap.lt_size e
    refine ⟨⟨?_, (f2 b hb).2⟩, by rw [h3, Heap.size_push]; exact Nat.lt_succ_of_lt hlt⟩
    rw [upd_ne (by rw [← hD]; exact Nat.ne_of_lt hlt)]
    exact (f2 b hb).1
  have st3 : tn 0 s3.heap := T.keep _ _ _ st2 fun b _ o e => by rw [h3]; exact Heap.get?_push_of_some _ e
  have I4 := block_start I3 ok hN f3
  have nfp : ∀ b ∈ fp, (upd H2 D (.dT [])) b = none := fun b hb => (f3 b hb).1.1
  have pg := hg s3 (upd H2 D (.dT [])) s3.heap.objs.size (cellsFrom (s3.heap.objs.size + 1) scope.names (cloFrom X.env.cells scope.names [])) fp
  have pk := hk s3 (upd H2 D (.dT [])) s3.heap.objs.size (cellsFrom (s3.heap.objs.size + 1) scope.names (cloFrom X.env.cells scope.names [])) fp
  have pv := he s3 (upd H2 D (.dT [])) s3.heap.objs.size (cellsFrom (s3.heap.objs.size + 1) scope.names (cloFrom X.env.cells scope.names [])) fp
  show codeAny _ _ (.compStart (.DictComp kx vx [⟨tg, iter, [], 0⟩] scope pos) 0 (.ref it) (.ref D) (compEnvC scope (cellsFrom (s3.heap.objs.size + 1) scope.names (cloFrom X.env.cells scope.names [])) s3.heap.objs.size X.env)) (compPost (model X.prog X.w) X.A X.xe none _ (.ref D) s3.heap.objs.size) { s3 with heap := pushCells (s3.heap.push { cls := .type "dict", data := .dict #[] }) scope.names }
  generalize hce : compEnvC scope (cellsFrom (s3.heap.objs.size + 1) scope.names (cloFrom X.env.cells scope.names [])) s3.heap.objs.size X.env = ce at I4 pg pk pv ⊢
  have cL : ce.locals = s3.heap.objs.size := by subst hce; rfl
  generalize hH3 : upd H2 D (.dT []) = H3 at I3 I4 pg pk pv w0 nfp f3
  generalize hs4 : ({ s3 with heap := pushCells (s3.heap.push { cls := .type "dict", data := .dict #[] }) scope.names } : Shared) = s4 at I4 ⊢
  have st4 : tn 0 s4.heap := T.keep _ _ _ st3 fun b _ o e => by rw [← hs4]; exact pushCells_keeps _ _ _ _ (Heap.get?_push_of_some _ e)
  have stat : ∀ {σ' : L2.St} {H' : Hp} {s' : Shared}, Inv (X.blk s3 H3 scope ce fp) [] σ' H' s' → (∀ b ∈ fp, H' b = none) → ∀ b ∈ fp, FpOk (X.blk s3 H3 scope ce fp) [] H' b := fun {σ' H' s'} I' hn b hb =>
    ⟨hn b hb, (I'.ok.exf b hb).1, I'.ok.exfs b hb, .inl hb, fun x c e => (I'.ok.exf b hb).2 x c e, fun p hp => absurd (show p ∈ ([] : List (Addr × Obj)) ++ [] from hp) (by simp)⟩
  refine codeAny_compStart_dict ?loop (T.self X.A 0 _ _ _ st4 ?loop)
  refine compLoop_anyD (fun n s' => ∃ i H', Inv (X.blk s3 H3 scope ce fp) [] (wipe σ (own.map (·.2))) H' s' ∧ tn i s'.heap ∧ (∀ b ∈ fp, H' b = none) ∧ W i n H') ?_ m0 ⟨0, H3, I4, st4, nfp, w0⟩
  rintro n s5 ⟨i, H5, I5, st5, n5, w5⟩
  rcases turn i n H5 w5 with ⟨stop, qq⟩ | ⟨go, Nx, hNx, step⟩
  · refine thnF (T.done (X.blk s3 H3 scope ce fp) rfl rfl rfl hc i [] s5 _ H5 (fun _ _ => False) I5 (stat I5 n5) st5 stop) fun r s6 ⟨hr, I6⟩ => ?_
    subst hr
    have I7 : Inv X pins σ H5 s6 := I3.call' (ch := fp) I6.os I6.base I6.hok I6.bare fun b hb => ⟨(f3 b hb).1.2.2.2.1, (f3 b hb).1.2.1, (f3 b hb).1.2.2.2.2.1, (f3 b hb).1.2.2.2.2.2⟩
    have nC : H5 s3.heap.objs.size = none := by
      have z : H5 ce.locals = none := I6.free
      rwa [cL] at z
    obtain ⟨m, hn, _⟩ := I6.loc
    have hn : s6.heap.Ns ce.locals m := hn
    rw [cL] at hn
    obtain ⟨f0, f1, f2, f3, f4, f5⟩ := I3.fpOk (Nat.le_refl _) nC
    exact ⟨m, hn, fun h'' sb => ⟨.ref D, H5, I7.turned (t' := s6.toks) (fun b o hb e => (sb.2 b hb).trans e) f0 f1 f3 f4 f5, rfl, qq⟩⟩
  · refine thnF (T.item (X.blk s3 H3 scope ce fp) rfl rfl rfl hc i [] s5 _ H5 (fun _ _ => False) I5 (stat I5 n5) st5 go) fun r s6 ⟨u, hr, h6⟩ => ?_
    subst hr
    refine thnF h6 fun _ s7 ⟨x, H7, I7, r7, y7, st7, n7⟩ => ?_
    have I7' := I7.pinned (stat I7 n7) (T.obj _ _ st7)
    refine thnF (pg.run _ s7 _ H7 x u _ I7' r7 (step x H7 y7)) fun _ s8 ⟨σ8, H8, I8, hw8, q8⟩ => ?_
    refine wpAny_pure ?_
    rw [if_pos rfl]
    refine thnF (pk.run _ s8 σ8 H8 _ I8 q8) fun z s10 ⟨yk, H10, I10, r10, q10⟩ => ?_
    refine thnF (pv.run _ s10 σ8 H10 _ I10 q10) fun z2 s11 ⟨yv, H11, I11, r11, kvs, k, b, ek, hb, hD11, hz11, nx⟩ => ?_
    refine put_in (X := X.blk s3 H3 scope ce fp) (show X.A.units + 1 < cLine from hu) I11 hD11 ek hb hz11 r10 r11 fun s12 I12 => ?_
    obtain ⟨m', hm, w'⟩ := hNx _ nx
    have pin' : ∀ b ∈ fp, ∀ o, s7.heap.get? b = some o → s12.heap.get? b = some o ∧ upd H11 D (.dT (putK kvs k yv)) b = none := fun b hb o e =>
      let z := I12.pin (b, o) (List.mem_append_right _ (List.mem_append_right _ (mem_pinsAt hb e)))
      ⟨z.1, z.2.1⟩
    have hl : (wipe σ (own.map (·.2))).length = σ8.length := by rw [← hw8, wipe_length]
    refine ⟨m', hm, i + 1, _, (I12.unpinned (pins := [])).weak hl (fun j v e => ?_), T.keep _ _ _ st7 fun b hb o e => (pin' b hb o e).1, fun b hb => ?_, w'⟩
    · rw [← hw8] at e
      exact (wipe_some e).1
    · obtain ⟨o, e, _⟩ := T.obj _ _ st7 b hb
      exact (pin' b hb o e).2
end
end Cw

set_option Elab.async false
set_option linter.all false
set_option maxRecDepth 100000
set_option maxHeartbeats 2000000
/-! Cw, part N: dicts in the layer. -/
namespace Cw
open PySem PySem.Spec PyProof.Rows L2
section
variable {κ β : Type} [DecidableEq κ]
def getG (kvs : List (κ × β)) (k : κ) : Option β := (kvs.find? fun kv => decide (kv.1 = k)).map (·.2)
def putG (kvs : List (κ × β)) (k : κ) (v : β) : List (κ × β) :=
  if (kvs.any fun kv => decide (kv.1 = k)) = true then kvs.map (fun kv => if kv.1 = k then (kv.1, v) else kv) else kvs ++ [(k, v)]
theorem getG_cons (p : κ × β) (r : List (κ × β)) (k : κ) : getG (p :: r) k = if p.1 = k then some p.2 else getG r k := by
  unfold getG
  rw [List.find?_cons]
  by_cases h : p.1 = k
  · rw [if_pos h, decide_eq_true h]; rfl
  · rw [if_neg h, decide_eq_false h]
theorem any_get (k : κ) : ∀ kvs : List (κ × β), (kvs.any fun kv => decide (kv.1 = k)) = (getG kvs k).isSome
  | [] => rfl
  | p :: r => by
    rw [List.any_cons, any_get k r, getG_cons]
    by_cases h : p.1 = k
    · rw [if_pos h, decide_eq_true h]; rfl
    · rw [if_neg h, decide_eq_false h]; rfl
theorem get_repl (k j : κ) (v : β) : ∀ kvs : List (κ × β), getG (kvs.map fun kv => if kv.1 = k then (kv.1, v) else kv) j = (getG kvs j).map fun x => if j = k then v else x
  | [] => rfl
  | p :: r => by
    rw [List.map_cons, getG_cons, getG_cons, get_repl k j v r]
    by_cases h : p.1 = k
    · rw [if_pos h]
      by_cases h2 : p.1 = j
      · rw [if_pos h2, if_pos h2, Option.map_some, if_pos (h2.symm.trans h)]
      · rw [if_neg h2, if_neg h2]
    · rw [if_neg h]
      by_cases h2 : p.1 = j
      · rw [if_pos h2, if_pos h2, Option.map_some, if_neg (fun z => h (h2.trans z))]
      · rw [if_neg h2, if_neg h2]
theorem get_snoc (k j : κ) (v : β) : ∀ kvs : List (κ × β), getG kvs k = none → getG (kvs ++ [(k, v)]) j = if j = k then some v else getG kvs j
  | [], _ => by
    rw [List.nil_append, getG_cons]
    by_cases h : k = j
    · rw [if_pos h, if_pos h.symm]
    · rw [if_neg h, if_neg (fun z => h z.symm)]
  | p :: r, hn => by
    rw [getG_cons] at hn
    by_cases h : p.1 = k
    · rw [if_pos h] at hn; cases hn
    · rw [if_neg h] at hn
      rw [List.cons_append, getG_cons, getG_cons, get_snoc k j v r hn]
      by_cases h2 : p.1 = j
      · rw [if_pos h2, if_pos h2, if_neg (fun z => h (h2.trans z))]
      · rw [if_neg h2, if_neg h2]
theorem get_put (kvs : List (κ × β)) (k j : κ) (v : β) : getG (putG kvs k v) j = if j = k then some v else getG kvs j := by
  unfold putG
  rw [any_get]
  cases h : getG kvs k with
  | none => rw [if_neg (by simp)]; exact get_snoc k j v kvs h
  | some x =>
    rw [if_pos (show (some x).isSome = true from rfl), get_repl]
    by_cases h2 : j = k
    · rw [h2, h, if_pos rfl]; simp
    · rw [if_neg h2]; simp [h2]
theorem put_len (kvs : List (κ × β)) (k : κ) (v : β) : (putG kvs k v).length ≤ kvs.length + 1 := by
  unfold putG
  split
  · rw [List.length_map]; omega
  · rw [List.length_append]; exact Nat.le_refl _
theorem put_keys (kvs : List (κ × β)) (k : κ) (v : β) : (putG kvs k v).map (·.1) = if k ∈ kvs.map (·.1) then kvs.map (·.1) else kvs.map (·.1) ++ [k] := by
  have hm : (kvs.any fun kv => decide (kv.1 = k)) = true ↔ k ∈ kvs.map (·.1) := by
    rw [List.any_eq_true, List.mem_map]
    exact ⟨fun ⟨x, h1, h2⟩ => ⟨x, h1, of_decide_eq_true h2⟩, fun ⟨x, h1, h2⟩ => ⟨x, h1, decide_eq_true h2⟩⟩
  unfold putG
  by_cases h : k ∈ kvs.map (·.1)
  · rw [if_pos (hm.mpr h), if_pos h, List.map_map]
    refine List.map_congr_left fun x _ => ?_
    show (if x.1 = k then (x.1, v) else x).1 = x.1
    split <;> rfl
  · rw [if_neg (fun z => h (hm.mp z)), if_neg h, List.map_append]
    rfl
theorem put_nodup {kvs : List (κ × β)} (h : (kvs.map (·.1)).Nodup) (k : κ) (v : β) : ((putG kvs k v).map (·.1)).Nodup := by
  rw [put_keys]
  split
  · exact h
  · rename_i z
    rw [List.nodup_append]
    exact ⟨h, by simp, fun a ha b hb e => z (by rw [List.mem_singleton.mp hb] at e; rw [← e]; exact ha)⟩
/-- a dict of keys, all with one value -/
def ofKeys (v : β) (ks : List κ) : List (κ × β) := ks.foldl (fun acc k => putG acc k v) []
theorem ofKeys_snoc (v : β) (ks : List κ) (k : κ) : ofKeys v (ks ++ [k]) = putG (ofKeys v ks) k v := by
  unfold ofKeys
  rw [List.foldl_append]
  rfl
theorem fold_get (v : β) : ∀ (ks : List κ) (acc : List (κ × β)) (j : κ), (getG (ks.foldl (fun acc k => putG acc k v) acc) j).isSome = ((getG acc j).isSome || decide (j ∈ ks))
  | [], acc, j => by simp
  | k :: ks, acc, j => by
    rw [List.foldl_cons, fold_get v ks, get_put]
    by_cases h : j = k
    · simp [h]
    · simp [h]
theorem ofKeys_get (v : β) (ks : List κ) (j : κ) : (getG (ofKeys v ks) j).isSome = decide (j ∈ ks) := by
  unfold ofKeys
  rw [fold_get]
  simp [getG]
theorem fold_len (v : β) : ∀ (ks : List κ) (acc : List (κ × β)), (ks.foldl (fun acc k => putG acc k v) acc).length ≤ acc.length + ks.length
  | [], acc => Nat.le_refl _
  | k :: ks, acc => by
    have h1 := fold_len v ks (putG acc k v)
    have h2 := put_len acc k v
    rw [List.foldl_cons, List.length_cons]
    omega
theorem ofKeys_len (v : β) (ks : List κ) : (ofKeys v ks).length ≤ ks.length := by
  have := fold_len v ks []
  rwa [List.length_nil, Nat.zero_add] at this
theorem fold_nodup (v : β) : ∀ (ks : List κ) (acc : List (κ × β)), (acc.map (·.1)).Nodup → ((ks.foldl (fun acc k => putG acc k v) acc).map (·.1)).Nodup
  | [], acc, h => h
  | k :: ks, acc, h => fold_nodup v ks _ (put_nodup h k v)
theorem ofKeys_nodup (v : β) (ks : List κ) : ((ofKeys v ks).map (·.1)).Nodup := fold_nodup v ks [] List.nodup_nil
theorem mem_of_get {kvs : List (κ × β)} {k : κ} (h : k ∈ kvs.map (·.1)) : (getG kvs k).isSome = true := by
  rw [← any_get, List.any_eq_true]
  obtain ⟨x, h1, h2⟩ := List.mem_map.mp h
  exact ⟨x, h1, decide_eq_true h2⟩
theorem ofKeys_mem {v : β} {ks : List κ} {k : κ} (h : k ∈ (ofKeys v ks).map (·.1)) : k ∈ ks := by
  have := mem_of_get h
  rw [ofKeys_get] at this
  exact of_decide_eq_true this
/-- one dict into another -/
def mergeG (kvs more : List (κ × β)) : List (κ × β) := more.foldl (fun acc kv => putG acc kv.1 kv.2) kvs
theorem merge_get : ∀ (more kvs : List (κ × β)) (j : κ), (getG (mergeG kvs more) j).isSome = ((getG kvs j).isSome || decide (j ∈ more.map (·.1)))
  | [], kvs, j => by simp [mergeG]
  | p :: r, kvs, j => by
    show (getG (mergeG (putG kvs p.1 p.2) r) j).isSome = _
    rw [merge_get r, get_put, List.map_cons]
    by_cases h : j = p.1
    · simp [h]
    · have hb : (j == p.1) = false := beq_eq_false_iff_ne.mpr h
      simp [h, hb]
theorem merge_len : ∀ (more kvs : List (κ × β)), (mergeG kvs more).length ≤ kvs.length + more.length
  | [], kvs => Nat.le_refl _
  | p :: r, kvs => by
    have h1 := merge_len r (putG kvs p.1 p.2)
    have h2 := put_len kvs p.1 p.2
    show (mergeG (putG kvs p.1 p.2) r).length ≤ _
    rw [List.length_cons]
    omega
end
/-! ### with values -/
section
variable {κ : Type} [DecidableEq κ] {S : Hp}
theorem rf_get {rs : List (κ × Rv)} {gs : List (κ × V)} (h : RF S rs gs) (k : κ) : (valV gs k).isSome = (getG rs k).isSome ∧ ∀ r, getG rs k = some r → ∃ v, valV gs k = some v ∧ r.is S v := by
  induction h with
  | nil => exact ⟨rfl, fun _ z => by cases z⟩
  | @cons p q ps qs hq t ih =>
    rw [getG_cons]
    by_cases e : p.1 = k
    · rw [if_pos e, valV_pos (hq.1.symm.trans e)]
      exact ⟨rfl, fun r z => by cases z; exact ⟨_, rfl, hq.2⟩⟩
    · rw [if_neg e, valV_neg (fun z => e (hq.1.trans z))]
      exact ih
theorem rf_putK {rs : List (κ × Rv)} {gs : List (κ × V)} (h : RF S rs gs) (k : κ) {r : Rv} {v : V} (i : r.is S v) : RF S (putG rs k r) (putK gs k v) := by
  have ha : (rs.any fun kv => decide (kv.1 = k)) = (gs.any fun kv => decide (kv.1 = k)) := by
    rw [any_get, valV_any, (rf_get h k).1]
  unfold putG putK
  rw [ha]
  split
  · exact pmap (fun a b hab => by
      by_cases e : a.1 = k
      · rw [if_pos e, if_pos (hab.1.symm.trans e)]; exact ⟨hab.1, i⟩
      · rw [if_neg e, if_neg (fun z => e (hab.1.trans z))]; exact hab) h
  · exact papp h (.cons ⟨rfl, i⟩ .nil)
theorem rf_len {rs : List (κ × Rv)} {gs : List (κ × V)} (h : RF S rs gs) : gs.length = rs.length := (Paired.length h).symm
end
theorem rf_merge {S : Hp} : ∀ {rm : List (List Key × Rv)} {gm : List (List Key × V)} {rs : List (List Key × Rv)} {gs : List (List Key × V)}, RF S rm gm → RF S rs gs → RF S (mergeG rs rm) (mergeT gs gm putK)
  | _, _, _, _, .nil, h => h
  | p :: rm, q :: gm, rs, gs, .cons ⟨e1, e2⟩ t, h => by
    have h1 : RF S (putG rs p.1 p.2) (putK gs q.1 q.2) := by
      rw [← e1]
      exact rf_putK h _ e2
    exact rf_merge (rm := rm) (gm := gm) t h1
/-- a key as data -/
def kD : Key → PyData
  | .inl i => .int i
  | .inr x => .str x
theorem da_key {S : Hp} {v : V} : ∀ {k : Key}, Da S v (kD k) → v = kV k
  | .inl _, h => by cases h; rfl
  | .inr _, h => by cases h; rfl
theorem da_keys {S : Hp} : ∀ {ks : List Key} {xs : List V}, DaAll S xs (ks.map kD) → xs = ks.map kV
  | [], _, .nil => rfl
  | k :: ks, _, .cons a t => by rw [da_key a, da_keys t]; rfl
theorem da_tkey {S : Hp} {v : V} {ks : List Key} (h : Da S v (.tuple (ks.map kD))) : ∃ b, v = .ref b ∧ S b = some (.tup (ks.map kV)) := by
  cases h with
  | tup e r => exact ⟨_, rfl, by rw [e, da_keys r]⟩
/-- what the dict at d has at the key r -/
def DgR (L : Led) (d : Addr) (r : Rv) (o : Option Rv) : Prop := (∃ kvs i, L d = some (.dK kvs) ∧ r = .dt (kD i) ∧ o = getG kvs i) ∨ ∃ kvs ks, L d = some (.dT kvs) ∧ r = .dt (.tuple (ks.map kD)) ∧ o = getG kvs ks
theorem DgR.at_ {S H : Hp} {L : Led} {d : Addr} {r : Rv} {o : Option Rv} {y : V} (h : DgR L d r o) (k : Ok S H L) (i : r.is S y) : ∃ ov, DGet H d y ov ∧ ov.isSome = o.isSome ∧ ∀ r', o = some r' → ∃ v, ov = some v ∧ r'.is S v := by
  rcases h with ⟨kvs, j, e1, rfl, rfl⟩ | ⟨kvs, ks, e1, rfl, rfl⟩
  · obtain ⟨_, o, h1, gs, rfl, rf⟩ := k.led _ _ e1
    have ey : y = kV j := da_key i
    subst ey
    have z := rf_get rf j
    exact ⟨_, DGet.k h1, z.1, z.2⟩
  · obtain ⟨_, o, h1, gs, rfl, rf⟩ := k.led _ _ e1
    obtain ⟨b, rfl, hb⟩ := da_tkey i
    have z := rf_get rf ks
    exact ⟨_, DGet.t h1 (k.sub _ _ hb), z.1, z.2⟩
section
variable {Y : Cm} {ρ : Rho} {L L1 L2 L3 La : Led} {r ra rb rc : Rv} {e a b o : Expr} {pos pos' apos : Pos} {d : Addr} {N : Rho → Led → Prop} {D : Nd}
theorem me_dnewT {K : Rv → Led → Prop} (h : ∀ p, L p = none → K (.vl (.ref p)) (updL L p (.dT []))) : ME Y (.Dict [] [] pos) ρ L K := ⟨fun S σ H A Q q => wE.of pe_dnewT fun p hp =>
  q _ _ S _ _ (h p (A.ok.free hp)) (Step.new A.ok hp ⟨[], rfl, .nil⟩) rfl⟩
theorem me_dnewK {K : Rv → Led → Prop} (h : ∀ p, L p = none → K (.vl (.ref p)) (updL L p (.dK []))) : ME Y (.Dict [] [] pos) ρ L K := ⟨fun S σ H A Q q => wE.of pe_dnewK fun p hp =>
  q _ _ S _ _ (h p (A.ok.free hp)) (Step.new A.ok hp ⟨[], rfl, .nil⟩) rfl⟩
theorem ex_dnin {x : Option Rv} (hu : Y.X.A.units + 1 < cLine) (ha : EX Y a ρ L ra L1) (hb : EX Y b ρ L1 (.vl (.ref d)) L2) (h : DgR L2 d ra x) (hm : behindInMarks .NotIn b = false := by rfl) : EX Y (.Compare a [.NotIn] [b] pos) ρ L (.dt (.bool (!x.isSome))) L2 := ⟨fun S σ H A Q q => by
  refine wE.of (pe_cmp (pc_dnotin hu wE.pe wE.pe) hm) (ha.run S σ H A _ fun r1 L1' S1 H1 y ⟨e1, e2⟩ t1 i1 => ?_)
  subst e1 e2
  refine hb.run S1 σ H1 (A.next t1) _ fun r2 L2' S2 H2 z ⟨e1, e2⟩ t2 i2 => ?_
  subst e1 e2
  obtain ⟨ov, g, hs, _⟩ := h.at_ t2.ok (i1.mono t2.sub)
  refine ⟨d, ov, i2, g, ?_⟩
  rw [hs]
  exact q _ _ S2 H2 _ ⟨rfl, rfl⟩ (t1.trans t2) (.bl _)⟩
theorem ex_din {x : Option Rv} (hu : Y.X.A.units + 1 < cLine) (ha : EX Y a ρ L ra L1) (hb : EX Y b ρ L1 (.vl (.ref d)) L2) (h : DgR L2 d ra x) (hm : behindInMarks .In b = false := by rfl) : EX Y (.Compare a [.In] [b] pos) ρ L (.dt (.bool x.isSome)) L2 := ⟨fun S σ H A Q q => by
  refine wE.of (pe_cmp (pc_din hu wE.pe wE.pe) hm) (ha.run S σ H A _ fun r1 L1' S1 H1 y ⟨e1, e2⟩ t1 i1 => ?_)
  subst e1 e2
  refine hb.run S1 σ H1 (A.next t1) _ fun r2 L2' S2 H2 z ⟨e1, e2⟩ t2 i2 => ?_
  subst e1 e2
  obtain ⟨ov, g, hs, _⟩ := h.at_ t2.ok (i1.mono t2.sub)
  refine ⟨d, ov, i2, g, ?_⟩
  rw [hs]
  exact q _ _ S2 H2 _ ⟨rfl, rfl⟩ (t1.trans t2) (.bl _)⟩
theorem ex_dget (hu : Y.X.A.units + 1 < cLine) (ho : EX Y o ρ L (.vl (.ref d)) L1) (ha : EX Y a ρ L1 ra L2) (h : DgR L2 d ra (some r)) (hs : NoSl a := by intro _ _; rfl) : EX Y (.Subscript o a pos) ρ L r L2 := ⟨fun S σ H A Q q => by
  refine wE.of (pe_dget hu wE.pe wE.pe hs) (ho.run S σ H A _ fun r1 L1' S1 H1 y ⟨e1, e2⟩ t1 i1 => ?_)
  subst e1 e2
  refine ha.run S1 σ H1 (A.next t1) _ fun r2 L2' S2 H2 z ⟨e1, e2⟩ t2 i2 => ?_
  subst e1 e2
  obtain ⟨ov, g, _, hv⟩ := h.at_ t2.ok i2
  obtain ⟨v, rfl, iv⟩ := hv _ rfl
  exact ⟨d, v, i1, g, q _ _ S2 H2 v ⟨rfl, rfl⟩ (t1.trans t2) iv⟩⟩
/-- d[k] = v -/
theorem ms_dputT {kvs : List (List Key × Rv)} {ks : List Key} (hu : Y.X.A.units + 1 < cLine) (he : EX Y e ρ L r L1) (ho : EX Y o ρ L1 (.vl (.ref d)) L2) (ha : EX Y a ρ L2 (.dt (.tuple (ks.map kD))) L3) (hd : L3 d = some (.dT kvs)) (hz : kvs.length < sizeLine) (k : N ρ (updL L3 d (.dT (putG kvs ks r))))
    (hs : swapsWith e (some (.Subscript o a pos')) pos.line Y.X.env = pure false := by rfl) : MS Y (.Assign [.Subscript o a pos'] e pos) N D ρ L := ⟨fun S σ H A De l => by
  refine wS.of (ps_dput hu wE.pe wE.pe wE.pe hs) (he.run S σ H A _ fun r1 L1' S1 H1 v ⟨e1, e2⟩ t1 i1 => ?_)
  subst e1 e2
  refine ho.run S1 σ H1 (A.next t1) _ fun r2 L2' S2 H2 x ⟨e1, e2⟩ t2 i2 => ?_
  subst e1 e2
  refine ha.run S2 σ H2 (A.next (t1.trans t2)) _ fun r3 L3' S3 H3 y ⟨e1, e2⟩ t3 i3 => ?_
  subst e1 e2
  obtain ⟨_, ob, h1, gs, rfl, rf⟩ := t3.ok.led _ _ hd
  obtain ⟨b, rfl, hb⟩ := da_tkey i3
  have t4 := Step.write t3.ok hd (m := .dT (putG kvs ks r1)) ⟨_, rfl, rf_putK rf ks (i1.mono (t2.sub.trans t3.sub))⟩
  exact ⟨d, _, i2, DPut.t h1 (t3.ok.sub _ _ hb) (by rw [rf_len rf]; exact hz), l.nx _ _ S3 _ _ k (((t1.trans t2).trans t3).trans t4) (A.es.mono ((t1.sub.trans t2.sub).trans t3.sub))⟩⟩
theorem ms_dputK {kvs : List (Key × Rv)} {ks : Key} (hu : Y.X.A.units + 1 < cLine) (he : EX Y e ρ L r L1) (ho : EX Y o ρ L1 (.vl (.ref d)) L2) (ha : EX Y a ρ L2 (.dt (kD ks)) L3) (hd : L3 d = some (.dK kvs)) (hz : kvs.length < sizeLine) (k : N ρ (updL L3 d (.dK (putG kvs ks r))))
    (hs : swapsWith e (some (.Subscript o a pos')) pos.line Y.X.env = pure false := by rfl) : MS Y (.Assign [.Subscript o a pos'] e pos) N D ρ L := ⟨fun S σ H A De l => by
  refine wS.of (ps_dput hu wE.pe wE.pe wE.pe hs) (he.run S σ H A _ fun r1 L1' S1 H1 v ⟨e1, e2⟩ t1 i1 => ?_)
  subst e1 e2
  refine ho.run S1 σ H1 (A.next t1) _ fun r2 L2' S2 H2 x ⟨e1, e2⟩ t2 i2 => ?_
  subst e1 e2
  refine ha.run S2 σ H2 (A.next (t1.trans t2)) _ fun r3 L3' S3 H3 y ⟨e1, e2⟩ t3 i3 => ?_
  subst e1 e2
  obtain ⟨_, ob, h1, gs, rfl, rf⟩ := t3.ok.led _ _ hd
  have ey : y = kV ks := da_key i3
  subst ey
  have t4 := Step.write t3.ok hd (m := .dK (putG kvs ks r1)) ⟨_, rfl, rf_putK rf ks (i1.mono (t2.sub.trans t3.sub))⟩
  exact ⟨d, _, i2, DPut.k h1 (by rw [rf_len rf]; exact hz), l.nx _ _ S3 _ _ k (((t1.trans t2).trans t3).trans t4) (A.es.mono ((t1.sub.trans t2.sub).trans t3.sub))⟩⟩
end
end Cw

set_option Elab.async false
set_option linter.all false
set_option maxRecDepth 100000
set_option maxHeartbeats 2000000
/-! Cw, part O: more that is walked; list.index; update. -/
namespace Cw
open PySem PySem.Spec PyProof.Rows L2
/-! ### enumerate(text) -/
def ItsE (x : Str) : It := ⟨fun i _ => i < x.cps.size, fun i H v H' => ∃ T c, v = .ref T ∧ H T = none ∧ H' = upd H T (.tup [.int (i : Nat), .str ⟨#[c]⟩]) ∧ x.cps[i]? = some c, fun i _ => i = x.cps.size⟩
theorem turn_enumS {P : Program} {w : World} {K : PySem.W.Frag} {elts : List Expr} {kk : Nat} {tpos : Pos} (e it : Addr) (x : Str) (t : Tok) (ty : String) (hty : ty = "str_ascii_iterator" ∨ ty = "str_iterator") (hne : e ≠ it) :
    Turn P w K (.Tuple elts kk tpos) (ItsE x) [e, it] e (fun i h => (∃ old, IsEnum h e it ((i : Nat) : Int) old) ∧ h.IsStrIter it ty x t i) where
  mem := by simp
  obj := fun i h st b hb => by
    obtain ⟨⟨old, he⟩, ⟨o, ho, hc, hd⟩⟩ := st
    have e' : b = e ∨ b = it := by simpa using hb
    rcases e' with z | z
    · rw [z]; exact ⟨_, he, fun v q => nomatch q⟩
    · rw [z]; exact ⟨o, ho, fun v q => by rw [hd] at q; cases q⟩
  keep := fun i h h' st k => let ⟨⟨old, he⟩, ⟨o, ho, r⟩⟩ := st; ⟨⟨old, k e (by simp) _ he⟩, ⟨o, k it (by simp) o ho, r⟩⟩
  item := by
    intro X hP hw hK hc i pins s σ H E I hf st hg
    subst hP hw hK
    obtain ⟨⟨old, he⟩, hit⟩ := st
    have D : Draws X.prog X.w X.A.in1 it [it] x.cps.size (SignAt x) (fun i h => h.IsStrIter it ty x t i) := by
      rcases hty with z | z
      · rw [z]; exact Draws.strAscii (show X.A.in1.handled = none from I.ok.hd hc) it x t
      · rw [z]; exact Draws.strWide (show X.A.in1.handled = none from I.ok.hd hc) it x t
    have hel : e < s.heap.objs.size := Heap.lt_size he
    have hil : it < s.heap.objs.size := by obtain ⟨_, q, _⟩ := hit; exact Heap.lt_size q
    refine wpAny_pyNext_enum_itemD D he hit hg hne (by simpa using hne) fun u h' tk hu ho hit' hT hsz hk => ?_
    obtain ⟨c, tu, hcx, rfl⟩ := hu
    refine ⟨_, rfl, wpAny_letOwnedTupleGo_enum (s := { s with heap := h', toks := tk + 1 }) ho fun h'' he' sb => ?_⟩
    have hT2 : h''.get? s.heap.objs.size = some { cls := .type "tuple", data := .seq #[.int i tk, .str ⟨#[c]⟩ tu] } := (sb.2 _ (Nat.ne_of_gt hel)).trans hT
    have new : ObjOk X.prog X.w (upd H s.heap.objs.size (.tup [.int (i : Nat), .str ⟨#[c]⟩])) h'' s.heap.objs.size (.tup [.int (i : Nat), .str ⟨#[c]⟩]) :=
      ⟨by show 2 ≤ sizeLine; decide, [.int i tk, .str ⟨#[c]⟩ tu], .cons ⟨_, rfl⟩ (.cons ⟨_, rfl⟩ .nil), ⟨_, hT2, rfl, _, rfl⟩⟩
    have I1 : Inv X pins σ (upd H s.heap.objs.size (.tup [.int (i : Nat), .str ⟨#[c]⟩])) { s with heap := h'', toks := tk + 1 } :=
      I.turnedNew (ch := [e, it]) (fun b ob hb q => (sb.2 b (fun z => hb (by simp [z]))).trans (hk b ob (fun z => hb (by simp [z])) (fun z => hb (by simp [z])) q)) hf (Nat.le_refl _) new
    refine ⟨.ref s.heap.objs.size, _, I1, rfl, ⟨_, c, rfl, I.hok.fresh (Nat.le_refl _), rfl, hcx⟩, ⟨⟨.str ⟨#[c]⟩ tu, ?_⟩, ?_⟩, fun b hb => ?_⟩
    · have e1 : ((i + 1 : Nat) : Int) = (i : Int) + 1 := by omega
      rw [e1]; exact he'
    · obtain ⟨o, q, r⟩ := hit'
      exact ⟨o, (sb.2 it (Ne.symm hne)).trans q, r⟩
    · have hb' : b < s.heap.objs.size := by
        have e' : b = e ∨ b = it := by simpa using hb
        rcases e' with z | z
        · rw [z]; exact hel
        · rw [z]; exact hil
      rw [upd_ne (Nat.ne_of_lt hb')]
      exact (hf b hb).1
  done := by
    intro X hP hw hK hc i pins s σ H E I hf st hg
    subst hP hw hK
    obtain ⟨⟨old, he⟩, hit⟩ := st
    obtain ⟨f0, f1, f2, f3, f4, f5⟩ := hf it (by simp)
    have hx : i = x.cps.size := hg
    subst hx
    have D : Draws X.prog X.w X.A.in1 it [it] x.cps.size (SignAt x) (fun i h => h.IsStrIter it ty x t i) := by
      rcases hty with z | z
      · rw [z]; exact Draws.strAscii (show X.A.in1.handled = none from I.ok.hd hc) it x t
      · rw [z]; exact Draws.strWide (show X.A.in1.handled = none from I.ok.hd hc) it x t
    exact wpAny_pyNext_enum_endD D he hit fun h' eb => ⟨rfl, I.turned (t' := s.toks) (fun b o hb q => eb b o hb q) f0 f1 f3 f4 f5⟩
  self := fun A i s Q E st h => let ⟨⟨_, he⟩, _⟩ := st; wpAny_pyIter_enum he h
def iEnumS (ta : TA) : TI := fun σ H R => ta σ H fun vs H1 => ∃ x, vs = [.str x] ∧ R (ItsE x) H1
theorem pi_enumS {X : Cx} {e : Expr} {ta : TA} {p pos tpos : Pos} {elts : List Expr} {kk : Nat} (hg : Gl X "enumerate") (hm : X.mg "enumerate" = none) (ha : PA X [e] ta) (hs : starEach [e] X.env = [(false, eval e X.env)] := by rfl) :
    PI X (.Tuple elts kk tpos) (.Call (.Name "enumerate" p) [e] [] pos) (iEnumS ta) := by
  refine ⟨fun pins s σ H R I h => ?_⟩
  refine Call_ (ld_blt I hg hm boot_enumerate (PyProof.Rows.callWith_type1 (thn (ha.run pos pins s σ H _ I h) fun us s1 ⟨vs, H1, I1, r1, q1⟩ => ?_) hs rfl))
  obtain ⟨x, ex, q⟩ := q1
  subst ex
  cases r1 with
  | cons r rr =>
    cases rr
    obtain ⟨t, rfl⟩ := r
    refine call_enumerate_str fun h' he hit hsz hk => wpAny_pyIter_enum he ?_
    have I2 : Inv X pins σ H1 { s1 with heap := h' } := I1.kept (t' := s1.toks) hk
    have hty : strIterType x = "str_ascii_iterator" ∨ strIterType x = "str_iterator" := by
      unfold strIterType
      split
      · exact .inl rfl
      · exact .inr rfl
    refine ⟨s1.heap.objs.size + 1, [s1.heap.objs.size + 1, s1.heap.objs.size], _, _, H1, rfl, I2, turn_enumS (s1.heap.objs.size + 1) s1.heap.objs.size x t _ hty (Nat.succ_ne_self _), ⟨⟨.none, he⟩, hit⟩, fun b hb => ?_, q⟩
    have e' : b = s1.heap.objs.size + 1 ∨ b = s1.heap.objs.size := by simpa using hb
    have hle : s1.heap.objs.size ≤ b := by
      rcases e' with z | z
      · rw [z]; exact Nat.le_add_right _ _
      · rw [z]; exact Nat.le_refl _
    exact I1.fpOk hle (I1.hok.fresh hle)
section
variable {Y : Cm} {ρ : Rho} {L La Lb : Led} {r ra rb : Rv} {e a o : Expr} {pos p apos : Pos}
def enumS (z : Str) : List Yd := z.cps.toList.mapIdx fun i c => .t [.dt (.int (i : Nat)), .dt (.str ⟨#[c]⟩)]
theorem ix_enumS {elts : List Expr} {kk : Nat} {tpos : Pos} {z : Str} (h : AX Y [e] ρ L [.dt (.str z)] La) (hg : Gl Y.X "enumerate") (hm : Y.X.mg "enumerate" = none) (hs : starEach [e] Y.X.env = [(false, eval e Y.X.env)] := by rfl) :
    IX Y (.Tuple elts kk tpos) (.Call (.Name "enumerate" p) [e] [] pos) ρ L (enumS z) anyL La := ⟨fun S σ H A R q => wI.of (pi_enumS hg hm wA.pa hs) (h.run S σ H A _ fun rr L' S1 H1 vs ⟨e1, e2⟩ t ii => by
  subst e1 e2
  obtain ⟨x, rfl, ix⟩ := rvs1 ii
  have ez := Da.strAt ix
  subst ez
  have ln : (enumS z).length = z.cps.size := by unfold enumS; rw [List.length_mapIdx, Array.length_toList]
  refine ⟨z, rfl, q _ _ _ S1 H1 _ ⟨rfl, rfl, rfl⟩ t ⟨fun i S' H L s k hL hl => ?_, fun i S' H L s k hL hl => ?_, fun i S' H L u H' y s k hL hy ⟨T, c, e2, hT, e3, e4⟩ => ?_⟩⟩
  · rw [ln] at hl; exact hl
  · rw [ln] at hl; exact hl
  · subst e2 e3
    refine ⟨Step.dust k hT, ?_⟩
    unfold enumS at hy
    rw [List.getElem?_mapIdx, Array.getElem?_toList, e4] at hy
    cases hy
    exact ⟨T, _, rfl, upd_same, .cons (.int _) (.cons (.str _) .nil)⟩)⟩
/-- a tuple of data, walked -/
theorem ix_tupD {tg : Expr} {ds : List PyData} (h : EX Y e ρ L (.dt (.tuple ds)) La) : IX Y tg e ρ L (ds.map fun d => .r (.dt d)) anyL La := ⟨fun S σ H A R q => wI.of (pi_tup wE.pe) (h.run S σ H A _ fun r L' S1 H1 v ⟨e1, e2⟩ t i => by
  subst e1 e2
  cases i with
  | @tup a xs ds e0 d0 =>
    refine ⟨a, rfl, ⟨xs, SqT.of (t.ok.sub _ _ e0)⟩, q _ _ _ S1 H1 _ ⟨rfl, rfl, rfl⟩ t ⟨fun i S' H L s k _ hl => ?_, fun i S' H L s k _ hl => ?_, fun i S' H L u H' y s k _ hy ⟨e1, e2⟩ => ?_⟩⟩
    · rw [List.length_map] at hl
      obtain ⟨x, hx, _⟩ := pget d0.pd (List.getElem?_eq_getElem hl)
      exact ⟨xs, x, SqT.of (k.sub _ _ (s _ _ e0)), hx⟩
    · rw [List.length_map] at hl
      exact ⟨xs, SqT.of (k.sub _ _ (s _ _ e0)), by rw [d0.len]; omega⟩
    · subst e1
      refine ⟨Step.refl k, ?_⟩
      rw [List.getElem?_map] at hy
      cases hd : ds[i]? with
      | none => rw [hd] at hy; cases hy
      | some d =>
        rw [hd] at hy
        cases hy
        obtain ⟨x, hx, dx⟩ := pget d0.pd hd
        have eu := Option.some.inj ((e2 _ (SqT.of (k.sub _ _ (s _ _ e0)))).symm.trans hx)
        subst eu
        exact dx.mono s)⟩
/-- l.index(e) -/
theorem ex_index {ds : List PyData} {d z : PyData} {j : Nat} (hu : Y.X.A.units + 65 < cLine) (ho : EX Y o ρ L r La) (he : EX Y e ρ La (.dt d) Lb) (hl : DD La r (.list ds)) (hl2 : DD Lb r (.list ds)) (s1 : SeqAt.shaped (.list ds) = true) (s2 : SeqAt.shaped d = true) (hz : ds[j]? = some z) (hq : PyData.eqv z d = true) (hn : ∀ (m : Nat) (z' : PyData), m < j → ds[m]? = some z' → PyData.eqv z' d = false)
    (hbase : attributeBase o "index" Y.X.env (eval o Y.X.env) = eval o Y.X.env := by rfl)
    (hfew : ((backTo pos (starEach (e :: []) Y.X.env)).all (fun x => !x.1) && (backToKw pos (keywordEach [] Y.X.env)).all (fun x => x.1.isSome) && decide ((e :: []).length + ([] : List Keyword).length + (if ([] : List Keyword).isEmpty then 0 else 1) < 30)) = true := by rfl)
    (hline : (apos.endLine == pos.line) = true := by rfl) (hs : starEach (e :: []) Y.X.env = (false, eval e Y.X.env) :: starEach [] Y.X.env := by rfl) (hplain : (backTo pos (starEach [] Y.X.env)).any (·.1) = false := by rfl) :
    EX Y (.Call (.Attribute o "index" apos) [e] [] pos) ρ L (.dt (.int (j : Nat))) Lb := ⟨fun S σ H A Q qq => by
  refine wE.of (pe_bm PySem.F.plainAttrs_list PySem.F.slot_list_index PySem.F.type_list_index (mt_indexD hu) wE.pe (pa_cons wE.pe pa_nil hs) hbase hfew hline hs hplain) (ho.run S σ H A _ fun r1 L1 S1 H1 x ⟨e1, e2⟩ t1 i1 => ?_)
  subst e1 e2
  obtain ⟨rs, lr, _⟩ := hl.lists
  obtain ⟨a, xs, rfl, e1, rv⟩ := LR.at_ lr t1.ok i1
  refine ⟨.inl ⟨rfl, _, SqL.of e1⟩, he.run S1 σ H1 (A.next t1) _ fun r2 L2 S2 H2 v ⟨e1, e2⟩ t2 i2 => ?_⟩
  subst e1 e2
  exact ⟨a, v, d, ds, j, z, rfl, rfl, DD.at_ t2.ok hl2 (i1.mono t2.sub), DD.at_ t2.ok DD.dt i2, s1, s2, hz, hq, hn, qq _ _ S2 H2 _ ⟨rfl, rfl⟩ (t1.trans t2) (.int _)⟩⟩
end
end Cw

set_option Elab.async false
set_option linter.all false
set_option maxRecDepth 100000
set_option maxHeartbeats 2000000
/-! Cw, part P: the hash of a pair. -/
namespace Cw
namespace Hs
abbrev m : Nat := 18446744073709551616
abbrev p1 : Nat := 11400714785074694791
abbrev p2 : Nat := 14029467366897019727
abbrev p5 : Nat := 2870177450012600261
theorem mulInj {x y p q : Nat} (hp : p * q % m = 1) (h : x * p % m = y * p % m) : x % m = y % m := by
  have e : ∀ z : Nat, z % m = z * p % m * q % m := fun z => by
    rw [Nat.mod_mul_mod, Nat.mul_assoc, Nat.mul_mod, hp, Nat.mul_one, Nat.mod_mod]
  rw [e x, e y, h]
def rot (a : Nat) : Nat := a * 2147483648 % m + a / 8589934592
theorem rot_eq (a : Nat) : rot a = a % 8589934592 * 2147483648 + a / 8589934592 := by
  unfold rot
  show a * 2147483648 % 18446744073709551616 + _ = _
  omega
theorem rot_lt {a : Nat} (h : a < m) : rot a < m := by
  rw [rot_eq]
  show _ < 18446744073709551616
  have : a < 18446744073709551616 := h
  omega
theorem rot_inj {a b : Nat} (ha : a < m) (hb : b < m) (h : rot a = rot b) : a = b := by
  rw [rot_eq, rot_eq] at h
  have : a < 18446744073709551616 := ha
  have : b < 18446744073709551616 := hb
  omega
def st (acc x : Nat) : Nat := rot ((acc + x * p2) % m) * p1 % m
theorem st_inj {a x b y : Nat} (h : st a x = st b y) : (a + x * p2) % m = (b + y * p2) % m := by
  unfold st at h
  have h1 := mulInj (q := 614540362697595703) (by decide) h
  rw [Nat.mod_eq_of_lt (rot_lt (Nat.mod_lt _ (by decide))), Nat.mod_eq_of_lt (rot_lt (Nat.mod_lt _ (by decide)))] at h1
  exact rot_inj (Nat.mod_lt _ (by decide)) (Nat.mod_lt _ (by decide)) h1
abbrev c : Nat := 10856659086753211129
def X (δ : Nat) : Nat := δ * c % m
def D (δ κ l : Nat) : Nat := (X δ % 2147483648 * 8589934592 + X δ / 2147483648 + κ + l * 18446744065119617024) % m
def Nn (δ κ l : Nat) : Nat := D δ κ l * 839798700976720815 % m
theorem far : ∀ δ < 8, 0 < δ → ∀ κ < 2, ∀ l < 2, 72057594037927936 ≤ Nn δ κ l ∧ Nn δ κ l ≤ m - 72057594037927936 := by decide +kernel
theorem rot_diff {a b x : Nat} (ha : a < m) (hb : b < m) (hx : x < m) (h : rot a = (rot b + x) % m) : ∃ κ < 2, ∃ l < 2, a = (b + (x % 2147483648 * 8589934592 + x / 2147483648 + κ + l * 18446744065119617024)) % m := by
  rw [rot_eq, rot_eq] at h
  have h1 : a < 18446744073709551616 := ha
  have h2 : b < 18446744073709551616 := hb
  have h3 : x < 18446744073709551616 := hx
  have h' : a % 8589934592 * 2147483648 + a / 8589934592 = (b % 8589934592 * 2147483648 + b / 8589934592 + x) % 18446744073709551616 := h
  obtain ⟨L1, H1, ea, l1, u1⟩ : ∃ L1 H1, a = H1 * 8589934592 + L1 ∧ L1 < 8589934592 ∧ H1 < 2147483648 := ⟨a % 8589934592, a / 8589934592, by omega, by omega, by omega⟩
  obtain ⟨L2, H2, eb, l2, u2⟩ : ∃ L1 H1, b = H1 * 8589934592 + L1 ∧ L1 < 8589934592 ∧ H1 < 2147483648 := ⟨b % 8589934592, b / 8589934592, by omega, by omega, by omega⟩
  obtain ⟨C0, C1, ex, l3, u3⟩ : ∃ L1 H1, x = H1 * 2147483648 + L1 ∧ L1 < 2147483648 ∧ H1 < 8589934592 := ⟨x % 2147483648, x / 2147483648, by omega, by omega, by omega⟩
  have ea1 : a % 8589934592 = L1 := by omega
  have ea2 : a / 8589934592 = H1 := by omega
  have eb1 : b % 8589934592 = L2 := by omega
  have eb2 : b / 8589934592 = H2 := by omega
  have ex1 : x % 2147483648 = C0 := by omega
  have ex2 : x / 2147483648 = C1 := by omega
  rw [ea1, ea2, eb1, eb2, ex] at h'
  rw [ex1, ex2, ea, eb]
  show ∃ κ < 2, ∃ l < 2, _ = (_ + (_ + κ + l * 18446744065119617024)) % 18446744073709551616
  clear ea1 ea2 eb1 eb2 ex1 ex2 h h1 h2 h3 ha hb hx
  by_cases k : H2 + C0 < 2147483648
  · have e1 : H1 = H2 + C0 := by omega
    by_cases q : L2 + C1 < 8589934592
    · have e2 : L1 = L2 + C1 := by omega
      have g : H1 * 8589934592 + L1 = (H2 * 8589934592 + L2 + (C0 * 8589934592 + C1 + 0 + 0 * 18446744065119617024)) % 18446744073709551616 := by
        clear h'
        have e3 : H2 * 8589934592 + L2 + (C0 * 8589934592 + C1 + 0 + 0 * 18446744065119617024) = H1 * 8589934592 + L1 + 0 * 18446744073709551616 := by omega
        have lt : H1 * 8589934592 + L1 < 18446744073709551616 := by omega
        rw [e3, Nat.add_mul_mod_self_right, Nat.mod_eq_of_lt lt]
      exact ⟨0, by decide, 0, by decide, g⟩
    · have e2 : L1 + 8589934592 = L2 + C1 := by omega
      have g : H1 * 8589934592 + L1 = (H2 * 8589934592 + L2 + (C0 * 8589934592 + C1 + 0 + 1 * 18446744065119617024)) % 18446744073709551616 := by
        clear h'
        have hK : (18446744065119617024 : Nat) + 8589934592 = 18446744073709551616 := rfl
        have e3 : H2 * 8589934592 + L2 + (C0 * 8589934592 + C1 + 0 + 1 * 18446744065119617024) = H1 * 8589934592 + L1 + 1 * 18446744073709551616 := by
          generalize (18446744065119617024 : Nat) = K at *
          omega
        have lt : H1 * 8589934592 + L1 < 18446744073709551616 := by omega
        rw [e3, Nat.add_mul_mod_self_right, Nat.mod_eq_of_lt lt]
      exact ⟨0, by decide, 1, by decide, g⟩
  · have e1 : H1 + 2147483648 = H2 + C0 := by omega
    by_cases q : L2 + C1 + 1 < 8589934592
    · have e2 : L1 = L2 + C1 + 1 := by omega
      have g : H1 * 8589934592 + L1 = (H2 * 8589934592 + L2 + (C0 * 8589934592 + C1 + 1 + 0 * 18446744065119617024)) % 18446744073709551616 := by
        clear h'
        have e3 : H2 * 8589934592 + L2 + (C0 * 8589934592 + C1 + 1 + 0 * 18446744065119617024) = H1 * 8589934592 + L1 + 1 * 18446744073709551616 := by omega
        have lt : H1 * 8589934592 + L1 < 18446744073709551616 := by omega
        rw [e3, Nat.add_mul_mod_self_right, Nat.mod_eq_of_lt lt]
      exact ⟨1, by decide, 0, by decide, g⟩
    · have e2 : L1 + 8589934592 = L2 + C1 + 1 := by omega
      have g : H1 * 8589934592 + L1 = (H2 * 8589934592 + L2 + (C0 * 8589934592 + C1 + 1 + 1 * 18446744065119617024)) % 18446744073709551616 := by
        clear h'
        have hK : (18446744065119617024 : Nat) + 8589934592 = 18446744073709551616 := rfl
        have e3 : H2 * 8589934592 + L2 + (C0 * 8589934592 + C1 + 1 + 1 * 18446744065119617024) = H1 * 8589934592 + L1 + 2 * 18446744073709551616 := by
          generalize (18446744065119617024 : Nat) = K at *
          omega
        have lt : H1 * 8589934592 + L1 < 18446744073709551616 := by omega
        rw [e3, Nat.add_mul_mod_self_right, Nat.mod_eq_of_lt lt]
      exact ⟨1, by decide, 1, by decide, g⟩
theorem addInj {a b : Nat} (h : (p5 + a) % m = (p5 + b) % m) : a % m = b % m := by
  have h' : (2870177450012600261 + a) % 18446744073709551616 = (2870177450012600261 + b) % 18446744073709551616 := h
  show a % 18446744073709551616 = b % 18446744073709551616
  omega
theorem key_lt {n r n' δ : Nat} (hn : n < 72057594037927936) (hn' : n' < 72057594037927936) (h0 : 0 < δ) (h8 : δ < 8) (h : st (st p5 n) r = st (st p5 n') (r + δ)) : False := by
  have h1 := st_inj h
  -- without r
  have h2 : st p5 n % m = (st p5 n' + δ * p2) % m := by
    have e : st p5 n' + (r + δ) * p2 = st p5 n' + δ * p2 + r * p2 := by rw [Nat.add_mul]; omega
    rw [e] at h1
    have h1' : (st p5 n + r * p2) % 18446744073709551616 = (st p5 n' + δ * p2 + r * p2) % 18446744073709551616 := h1
    show _ % 18446744073709551616 = _ % 18446744073709551616
    omega
  have h3 : rot ((p5 + n * p2) % m) * p1 % m = (rot ((p5 + n' * p2) % m) + δ * c) * p1 % m := by
    have e1 : st p5 n % m = rot ((p5 + n * p2) % m) * p1 % m := Nat.mod_mod _ _
    rw [e1] at h2
    rw [h2, Nat.add_mul, Nat.mul_assoc δ, Nat.add_mod, Nat.add_mod (_ * p1)]
    have e2 : δ * p2 % m = δ * (c * p1) % m := by
      rw [Nat.mul_mod, Nat.mul_mod δ (c * p1)]
      exact congrArg (fun z => δ % m * z % m) (by decide : p2 % m = c * p1 % m)
    rw [e2]
    exact congrArg (fun z => (z + δ * (c * p1) % m) % m) (Nat.mod_mod _ _)
  have h4 := mulInj (q := 614540362697595703) (by decide) h3
  rw [Nat.mod_eq_of_lt (rot_lt (Nat.mod_lt _ (by decide)))] at h4
  have h5 : rot ((p5 + n * p2) % m) = (rot ((p5 + n' * p2) % m) + X δ) % m := by
    rw [h4]
    unfold X
    rw [Nat.add_mod_mod]
  obtain ⟨κ, hκ, l, hl, e⟩ := rot_diff (x := X δ) (Nat.mod_lt _ (by decide)) (Nat.mod_lt _ (by decide)) (Nat.mod_lt _ (by decide)) h5
  have h6 : (p5 + n * p2) % m = (p5 + (n' * p2 + D δ κ l)) % m := by
    have e6 : ∀ a b d : Nat, (a + (b + d % 18446744073709551616)) % 18446744073709551616 = (a + b + d) % 18446744073709551616 := fun a b d => by omega
    rw [e, Nat.mod_add_mod]
    exact (e6 _ _ _).symm
  have h7 := addInj h6
  have h8' : n * p2 % m = (n' + Nn δ κ l) * p2 % m := by
    rw [h7, Nat.add_mul, Nat.add_mod, Nat.add_mod (n' * p2)]
    have e3 : D δ κ l % m = Nn δ κ l * p2 % m := by
      unfold Nn
      rw [Nat.mod_mul_mod, Nat.mul_assoc, Nat.mul_mod]
      rw [show 839798700976720815 * p2 % m = 1 from by decide, Nat.mul_one, Nat.mod_mod]
    rw [e3]
  have h9 := mulInj (q := 839798700976720815) (by decide) h8'
  have hf := far δ h8 h0 κ hκ l hl
  have h9' : n % 18446744073709551616 = (n' + Nn δ κ l) % 18446744073709551616 := h9
  have hf1 : 72057594037927936 ≤ Nn δ κ l := hf.1
  have hf2 : Nn δ κ l ≤ 18446744073709551616 - 72057594037927936 := hf.2
  omega
theorem key_md {n r n' : Nat} (h : st (st p5 n) r = st (st p5 n') r) : n % m = n' % m := by
  have h1 := st_inj h
  have h2 : st p5 n % m = st p5 n' % m := by
    have h1' : (st p5 n + r * p2) % 18446744073709551616 = (st p5 n' + r * p2) % 18446744073709551616 := h1
    show _ % 18446744073709551616 = _ % 18446744073709551616
    omega
  have h3 : st p5 n = st p5 n' := by
    have e : ∀ a, st p5 a % m = st p5 a := fun a => Nat.mod_mod _ _
    rwa [e, e] at h2
  exact mulInj (q := 839798700976720815) (by decide) (addInj (st_inj h3))
theorem key_eq {n r n' : Nat} (hn : n < 72057594037927936) (hn' : n' < 72057594037927936) (h : st (st p5 n) r = st (st p5 n') r) : n = n' := by
  have h5 : n % 18446744073709551616 = n' % 18446744073709551616 := key_md h
  omega
theorem key_inj {n r n' r' : Nat} (hn : n < 72057594037927936) (hn' : n' < 72057594037927936) (hr : r < 8) (hr' : r' < 8) (h : st (st p5 n) r = st (st p5 n') r') : n = n' ∧ r = r' := by
  rcases Nat.lt_trichotomy r r' with z | z | z
  · obtain ⟨δ, rfl⟩ : ∃ δ, r' = r + δ := ⟨r' - r, by omega⟩
    exact (key_lt hn hn' (by omega) (by omega) h).elim
  · subst z
    exact ⟨key_eq hn hn' h, rfl⟩
  · obtain ⟨δ, rfl⟩ : ∃ δ, r = r' + δ := ⟨r - r', by omega⟩
    exact (key_lt hn' hn (by omega) (by omega) h.symm).elim
def nr (r : Nat) : Nat := [926380684836714815, 9962449988651685877, 551775218757105323, 5497969310511401394, 14534038614326372456, 1873287333347837726, 10909356637162808788, 1498681867268228234].getD r 0
theorem nr_spec : ∀ r < 8, st (st p5 (nr r)) r = 15576566623696079691 ∧ 72057594037927936 ≤ nr r ∧ nr r < m := by decide +kernel
theorem no_last {n r : Nat} (hn : n < 72057594037927936) (hr : r < 8) : (st (st p5 n) r + 2870177450013471924) % m ≠ 18446744073709551615 := fun h => by
  obtain ⟨e, lo, hi⟩ := nr_spec r hr
  have hlt : st (st p5 n) r < 18446744073709551616 := Nat.mod_lt _ (by decide)
  have h' : (st (st p5 n) r + 2870177450013471924) % 18446744073709551616 = 18446744073709551615 := h
  have e2 : st (st p5 n) r = 15576566623696079691 := by omega
  have h5 : n % 18446744073709551616 = nr r % 18446744073709551616 := key_md (e2.trans e.symm)
  have hi' : nr r < 18446744073709551616 := hi
  omega
def out (acc : Nat) : Int := if (acc + 2870177450013471924) % m == m - 1 then 1546275796 else if (acc + 2870177450013471924) % m < 2 ^ 63 then (((acc + 2870177450013471924) % m : Nat) : Int) else (((acc + 2870177450013471924) % m : Nat) : Int) - (m : Nat)
theorem out_inj {a b : Nat} (ha : a < m) (hb : b < m) (na : (a + 2870177450013471924) % m ≠ 18446744073709551615) (nb : (b + 2870177450013471924) % m ≠ 18446744073709551615) (h : out a = out b) : a = b := by
  unfold out at h
  have e1 : ((a + 2870177450013471924) % m == m - 1) = false := beq_eq_false_iff_ne.mpr na
  have e2 : ((b + 2870177450013471924) % m == m - 1) = false := beq_eq_false_iff_ne.mpr nb
  rw [e1, e2, if_neg Bool.false_ne_true, if_neg Bool.false_ne_true] at h
  have h1 : (a + 2870177450013471924) % 18446744073709551616 < 18446744073709551616 := Nat.mod_lt _ (by decide)
  have h2 : (b + 2870177450013471924) % 18446744073709551616 < 18446744073709551616 := Nat.mod_lt _ (by decide)
  have e : (a + 2870177450013471924) % 18446744073709551616 = (b + 2870177450013471924) % 18446744073709551616 := by
    generalize (a + 2870177450013471924) % m = u at *
    generalize (b + 2870177450013471924) % m = v at *
    have hm : ((m : Nat) : Int) = 18446744073709551616 := rfl
    rw [hm] at h
    split at h <;> split at h <;> omega
  have ha' : a < 18446744073709551616 := ha
  have hb' : b < 18446744073709551616 := hb
  omega
end Hs
open PySem PySem.Spec PyProof.Rows L2
end Cw

set_option Elab.async false
set_option linter.all false
set_option maxRecDepth 100000
set_option maxHeartbeats 2000000
namespace Cw
open PySem PySem.Spec PyProof.Rows L2
theorem hashInt_small {n : Nat} (h : n < 72057594037927936) : hashInt (n : Int) = n := by
  have h1 : n % (2 ^ 61 - 1) = n := Nat.mod_eq_of_lt (by omega)
  have e : rawHash (n : Int) = n := by
    unfold rawHash
    rw [Int.natAbs_natCast]
    have h0 : ¬ ((n : Int) < 0) := by omega
    simp only [if_neg h0]
    have h2 : ((n : Int) % ((2 ^ 61 - 1 : Nat) : Int)) = n := by
      rw [← Int.natCast_emod, h1]
    rw [h2, if_neg (by simp)]
  unfold hashInt
  rw [e, if_neg (by simp)]
/-- the model's hash of a tuple, its numbers as variables -/
def thG (m p1 p2 p5 e31 e33 e63 cx sp : Nat) (hs : List Int) : Int :=
  let acc := hs.foldl (init := p5) fun acc h =>
    let acc := (acc + (h % (m : Int)).toNat * p2) % m
    let acc := (acc * e31) % m + acc / e33
    (acc * p1) % m
  let acc := (acc + (hs.length ^^^ (p5 ^^^ cx))) % m
  if acc == m - 1 then (sp : Int) else if acc < e63 then acc else (acc : Int) - m
theorem th_eq (hs : List Int) : Builtin.Tuple.tupleHashOf hs = thG (2 ^ 64) 11400714785074694791 14029467366897019727 2870177450012600261 (2 ^ 31) (2 ^ 33) (2 ^ 63) 3527539 1546275796 hs := rfl
def stG (m p1 p2 e31 e33 : Nat) (acc : Nat) (h : Int) : Nat := (((acc + (h % (m : Int)).toNat * p2) % m * e31) % m + (acc + (h % (m : Int)).toNat * p2) % m / e33) * p1 % m
def outG (m e63 x sp : Nat) (acc : Nat) : Int := if (acc + x) % m == m - 1 then (sp : Int) else if (acc + x) % m < e63 then (((acc + x) % m : Nat) : Int) else (((acc + x) % m : Nat) : Int) - m
theorem thG_two (m p1 p2 p5 e31 e33 e63 cx sp : Nat) (a b : Int) : thG m p1 p2 p5 e31 e33 e63 cx sp [a, b] = outG m e63 (2 ^^^ (p5 ^^^ cx)) sp (stG m p1 p2 e31 e33 (stG m p1 p2 e31 e33 p5 a) b) := rfl
theorem th_two (a b : Int) : Builtin.Tuple.tupleHashOf [a, b] = outG 18446744073709551616 9223372036854775808 2870177450013471924 1546275796 (stG 18446744073709551616 11400714785074694791 14029467366897019727 2147483648 8589934592 (stG 18446744073709551616 11400714785074694791 14029467366897019727 2147483648 8589934592 2870177450012600261 a) b) := by
  rw [th_eq, thG_two, show (2 : Nat) ^ 64 = 18446744073709551616 by decide, show (2 : Nat) ^ 31 = 2147483648 by decide, show (2 : Nat) ^ 33 = 8589934592 by decide, show (2 : Nat) ^ 63 = 9223372036854775808 by decide, show (2 : Nat) ^^^ (2870177450012600261 ^^^ 3527539) = 2870177450013471924 by decide]
theorem toN (x m : Nat) (h : x < m) : ((x : Int) % (m : Int)).toNat = x := by
  rw [← Int.natCast_emod, Nat.mod_eq_of_lt h, Int.toNat_natCast]
theorem stG_nat (m p1 p2 e31 e33 acc x : Nat) (h : x < m) : stG m p1 p2 e31 e33 acc (x : Int) = (((acc + x * p2) % m * e31) % m + (acc + x * p2) % m / e33) * p1 % m := by
  unfold stG
  rw [toN x m h]
theorem st_is (acc x : Nat) (h : x < 72057594037927936) : stG 18446744073709551616 11400714785074694791 14029467366897019727 2147483648 8589934592 acc (x : Int) = Hs.st acc x := by
  rw [stG_nat _ _ _ _ _ _ _ (by omega)]
  rfl
theorem out_is (acc : Nat) : outG 18446744073709551616 9223372036854775808 2870177450013471924 1546275796 acc = Hs.out acc := by
  have e : (2 : Nat) ^ 63 = 9223372036854775808 := by decide
  unfold Hs.out
  rw [e]
  rfl
theorem pair_hash {prog : Program} {w : World} {n r : Nat} (hn : n < 72057594037927936) (hr : r < 72057594037927936) : Builtin.Tuple.tupleHashOf ([Sum.inl (n : Int), Sum.inl (r : Int)].map (mixKind prog w).hash) = Hs.out (Hs.st (Hs.st Hs.p5 n) r) := by
  have e : [Sum.inl (n : Int), Sum.inl (r : Int)].map (mixKind prog w).hash = [hashInt (n : Int), hashInt (r : Int)] := rfl
  rw [e, hashInt_small hn, hashInt_small hr, th_two, st_is _ _ hr, show (2870177450012600261 : Nat) = Hs.p5 from rfl, st_is _ _ hn, out_is]
theorem out_range (a : Nat) : -(2 ^ 63) ≤ Hs.out a ∧ Hs.out a < 2 ^ 63 ∧ Hs.out a ≠ -1 := by
  have h1 : (a + 2870177450013471924) % 18446744073709551616 < 18446744073709551616 := Nat.mod_lt _ (by decide)
  have hm : ((Hs.m : Nat) : Int) = 18446744073709551616 := rfl
  unfold Hs.out
  rw [hm]
  generalize hu : (a + 2870177450013471924) % Hs.m = u
  have hu' : u < 18446744073709551616 := by rw [← hu]; exact h1
  split
  · omega
  · rename_i z
    have z2 : u ≠ 18446744073709551615 := fun e => z (by rw [e]; rfl)
    split <;> omega
theorem red_id {i : Int} (h : -(2 ^ 63) ≤ i ∧ i < 2 ^ 63 ∧ i ≠ -1) : reduceHash i = i := by
  unfold reduceHash
  have e1 : (decide (-(2 ^ 63 : Int) ≤ i) && decide (i < 2 ^ 63)) = true := by rw [decide_eq_true h.1, decide_eq_true h.2.1]; rfl
  rw [if_pos e1, if_neg (by simpa using h.2.2)]
/-- a pair whose hash tells it -/
def PairK (k : List Key) : Prop := ∃ n r : Nat, k = [.inl (n : Int), .inl (r : Int)] ∧ n < 72057594037927936 ∧ r < 8
theorem pairK_inj {prog : Program} {w : World} {k k' : List Key} (h : PairK k) (h' : PairK k') (e : tupleKeyHash (mixKind prog w) k = tupleKeyHash (mixKind prog w) k') : k = k' := by
  obtain ⟨n, r, rfl, hn, hr⟩ := h
  obtain ⟨n', r', rfl, hn', hr'⟩ := h'
  unfold tupleKeyHash at e
  rw [pair_hash hn (by omega), pair_hash hn' (by omega), red_id (out_range _), red_id (out_range _)] at e
  have e2 := Hs.out_inj (Nat.mod_lt _ (by decide)) (Nat.mod_lt _ (by decide)) (Hs.no_last hn hr) (Hs.no_last hn' hr') e
  obtain ⟨rfl, rfl⟩ := Hs.key_inj hn hn' hr hr' e2
  rfl
theorem hash_nodup {β : Type} {prog : Program} {w : World} : ∀ {kvs : List (List Key × β)}, (kvs.map (·.1)).Nodup → (∀ k ∈ kvs.map (·.1), PairK k) → (kvs.map fun x => tupleKeyHash (mixKind prog w) x.1).Nodup
  | [], _, _ => List.nodup_nil
  | p :: r, h, hk => by
    rw [List.map_cons, List.nodup_cons] at h ⊢
    refine ⟨fun z => ?_, hash_nodup h.2 fun k z => hk k (by rw [List.map_cons]; exact List.mem_cons_of_mem _ z)⟩
    obtain ⟨q, hq, e⟩ := List.mem_map.mp z
    have e2 := pairK_inj (hk q.1 (by rw [List.map_cons]; exact List.mem_cons_of_mem _ (List.mem_map.mpr ⟨q, hq, rfl⟩))) (hk p.1 (by rw [List.map_cons]; exact List.mem_cons_self)) e
    exact h.1 (List.mem_map.mpr ⟨q, hq, e2⟩)
end Cw

set_option Elab.async false
set_option linter.all false
set_option maxRecDepth 100000
set_option maxHeartbeats 2000000
/-! Cw, part R: d.update({k: True for ..}). -/
namespace Cw
open PySem PySem.Spec PyProof.Rows L2
section
variable {S H S1 H1 S2 H2 : Hp} {L L' : Led} {p : Addr} {o : HO} {m : MO}
/-- a thing that no ledger knows is written -/
theorem Step.mut (t : Step S H L S2 H2 L') (h : H p = none) (s : S2 p = none) (l : L' p = none) : Step S H L S2 (upd H2 p o) L' := ⟨t.sub, ⟨t.ok.sub.mut s, fun a m e => by
  obtain ⟨h1, o, h2, h3⟩ := t.ok.led a m e
  have ne : a ≠ p := fun z => by rw [z, l] at e; cases e
  exact ⟨h1, o, by rw [upd_ne ne]; exact h2, h3⟩⟩, (fun a o e n => by rw [upd_ne (ne_of_none e h)]; exact t.fr a o e n), t.nw, t.ns⟩
/-- and known from now on -/
theorem Step.track (t : Step S H L S2 H2 L') (h : L p = none → H p = none) (e : H2 p = some o) (s : S2 p = none) (i : m.is S2 o) (l : L' p = none) : Step S H L S2 H2 (updL L' p m) := ⟨t.sub, ⟨t.ok.sub, fun a m' ea => by
  by_cases ha : a = p
  · subst ha
    rw [updL_same] at ea
    cases ea
    exact ⟨s, _, e, i⟩
  · rw [updL_ne ha] at ea
    exact t.ok.led a m' ea⟩, t.fr, (fun a m' ea n => by
  by_cases ha : a = p
  · subst ha
    exact h n
  · rw [updL_ne ha] at ea
    exact t.nw a m' ea n), t.ns⟩
end
theorem putK_eq {κ : Type} [DecidableEq κ] (kvs : List (κ × V)) (k : κ) (v : V) : putK kvs k v = putG kvs k v := rfl
theorem rf_keys {κ : Type} [DecidableEq κ] {S : Hp} {r : Rv} {v : V} (i : r.is S v) : ∀ (ks : List κ) {rs : List (κ × Rv)} {gs : List (κ × V)}, RF S rs gs → RF S (ks.foldl (fun acc k => putG acc k r) rs) (ks.foldl (fun acc k => putG acc k v) gs)
  | [], _, _, h => h
  | k :: ks, _, _, h => rf_keys i ks (rf_putK h k i)
abbrev tru : Rv := .dt (.bool true)
section
variable {Y : Cm} {ρ : Rho} {L La : Led} {kx vx tg iter o e : Expr} {scope : Scope} {own : List (Str × Nat)} {pos apos : Pos} {ys : List Yd} {P : Led → Prop} {tgt : Tg} {K : Rv → Led → Prop}
/-- {k: True for tg in iter}, its keys tuples, without effect -/
theorem me_dcT (g : Yd → List Key) (hu : Y.X.A.units + 1 < cLine) (hc : Y.X.calm = true) (hN : Y.X.N.Nodup) (hi : IX Y tg iter ρ L ys P La) (hP : P La) (ok : BlkOk Y.X.N Y.X.env.scope scope own) (hsl : tgt.slots = own.map (·.2)) (hg : ∀ s H C cl fp, PG (Y.X.blk s H scope (compEnvC scope cl C Y.X.env) fp) tg (gTg Y.X.K tgt)) (hz : ys.length < sizeLine)
    (hs : ∀ (i : Nat) y, ys[i]? = some y → ∃ ρ', setT tgt y (wipeR ρ (own.map (·.2))) = some ρ' ∧ (∀ s H C cl fp, EX (yB Y s H scope cl C fp) kx ρ' La (.dt (.tuple ((g y).map kD))) La) ∧ ∀ s H C cl fp, EX (yB Y s H scope cl C fp) vx ρ' La tru La)
    (k : ∀ D, La D = none → K (.vl (.ref D)) (updL La D (.dT (ofKeys tru (ys.map g))))) (hf : ∀ x, foldedSetIterable iter Y.X.env x = pure x := by intro _; rfl) : ME Y (.DictComp kx vx [⟨tg, iter, [], 0⟩] scope pos) ρ L K := ⟨fun S σ H A Q q => by
  refine wE.of (pe_dt (tk := uE Y scope kx) (tv := uE Y scope vx) hu hc hN wI.pi ok hg (fun s H C cl fp => ⟨fun pins s' σ H' Q I h => h s H C cl fp pins s' I⟩) (fun s H C cl fp => ⟨fun pins s' σ H' Q I h => h s H C cl fp pins s' I⟩) hf) ?_
  refine hi.run S σ H A _ fun ys' P' L1 S1 H1 J ⟨e1, e2, e3⟩ t1 yl => ?_
  subst e1 e2 e3
  intro D hD
  have sD : S1 D = none := t1.ok.sub.none hD
  have lD : L1 D = none := t1.ok.free hD
  have hD0 : L D = none → H D = none := fun n => by
    cases z : H D with
    | none => rfl
    | some o =>
      have := t1.fr D o z n
      rw [hD] at this
      cases this
  refine ⟨fun i m H' => m = ys'.length - i ∧ i ≤ ys'.length ∧ ∃ S', Step S1 H1 L1 S' H' L1 ∧ H' D = some (.dT (ofKeys (V.bl true) ((ys'.take i).map g))) ∧ S' D = none, ⟨_, rfl, Nat.zero_le _, S1, Step.dust t1.ok hD, upd_same, sD⟩, ?_⟩
  rintro i m H2 ⟨rfl, hle, S2, t2, d2, s2⟩
  by_cases hlt : i < ys'.length
  · refine .inr ⟨yl.go i S2 H2 L1 t2.sub t2.ok hP hlt, fun H' => ∃ S', Step S1 H1 L1 S' H' L1 ∧ H' D = some (.dT (ofKeys (V.bl true) ((ys'.take (i + 1)).map g))) ∧ S' D = none, fun H' n => ⟨_, by omega, rfl, hlt, n⟩, fun u H3 hy => ?_⟩
    obtain ⟨y, ey⟩ : ∃ y, ys'[i]? = some y := ⟨_, List.getElem?_eq_getElem hlt⟩
    obtain ⟨t3, iy⟩ := yl.yld i S2 H2 L1 u H3 y t2.sub t2.ok hP ey hy
    obtain ⟨ρ3, e3, hk, hv⟩ := hs i y ey
    have es2 : Es S2 (wipe σ (own.map (·.2))) (wipeR ρ (own.map (·.2))) := (A.es.mono (t1.trans t2).sub).wipe _
    have keep : ∀ {S5 H5}, Step S2 H3 L1 S5 H5 L1 → H5 D = some (.dT (ofKeys (V.bl true) ((ys'.take i).map g))) ∧ S5 D = none := fun {S5 H5} t5 => by
      have d3 := t3.fr D _ d2 lD
      refine ⟨t5.fr D _ d3 lD, ?_⟩
      cases z : S5 D with
      | none => rfl
      | some o =>
        have := t5.ns D o z s2 lD
        rw [d3] at this
        cases this
    refine gTg_ok t3.ok.sub iy e3 es2 fun σ4 es4 bt => ⟨?_, ?_⟩
    · rw [hsl] at bt
      exact But.wipeL bt
    · intro s0 H0 C cl fp
      refine (hk s0 H0 C cl fp).run S2 σ4 H3 ⟨t3.ok, es4, fun _ _ _ _ _ _ z => z.elim⟩ _ fun r L5 S5 H5 v ⟨e5, e6⟩ t5 i5 => ?_
      subst e5 e6
      intro s0' H0' C' cl' fp'
      refine (hv s0' H0' C' cl' fp').run S5 σ4 H5 ⟨t5.ok, es4.mono t5.sub, fun _ _ _ _ _ _ z => z.elim⟩ _ fun r L6 S6 H6 v6 ⟨e5, e6⟩ t6 i6 => ?_
      subst e5 e6
      obtain ⟨b, rfl, hb⟩ := da_tkey i5
      have ev : v6 = V.bl true := Da.blAt i6
      subst ev
      obtain ⟨d6, s6⟩ := keep (t5.trans t6)
      have hl := ofKeys_len (V.bl true) ((ys'.take i).map g)
      rw [List.length_map, List.length_take] at hl
      refine ⟨_, g y, b, rfl, t6.ok.sub _ _ (t6.sub _ _ hb), d6, by omega, S6, Step.mut ((t2.trans t3).trans (t5.trans t6)) hD s6 lD, ?_, s6⟩
      rw [upd_same, take_snoc ey, List.map_append, putK_eq]
      exact congrArg (fun z => some (HO.dT z)) (ofKeys_snoc _ _ _).symm
  · have e : i = ys'.length := by omega
    subst e
    rw [List.take_length] at d2
    have i2 : MO.is S2 (.dT (ofKeys tru (ys'.map g))) (.dT (ofKeys (V.bl true) (ys'.map g))) := ⟨_, rfl, rf_keys (r := tru) (v := V.bl true) (Da.bl true) _ .nil⟩
    exact .inl ⟨yl.stop _ S2 H2 L1 t2.sub t2.ok hP rfl, q _ _ S2 H2 _ (k D lD) (Step.track (t1.trans t2) hD0 d2 s2 i2 lD) rfl⟩⟩
def rUpdT (prog : Program) (w : World) : V → List V → Hp → VK → Prop := fun x xs H Q => ∃ a b kvs more, x = V.ref a ∧ xs = [V.ref b] ∧ H a = some (.dT kvs) ∧ H b = some (.dT more) ∧ a ≠ b ∧ kvs.length + more.length ≤ sizeLine ∧ (more.map fun x => tupleKeyHash (mixKind prog w) x.1).Nodup ∧ Q .non (upd H a (.dT (mergeT kvs more putK)))
theorem mt_updT {X : Cx} (hu : X.A.units + 2 < cLine) : MtR X "dict.update" (rUpdT X.prog X.w) := by
  intro pins s σ H x xs v us Q I rx rxs h
  obtain ⟨a, b, kvs, more, rfl, rfl, ha, hb, ne, hz, hn, q⟩ := h
  obtain rfl : v = Value.ref a := rx
  obtain rfl := Vals.ref1 rxs
  exact upd_dict hu I ha hb ne hz hn fun s' I' => ⟨.non, _, I', rfl, q⟩
theorem rf_fst {S : Hp} {κ : Type} {rs : List (κ × Rv)} {gs : List (κ × V)} (h : RF S rs gs) : gs.map (·.1) = rs.map (·.1) := by
  induction h with
  | nil => rfl
  | cons hq _ ih => rw [List.map_cons, List.map_cons, ih, hq.1]
/-- o.update(e) -/
theorem me_updT {d : Addr} {kvs0 : List (List Key × Rv)} (hu : Y.X.A.units + 2 < cLine) (ho : EX Y o ρ L (.vl (.ref d)) La) (h0 : La d = some (.dT kvs0)) (he : ME Y e ρ La fun r Lb => ∃ b kvs more, r = .vl (.ref b) ∧ Lb d = some (.dT kvs) ∧ Lb b = some (.dT more) ∧ d ≠ b ∧ kvs.length + more.length ≤ sizeLine ∧ (more.map (·.1)).Nodup ∧ (∀ k ∈ more.map (·.1), PairK k) ∧ K (.dt .none) (updL Lb d (.dT (mergeG kvs more))))
    (hbase : attributeBase o "update" Y.X.env (eval o Y.X.env) = eval o Y.X.env := by rfl)
    (hfew : ((backTo pos (starEach (e :: []) Y.X.env)).all (fun x => !x.1) && (backToKw pos (keywordEach [] Y.X.env)).all (fun x => x.1.isSome) && decide ((e :: []).length + ([] : List Keyword).length + (if ([] : List Keyword).isEmpty then 0 else 1) < 30)) = true := by rfl)
    (hline : (apos.endLine == pos.line) = true := by rfl) (hs : starEach (e :: []) Y.X.env = (false, eval e Y.X.env) :: starEach [] Y.X.env := by rfl) (hplain : (backTo pos (starEach [] Y.X.env)).any (·.1) = false := by rfl) :
    ME Y (.Call (.Attribute o "update" apos) [e] [] pos) ρ L K := ⟨fun S σ H A Q qq => by
  refine wE.of (pe_bm PySem.F.plainAttrs_dict PySem.F.slot_dict_update PySem.F.type_dict_update (mt_updT hu) wE.pe (pa_cons wE.pe pa_nil hs) hbase hfew hline hs hplain) (ho.run S σ H A _ fun r1 L1' S1 H1 x ⟨e1, e2⟩ t1 i1 => ?_)
  subst e1 e2
  have ex : x = .ref d := i1
  subst ex
  obtain ⟨_, ob, h1, gs0, rfl, _⟩ := t1.ok.led _ _ h0
  refine ⟨.inr (.inr (.inl ⟨rfl, .inr ⟨_, h1⟩⟩)), he.run S1 σ H1 (A.next t1) _ fun r Lb S2 H2 v ⟨b, kvs, more, er, hd, hb, ne, hz, hn, hp, k⟩ t2 i2 => ?_⟩
  subst er
  have ev : v = .ref b := i2
  subst ev
  obtain ⟨_, ob1, h2, gs, rfl, rf1⟩ := t2.ok.led _ _ hd
  obtain ⟨_, ob2, h3, gm, rfl, rf2⟩ := t2.ok.led _ _ hb
  have hf := rf_fst rf2
  refine ⟨d, b, gs, gm, rfl, rfl, h2, h3, ne, by rw [rf_len rf1, rf_len rf2]; exact hz, hash_nodup (by rw [hf]; exact hn) (by rw [hf]; exact hp), ?_⟩
  exact qq _ _ S2 _ _ k ((t1.trans t2).trans (Step.write t2.ok hd ⟨_, rfl, rf_merge rf2 rf1⟩)) .non⟩
end
end Cw

set_option Elab.async false
set_option linter.all false
set_option maxRecDepth 100000
set_option maxHeartbeats 2000000
/-! Cw, part S: lists of lists that nobody changes any more. -/
namespace Cw
open PySem PySem.Spec PyProof.Rows L2
/-- DD, its lists those of U -/
inductive DU (L : Led) (U : Addr → Prop) : Rv → PyData → Prop
  | dt {d : PyData} : DU L U (.dt d) d
  | lst {p : Addr} {rs : List Rv} {ds : List PyData} : L p = some (.lst rs) → U p → rs.length = ds.length → (∀ (i : Nat) r d, rs[i]? = some r → ds[i]? = some d → DU L U r d) → DU L U (.vl (.ref p)) (.list ds)
theorem paired_of {α β : Type} {F : α → β → Prop} : ∀ {xs : List α} {ys : List β}, xs.length = ys.length → (∀ (i : Nat) x y, xs[i]? = some x → ys[i]? = some y → F x y) → Paired F xs ys
  | [], [], _, _ => .nil
  | x :: xs, y :: ys, h, k => .cons (k 0 x y rfl rfl) (paired_of (Nat.succ.inj h) fun i a b e1 e2 => k (i + 1) a b e1 e2)
section
variable {S H : Hp} {L L0 : Led} {U : Addr → Prop}
open Classical in
noncomputable def stl (S H : Hp) (U : Addr → Prop) : Hp := fun b => match S b with
  | some o => some o
  | none => if U b then H b else none
theorem stl_sub : Sub S (stl S H U) := fun b o e => by
  unfold stl
  rw [e]
theorem stl_at {b : Addr} (h : S b = none) (u : U b) : stl S H U b = H b := by
  unfold stl
  rw [h]
  exact if_pos u
open Classical in
theorem stl_in {b : Addr} {o : HO} (e : stl S H U b = some o) : S b = some o ∨ (S b = none ∧ U b ∧ H b = some o) := by
  unfold stl at e
  cases z : S b with
  | some o' => rw [z] at e; exact .inl e
  | none =>
    rw [z] at e
    by_cases u : U b
    · exact .inr ⟨rfl, u, by rw [← e]; exact (if_pos u).symm⟩
    · rw [show (if U b then H b else none) = none from if_neg u] at e
      cases e
theorem DU.da (k : Ok S H L) {r : Rv} {d : PyData} (h : DU L U r d) : ∀ {v : V}, r.is S v → Da (stl S H U) v d := by
  induction h with
  | dt => exact fun i => Da.mono stl_sub i
  | @lst p rs ds e u hl _ ih =>
    intro v i
    have ev : v = .ref p := i
    subst ev
    obtain ⟨sn, o, ho, xs, rfl, rv⟩ := k.led _ _ e
    refine .lst (by rw [stl_at sn u]; exact ho) (.of (paired_of (by rw [← Rvs.len rv]; exact hl) fun i x d e1 e2 => ?_))
    obtain ⟨r, e3, e4⟩ : ∃ r, rs[i]? = some r ∧ r.is S x := by
      have hi : i < rs.length := by rw [Rvs.len rv]; exact (List.getElem?_eq_some_iff.mp e1).1
      obtain ⟨y, e5, e6⟩ := pgetL rv (List.getElem?_eq_getElem hi)
      rw [e1] at e5
      cases e5
      exact ⟨_, List.getElem?_eq_getElem hi, e6⟩
    exact ih i r d e3 e2 e4
theorem Step.deep (k : Ok S H L) (hu : ∀ p, U p → ∃ rs, L p = some (.lst rs)) (h0 : Le L0 L) (hn : ∀ p, U p → L0 p = none) : Step S H L (stl S H U) H L0 := by
  refine ⟨stl_sub, ⟨fun b o e => ?_, fun a m e => ?_⟩, fun a o e _ => e, (fun a m e n => by rw [h0 a m e] at n; cases n), fun a o e n nl => ?_⟩
  · rcases stl_in e with z | ⟨_, _, z⟩
    · exact k.sub _ _ z
    · exact z
  · obtain ⟨h1, o, h2, h3⟩ := k.led a m (h0 a m e)
    refine ⟨?_, o, h2, h3.mono stl_sub⟩
    cases z : stl S H U a with
    | none => rfl
    | some o' =>
      rcases stl_in z with q | ⟨_, q, _⟩
      · rw [h1] at q; cases q
      · rw [hn a q] at e; cases e
  · rcases stl_in e with z | ⟨_, u, _⟩
    · rw [n] at z; cases z
    · obtain ⟨rs, z⟩ := hu a u
      rw [nl] at z; cases z
end
section
variable {Y : Cm} {ρ : Rho} {L L0 : Led} {sts : List Stmt} {N : Rho → Led → Prop} {D : Nd} {U : Addr → Prop}
/-- the list in the i-th slot, with the lists in it, is data from now on -/
theorem MSs.deep {r : Rv} {d : PyData} (i : Nat) (hi : ρ[i]? = some (some r)) (hd : DU L U r d) (hu : ∀ p, U p → ∃ rs, L p = some (.lst rs)) (h0 : Le L0 L) (hn : ∀ p, U p → L0 p = none) (h : MSs Y sts N D (ρ.set i (some (.dt d))) L0) : MSs Y sts N D ρ L := ⟨fun S σ H A De l => by
  have t := Step.deep A.ok hu h0 hn
  have es := (A.next t).es
  have hl : i < ρ.length := (List.getElem?_eq_some_iff.mp hi).1
  obtain ⟨v, e1, e2⟩ := A.es.at_ i r hi
  refine h.run _ σ H ((A.next t).env ⟨by rw [List.length_set]; exact es.len, fun j r q' => ?_⟩) De (l.mono t)
  by_cases hj : i = j
  · subst hj
    rw [List.getElem?_set_self hl] at q'
    cases q'
    exact ⟨_, e1, DU.da A.ok hd e2⟩
  · rw [List.getElem?_set_ne hj] at q'
    exact es.at_ j r q'⟩
end
theorem MtM.forget {P : Program} {w : World} {K : PySem.W.Frag} {mg : Str → Option Value} {base : Heap} {k : Nat} {C : Addr} {x : Str} {ps : List Str} {sp : Fs} (G : MtM P w K mg base k C x ps sp) : MtM P w K mg base k C x ps (fgt sp) := by
  obtain ⟨f, fd, a, b, d⟩ := G.ex
  exact ⟨f, fd, a, b, d.imp lift_fgt⟩
section
variable {Y : Cm} {ρ : Rho} {L L1 L2 : Led} {a b : Expr} {pos : Pos}
/-- a true first part, the second may change things -/
theorem wx_andT {j : Bool} {rest : List Expr} (h : TX Y a ρ L true L1) (t : WX' Y (.BoolOp .And (b :: rest) pos) ρ L1 j L2) : WX' Y (.BoolOp .And (a :: b :: rest) pos) ρ L j L2 := ⟨fun S σ H A Q q => wW.of (pw_and wT.pt wW.pw) (h.run S σ H A _ fun r1 L1' S1 H1 ⟨e1, e2⟩ t1 => by
  subst e1 e2
  exact iteT (t.run S1 σ H1 (A.next t1) Q fun r L2 S2 H2 e t2 => q r L2 S2 H2 e (t1.trans t2)))⟩
theorem wx_andF {rest : List Expr} (h : TX Y a ρ L false L1) : WX' Y (.BoolOp .And (a :: b :: rest) pos) ρ L false L1 := ⟨fun S σ H A Q q => wW.of (pw_and wT.pt wW.pw) (h.run S σ H A _ fun r1 L1' S1 H1 ⟨e1, e2⟩ t1 => by
  subst e1 e2
  exact iteF (q _ _ S1 H1 ⟨rfl, rfl⟩ t1))⟩
end
section
variable {Y : Cm} {ρ : Rho} {L : Led} {st : Stmt} {sts : List Stmt} {N N' : Rho → Led → Prop} {D : Nd}
theorem MS.imp (h : MS Y st N D ρ L) (i : ∀ ρ L, N ρ L → N' ρ L) : MS Y st N' D ρ L := ⟨fun S σ H A De l => h.run S σ H A De ⟨fun ρ L S' H' σ' n => l.nx ρ L S' H' σ' (i ρ L n), l.rt, l.bk, l.ct⟩⟩
/-- a statement whose ends all come to one state -/
theorem ms_cut (ρ1 : Rho) (L1 : Led) (h : MS Y st (fun ρ L => ρ = ρ1 ∧ L = L1) D ρ L) (k : N ρ1 L1) : MS Y st N D ρ L := h.imp fun _ _ ⟨e1, e2⟩ => by rw [e1, e2]; exact k
end
end Cw

set_option Elab.async false
set_option linter.all false
set_option maxRecDepth 100000
set_option maxHeartbeats 2000000
/-! Cw, part T: a text repeated; lists that stay. -/
namespace Cw
open PySem PySem.Spec PyProof.Rows L2
section
variable {X : Cx} {L L' : Led}
theorem op_repS : OpR X (binaryOp .Mult) (fun x y H Q => ∃ i n, x = .str i ∧ y = .int n ∧ MulOk i n ∧ Q (.str (Txt.mul i n)) H) := by
  intro pins s σ H x y v u Q I rx ry h
  obtain ⟨i, n, rfl, rfl, ok, q⟩ := h
  obtain ⟨t, rfl⟩ := rx
  obtain ⟨t', rfl⟩ := ry
  exact SB.mul ok (fun t' k => ⟨.str _, H, I.tok _, ⟨_, rfl⟩, q⟩)
theorem o_repS {i : Str} {n : Int} (h : MulOk i n) : Op2 X (binaryOp .Mult) (.dt (.str i)) (.dt (.int n)) L (.dt (.str (Txt.mul i n))) := ⟨_, op_repS, fun S H x y k hx hy Q q => ⟨i, n, Da.strAt hx, Da.intAt hy, h, q S H _ (Step.refl k) (.str _)⟩⟩
theorem LR.le {r : Rv} {rs : List Rv} (h : LR L r rs) (l : Le L L') : LR L' r rs := h.imp id fun ⟨p, e1, e2⟩ => ⟨p, e1, l _ _ e2⟩
end
end Cw

set_option Elab.async false
set_option linter.all false
set_option maxRecDepth 100000
set_option maxHeartbeats 2000000
/-! Cw, part U: lists of lists in the ledger. -/
namespace Cw
open PySem PySem.Spec PyProof.Rows L2
section
variable {Y : Cm} {ρ : Rho} {L La : Led} {o a e : Expr} {pos : Pos} {N : Rho → Led → Prop} {D : Nd}
/-- o[a] = e, the value inexact -/
theorem ms_setixM {tpos : Pos} (he : ME Y e ρ L fun r La => ∃ q rs i j, EX Y o ρ La (.vl (.ref q)) La ∧ EX Y a ρ La (.dt (.int i)) La ∧ La q = some (.lst rs) ∧ ixN rs.length i = some j ∧ N ρ (updL La q (.lst (rs.set j r))))
    (ha : ∀ v, assign (.Subscript o a tpos) Y.X.env v = (do
      let ov ← holding [v] (eval o Y.X.env)
      let iv ← holding [v, ov] (eval a Y.X.env)
      standAt tpos
      holding [v, ov, iv] (setItem ov iv v)
      release [v, ov, iv] []) := by intro _; rfl)
    (hs : swapsWithSole [.Subscript o a tpos] e pos.line Y.X.env = pure false := by rfl) (hw : swappedStores [.Subscript o a tpos] e Y.X.env = pure none := by rfl) (h1 : (assignEach [.Subscript o a tpos] Y.X.env).map (·.2) = [assign (.Subscript o a tpos) Y.X.env] := by rfl) :
    MS Y (.Assign [.Subscript o a tpos] e pos) N D ρ L := ⟨fun S σ H A De l => by
  refine wS.of (ps_asg wE.pe (pg_sub wE.pe wE.pe set_list ha) hs hw h1) (he.run S σ H A _ fun r1 L1 S1 H1 v ⟨q, rs, i, j, ho, hi, h, hj, k⟩ t1 i1 => ?_)
  refine ho.run S1 σ H1 (A.next t1) _ fun r2 L2 S2 H2 x ⟨e1, e2⟩ t2 i2 => ?_
  subst e1 e2
  refine hi.run S2 σ H2 (A.next (t1.trans t2)) _ fun r3 L3 S3 H3 y ⟨e1, e2⟩ t3 i3 => ?_
  subst e1 e2
  have ex : x = .ref q := i2
  obtain ⟨xs, e3, rv⟩ := t3.ok.lstAt h
  refine ⟨q, xs, i, j, ex, Da.intAt i3, e3, by rw [← Rvs.len rv]; exact hj, ?_⟩
  have t4 := Step.write t3.ok h (m := .lst (rs.set j r1)) ⟨_, rfl, pset (i1.mono (t2.sub.trans t3.sub)) j rv⟩
  exact l.nx ρ _ S3 _ σ k (((t1.trans t2).trans t3).trans t4) (A.es.mono ((t1.trans t2).trans t3).sub)⟩
end
section
variable {Y : Cm} {ρ : Rho} {L La : Led} {elt tg iter : Expr} {scope : Scope} {own : List (Str × Nat)} {tgt : Tg} {ys : List Yd} {P : Led → Prop} {pos : Pos}
/-- a comprehension without effect, its list one that may change -/
theorem me_lcpH {K : Rv → Led → Prop} (g : Yd → PyData) (hc : Y.X.calm = true) (hN : Y.X.N.Nodup) (hi : IX Y tg iter ρ L ys P La) (hP : P La) (ok : BlkOk Y.X.N Y.X.env.scope scope own) (hsl : tgt.slots = own.map (·.2)) (hg : ∀ s H C cl fp, PG (Y.X.blk s H scope (compEnvC scope cl C Y.X.env) fp) tg (gTg Y.X.K tgt)) (hz : ys.length ≤ sizeLine)
    (hs : ∀ (i : Nat) y, ys[i]? = some y → ∃ ρ', setT tgt y (wipeR ρ (own.map (·.2))) = some ρ' ∧ ∀ s H C cl fp, EX (yB Y s H scope cl C fp) elt ρ' La (.dt (g y)) La) (k : ∀ D, La D = none → K (.vl (.ref D)) (updL La D (.lst ((ys.map g).map Rv.dt))))
    (hf : ∀ x, foldedSetIterable iter Y.X.env x = pure x := by intro _; rfl) : ME Y (.ListComp elt [⟨tg, iter, [], 0⟩] scope pos) ρ L K :=
  me_lc hc hN hi ok hsl hg hz (fun i acc L => acc = ((ys.take i).map g).map Rv.dt ∧ L = La) ⟨rfl, rfl⟩ (fun i acc L _ ⟨_, e⟩ => by rw [e]; exact hP) (fun i y acc L ey ⟨e1, e2⟩ => by
    obtain ⟨ρ', e, h⟩ := hs i y ey
    subst e2
    refine ⟨ρ', e, fun b L' => b = true ∧ L' = L, fun s H C cl fp => mts_nil ⟨rfl, rfl⟩, fun b L2 ⟨eb, eL⟩ => ⟨fun _ s H C cl fp => ?_, fun z => by rw [eb] at z; cases z⟩⟩
    subst eL
    refine EX.to (h s H C cl fp) ⟨?_, rfl⟩
    rw [e1, take_snoc ey, List.map_append, List.map_append]
    rfl) (fun acc L ⟨e1, e2⟩ D hD => .inr (by
      rw [e2] at hD ⊢
      rw [e1, List.take_length]
      exact k D hD)) hf
end
abbrev rfs (ps : List Addr) : List Rv := ps.map fun p => .vl (.ref p)
/-- lists, each of its own -/
structure Lop (L : Led) (ps : List Addr) (rss : List (List Rv)) : Prop where
  pl : ps.length = rss.length
  at_ : ∀ (i : Nat) p rs, ps[i]? = some p → rss[i]? = some rs → L p = some (.lst rs)
  nd : ps.Nodup
structure Lol (L : Led) (w : Addr) (ps : List Addr) (rss : List (List Rv)) : Prop where
  nw : w ∉ ps
  p : Lop L ps rss
  w : L w = some (.lst (rfs ps))
section
variable {L L' : Led} {w D a : Addr} {ps : List Addr} {rss : List (List Rv)} {rs' : List Rv} {m : MO}
theorem Lop.nil : Lop L [] [] := ⟨rfl, (fun _ _ _ h => nomatch h), List.nodup_nil⟩
theorem Lop.le (h : Lop L ps rss) (l : Le L L') : Lop L' ps rss := ⟨h.pl, fun i p rs h1 h2 => l _ _ (h.at_ i p rs h1 h2), h.nd⟩
theorem Lop.mem (h : Lop L ps rss) (ha : a ∈ ps) : ∃ rs, L a = some (.lst rs) := by
  obtain ⟨i, hi⟩ := List.mem_iff_getElem?.mp ha
  have hl := (List.getElem?_eq_some_iff.mp hi).1
  exact ⟨_, h.at_ i a _ hi (List.getElem?_eq_getElem (by rw [← h.pl]; exact hl))⟩
theorem Lop.skip (h : Lop L ps rss) (ha : a ∉ ps) : Lop (updL L a m) ps rss := ⟨h.pl, fun i p rs h1 h2 => by
  rw [updL_ne (fun z => ha (by rw [← z]; exact List.mem_of_getElem? h1))]
  exact h.at_ i p rs h1 h2, h.nd⟩
theorem Lop.snoc (h : Lop L ps rss) (hD : L D = none) : Lop (updL L D (.lst rs')) (ps ++ [D]) (rss ++ [rs']) := by
  have hn : D ∉ ps := fun z => by
    obtain ⟨rs, e⟩ := h.mem z
    rw [hD] at e
    cases e
  refine ⟨by rw [List.length_append, List.length_append, h.pl]; rfl, fun i p rs h1 h2 => ?_, ?_⟩
  · by_cases z : i < ps.length
    · rw [List.getElem?_append_left z] at h1
      rw [List.getElem?_append_left (by rw [← h.pl]; exact z)] at h2
      rw [updL_ne (fun e => hn (by rw [← e]; exact List.mem_of_getElem? h1))]
      exact h.at_ i p rs h1 h2
    · rw [List.getElem?_append_right (by omega)] at h1
      rw [List.getElem?_append_right (by rw [← h.pl]; omega), ← h.pl] at h2
      have hi : i - ps.length = 0 := by
        by_cases q : i - ps.length = 0
        · exact q
        · rw [List.getElem?_eq_none (by show 1 ≤ _; omega)] at h1; cases h1
      rw [hi] at h1 h2
      cases h1
      cases h2
      exact updL_same
  · rw [List.nodup_append]
    exact ⟨h.nd, by simp, fun x hx y hy e => hn (by rw [List.mem_singleton.mp hy] at e; rw [← e]; exact hx)⟩
theorem Lop.put (h : Lop L ps rss) {i : Nat} {p : Addr} (hp : ps[i]? = some p) : Lop (updL L p (.lst rs')) ps (rss.set i rs') := by
  have hil := (List.getElem?_eq_some_iff.mp hp).1
  refine ⟨by rw [List.length_set]; exact h.pl, fun j p' rs h1 h2 => ?_, h.nd⟩
  by_cases z : i = j
  · subst z
    rw [List.getElem?_set_self (by rw [← h.pl]; exact hil)] at h2
    rw [hp] at h1
    cases h1
    cases h2
    exact updL_same
  · rw [List.getElem?_set_ne z] at h2
    have ne : p' ≠ p := fun e => by
      subst e
      have h3 := (List.getElem?_eq_some_iff.mp hp)
      have h4 := (List.getElem?_eq_some_iff.mp h1)
      exact z ((List.getElem_inj h.nd).mp (h3.2.trans h4.2.symm))
    rw [updL_ne ne]
    exact h.at_ j p' rs h1 h2
theorem nodup_set {α : Type} : ∀ {xs : List α} {i : Nat} {x : α}, xs.Nodup → x ∉ xs → (xs.set i x).Nodup
  | [], _, _, h, _ => h
  | y :: ys, 0, x, h, k => List.nodup_cons.mpr ⟨fun z => k (List.mem_cons_of_mem _ z), (List.nodup_cons.mp h).2⟩
  | y :: ys, i + 1, x, h, k => by
    obtain ⟨h1, h2⟩ := List.nodup_cons.mp h
    refine List.nodup_cons.mpr ⟨fun z => ?_, nodup_set h2 fun z => k (List.mem_cons_of_mem _ z)⟩
    rcases List.mem_or_eq_of_mem_set z with q | q
    · exact h1 q
    · exact k (by rw [← q]; exact List.mem_cons_self)
theorem Lop.swap (h : Lop L ps rss) {i : Nat} (hi : i < ps.length) (hD : L D = none) : Lop (updL L D (.lst rs')) (ps.set i D) (rss.set i rs') := by
  have hn : D ∉ ps := fun z => by
    obtain ⟨rs, e⟩ := h.mem z
    rw [hD] at e
    cases e
  refine ⟨by rw [List.length_set, List.length_set]; exact h.pl, fun j p rs h1 h2 => ?_, nodup_set h.nd hn⟩
  by_cases z : i = j
  · subst z
    rw [List.getElem?_set_self hi] at h1
    rw [List.getElem?_set_self (by rw [← h.pl]; exact hi)] at h2
    cases h1
    cases h2
    exact updL_same
  · rw [List.getElem?_set_ne z] at h1 h2
    rw [updL_ne (fun e => hn (by rw [← e]; exact List.mem_of_getElem? h1))]
    exact h.at_ j p rs h1 h2
theorem Lop.close (h : Lop L ps rss) (hD : L D = none) : Lol (updL L D (.lst (rfs ps))) D ps rss := by
  have hn : D ∉ ps := fun z => by
    obtain ⟨rs, e⟩ := h.mem z
    rw [hD] at e
    cases e
  exact ⟨hn, h.skip hn, updL_same⟩
theorem Lol.le (h : Lol L w ps rss) (l : Le L L') : Lol L' w ps rss := ⟨h.nw, h.p.le l, l _ _ h.w⟩
theorem Lol.mem (h : Lol L w ps rss) (ha : a ∈ w :: ps) : ∃ rs, L a = some (.lst rs) := by
  rcases List.mem_cons.mp ha with z | z
  · exact ⟨_, by rw [z]; exact h.w⟩
  · exact h.p.mem z
theorem Lol.skip (h : Lol L w ps rss) (ha : a ∉ w :: ps) : Lol (updL L a m) w ps rss := ⟨h.nw, h.p.skip fun z => ha (List.mem_cons_of_mem _ z), by rw [updL_ne (fun z => ha (by rw [← z]; exact List.mem_cons_self))]; exact h.w⟩
theorem Lol.put (h : Lol L w ps rss) {i : Nat} {p : Addr} (hp : ps[i]? = some p) : Lol (updL L p (.lst rs')) w ps (rss.set i rs') := ⟨h.nw, h.p.put hp, by rw [updL_ne (fun z => h.nw (by rw [z]; exact List.mem_of_getElem? hp))]; exact h.w⟩
theorem Lol.snoc (h : Lol L w ps rss) (hD : L D = none) : Lol (updL (updL L D (.lst rs')) w (.lst (rfs ps ++ [.vl (.ref D)]))) w (ps ++ [D]) (rss ++ [rs']) := by
  have hw : w ≠ D := fun z => by have := h.w; rw [z, hD] at this; cases this
  have hn : w ∉ ps ++ [D] := fun z => by
    rcases List.mem_append.mp z with q | q
    · exact h.nw q
    · exact hw (List.mem_singleton.mp q)
  exact ⟨hn, (h.p.snoc hD).skip hn, by rw [updL_same, rfs, rfs, List.map_append]; rfl⟩
theorem Lol.swap (h : Lol L w ps rss) {i : Nat} (hi : i < ps.length) (hD : L D = none) : Lol (updL (updL L D (.lst rs')) w (.lst ((rfs ps).set i (.vl (.ref D))))) w (ps.set i D) (rss.set i rs') := by
  have hw : w ≠ D := fun z => by have := h.w; rw [z, hD] at this; cases this
  have hn : w ∉ ps.set i D := fun z => by
    rcases List.mem_or_eq_of_mem_set z with q | q
    · exact h.nw q
    · exact hw q
  exact ⟨hn, (h.p.swap hi hD).skip hn, by rw [updL_same, rfs, rfs, List.map_set]⟩
theorem atI_of {α : Type} {xs : List α} {r : Int} {x : α} (h0 : 0 ≤ r) (h : xs[r.toNat]? = some x) : atI xs r = some x := by
  obtain ⟨n, rfl⟩ : ∃ n : Nat, r = n := ⟨r.toNat, by omega⟩
  exact atI_nat (by simpa using h)
theorem Lol.get (h : Lol L w ps rss) {r : Int} (h0 : 0 ≤ r) (hr : r < rss.length) : ∃ p rs, ps[r.toNat]? = some p ∧ rss[r.toNat]? = some rs ∧ L p = some (.lst rs) ∧ atI (rfs ps) r = some (.vl (.ref p)) := by
  have h1 : r.toNat < ps.length := by rw [h.p.pl]; omega
  have h2 : r.toNat < rss.length := by omega
  exact ⟨_, _, List.getElem?_eq_getElem h1, List.getElem?_eq_getElem h2, h.p.at_ _ _ _ (List.getElem?_eq_getElem h1) (List.getElem?_eq_getElem h2), atI_of h0 (by rw [List.getElem?_map, List.getElem?_eq_getElem h1]; rfl)⟩
/-- what stays, of what is fresh -/
theorem Le.mut {L0 : Led} (h : Le L0 L) (ha : L0 a = none) : Le L0 (updL L a m) := fun b n e => by
  rw [updL_ne (fun z => by rw [z, ha] at e; cases e)]
  exact h b n e
theorem Le.none {L0 : Led} (h : Le L0 L) (ha : L a = none) : L0 a = none := by
  cases e : L0 a with
  | none => rfl
  | some m => rw [h a m e] at ha; cases ha
/-- a list of lists of data, as data -/
theorem Lol.du {dss : List (List PyData)} (h : Lol L w ps (dss.map fun ds => ds.map Rv.dt)) : DU L (fun a => a ∈ w :: ps) (.vl (.ref w)) (.list (dss.map PyData.list)) := by
  have hpl := h.p.pl
  rw [List.length_map] at hpl
  refine .lst h.w List.mem_cons_self (by rw [List.length_map, List.length_map, hpl]) fun i r d e1 e2 => ?_
  rw [List.getElem?_map] at e1 e2
  cases hp : ps[i]? with
  | none => rw [hp] at e1; cases e1
  | some p =>
    cases hd : dss[i]? with
    | none => rw [hd] at e2; cases e2
    | some ds =>
      rw [hp] at e1
      rw [hd] at e2
      cases e1
      cases e2
      refine .lst (h.p.at_ i p _ hp (by rw [List.getElem?_map, hd]; rfl)) (List.mem_cons_of_mem _ (List.mem_of_getElem? hp)) (by rw [List.length_map]) fun j r d e3 e4 => ?_
      rw [List.getElem?_map, e4] at e3
      cases e3
      exact .dt
end
end Cw

set_option Elab.async false
set_option linter.all false
set_option maxRecDepth 100000
set_option maxHeartbeats 2000000
/-! Cw, part V: the law's promise, where two defs make lambdas. -/
namespace Cw
open PySem PySem.Spec PyProof.Rows L2
theorem tab_is {q : Str} : MO.is S0 (.tab q) (.tbl #[]) := ⟨#[], rfl, True.intro, fun pos cv hc => by
  have z : codeAmong pos [] = some cv := hc
  simp [codeAmong] at z⟩
theorem lift_lawT {sp : Fs} {K : PySem.W.Frag} {H : Hp} {a T1 T2 : Addr} {q1 q2 : Str} {ns : List Int} (h1 : H T1 = some (.tbl #[])) (h2 : H T2 = some (.tbl #[])) (h12 : T1 ≠ T2) (hS : SqL K H a (ns.map V.int))
    (h : ∀ L, Scr K L a ns → L T1 = some (.tab q1) → L T2 = some (.tab q2) → sp [.vl (.ref a)] L (fun r _ => r = .dt (.bool true)) noX) : lift sp [.ref a] H (fun v _ => v = .bl true) fun _ _ _ => False := by
  have hav : Rvs S0 [.vl (.ref a)] [.ref a] := .cons rfl .nil
  have go : ∀ (o : Option (MO × HO)), (∀ m u, o = some (m, u) → H a = some u ∧ m.is S0 u ∧ a ≠ T1 ∧ a ≠ T2) → (∀ L : Led, (∀ m u, o = some (m, u) → L a = some m) → Scr K L a ns) → lift sp [.ref a] H (fun v _ => v = .bl true) fun _ _ _ => False := by
    intro o ho hs
    let L : Led := fun b => if b = T1 then some (.tab q1) else if b = T2 then some (.tab q2) else if b = a then o.map (·.1) else none
    have e1 : L T1 = some (.tab q1) := if_pos rfl
    have e2 : L T2 = some (.tab q2) := (if_neg h12.symm).trans (if_pos rfl)
    refine ⟨S0, L, _, _, noX, ⟨fun b o z => (by cases z), fun b m z => ?_⟩, hav, h _ (hs L fun m u e => ?_) e1 e2, fun r L' S' H' v e t i => ?_, fun _ _ _ _ z => z.elim⟩
    · by_cases b1 : b = T1
      · subst b1
        rw [e1] at z
        cases z
        exact ⟨rfl, _, h1, tab_is⟩
      · by_cases b2 : b = T2
        · subst b2
          rw [e2] at z
          cases z
          exact ⟨rfl, _, h2, tab_is⟩
        · replace z : (if b = a then o.map (·.1) else none) = some m := ((if_neg b1).trans (if_neg b2)).symm.trans z
          split at z
          next hb =>
            subst hb
            cases o with
            | none => cases z
            | some p =>
              cases z
              obtain ⟨a1, a2, _, _⟩ := ho p.1 p.2 rfl
              exact ⟨rfl, _, a1, a2⟩
          next => cases z
    · obtain ⟨a1, a2, a3, a4⟩ := ho m u e
      refine ((if_neg a3).trans (if_neg a4)).trans ((if_pos rfl).trans ?_)
      rw [e]
      rfl
    · subst e
      exact Da.blAt i
  have ne1 : ∀ u, H a = some u → u ≠ .tbl #[] → a ≠ T1 ∧ a ≠ T2 := fun u e n => ⟨fun z => by rw [z, h1] at e; cases e; exact n rfl, fun z => by rw [z, h2] at e; cases e; exact n rfl⟩
  rcases hS with hS | hS
  · rcases hS with e | ⟨ob, e⟩
    · refine go (some (.lst (ns.map fun i => .dt (.int i)), .lst (ns.map V.int))) (fun m u z => ?_) fun L z => .inl (.inr (z _ _ rfl))
      cases z
      exact ⟨e, ⟨_, rfl, rvs_scr _ ns⟩, ne1 _ e fun z => by cases z⟩
    · refine go (some (.frz (ns.map fun i => .dt (.int i)), .frz ob (.lst (ns.map V.int)))) (fun m u z => ?_) fun L z => .inl (.inl (z _ _ rfl))
      cases z
      exact ⟨e, ⟨ob, _, rfl, rvs_scr _ ns⟩, ne1 _ e fun z => by cases z⟩
  · exact go none (fun m u z => by cases z) fun L _ => .inr fun H => .inr hS
end Cw

set_option Elab.async false
set_option linter.all false
set_option maxRecDepth 100000
set_option maxHeartbeats 2000000
/-! Cw, part W: all, sum; tuples glued. -/
namespace Cw
open PySem PySem.Spec PyProof.Rows L2
section
variable {X : Cx} {L : Led} {r : Rv}
theorem da_bools {S : Hp} : ∀ {bs : List Bool} {xs : List V}, DaAll S xs (bs.map PyData.bool) → xs = bs.map V.bl
  | [], _, .nil => rfl
  | b :: bs, _, .cons a t => by
    cases a
    rw [da_bools t]
    rfl
theorem da_ints' {S : Hp} : ∀ {ns : List Int} {xs : List V}, DaAll S xs (ns.map PyData.int) → xs = ns.map V.int
  | [], _, .nil => rfl
  | b :: bs, _, .cons a t => by
    cases a
    rw [da_ints' t]
    rfl
theorem c_all {bs : List Bool} (hc : X.calm = true) (a : LL L r (bs.map PyData.bool)) : OpC X (.builtin "all") [r] L (.dt (.bool (bs.all id))) := ⟨_, cr_all hc, fun S H xs k hx Q q => by
  obtain ⟨x, rfl, i⟩ := rvs1 hx
  obtain ⟨p, ys, rfl, e, t⟩ := LL.at_ a k i
  rw [da_bools t] at e
  exact ⟨p, bs, rfl, SqL.of e, q S H _ (Step.refl k) (.bl _)⟩⟩
theorem c_sum {ns : List Int} (hc : X.calm = true) (a : LL L r (ns.map PyData.int)) : OpC X (.builtin "sum") [r] L (.dt (.int ns.sum)) := ⟨_, cr_sum hc, fun S H xs k hx Q q => by
  obtain ⟨x, rfl, i⟩ := rvs1 hx
  obtain ⟨p, ys, rfl, e, t⟩ := LL.at_ a k i
  rw [da_ints' t] at e
  exact ⟨p, ns, rfl, SqL.of e, q S H _ (Step.refl k) (.int _)⟩⟩
/-- tuples glued, an empty one too -/
theorem o_catTA {ds es : List PyData} (hz : ds.length + es.length ≤ sizeLine) : Op2 X (binaryOp .Add) (.dt (.tuple ds)) (.dt (.tuple es)) L (.dt (.tuple (ds ++ es))) := ⟨_, op_catA, fun S H x y k hx hy Q q => by
  obtain ⟨a, xs, rfl, s1, e1, t1⟩ := Da.tupAt k hx
  obtain ⟨b, ys, rfl, s2, e2, t2⟩ := Da.tupAt k hy
  refine ⟨a, b, xs, ys, rfl, rfl, SqT.of e1, SqT.of e2, by rw [t1.len, t2.len]; exact hz, fun z => ?_, fun _ z => ?_, fun _ _ p hp => ?_⟩
  · subst z
    cases t1
    exact q S H _ (Step.refl k) hy
  · subst z
    cases t2
    rw [List.append_nil] at q
    exact q S H _ (Step.refl k) hx
  · have sn := Sub.new (o := HO.tup (xs ++ ys)) (k.sub.none hp)
    exact q _ _ _ (Step.still k hp) (.tup upd_same (.of (papp (t1.mono sn).pd (t2.mono sn).pd)))⟩
end
section
variable {Y : Cm} {ρ : Rho} {L La : Led} {e : Expr} {p pos : Pos}
/-- list(t) of a tuple, to be changed -/
theorem me_listTH {K : Rv → Led → Prop} {ds : List PyData} (ha : EX Y e ρ L (.dt (.tuple ds)) La) (h : ∀ q, La q = none → K (.vl (.ref q)) (updL La q (.lst (ds.map Rv.dt)))) (hg : Gl Y.X "list") (hm : Y.X.mg "list" = none) (hv : bootBuiltins "list" = some (.type "list"))
    (he : starEach (e :: []) Y.X.env = (false, eval e Y.X.env) :: starEach [] Y.X.env := by rfl) (hpl : (backTo pos (starEach [] Y.X.env)).any (·.1) = false := by rfl) : ME Y (.Call (.Name "list" p) [e] [] pos) ρ L K := ⟨fun S σ H A Q q => by
  refine wE.of (pe_callTy call_list_of hg hm hv (pa_cons wE.pe pa_nil he) (by decide) (by decide) he hpl) (ha.run S σ H A _ fun r1 L1' S1 H1 x ⟨e1, e2⟩ t1 i1 => ?_)
  subst e1 e2
  obtain ⟨b, ys, rfl, _, e1, t⟩ := Da.tupAt t1.ok i1
  exact ⟨b, ys, rfl, .inr (SqT.of e1), fun n hn => q _ _ S1 _ _ (h n (t1.ok.free hn)) (t1.trans (Step.new t1.ok hn ⟨_, rfl, Rvs.of t⟩)) rfl⟩⟩
end
section
variable {Y : Cm} {ρ : Rho} {L L1 L2 : Led} {a b c : Expr} {ra rb rc : Rv} {pos : Pos}
/-- a < b < c, asked -/
theorem tx_chain {op op' : CmpOp} {i j : Bool} (ha : EX Y a ρ L ra L1) (hb : EX Y b ρ L1 rb L2) (hc : i = true → EX Y c ρ L2 rc L2) (h : Op2 Y.X (compareOp op) ra rb L2 (.dt (.bool i))) (h' : i = true → Op2 Y.X (compareOp op') rb rc L2 (.dt (.bool j))) (h0 : ∃ r, OpR Y.X (compareOp op') r)
    (hm : lastMarks [op, op'] [b, c] = false := by rfl) : TX Y (.Compare a [op, op'] [b, c] pos) ρ L (i && j) L2 := ⟨fun S σ H A Q q => by
  obtain ⟨r, ho, hr⟩ := h
  obtain ⟨r', ho', hr'⟩ : ∃ r', OpR Y.X (compareOp op') r' ∧ (i = true → RM r' rb rc L2 (.dt (.bool j))) := by
    cases i with
    | true =>
      obtain ⟨r', a, b⟩ := h' rfl
      exact ⟨r', a, fun _ => b⟩
    | false =>
      obtain ⟨r', a⟩ := h0
      exact ⟨r', a, fun z => by cases z⟩
  refine wT.of (pt_chain ho ho' wE.pe wE.pe wE.pe hm) (ha.run S σ H A _ fun r1 L1' S1 H1 x ⟨e1, e2⟩ t1 i1 => ?_)
  subst e1 e2
  refine hb.run S1 σ H1 (A.next t1) _ fun r2 L2' S2 H2 y ⟨e1, e2⟩ t2 i2 => ?_
  subst e1 e2
  refine rm_bl hr S2 H2 x y t2.ok (i1.mono t2.sub) i2 _ fun S3 H3 t3 => ⟨i, rfl, ?_⟩
  cases i with
  | false => exact iteF ⟨false, rfl, q _ _ S3 H3 ⟨rfl, rfl⟩ ((t1.trans t2).trans t3)⟩
  | true =>
    refine iteT ((hc rfl).run S3 σ H3 (A.next ((t1.trans t2).trans t3)) _ fun r4 L4 S4 H4 z ⟨e1, e2⟩ t4 i4 => ?_)
    subst e1 e2
    refine hr' rfl S4 H4 y z t4.ok ((i2.mono t3.sub).mono t4.sub) i4 _ fun S5 H5 v t5 i5 => ?_
    have ev := Da.blAt i5
    subst ev
    exact ⟨j, rfl, q _ _ S5 H5 ⟨rfl, rfl⟩ ((((t1.trans t2).trans t3).trans t4).trans t5)⟩⟩
end
end Cw

set_option Elab.async false
set_option linter.all false
set_option maxRecDepth 100000
set_option maxHeartbeats 4000000
namespace K05
open PySem PySem.Spec PyProof.Rows L2 Cw
/-! ### small closers, each at its own key -/
local macro_rules | `(tactic| walk_at "oadd") => `(tactic| first | exact o_add | exact o_addS (by walk_at "sz") | exact o_cat (by walk_at "ll") (by walk_at "ll") (by walk_at "sz"))
local macro_rules | `(tactic| walk_at "osub") => `(tactic| exact o_sub)
local macro_rules | `(tactic| walk_at "omul") => `(tactic| first | exact o_mul (by walk_at "sd") | exact o_rep (by walk_at "ll") (by walk_at "sd") (by walk_at "sd") (by walk_at "sz"))
local macro_rules | `(tactic| walk_at "odiv") => `(tactic| first | exact o_div (by walk_at "sd") | exact o_divW (by walk_at "sd"))
local macro_rules | `(tactic| walk_at "olt") => `(tactic| exact o_lt)
local macro_rules | `(tactic| walk_at "ole") => `(tactic| exact o_le)
local macro_rules | `(tactic| walk_at "ogt") => `(tactic| exact o_gt)
local macro_rules | `(tactic| walk_at "oge") => `(tactic| exact o_ge)
local macro_rules | `(tactic| walk_at "oeq") => `(tactic| first | exact o_eqI | exact o_eqNI | exact o_eqS | exact o_eqB | exact o_eqR (Room.units (by assumption)) (by walk_at "dr") (by walk_at "dr") (by walk_at "sh") (by walk_at "sh"))
local macro_rules | `(tactic| walk_at "one") => `(tactic| first | exact o_neI | exact o_neS | exact o_neB | exact o_neR (Room.units (by assumption)) (by walk_at "dr") (by walk_at "dr") (by walk_at "sh") (by walk_at "sh"))
local macro_rules | `(tactic| walk_at "ois") => `(tactic| exact o_isN)
local macro_rules | `(tactic| walk_at "oisn") => `(tactic| exact o_notN)
local macro_rules | `(tactic| walk_at "iadd") => `(tactic| exact o_iadd)
local macro_rules | `(tactic| walk_at "isub") => `(tactic| exact o_isub)
local macro_rules | `(tactic| walk_at "lk") => `(tactic| first | assumption | exact updL_same | (refine Eq.trans (updL_ne (by first | assumption | (apply Ne.symm; assumption))) ?_; walk_at "lk"))
local macro_rules | `(tactic| walk_at "ll") => `(tactic| first | exact LL.dt | assumption | exact LL.h (by walk_at "lk"))
local macro_rules | `(tactic| walk_at "lr") => `(tactic| first | exact LL.dt | assumption | exact LR.h (by walk_at "lk"))
local macro_rules | `(tactic| walk_at "dr") => `(tactic| first | exact DD.dt | assumption | exact DD.ofLL (by walk_at "lk"))
local macro_rules | `(tactic| walk_at "sd") => `(tactic| first | omega | assumption | decide)
local macro_rules | `(tactic| walk_at "rg") => `(tactic| first | omega | assumption | decide)
local macro_rules | `(tactic| walk_at "sz") => `(tactic| first | assumption | (rw [sizeLine_eq]; first | omega | (simp; omega)))
local macro_rules | `(tactic| walk_at "osl") => `(tactic| first | exact s_str (by walk_at "sz") | exact s_lst (by walk_at "ll"))
local macro_rules | `(tactic| walk_at "c_len") => `(tactic| first | exact c_lenT | exact c_lenS (by walk_at "sz") | exact c_lenL (by walk_at "ll") | exact c_lenR (by walk_at "lr") | exact c_lenF (by assumption))
local macro_rules | `(tactic| walk_at "c_int") => `(tactic| first | exact c_int | exact c_intB)
local macro_rules | `(tactic| walk_at "c_min") => `(tactic| exact c_min rfl)
local macro_rules | `(tactic| walk_at "c_max") => `(tactic| exact c_max rfl)
local macro_rules | `(tactic| walk_at "c_ord") => `(tactic| exact c_ord (by walk_at "sz"))
local macro_rules | `(tactic| walk_at "c_list") => `(tactic| first | exact c_listT | exact c_list (by walk_at "ll") | exact c_listF (by assumption))
local macro_rules | `(tactic| walk_at "c_tuple") => `(tactic| first | exact c_tupleT | exact c_tuple (by walk_at "ll"))
local macro_rules | `(tactic| walk_at "c_isinstance") => `(tactic| exact c_isi (by walk_at "dr") (by decide))
local macro_rules | `(tactic| walk_at "few") => `(tactic| first | decide | exact Nat.le_of_ble_eq_true rfl | (rw [sizeLine_eq]; exact Nat.le_of_ble_eq_true rfl) | assumption)
local macro_rules | `(tactic| walk_at "fl") => `(tactic| first | assumption | rfl)
local macro_rules | `(tactic| walk_at "nf") => `(tactic| first | rfl | decide +kernel)
local macro_rules | `(tactic| walk_at "at") => `(tactic| first | assumption | rfl | exact atI_nat (by assumption))
local macro_rules | `(tactic| walk_at "oix") => `(tactic| first | exact i_tup (by walk_at "at") | exact i_lst (by walk_at "ll") (by walk_at "at") | exact i_lstR (by walk_at "lr") (by walk_at "at") | exact i_str (by walk_at "sz") (by walk_at "at") | exact i_lstF (by assumption) (by walk_at "at"))
local macro_rules | `(tactic| walk_at "ixn") => `(tactic| first | assumption | rfl)
local macro_rules | `(tactic| walk_at "okd") => `(tactic| first | rfl | assumption)
local macro_rules | `(tactic| walk_at "wr") => `(tactic| first | assumption | omega)
local macro_rules | `(tactic| walk_at "shn") => `(tactic| first | exact fun z => absurd z (by assumption) | exact fun z => absurd rfl z | exact fun _ => ⟨rfl, rfl⟩)
local macro_rules | `(tactic| walk_at "onin") => `(tactic| exact o_notIn2S)
local macro_rules | `(tactic| walk_at "okp") => `(tactic| first | assumption | exact nxt_p (by walk_at "okp"))
local macro_rules | `(tactic| walk_at "c_all") => `(tactic| exact c_all rfl (by walk_at "ll"))
local macro_rules | `(tactic| walk_at "c_sum") => `(tactic| exact c_sum rfl (by walk_at "ll"))
local macro_rules | `(tactic| walk_at "c_sorted") => `(tactic| exact c_sortedS (by walk_at "ll") (by walk_at "sz"))

/-! ### the text -/
def topS (i : Nat) : Stmt := PySem.Challenge.pw_cardwhole_k05_deeds_that_fit.main.body.getD i (.Pass ⟨0, 0, 0, 0⟩)
abbrev s_inserted : Stmt := (topS 4)
abbrev N_inserted : List Str := ["replica", "deed", "result", "behind", "index", "character", "mark"]
abbrev P_inserted : List Str := ["replica", "deed"]
theorem sc_inserted : FnScope N_inserted P_inserted (defScope s_inserted) := ⟨rfl, rfl, rfl, by decide +kernel, rfl, by decide +kernel, by decide +kernel⟩
abbrev s_after : Stmt := (topS 5)
abbrev N_after : List Str := ["deed"]
abbrev P_after : List Str := ["deed"]
theorem sc_after : FnScope N_after P_after (defScope s_after) := ⟨rfl, rfl, rfl, by decide +kernel, rfl, by decide +kernel, by decide +kernel⟩
abbrev s_Deeds_init : Stmt := (inClass (topS 6) 0)
abbrev N_Deeds_init : List Str := ["self", "_"]
abbrev P_Deeds_init : List Str := ["self"]
theorem sc_Deeds_init : FnScope N_Deeds_init P_Deeds_init (defScope s_Deeds_init) := ⟨rfl, rfl, rfl, by decide +kernel, rfl, by decide +kernel, by decide +kernel⟩
abbrev s_Deeds_counts : Stmt := (inClass (topS 6) 1)
abbrev N_Deeds_counts : List Str := ["self", "row"]
abbrev P_Deeds_counts : List Str := ["self"]
theorem sc_Deeds_counts : FnScope N_Deeds_counts P_Deeds_counts (defScope s_Deeds_counts) := ⟨rfl, rfl, rfl, by decide +kernel, rfl, by decide +kernel, by decide +kernel⟩
abbrev s_Deeds_add : Stmt := (inClass (topS 6) 2)
abbrev N_Deeds_add : List Str := ["self", "replica", "deed"]
abbrev P_Deeds_add : List Str := ["self", "replica", "deed"]
theorem sc_Deeds_add : FnScope N_Deeds_add P_Deeds_add (defScope s_Deeds_add) := ⟨rfl, rfl, rfl, by decide +kernel, rfl, by decide +kernel, by decide +kernel⟩
abbrev s_Deeds_copy : Stmt := (inClass (topS 6) 3)
abbrev N_Deeds_copy : List Str := ["self"]
abbrev P_Deeds_copy : List Str := ["self"]
theorem sc_Deeds_copy : FnScope N_Deeds_copy P_Deeds_copy (defScope s_Deeds_copy) := ⟨rfl, rfl, rfl, by decide +kernel, rfl, by decide +kernel, by decide +kernel⟩
abbrev s_Deeds_forces : Stmt := (inClass (topS 6) 4)
abbrev N_Deeds_forces : List Str := ["self", "replica", "row", "taken", "result", "place", "in_force"]
abbrev P_Deeds_forces : List Str := ["self", "replica"]
theorem sc_Deeds_forces : FnScope N_Deeds_forces P_Deeds_forces (defScope s_Deeds_forces) := ⟨rfl, rfl, rfl, by decide +kernel, rfl, by decide +kernel, by decide +kernel⟩
abbrev s_Deeds_in_force : Stmt := (inClass (topS 6) 5)
abbrev N_Deeds_in_force : List Str := ["self", "replica", "place"]
abbrev P_Deeds_in_force : List Str := ["self", "replica", "place"]
theorem sc_Deeds_in_force : FnScope N_Deeds_in_force P_Deeds_in_force (defScope s_Deeds_in_force) := ⟨rfl, rfl, rfl, by decide +kernel, rfl, by decide +kernel, by decide +kernel⟩
abbrev s_Deeds_changes : Stmt := (inClass (topS 6) 6)
abbrev N_Deeds_changes : List Str := ["self", "module", "result", "replica", "deed", "in_force"]
abbrev P_Deeds_changes : List Str := ["self", "module"]
theorem sc_Deeds_changes : FnScope N_Deeds_changes P_Deeds_changes (defScope s_Deeds_changes) := ⟨rfl, rfl, rfl, by decide +kernel, rfl, by decide +kernel, by decide +kernel⟩
abbrev s_Deeds_modules : Stmt := (inClass (topS 6) 7)
abbrev N_Deeds_modules : List Str := ["self"]
abbrev P_Deeds_modules : List Str := ["self"]
theorem sc_Deeds_modules : FnScope N_Deeds_modules P_Deeds_modules (defScope s_Deeds_modules) := ⟨rfl, rfl, rfl, by decide +kernel, rfl, by decide +kernel, by decide +kernel⟩
abbrev s_Deeds_row : Stmt := (inClass (topS 6) 8)
abbrev N_Deeds_row : List Str := ["self", "module", "removed", "found", "replica", "deed", "in_force", "places", "seen", "mark", "behind", "char", "index"]
abbrev P_Deeds_row : List Str := ["self", "module"]
theorem sc_Deeds_row : FnScope N_Deeds_row P_Deeds_row (defScope s_Deeds_row) := ⟨rfl, rfl, rfl, by decide +kernel, rfl, by decide +kernel, by decide +kernel⟩
abbrev s_Deeds_text : Stmt := (inClass (topS 6) 9)
abbrev N_Deeds_text : List Str := ["self", "module", "_", "char", "seen"]
abbrev P_Deeds_text : List Str := ["self", "module"]
theorem sc_Deeds_text : FnScope N_Deeds_text P_Deeds_text (defScope s_Deeds_text) := ⟨rfl, rfl, rfl, by decide +kernel, rfl, by decide +kernel, by decide +kernel⟩
abbrev s_Deeds_last_number : Stmt := (inClass (topS 6) 10)
abbrev N_Deeds_last_number : List Str := ["self"]
abbrev P_Deeds_last_number : List Str := ["self"]
theorem sc_Deeds_last_number : FnScope N_Deeds_last_number P_Deeds_last_number (defScope s_Deeds_last_number) := ⟨rfl, rfl, rfl, by decide +kernel, rfl, by decide +kernel, by decide +kernel⟩
abbrev s_Deeds_fits : Stmt := (inClass (topS 6) 11)
abbrev N_Deeds_fits : List Str := ["self", "replica", "deed", "row", "earlier", "known", "other", "change", "_", "named", "mark"]
abbrev P_Deeds_fits : List Str := ["self", "replica", "deed"]
theorem sc_Deeds_fits : FnScope N_Deeds_fits P_Deeds_fits (defScope s_Deeds_fits) := ⟨rfl, rfl, rfl, by decide +kernel, rfl, by decide +kernel, by decide +kernel⟩
abbrev s_law_mix : Stmt := (topS 8)
abbrev N_law_mix : List Str := ["cell", "k", "value"]
abbrev P_law_mix : List Str := ["cell", "k"]
theorem sc_law_mix : FnScope N_law_mix P_law_mix (defScope s_law_mix) := ⟨rfl, rfl, rfl, by decide +kernel, rfl, by decide +kernel, by decide +kernel⟩
abbrev s_law_draws : Stmt := (topS 9)
abbrev N_law_draws : List Str := ["script", "draws", "k", "cell", "place"]
abbrev P_law_draws : List Str := ["script"]
theorem sc_law_draws : FnScope N_law_draws P_law_draws (defScope s_law_draws) := ⟨rfl, rfl, rfl, by decide +kernel, rfl, by decide +kernel, by decide +kernel⟩
abbrev s_law_at : Stmt := (topS 10)
abbrev N_law_at : List Str := ["draws", "index"]
abbrev P_law_at : List Str := ["draws", "index"]
theorem sc_law_at : FnScope N_law_at P_law_at (defScope s_law_at) := ⟨rfl, rfl, rfl, by decide +kernel, rfl, by decide +kernel, by decide +kernel⟩
abbrev s_law_is_integer : Stmt := (topS 11)
abbrev N_law_is_integer : List Str := ["actual"]
abbrev P_law_is_integer : List Str := ["actual"]
theorem sc_law_is_integer : FnScope N_law_is_integer P_law_is_integer (defScope s_law_is_integer) := ⟨rfl, rfl, rfl, by decide +kernel, rfl, by decide +kernel, by decide +kernel⟩
abbrev s_law_same : Stmt := (topS 12)
abbrev N_law_same : List Str := ["actual", "expected", "k"]
abbrev P_law_same : List Str := ["actual", "expected"]
theorem sc_law_same : FnScope N_law_same P_law_same (defScope s_law_same) := ⟨rfl, rfl, rfl, by decide +kernel, rfl, by decide +kernel, by decide +kernel⟩
abbrev s_law_pick : Stmt := (topS 13)
abbrev N_law_pick : List Str := ["items", "draw"]
abbrev P_law_pick : List Str := ["items", "draw"]
theorem sc_law_pick : FnScope N_law_pick P_law_pick (defScope s_law_pick) := ⟨rfl, rfl, rfl, by decide +kernel, rfl, by decide +kernel, by decide +kernel⟩
abbrev s_law_inserted : Stmt := (topS 14)
abbrev N_law_inserted : List Str := ["replica", "deed", "found", "behind", "k"]
abbrev P_law_inserted : List Str := ["replica", "deed"]
theorem sc_law_inserted : FnScope N_law_inserted P_law_inserted (defScope s_law_inserted) := ⟨rfl, rfl, rfl, by decide +kernel, rfl, by decide +kernel, by decide +kernel⟩
abbrev s_law_forces : Stmt := (topS 15)
abbrev N_law_forces : List Str := ["row", "forces", "k", "place", "takers", "j"]
abbrev P_law_forces : List Str := ["row"]
theorem sc_law_forces : FnScope N_law_forces P_law_forces (defScope s_law_forces) := ⟨rfl, rfl, rfl, by decide +kernel, rfl, by decide +kernel, by decide +kernel⟩
abbrev s_law_changes : Stmt := (topS 16)
abbrev N_law_changes : List Str := ["rows", "module", "found", "replica", "forces", "k"]
abbrev P_law_changes : List Str := ["rows", "module"]
theorem sc_law_changes : FnScope N_law_changes P_law_changes (defScope s_law_changes) := ⟨rfl, rfl, rfl, by decide +kernel, rfl, by decide +kernel, by decide +kernel⟩
abbrev s_law_row : Stmt := (topS 17)
abbrev N_law_row : List Str := ["rows", "module", "removed", "found", "replica", "deed", "force", "mark", "behind", "char", "row", "at", "each"]
abbrev P_law_row : List Str := ["rows", "module"]
theorem sc_law_row : FnScope N_law_row P_law_row (defScope s_law_row) := ⟨rfl, rfl, rfl, by decide +kernel, rfl, by decide +kernel, by decide +kernel⟩
abbrev s_law_last : Stmt := (topS 18)
abbrev N_law_last : List Str := ["rows", "last", "row", "deed"]
abbrev P_law_last : List Str := ["rows"]
theorem sc_law_last : FnScope N_law_last P_law_last (defScope s_law_last) := ⟨rfl, rfl, rfl, by decide +kernel, rfl, by decide +kernel, by decide +kernel⟩
abbrev s_law_modules : Stmt := (topS 19)
abbrev N_law_modules : List Str := []
abbrev P_law_modules : List Str := []
theorem sc_law_modules : FnScope N_law_modules P_law_modules (defScope s_law_modules) := ⟨rfl, rfl, rfl, by decide +kernel, rfl, by decide +kernel, by decide +kernel⟩
abbrev s_law_letters : Stmt := (topS 20)
abbrev N_law_letters : List Str := ["draws", "index", "chars", "text", "k"]
abbrev P_law_letters : List Str := ["draws", "index"]
theorem sc_law_letters : FnScope N_law_letters P_law_letters (defScope s_law_letters) := ⟨rfl, rfl, rfl, by decide +kernel, rfl, by decide +kernel, by decide +kernel⟩
abbrev s_law_deed : Stmt := (topS 21)
abbrev N_law_deed : List Str := ["draws", "index", "rows", "replica", "own", "module", "marks", "removed", "k", "behind", "number", "mark", "deed", "each"]
abbrev P_law_deed : List Str := ["draws", "index", "rows", "replica"]
theorem sc_law_deed : FnScope N_law_deed P_law_deed (defScope s_law_deed) := ⟨rfl, rfl, rfl, by decide +kernel, rfl, by decide +kernel, by decide +kernel⟩
abbrev s_law_visible : Stmt := (topS 22)
abbrev N_law_visible : List Str := ["rows", "counts", "k"]
abbrev P_law_visible : List Str := ["rows", "counts"]
theorem sc_law_visible : FnScope N_law_visible P_law_visible (defScope s_law_visible) := ⟨rfl, rfl, rfl, by decide +kernel, rfl, by decide +kernel, by decide +kernel⟩
abbrev s_law_triples : Stmt := (topS 23)
abbrev N_law_triples : List Str := ["draws", "start", "steps", "most", "rows", "counts", "k", "triples", "base", "replica", "other", "deed", "j"]
abbrev P_law_triples : List Str := ["draws", "start", "steps", "most"]
theorem sc_law_triples : FnScope N_law_triples P_law_triples (defScope s_law_triples) := ⟨rfl, rfl, rfl, by decide +kernel, rfl, by decide +kernel, by decide +kernel⟩
abbrev s_law_rows_of : Stmt := (topS 24)
abbrev N_law_rows_of : List Str := ["triples", "rows", "replica", "place", "deed", "k"]
abbrev P_law_rows_of : List Str := ["triples"]
theorem sc_law_rows_of : FnScope N_law_rows_of P_law_rows_of (defScope s_law_rows_of) := ⟨rfl, rfl, rfl, by decide +kernel, rfl, by decide +kernel, by decide +kernel⟩
abbrev s_law_deeds : Stmt := (topS 25)
abbrev N_law_deeds : List Str := ["triples", "deeds", "replica", "place", "deed"]
abbrev P_law_deeds : List Str := ["triples"]
theorem sc_law_deeds : FnScope N_law_deeds P_law_deeds (defScope s_law_deeds) := ⟨rfl, rfl, rfl, by decide +kernel, rfl, by decide +kernel, by decide +kernel⟩
abbrev s_law_fits : Stmt := (topS 26)
abbrev N_law_fits : List Str := ["rows", "replica", "deed", "earlier", "marks", "other", "change", "force", "mark", "each"]
abbrev P_law_fits : List Str := ["rows", "replica", "deed"]
theorem sc_law_fits : FnScope N_law_fits P_law_fits (defScope s_law_fits) := ⟨rfl, rfl, rfl, by decide +kernel, rfl, by decide +kernel, by decide +kernel⟩
abbrev s_law_turned : Stmt := (topS 27)
abbrev N_law_turned : List Str := ["draws", "index", "rows", "replica", "deed", "pick", "marks", "strange", "mark", "number", "removed", "behind", "char", "seen"]
abbrev P_law_turned : List Str := ["draws", "index", "rows", "replica", "deed"]
theorem sc_law_turned : FnScope N_law_turned P_law_turned (defScope s_law_turned) := ⟨rfl, rfl, rfl, by decide +kernel, rfl, by decide +kernel, by decide +kernel⟩
abbrev s_law : Stmt := (topS 28)
abbrev N_law : List Str := ["script", "draws", "triples", "rows", "deeds", "replica", "asked", "k", "base", "deed", "turn"]
abbrev P_law : List Str := ["script"]
theorem sc_law : FnScope N_law P_law (defScope s_law) := ⟨rfl, rfl, rfl, by decide +kernel, rfl, by decide +kernel, by decide +kernel⟩
/-! ### the mathematics -/
def mix (c k : Int) : Int := ((c * 48271 + k * 69621 + 12345) % 2147483647 * ((c * 48271 + k * 69621 + 12345) % 2147483647) + k * 40692 + 1) % 2147483399 / 5 % 9973
theorem mix_b (c k : Int) : 0 ≤ mix c k ∧ mix c k < 9973 := by
  unfold mix
  exact ⟨Int.emod_nonneg _ (by decide), Int.emod_lt_of_pos _ (by decide)⟩
def bigs : Nat → Int → List Int
  | 0, _ => []
  | n + 1, c => if c > 0 then c % 9973 :: bigs n (c / 9973) else []
theorem bigs_no (n : Nat) {c : Int} (h : ¬ c > 0) : bigs n c = [] := by
  cases n with
  | zero => rfl
  | succ n => exact if_neg h
theorem bigs_yes (n : Nat) {c : Int} (h : c > 0) : bigs (n + 1) c = c % 9973 :: bigs n (c / 9973) := if_pos h
def drawsFrom : Nat → List Int → List Int
  | _, [] => []
  | k, c :: r => (if c < 10 ^ 18 then [mix c k] else bigs 60 c) ++ drawsFrom (k + 1) r
def draws (ns : List Int) : List Int := drawsFrom 0 ns
theorem draws_at {ns : List Int} {i : Nat} {c : Int} (h : ns[i]? = some c) : drawsFrom i (ns.drop i) = (if c < 10 ^ 18 then [mix c i] else bigs 60 c) ++ drawsFrom (i + 1) (ns.drop (i + 1)) := by
  obtain ⟨hi, e⟩ := List.getElem?_eq_some_iff.mp h
  rw [List.drop_eq_getElem_cons hi, e]
  rfl
abbrev Ints (acc : List Int) : List Rv := (acc.map PyData.int).map Rv.dt
theorem ints_snoc (acc : List Int) (z : Int) : Ints acc ++ [.dt (.int z)] = Ints (acc ++ [z]) := by simp [Ints]
theorem ints_len (acc : List Int) : (Ints acc).length = acc.length := by simp [Ints]
def lawAt (d : List Int) (i : Int) : Int := if i < d.length then d.getD i.toNat 0 else if d.length = 0 then mix i 77 else mix (d.getD (i % d.length).toNat 0 + i * 131) i
def isInt : PyData → Bool
  | .int _ => true
  | _ => false
/-- data without dicts, at most n deep -/
def okD : Nat → PyData → Bool
  | _, .none => true
  | _, .bool _ => true
  | _, .int _ => true
  | _, .str _ => true
  | n + 1, .list ds => ds.all (okD n)
  | n + 1, .tuple ds => ds.all (okD n)
  | _, _ => false
structure Txt (K : PySem.W.Frag) (mg : Str → Option Value) : Prop where
  m_isinstance : mg "isinstance" = none
  m_bool : mg "bool" = none
  m_str : mg "str" = none
  m_list : mg "list" = none
  m_tuple : mg "tuple" = none
  m_int : mg "int" = none
  m_len : mg "len" = none
  m_min : mg "min" = none
  m_range : mg "range" = none
  m_max : mg "max" = none
  m_sorted : mg "sorted" = none
  m_enumerate : mg "enumerate" = none
  m_zip : mg "zip" = none
  m_all : mg "all" = none
  m_sum : mg "sum" = none
section
variable {P : Program} {w : World} {K : PySem.W.Frag} {mg : Str → Option Value} {base : Heap}
def sp_mix : Fs := fun as L Q _ => ∃ c k, as = [.dt (.int c), .dt (.int k)] ∧ Q (.dt (.int (mix c k))) L
theorem ok_mix {f : Addr} {fd : FuncData} (F : Fun K "_law_mix" "_law_mix" s_law_mix f fd) (T : Txt K mg) : FnOk P w K mg base CX0 1 f fd P_law_mix (lift sp_mix) := by
  refine fnok0 F sc_law_mix (fun as L Q XC h => by obtain ⟨c, k, rfl, _⟩ := h; rfl) ?_
  intro cdv A outer s H E hr as L Q XC h
  obtain ⟨c, k, rfl, q⟩ := h
  refine mss_cons (ms_set 2 sc_law_mix.nd rfl (by first | exact .inl rfl | exact .inr rfl) (EX.to (ex_bin (ex_callTy (ax_cons (ex_bin (ex_bin (ex_bin (ex_callTy (ax_cons (ex_var 0 rfl rfl (.inl rfl)) ax_nil) (by walk_at "c_int") (by rfl) T.m_int (by decide +kernel)) ex_int (o_mul (.inr (by decide)))) (ex_bin (ex_var 1 rfl rfl (.inl rfl)) ex_int (o_mul (.inr (by decide)))) (by walk_at "oadd")) ex_int (by walk_at "oadd")) ax_nil) (by walk_at "c_int") (by rfl) T.m_int (by decide +kernel)) ex_int (o_mod (by decide))) ?_))
  have hb : 0 ≤ (c * 48271 + k * 69621 + 12345) % 2147483647 ∧ (c * 48271 + k * 69621 + 12345) % 2147483647 < 2147483647 := ⟨Int.emod_nonneg _ (by decide), Int.emod_lt_of_pos _ (by decide)⟩
  have hm : CMul ((c * 48271 + k * 69621 + 12345) % 2147483647) ((c * 48271 + k * 69621 + 12345) % 2147483647) := .inl (by omega)
  refine mss_cons (ms_set 2 sc_law_mix.nd rfl (by first | exact .inl rfl | exact .inr rfl) (EX.to (ex_bin (ex_callTy (ax_cons (ex_bin (ex_bin (ex_bin (ex_var 2 rfl rfl (.inl rfl)) (ex_var 2 rfl rfl (.inl rfl)) (by walk_at "omul")) (ex_bin (ex_var 1 rfl rfl (.inl rfl)) ex_int (o_mul (.inr (by decide)))) (by walk_at "oadd")) ex_int (by walk_at "oadd")) ax_nil) (by walk_at "c_int") (by rfl) T.m_int (by decide +kernel)) ex_int (o_mod (by decide))) ?_))
  refine mss_cons (ms_ret (EX.to (ex_bin (ex_bin (ex_var 2 rfl rfl (.inl rfl)) ex_int (o_div ⟨by decide, by decide⟩)) ex_int (o_mod (by decide))) ?_))
  exact q
def sp_draws (K : PySem.W.Frag) : Fs := fun as L Q _ => ∃ a ns, as = [.vl (.ref a)] ∧ Scr K L a ns ∧ ns.length ≤ 63 ∧ Q (.dt (.list ((draws ns).map PyData.int))) L
theorem ok_draws {f : Addr} {fd : FuncData} (F : Fun K "_law_draws" "_law_draws" s_law_draws f fd) (T : Txt K mg) (G_law_mix : FnM P w K mg base 1 "_law_mix" P_law_mix sp_mix) : FnOk P w K mg base CX0 2 f fd P_law_draws (lift (sp_draws K)) := by
  refine fnok0 F sc_law_draws (fun as L Q XC h => by obtain ⟨c, k, rfl, _⟩ := h; rfl) ?_
  intro cdv A outer s H E hr as L Q XC h
  obtain ⟨a, ns, rfl, hS, hn, q⟩ := h
  refine mss_cons (ms_set 1 sc_law_draws.nd rfl (.inl rfl) (me_lst0 fun p hp => ?_))
  have hS1 : Scr K (updL L p (.lst [])) a ns := hS.upd hp
  refine mss_cons (ms_for (tgt := (.n 2)) rfl (ix_range1 (ax_cons (ex_callB (ax_cons ex_int (ax_cons (ex_callB (ax_cons (ex_var 0 rfl rfl (.inl rfl)) ax_nil) (by walk_at "c_len") (by rfl) T.m_len PySem.boot_len) ax_nil)) (by walk_at "c_min") (by rfl) T.m_min (by decide +kernel)) ax_nil) (by walk_at "sd") (by walk_at "sd") (by rfl) T.m_range) (pgn_name 2 sc_law_draws.nd rfl (by first | exact .inl rfl | exact .inr rfl)) (fun i ρ L' => ∃ y c pl, ρ = [some (.vl (.ref a)), some (.vl (.ref p)), y, c, pl] ∧ ∃ acc : List Int, L' = updL L p (.lst (Ints acc)) ∧ acc ++ drawsFrom i (ns.drop i) = draws ns ∧ acc.length ≤ 60 * i)
    ⟨none, none, none, rfl, [], rfl, rfl, Nat.le_refl _⟩ (fun _ _ _ _ _ => trivial) ?_ ?_)
  · intro i y ρ L' hy inv
    obtain ⟨hi, rfl⟩ := rgY_at hy
    obtain ⟨y2, y3, y4, rfl, acc, rfl, hacc, hlen⟩ := inv
    refine ⟨_, rfl, ?_⟩
    have hmin : (if (ns.length : Int) < 63 then (ns.length : Int) else 63).toNat = ns.length := by split <;> omega
    rw [hmin] at hi
    have hS2 : Scr K (updL L p (.lst (Ints acc))) a ns := hS.upd hp
    obtain ⟨c, hc⟩ : ∃ c, ns[i]? = some c := ⟨_, List.getElem?_eq_getElem hi⟩
    have hat : atI ns (0 + (i : Int)) = some c := by
      rw [Int.zero_add]
      exact atI_nat hc
    refine mss_cons (ms_set 3 sc_law_draws.nd rfl (.inl rfl) (EX.to (ex_callTy (ax_cons (ex_ix (ex_var 0 rfl rfl (.inl rfl)) (ex_var 2 rfl rfl (.inl rfl)) (i_lstF hS2 hat) (fun _ _ => rfl)) ax_nil) (by walk_at "c_int") (by rfl) T.m_int (by decide +kernel)) ?_))
    rw [draws_at hc] at hacc
    refine mss_cons (ms_ifx (tx_cmp (ex_var 3 rfl rfl (.inl rfl)) (ex_bin ex_int ex_int (o_pow ⟨by decide, by decide, by decide⟩)) (by walk_at "olt") (nomark _)) (fun hT => ?_) (fun hF => ?_))
    · have hlt : c < 10 ^ 18 := of_decide_eq_true hT
      rw [if_pos hlt] at hacc
      refine mss_cons (ms_expr (EX.to (ex_append (ex_var 1 rfl rfl (.inl rfl)) (by walk_at "lk") (ex_call G_law_mix (hr.mono (by decide)) (by rfl) (ax_cons (ex_var 3 rfl rfl (.inl rfl)) (ax_cons (ex_var 2 rfl rfl (.inl rfl)) ax_nil)) ⟨_, _, rfl, rfl, rfl⟩) (by walk_at "lk") (by walk_at "sz")) ?_))
      refine mss_nil (mss_nil ⟨_, _, _, rfl, acc ++ [mix c i], ?_, ?_, ?_⟩)
      · rw [← ints_snoc, updL_updL, Int.zero_add]
      · rw [← hacc]; simp
      · rw [List.length_append, List.length_singleton]; omega
    · have hlt : ¬ c < 10 ^ 18 := of_decide_eq_false hF
      rw [if_neg hlt] at hacc
      refine mss_cons (ms_for (tgt := (.n 4)) rfl (ix_range1 (ax_cons ex_int ax_nil) (by walk_at "sd") (by walk_at "sd") (by rfl) T.m_range) (pgn_name 4 sc_law_draws.nd rfl (by first | exact .inl rfl | exact .inr rfl)) (fun j ρ L' => ∃ c' pl, ρ = [some (.vl (.ref a)), some (.vl (.ref p)), some (.dt (.int (0 + (i : Int)))), some (.dt (.int c')), pl] ∧ ∃ acc' : List Int, L' = updL L p (.lst (Ints acc')) ∧ acc' ++ bigs (60 - j) c' = acc ++ bigs 60 c ∧ acc'.length ≤ 60 * i + j)
        ⟨c, _, rfl, acc, rfl, rfl, by omega⟩ (fun _ _ _ _ _ => trivial) ?_ ?_)
      · intro j y ρ L' hy inv
        obtain ⟨hj, rfl⟩ := rgY_at hy
        obtain ⟨c', pl, rfl, acc', rfl, hacc', hlen'⟩ := inv
        refine ⟨_, rfl, ?_⟩
        have hj60 : j < 60 := hj
        obtain ⟨m, hm⟩ : ∃ m, 60 - j = m + 1 := ⟨59 - j, by omega⟩
        rw [hm] at hacc'
        refine mss_cons (ms_ifx (tx_cmp (ex_var 3 rfl rfl (.inl rfl)) ex_int (by walk_at "ogt") (nomark _)) (fun hT => ?_) (fun hF => ?_))
        · have hpos : c' > 0 := of_decide_eq_true hT
          rw [bigs_yes m hpos] at hacc'
          refine mss_cons (ms_expr (EX.to (ex_append (ex_var 1 rfl rfl (.inl rfl)) (by walk_at "lk") (ex_bin (ex_callTy (ax_cons (ex_var 3 rfl rfl (.inl rfl)) ax_nil) (by walk_at "c_int") (by rfl) T.m_int (by decide +kernel)) ex_int (o_mod (by decide))) (by walk_at "lk") (by walk_at "sz")) ?_))
          refine mss_cons (ms_set 3 sc_law_draws.nd rfl (by first | exact .inl rfl | exact .inr rfl) (EX.to (ex_bin (ex_var 3 rfl rfl (.inl rfl)) ex_int (o_div ⟨by decide, by decide⟩)) ?_))
          refine mss_nil (mss_nil ⟨_, _, rfl, acc' ++ [c' % 9973], ?_, ?_, ?_⟩)
          · rw [← ints_snoc, updL_updL]
          · rw [show 60 - (j + 1) = m by omega, ← hacc']; simp
          · rw [List.length_append, List.length_singleton]; omega
        · have hpos : ¬ c' > 0 := of_decide_eq_false hF
          refine mss_nil (mss_nil ⟨_, _, rfl, acc', rfl, ?_, by omega⟩)
          rw [bigs_no _ hpos] at hacc' ⊢
          exact hacc'
      · intro ρ L' inv
        rw [rgY_len] at inv
        obtain ⟨c', pl, rfl, acc', rfl, hacc', hlen'⟩ := inv
        refine mss_nil (mss_nil ⟨_, _, _, rfl, acc', rfl, ?_, ?_⟩)
        · have e : bigs (60 - (60 : Int).toNat) c' = [] := rfl
          rw [e, List.append_nil] at hacc'
          rw [hacc', List.append_assoc]
          exact hacc
        · have : (60 : Int).toNat = 60 := rfl
          omega
  · intro ρ L' inv
    rw [rgY_len] at inv
    obtain ⟨y2, y3, y4, rfl, acc, rfl, hacc, hlen⟩ := inv
    refine MSs.settle 1 rfl updL_same ?_
    refine MSs.le (L' := L) (ρ' := _) ?_ (fun b m e => ?_) ⟨rfl, fun _ _ e => e⟩
    · refine mss_cons (ms_ret (EX.to (ex_var 1 rfl rfl (.inl rfl)) ?_))
      have e : drawsFrom (if (ns.length : Int) < 63 then (ns.length : Int) else 63).toNat (ns.drop (if (ns.length : Int) < 63 then (ns.length : Int) else 63).toNat) = [] := by
        rw [show (if (ns.length : Int) < 63 then (ns.length : Int) else 63).toNat = ns.length by split <;> omega, List.drop_length]
        rfl
      rw [e, List.append_nil] at hacc
      rw [hacc]
      exact q
    · have ne : b ≠ p := fun z => by rw [z, hp] at e; cases e
      unfold delL
      rw [if_neg ne, updL_ne ne]
      exact e
theorem atI_getD {d : List Int} {i : Int} (h0 : 0 ≤ i) (h : i < d.length) : atI (d.map PyData.int) i = some (.int (d.getD i.toNat 0)) := by
  obtain ⟨j, rfl⟩ : ∃ j : Nat, i = j := ⟨i.toNat, by omega⟩
  have hj : j < d.length := by omega
  refine atI_nat ?_
  rw [List.getElem?_map, List.getElem?_eq_getElem hj, Int.toNat_natCast, List.getD_eq_getElem?_getD, List.getElem?_eq_getElem hj]
  rfl
def sp_at : Fs := fun as L Q _ => ∃ (d : List Int) (i : Int), as = [.dt (.list (d.map PyData.int)), .dt (.int i)] ∧ 0 ≤ i ∧ Q (.dt (.int (lawAt d i))) L
theorem ok_at {f : Addr} {fd : FuncData} (F : Fun K "_law_at" "_law_at" s_law_at f fd) (T : Txt K mg) (G_law_mix : FnM P w K mg base 1 "_law_mix" P_law_mix sp_mix) : FnOk P w K mg base CX0 2 f fd P_law_at (lift sp_at) := by
  refine fnok0 F sc_law_at (fun as L Q XC h => by obtain ⟨c, k, rfl, _⟩ := h; rfl) ?_
  intro cdv A outer s H E hr as L Q XC h
  obtain ⟨d, i, rfl, h0, q⟩ := h
  have hl : (d.map PyData.int).length = d.length := List.length_map ..
  unfold lawAt at q
  refine mss_cons (ms_ifx (tx_cmp (ex_var 1 rfl rfl (.inl rfl)) (ex_callB (ax_cons (ex_var 0 rfl rfl (.inl rfl)) ax_nil) (by walk_at "c_len") (by rfl) T.m_len PySem.boot_len) (by walk_at "olt") (nomark _)) (fun hT => ?_) (fun hF => ?_))
  · have c : i < d.length := by
      rw [hl] at hT
      exact of_decide_eq_true hT
    rw [if_pos c] at q
    have hat := atI_getD h0 c
    refine mss_cons (ms_ret (EX.to (ex_ix (ex_var 0 rfl rfl (.inl rfl)) (ex_var 1 rfl rfl (.inl rfl)) (by walk_at "oix") (fun _ _ => rfl)) ?_))
    exact q
  · have c : ¬ i < d.length := by
      rw [hl] at hF
      exact of_decide_eq_false hF
    rw [if_neg c] at q
    refine mss_nil (mss_cons (ms_ifx (tx_cmp (ex_callB (ax_cons (ex_var 0 rfl rfl (.inl rfl)) ax_nil) (by walk_at "c_len") (by rfl) T.m_len PySem.boot_len) ex_int (by walk_at "oeq") (nomark _)) (fun hT => ?_) (fun hF => ?_)))
    · have c2 : d.length = 0 := by
        rw [hl] at hT
        have := of_decide_eq_true hT
        omega
      rw [if_pos c2] at q
      refine mss_cons (ms_ret (EX.to (ex_call G_law_mix (hr.mono (by decide)) (by rfl) (ax_cons (ex_var 1 rfl rfl (.inl rfl)) (ax_cons ex_int ax_nil)) ⟨_, _, rfl, rfl, rfl⟩) ?_))
      exact q
    · have c2 : ¬ d.length = 0 := by
        rw [hl] at hF
        have := of_decide_eq_false hF
        omega
      rw [if_neg c2] at q
      have hp : 0 < ((d.map PyData.int).length : Int) := by rw [hl]; omega
      have hat : atI (d.map PyData.int) (i % ((d.map PyData.int).length : Int)) = some (.int (d.getD (i % d.length).toNat 0)) := by
        rw [hl]
        exact atI_getD (Int.emod_nonneg _ (by omega)) (Int.emod_lt_of_pos _ (by omega))
      refine mss_nil (mss_cons (ms_ret (EX.to (ex_call G_law_mix (hr.mono (by decide)) (by rfl) (ax_cons (ex_bin (ex_ix (ex_var 0 rfl rfl (.inl rfl)) (ex_bin (ex_callTy (ax_cons (ex_var 1 rfl rfl (.inl rfl)) ax_nil) (by walk_at "c_int") (by rfl) T.m_int (by decide +kernel)) (ex_callB (ax_cons (ex_var 0 rfl rfl (.inl rfl)) ax_nil) (by walk_at "c_len") (by rfl) T.m_len PySem.boot_len) (o_mod (by walk_at "sd"))) (by walk_at "oix") (fun _ _ => rfl)) (ex_bin (ex_var 1 rfl rfl (.inl rfl)) ex_int (o_mul (.inr (by decide)))) (by walk_at "oadd")) (ax_cons (ex_var 1 rfl rfl (.inl rfl)) ax_nil)) ⟨_, _, rfl, rfl, rfl⟩) ?_)))
      exact q
def sp_isint : Fs := fun as L Q _ => ∃ d, as = [.dt d] ∧ Q (.dt (.bool (isInt d))) L
theorem isInt_eq (d : PyData) : isInt d = (isK (tyName d) "int" && !isK (tyName d) "bool") := by cases d <;> rfl
theorem ok_isint {f : Addr} {fd : FuncData} (F : Fun K "_law_is_integer" "_law_is_integer" s_law_is_integer f fd) (T : Txt K mg) : FnOk P w K mg base CX0 1 f fd P_law_is_integer (lift sp_isint) := by
  refine fnok0 F sc_law_is_integer (fun as L Q XC h => by obtain ⟨c, rfl, _⟩ := h; rfl) ?_
  intro cdv A outer s H E hr as L Q XC h
  obtain ⟨d, rfl, q⟩ := h
  rw [isInt_eq] at q
  refine mss_cons (ms_ret (EX.to (ex_and (ex_callB (ax_cons (ex_var 0 rfl rfl (.inl rfl)) (ax_cons (ex_type (T := "int") (by rfl) T.m_int (by decide +kernel)) ax_nil)) (by walk_at "c_isinstance") (by rfl) T.m_isinstance (by decide +kernel)) (fun _ => (ex_one (ex_not (ex_callB (ax_cons (ex_var 0 rfl rfl (.inl rfl)) (ax_cons (ex_type (T := "bool") (by rfl) T.m_bool (by decide +kernel)) ax_nil)) (by walk_at "c_isinstance") (by rfl) T.m_isinstance (by decide +kernel)))))) ?_))
  exact q
end
end K05

set_option Elab.async false
set_option linter.all false
set_option maxRecDepth 100000
set_option maxHeartbeats 4000000
namespace K05
open PySem PySem.Spec PyProof.Rows L2 Cw
/-! ### small closers, each at its own key -/
local macro_rules | `(tactic| walk_at "oadd") => `(tactic| first | exact o_add | exact o_addS (by walk_at "sz") | exact o_cat (by walk_at "ll") (by walk_at "ll") (by walk_at "sz"))
local macro_rules | `(tactic| walk_at "osub") => `(tactic| exact o_sub)
local macro_rules | `(tactic| walk_at "omul") => `(tactic| first | exact o_mul (by walk_at "sd") | exact o_rep (by walk_at "ll") (by walk_at "sd") (by walk_at "sd") (by walk_at "sz"))
local macro_rules | `(tactic| walk_at "odiv") => `(tactic| first | exact o_div (by walk_at "sd") | exact o_divW (by walk_at "sd"))
local macro_rules | `(tactic| walk_at "olt") => `(tactic| exact o_lt)
local macro_rules | `(tactic| walk_at "ole") => `(tactic| exact o_le)
local macro_rules | `(tactic| walk_at "ogt") => `(tactic| exact o_gt)
local macro_rules | `(tactic| walk_at "oge") => `(tactic| exact o_ge)
local macro_rules | `(tactic| walk_at "oeq") => `(tactic| first | exact o_eqI | exact o_eqNI | exact o_eqS | exact o_eqB | exact o_eqR (Room.units (by assumption)) (by walk_at "dr") (by walk_at "dr") (by walk_at "sh") (by walk_at "sh"))
local macro_rules | `(tactic| walk_at "one") => `(tactic| first | exact o_neI | exact o_neS | exact o_neB | exact o_neR (Room.units (by assumption)) (by walk_at "dr") (by walk_at "dr") (by walk_at "sh") (by walk_at "sh"))
local macro_rules | `(tactic| walk_at "ois") => `(tactic| exact o_isN)
local macro_rules | `(tactic| walk_at "oisn") => `(tactic| exact o_notN)
local macro_rules | `(tactic| walk_at "iadd") => `(tactic| exact o_iadd)
local macro_rules | `(tactic| walk_at "isub") => `(tactic| exact o_isub)
local macro_rules | `(tactic| walk_at "lk") => `(tactic| first | assumption | exact updL_same | (refine Eq.trans (updL_ne (by first | assumption | (apply Ne.symm; assumption))) ?_; walk_at "lk"))
local macro_rules | `(tactic| walk_at "ll") => `(tactic| first | exact LL.dt | assumption | exact LL.h (by walk_at "lk"))
local macro_rules | `(tactic| walk_at "lr") => `(tactic| first | exact LL.dt | assumption | exact LR.h (by walk_at "lk"))
local macro_rules | `(tactic| walk_at "dr") => `(tactic| first | exact DD.dt | assumption | exact DD.ofLL (by walk_at "lk"))
local macro_rules | `(tactic| walk_at "sd") => `(tactic| first | omega | assumption | decide)
local macro_rules | `(tactic| walk_at "rg") => `(tactic| first | omega | assumption | decide)
local macro_rules | `(tactic| walk_at "sz") => `(tactic| first | assumption | (rw [sizeLine_eq]; first | omega | (simp; omega)))
local macro_rules | `(tactic| walk_at "osl") => `(tactic| first | exact s_str (by walk_at "sz") | exact s_lst (by walk_at "ll"))
local macro_rules | `(tactic| walk_at "c_len") => `(tactic| first | exact c_lenT | exact c_lenS (by walk_at "sz") | exact c_lenL (by walk_at "ll") | exact c_lenR (by walk_at "lr") | exact c_lenF (by assumption))
local macro_rules | `(tactic| walk_at "c_int") => `(tactic| first | exact c_int | exact c_intB)
local macro_rules | `(tactic| walk_at "c_min") => `(tactic| exact c_min rfl)
local macro_rules | `(tactic| walk_at "c_max") => `(tactic| exact c_max rfl)
local macro_rules | `(tactic| walk_at "c_ord") => `(tactic| exact c_ord (by walk_at "sz"))
local macro_rules | `(tactic| walk_at "c_list") => `(tactic| first | exact c_listT | exact c_list (by walk_at "ll") | exact c_listF (by assumption))
local macro_rules | `(tactic| walk_at "c_tuple") => `(tactic| first | exact c_tupleT | exact c_tuple (by walk_at "ll"))
local macro_rules | `(tactic| walk_at "c_isinstance") => `(tactic| exact c_isi (by walk_at "dr") (by decide))
local macro_rules | `(tactic| walk_at "few") => `(tactic| first | decide | exact Nat.le_of_ble_eq_true rfl | (rw [sizeLine_eq]; exact Nat.le_of_ble_eq_true rfl) | assumption)
local macro_rules | `(tactic| walk_at "fl") => `(tactic| first | assumption | rfl)
local macro_rules | `(tactic| walk_at "nf") => `(tactic| first | rfl | decide +kernel)
local macro_rules | `(tactic| walk_at "at") => `(tactic| first | assumption | rfl | exact atI_nat (by assumption))
local macro_rules | `(tactic| walk_at "oix") => `(tactic| first | exact i_tup (by walk_at "at") | exact i_lst (by walk_at "ll") (by walk_at "at") | exact i_lstR (by walk_at "lr") (by walk_at "at") | exact i_str (by walk_at "sz") (by walk_at "at") | exact i_lstF (by assumption) (by walk_at "at"))
local macro_rules | `(tactic| walk_at "ixn") => `(tactic| first | assumption | rfl)
local macro_rules | `(tactic| walk_at "okd") => `(tactic| first | rfl | assumption)
local macro_rules | `(tactic| walk_at "wr") => `(tactic| first | assumption | omega)
local macro_rules | `(tactic| walk_at "shn") => `(tactic| first | exact fun z => absurd z (by assumption) | exact fun z => absurd rfl z | exact fun _ => ⟨rfl, rfl⟩)
local macro_rules | `(tactic| walk_at "onin") => `(tactic| exact o_notIn2S)
local macro_rules | `(tactic| walk_at "okp") => `(tactic| first | assumption | exact nxt_p (by walk_at "okp"))
local macro_rules | `(tactic| walk_at "c_all") => `(tactic| exact c_all rfl (by walk_at "ll"))
local macro_rules | `(tactic| walk_at "c_sum") => `(tactic| exact c_sum rfl (by walk_at "ll"))
local macro_rules | `(tactic| walk_at "c_sorted") => `(tactic| exact c_sortedS (by walk_at "ll") (by walk_at "sz"))

section
variable {P : Program} {w : World} {K : PySem.W.Frag} {mg : Str → Option Value} {base : Heap}
def sp_same (n : Nat) : Fs := fun as L Q _ => ∃ r r' d, as = [r, r'] ∧ DD L r d ∧ DD L r' d ∧ okD n d = true ∧ Q (.dt (.bool true)) L
theorem same_len (n : Nat) : ∀ as L Q XC, sp_same n as L Q XC → as.length = P_law_same.length := fun as L Q XC h => by obtain ⟨c, _, _, rfl, _⟩ := h; rfl
theorem pat_of {L : Led} {rs : List Rv} {ds : List PyData} {i : Nat} (h : Paired (DD L) rs ds) (hi : i < ds.length) : ∃ r d, rs[i]? = some r ∧ ds[i]? = some d ∧ DD L r d ∧ d ∈ ds := by
  obtain ⟨r, h1, h2⟩ := pget h (List.getElem?_eq_getElem hi)
  exact ⟨r, _, h1, List.getElem?_eq_getElem hi, h2, List.getElem_mem hi⟩
theorem body_same {n : Nat} {f : Addr} {fd : FuncData} (F : Fun K "_law_same" "_law_same" s_law_same f fd) (T : Txt K mg) (G_law_is_integer : FnM P w K mg base 1 "_law_is_integer" P_law_is_integer sp_isint)
    (G : ∀ m, n = m + 1 → FnM P w K mg base (m + 2) "_law_same" P_law_same (sp_same m)) : FnOk P w K mg base CX0 (n + 2) f fd P_law_same (lift (sp_same n)) := by
  refine fnok0 F sc_law_same (same_len _) ?_
  intro cdv A outer s H E hr as L Q XC h
  obtain ⟨r, r', d, rfl, h1, h2, ok, q⟩ := h
  have hr' := hr
  replace hr : Room 1 _ := hr.mono (by omega)
  cases d with
  | list ds =>
    obtain ⟨m, rfl⟩ : ∃ m, n = m + 1 := by
      cases n with
      | zero => cases ok
      | succ m => exact ⟨m, rfl⟩
    have G_law_same := G m rfl
    obtain ⟨rs, l1, p1⟩ := h1.lists
    obtain ⟨rs', l2, p2⟩ := h2.lists
    have n1 := Paired.length p1
    have n2 := Paired.length p2
    refine MSs.len 1 rfl l2 fun hz => ?_
    have hz2 : (rs'.length : Int) < 2 ^ 62 := by rw [sizeLine_eq] at hz; omega
    have okd : ∀ d ∈ ds, okD m d = true := List.all_eq_true.mp ok
    refine mss_cons (ms_ifx (tx_val (ex_isi2 (T1 := "list") (T2 := "tuple") (ex_var 1 rfl rfl (.inl rfl)) (by walk_at "dr") (by decide) (by decide) (by rfl) T.m_isinstance (by decide +kernel) (by rfl) T.m_list (by decide +kernel) (by rfl) T.m_tuple (by decide +kernel))) (fun hT => ?_) (fun hF => ?_))
    · refine mss_cons (ms_ifx (tx_w (wx_or (tx_cmp (ex_callB (ax_cons (ex_var 1 rfl rfl (.inl rfl)) (ax_cons (ex_type (T := "list") (by rfl) T.m_list (by decide +kernel)) ax_nil)) (by walk_at "c_isinstance") (by rfl) T.m_isinstance (by decide +kernel)) (ex_callB (ax_cons (ex_var 0 rfl rfl (.inl rfl)) (ax_cons (ex_type (T := "list") (by rfl) T.m_list (by decide +kernel)) ax_nil)) (by walk_at "c_isinstance") (by rfl) T.m_isinstance (by decide +kernel)) (by walk_at "one") (nomark _)) (fun _ => (wx_or1 (tx_cmp (ex_callB (ax_cons (ex_var 1 rfl rfl (.inl rfl)) (ax_cons (ex_type (T := "tuple") (by rfl) T.m_tuple (by decide +kernel)) ax_nil)) (by walk_at "c_isinstance") (by rfl) T.m_isinstance (by decide +kernel)) (ex_callB (ax_cons (ex_var 0 rfl rfl (.inl rfl)) (ax_cons (ex_type (T := "tuple") (by rfl) T.m_tuple (by decide +kernel)) ax_nil)) (by walk_at "c_isinstance") (by rfl) T.m_isinstance (by decide +kernel)) (by walk_at "one") (nomark _)))))) (fun hT => ?_) (fun hF => ?_))
      · cases hT
      · refine mss_nil (mss_cons (ms_ifx (tx_cmp (ex_callB (ax_cons (ex_var 0 rfl rfl (.inl rfl)) ax_nil) (by walk_at "c_len") (by rfl) T.m_len PySem.boot_len) (ex_callB (ax_cons (ex_var 1 rfl rfl (.inl rfl)) ax_nil) (by walk_at "c_len") (by rfl) T.m_len PySem.boot_len) (by walk_at "one") (nomark _)) (fun hT => ?_) (fun hF => ?_)))
        · rw [n1, n2, decide_eq_true rfl] at hT
          cases hT
        · refine mss_nil (mss_cons (ms_for (tgt := (.n 2)) rfl (ix_range1 (ax_cons (ex_callB (ax_cons (ex_var 1 rfl rfl (.inl rfl)) ax_nil) (c_lenR l2) (by rfl) T.m_len PySem.boot_len) ax_nil) (by walk_at "sd") hz2 (by rfl) T.m_range) (pgn_name 2 sc_law_same.nd rfl (by first | exact .inl rfl | exact .inr rfl)) (fun i ρ L' => ∃ y, ρ = [some r, some r', y] ∧ L' = L) ⟨none, rfl, rfl⟩ (fun _ _ _ _ _ => trivial) ?_ ?_))
          · intro i y ρ L' hy inv
            obtain ⟨hi, rfl⟩ := rgY_at hy
            obtain ⟨y0, rfl, rfl⟩ := inv
            refine ⟨_, rfl, ?_⟩
            have hi' : i < ds.length := by omega
            obtain ⟨a1, d1, e1, f1, g1, m1⟩ := pat_of p1 hi'
            obtain ⟨a2, d2, e2, f2, g2, _⟩ := pat_of p2 hi'
            have ed : d2 = d1 := Option.some.inj (f2.symm.trans f1)
            subst ed
            have t1 : atI rs (0 + (i : Int)) = some a1 := by rw [Int.zero_add]; exact atI_nat e1
            have t2 : atI rs' (0 + (i : Int)) = some a2 := by rw [Int.zero_add]; exact atI_nat e2
            replace hr := hr'.mono (show m + 2 ≤ m + 1 + 1 by omega)
            refine mss_cons (ms_ifx (tx_not (tx_val (ex_call G_law_same hr (by rfl) (ax_cons (ex_ix (ex_var 0 rfl rfl (.inl rfl)) (ex_var 2 rfl rfl (.inl rfl)) (by walk_at "oix") (fun _ _ => rfl)) (ax_cons (ex_ix (ex_var 1 rfl rfl (.inl rfl)) (ex_var 2 rfl rfl (.inl rfl)) (by walk_at "oix") (fun _ _ => rfl)) ax_nil)) ⟨_, _, _, rfl, g1, g2, okd _ m1, rfl, rfl⟩))) (fun hT => ?_) (fun hF => ?_))
            · cases hT
            · exact mss_nil (mss_nil ⟨_, rfl, rfl⟩)
          · intro ρ L' inv
            obtain ⟨y, rfl, rfl⟩ := inv
            refine mss_cons (ms_ret (EX.to ex_bl ?_))
            exact q
    · cases hF
  | tuple ds =>
    obtain ⟨m, rfl⟩ : ∃ m, n = m + 1 := by
      cases n with
      | zero => cases ok
      | succ m => exact ⟨m, rfl⟩
    have G_law_same := G m rfl
    have okd : ∀ d ∈ ds, okD m d = true := List.all_eq_true.mp ok
    cases h1
    cases h2
    refine MSs.lenT 1 rfl fun hz => ?_
    have hz2 : (ds.length : Int) < 2 ^ 62 := by rw [sizeLine_eq] at hz; omega
    refine mss_cons (ms_ifx (tx_val (ex_isi2 (T1 := "list") (T2 := "tuple") (ex_var 1 rfl rfl (.inl rfl)) (by walk_at "dr") (by decide) (by decide) (by rfl) T.m_isinstance (by decide +kernel) (by rfl) T.m_list (by decide +kernel) (by rfl) T.m_tuple (by decide +kernel))) (fun hT => ?_) (fun hF => ?_))
    · refine mss_cons (ms_ifx (tx_w (wx_or (tx_cmp (ex_callB (ax_cons (ex_var 1 rfl rfl (.inl rfl)) (ax_cons (ex_type (T := "list") (by rfl) T.m_list (by decide +kernel)) ax_nil)) (by walk_at "c_isinstance") (by rfl) T.m_isinstance (by decide +kernel)) (ex_callB (ax_cons (ex_var 0 rfl rfl (.inl rfl)) (ax_cons (ex_type (T := "list") (by rfl) T.m_list (by decide +kernel)) ax_nil)) (by walk_at "c_isinstance") (by rfl) T.m_isinstance (by decide +kernel)) (by walk_at "one") (nomark _)) (fun _ => (wx_or1 (tx_cmp (ex_callB (ax_cons (ex_var 1 rfl rfl (.inl rfl)) (ax_cons (ex_type (T := "tuple") (by rfl) T.m_tuple (by decide +kernel)) ax_nil)) (by walk_at "c_isinstance") (by rfl) T.m_isinstance (by decide +kernel)) (ex_callB (ax_cons (ex_var 0 rfl rfl (.inl rfl)) (ax_cons (ex_type (T := "tuple") (by rfl) T.m_tuple (by decide +kernel)) ax_nil)) (by walk_at "c_isinstance") (by rfl) T.m_isinstance (by decide +kernel)) (by walk_at "one") (nomark _)))))) (fun hT => ?_) (fun hF => ?_))
      · cases hT
      · refine mss_nil (mss_cons (ms_ifx (tx_cmp (ex_callB (ax_cons (ex_var 0 rfl rfl (.inl rfl)) ax_nil) (by walk_at "c_len") (by rfl) T.m_len PySem.boot_len) (ex_callB (ax_cons (ex_var 1 rfl rfl (.inl rfl)) ax_nil) (by walk_at "c_len") (by rfl) T.m_len PySem.boot_len) (by walk_at "one") (nomark _)) (fun hT => ?_) (fun hF => ?_)))
        · rw [decide_eq_true rfl] at hT
          cases hT
        · refine mss_nil (mss_cons (ms_for (tgt := (.n 2)) rfl (ix_range1 (ax_cons (ex_callB (ax_cons (ex_var 1 rfl rfl (.inl rfl)) ax_nil) (by walk_at "c_len") (by rfl) T.m_len PySem.boot_len) ax_nil) (by walk_at "sd") (by walk_at "sd") (by rfl) T.m_range) (pgn_name 2 sc_law_same.nd rfl (by first | exact .inl rfl | exact .inr rfl)) (fun i ρ L' => ∃ y, ρ = [some (.dt (.tuple ds)), some (.dt (.tuple ds)), y] ∧ L' = L) ⟨none, rfl, rfl⟩ (fun _ _ _ _ _ => trivial) ?_ ?_))
          · intro i y ρ L' hy inv
            obtain ⟨hi, rfl⟩ := rgY_at hy
            obtain ⟨y0, rfl, rfl⟩ := inv
            refine ⟨_, rfl, ?_⟩
            have hi' : i < ds.length := by omega
            have t1 : atI ds (0 + (i : Int)) = some ds[i] := by rw [Int.zero_add]; exact atI_nat (List.getElem?_eq_getElem hi')
            replace hr := hr'.mono (show m + 2 ≤ m + 1 + 1 by omega)
            refine mss_cons (ms_ifx (tx_not (tx_val (ex_call G_law_same hr (by rfl) (ax_cons (ex_ix (ex_var 0 rfl rfl (.inl rfl)) (ex_var 2 rfl rfl (.inl rfl)) (by walk_at "oix") (fun _ _ => rfl)) (ax_cons (ex_ix (ex_var 1 rfl rfl (.inl rfl)) (ex_var 2 rfl rfl (.inl rfl)) (by walk_at "oix") (fun _ _ => rfl)) ax_nil)) ⟨_, _, _, rfl, .dt, .dt, okd _ (List.getElem_mem hi'), rfl, rfl⟩))) (fun hT => ?_) (fun hF => ?_))
            · cases hT
            · exact mss_nil (mss_nil ⟨_, rfl, rfl⟩)
          · intro ρ L' inv
            obtain ⟨y, rfl, rfl⟩ := inv
            refine mss_cons (ms_ret (EX.to ex_bl ?_))
            exact q
    · cases hF
  | none =>
    cases h1
    cases h2
    refine mss_cons (ms_ifx (tx_val (ex_isi2 (T1 := "list") (T2 := "tuple") (ex_var 1 rfl rfl (.inl rfl)) (by walk_at "dr") (by decide) (by decide) (by rfl) T.m_isinstance (by decide +kernel) (by rfl) T.m_list (by decide +kernel) (by rfl) T.m_tuple (by decide +kernel))) (fun hT => ?_) (fun hF => ?_))
    · cases hT
    · refine mss_nil (mss_cons (ms_ifx (tx_cmp (ex_var 1 rfl rfl (.inl rfl)) ex_non (by walk_at "ois") (nomark _)) (fun hT => ?_) (fun hF => ?_)))
      · refine mss_cons (ms_ret (EX.to (ex_cmp (ex_var 0 rfl rfl (.inl rfl)) ex_non (by walk_at "ois") (nomark _)) ?_))
        exact q
      · cases hF
  | bool b =>
    cases h1
    cases h2
    refine mss_cons (ms_ifx (tx_val (ex_isi2 (T1 := "list") (T2 := "tuple") (ex_var 1 rfl rfl (.inl rfl)) (by walk_at "dr") (by decide) (by decide) (by rfl) T.m_isinstance (by decide +kernel) (by rfl) T.m_list (by decide +kernel) (by rfl) T.m_tuple (by decide +kernel))) (fun hT => ?_) (fun hF => ?_))
    · cases hT
    · refine mss_nil (mss_cons (ms_ifx (tx_cmp (ex_var 1 rfl rfl (.inl rfl)) ex_non (by walk_at "ois") (nomark _)) (fun hT => ?_) (fun hF => ?_)))
      · cases hT
      · refine mss_nil (mss_cons (ms_ifx (tx_val (ex_callB (ax_cons (ex_var 1 rfl rfl (.inl rfl)) (ax_cons (ex_type (T := "bool") (by rfl) T.m_bool (by decide +kernel)) ax_nil)) (by walk_at "c_isinstance") (by rfl) T.m_isinstance (by decide +kernel))) (fun hT => ?_) (fun hF => ?_)))
        · refine mss_cons (ms_ret (EX.to (ex_and (ex_callB (ax_cons (ex_var 0 rfl rfl (.inl rfl)) (ax_cons (ex_type (T := "bool") (by rfl) T.m_bool (by decide +kernel)) ax_nil)) (by walk_at "c_isinstance") (by rfl) T.m_isinstance (by decide +kernel)) (fun _ => (ex_one (ex_cmp (ex_var 0 rfl rfl (.inl rfl)) (ex_var 1 rfl rfl (.inl rfl)) (by walk_at "oeq") (nomark _))))) ?_))
          rw [decide_eq_true rfl]
          exact q
        · cases hF
  | int b =>
    cases h1
    cases h2
    refine mss_cons (ms_ifx (tx_val (ex_isi2 (T1 := "list") (T2 := "tuple") (ex_var 1 rfl rfl (.inl rfl)) (by walk_at "dr") (by decide) (by decide) (by rfl) T.m_isinstance (by decide +kernel) (by rfl) T.m_list (by decide +kernel) (by rfl) T.m_tuple (by decide +kernel))) (fun hT => ?_) (fun hF => ?_))
    · cases hT
    · refine mss_nil (mss_cons (ms_ifx (tx_cmp (ex_var 1 rfl rfl (.inl rfl)) ex_non (by walk_at "ois") (nomark _)) (fun hT => ?_) (fun hF => ?_)))
      · cases hT
      · refine mss_nil (mss_cons (ms_ifx (tx_val (ex_callB (ax_cons (ex_var 1 rfl rfl (.inl rfl)) (ax_cons (ex_type (T := "bool") (by rfl) T.m_bool (by decide +kernel)) ax_nil)) (by walk_at "c_isinstance") (by rfl) T.m_isinstance (by decide +kernel))) (fun hT => ?_) (fun hF => ?_)))
        · cases hT
        · refine mss_nil (mss_cons (ms_ifx (tx_val (ex_callB (ax_cons (ex_var 1 rfl rfl (.inl rfl)) (ax_cons (ex_type (T := "int") (by rfl) T.m_int (by decide +kernel)) ax_nil)) (by walk_at "c_isinstance") (by rfl) T.m_isinstance (by decide +kernel))) (fun hT => ?_) (fun hF => ?_)))
          · refine mss_cons (ms_ret (EX.to (ex_and (ex_call G_law_is_integer (hr.mono (by decide)) (by rfl) (ax_cons (ex_var 0 rfl rfl (.inl rfl)) ax_nil) ⟨_, rfl, rfl, rfl⟩) (fun _ => (ex_one (ex_cmp (ex_var 0 rfl rfl (.inl rfl)) (ex_var 1 rfl rfl (.inl rfl)) (by walk_at "oeq") (nomark _))))) ?_))
            rw [decide_eq_true rfl]
            exact q
          · cases hF
  | str b =>
    cases h1
    cases h2
    refine mss_cons (ms_ifx (tx_val (ex_isi2 (T1 := "list") (T2 := "tuple") (ex_var 1 rfl rfl (.inl rfl)) (by walk_at "dr") (by decide) (by decide) (by rfl) T.m_isinstance (by decide +kernel) (by rfl) T.m_list (by decide +kernel) (by rfl) T.m_tuple (by decide +kernel))) (fun hT => ?_) (fun hF => ?_))
    · cases hT
    · refine mss_nil (mss_cons (ms_ifx (tx_cmp (ex_var 1 rfl rfl (.inl rfl)) ex_non (by walk_at "ois") (nomark _)) (fun hT => ?_) (fun hF => ?_)))
      · cases hT
      · refine mss_nil (mss_cons (ms_ifx (tx_val (ex_callB (ax_cons (ex_var 1 rfl rfl (.inl rfl)) (ax_cons (ex_type (T := "bool") (by rfl) T.m_bool (by decide +kernel)) ax_nil)) (by walk_at "c_isinstance") (by rfl) T.m_isinstance (by decide +kernel))) (fun hT => ?_) (fun hF => ?_)))
        · cases hT
        · refine mss_nil (mss_cons (ms_ifx (tx_val (ex_callB (ax_cons (ex_var 1 rfl rfl (.inl rfl)) (ax_cons (ex_type (T := "int") (by rfl) T.m_int (by decide +kernel)) ax_nil)) (by walk_at "c_isinstance") (by rfl) T.m_isinstance (by decide +kernel))) (fun hT => ?_) (fun hF => ?_)))
          · cases hT
          · refine mss_nil (mss_cons (ms_ret (EX.to (ex_and (ex_callB (ax_cons (ex_var 0 rfl rfl (.inl rfl)) (ax_cons (ex_type (T := "str") (by rfl) T.m_str (by decide +kernel)) ax_nil)) (by walk_at "c_isinstance") (by rfl) T.m_isinstance (by decide +kernel)) (fun _ => (ex_one (ex_cmp (ex_var 0 rfl rfl (.inl rfl)) (ex_var 1 rfl rfl (.inl rfl)) (by walk_at "oeq") (nomark _))))) ?_)))
            rw [decide_eq_true rfl]
            exact q
  | dict kvs => cases n <;> cases ok
theorem ok_same : ∀ (n : Nat) {f : Addr} {fd : FuncData} (F : Fun K "_law_same" "_law_same" s_law_same f fd) (T : Txt K mg) (hm : mg "_law_same" = some (.ref f)) (hb : Binds K fd P_law_same []) (G_law_is_integer : FnM P w K mg base 1 "_law_is_integer" P_law_is_integer sp_isint),
    FnOk P w K mg base CX0 (n + 2) f fd P_law_same (lift (sp_same n))
  | 0, _, _, F, T, _, _, G => body_same F T G fun m h => by cases h
  | n + 1, f, fd, F, T, hm, hb, G => body_same F T G fun m h => by
    cases h
    exact ⟨f, fd, hm, F.kp, hb, ok_same n F T hm hb G⟩
end
end K05

set_option Elab.async false
set_option linter.all false
set_option maxRecDepth 100000
set_option maxHeartbeats 4000000
namespace K05
open PySem PySem.Spec PyProof.Rows L2 Cw
/-! ### deeds -/
abbrev Mk := Int × Int
inductive Deed where
  | back (p : Int)
  | change (m : Str) (rm : List Mk) (bh : Option Mk) (n : Int) (l : List Nat)
@[reducible] def mkD (p : Mk) : PyData := .tuple [.int p.1, .int p.2]
@[reducible] def obD : Option Mk → PyData
  | none => .none
  | some p => mkD p
@[reducible] def deedD : Deed → PyData
  | .back p => .tuple [.str "back", .int p]
  | .change m rm bh n l => .tuple [.str "change", .str m, .tuple (rm.map mkD), obD bh, .int n, .str (tx l)]
abbrev rowD (row : List Deed) : PyData := .list (row.map deedD)
abbrev rowsD (rows : List (List Deed)) : PyData := .list (rows.map rowD)
/-! ### which deeds are in force -/
def isBack (d : Option Deed) (p : Int) : Bool := match d with
  | some (.back q) => decide (q = p)
  | _ => false
def backOf : Option Deed → List Int
  | some (.back q) => [q]
  | _ => []
def fz (row : List Deed) : Nat → List Bool × List Int
  | 0 => ([], [])
  | k + 1 => ((fz row k).1 ++ [!decide (((row.length - k : Nat) : Int) ∈ (fz row k).2)], if ((row.length - k : Nat) : Int) ∈ (fz row k).2 then (fz row k).2 else (fz row k).2 ++ backOf row[row.length - 1 - k]?)
def forces (row : List Deed) : List Bool := (fz row row.length).1.reverse
theorem fz_len (row : List Deed) : ∀ k, (fz row k).1.length = k
  | 0 => rfl
  | k + 1 => by
    show ((fz row k).1 ++ [_]).length = _
    rw [List.length_append, fz_len row k]
    rfl
theorem forces_len (row : List Deed) : (forces row).length = row.length := by
  unfold forces
  rw [List.length_reverse, fz_len]
theorem fz_tkl (row : List Deed) : ∀ k, (fz row k).2.length ≤ k
  | 0 => Nat.le_refl _
  | k + 1 => by
    have ih := fz_tkl row k
    show (if _ then _ else _ : List Int).length ≤ _
    split
    · omega
    · rw [List.length_append]
      have : (backOf row[row.length - 1 - k]?).length ≤ 1 := by
        unfold backOf
        split <;> simp
      omega
theorem fz_pre (row : List Deed) (j : Nat) : ∀ k, j < k → (fz row k).1[j]? = some (!decide (((row.length - j : Nat) : Int) ∈ (fz row j).2))
  | 0, h => by omega
  | k + 1, h => by
    show ((fz row k).1 ++ [_])[j]? = _
    by_cases z : j < k
    · rw [List.getElem?_append_left (by rw [fz_len]; exact z)]
      exact fz_pre row j k z
    · have e : j = k := by omega
      subst e
      rw [List.getElem?_append_right (by rw [fz_len]; exact Nat.le_refl _), fz_len, Nat.sub_self]
      rfl
theorem fz_tk (row : List Deed) (p : Int) : ∀ k, p ∈ (fz row k).2 ↔ ∃ j < k, (fz row k).1[j]? = some true ∧ isBack row[row.length - 1 - j]? p = true
  | 0 => ⟨fun h => (by cases h), fun ⟨j, h, _⟩ => (by omega)⟩
  | k + 1 => by
    have ih := fz_tk row p k
    have e1 : ∀ j, j < k → (fz row (k + 1)).1[j]? = (fz row k).1[j]? := fun j h => by rw [fz_pre row j (k + 1) (by omega), fz_pre row j k h]
    have e2 := fz_pre row k (k + 1) (Nat.lt_succ_self _)
    show p ∈ (if _ then _ else _ : List Int) ↔ _
    by_cases h : ((row.length - k : Nat) : Int) ∈ (fz row k).2
    · rw [if_pos h, ih]
      rw [decide_eq_true h] at e2
      refine ⟨fun ⟨j, a, b, c⟩ => ⟨j, by omega, by rw [e1 j a]; exact b, c⟩, fun ⟨j, a, b, c⟩ => ?_⟩
      by_cases z : j < k
      · exact ⟨j, z, by rw [← e1 j z]; exact b, c⟩
      · have e : j = k := by omega
        subst e
        rw [e2] at b
        cases b
    · rw [if_neg h, List.mem_append, ih]
      rw [decide_eq_false h] at e2
      have hb : p ∈ backOf row[row.length - 1 - k]? ↔ isBack row[row.length - 1 - k]? p = true := by
        unfold backOf isBack
        split
        · rw [List.mem_singleton, decide_eq_true_iff]; exact eq_comm
        · exact ⟨fun h => (by cases h), fun h => (by cases h)⟩
      constructor
      · rintro (⟨j, a, b, c⟩ | q)
        · exact ⟨j, by omega, by rw [e1 j a]; exact b, c⟩
        · exact ⟨k, by omega, e2, hb.mp q⟩
      · rintro ⟨j, a, b, c⟩
        by_cases z : j < k
        · exact .inl ⟨j, z, by rw [← e1 j z]; exact b, c⟩
        · have e : j = k := by omega
          subst e
          exact .inr (hb.mpr c)
theorem forces_at (row : List Deed) {i : Nat} (h : i < row.length) : (forces row)[i]? = (fz row row.length).1[row.length - 1 - i]? := by
  unfold forces
  rw [List.getElem?_reverse (by rw [fz_len]; exact h), fz_len]
/-- in force: no later deed in force takes it back -/
theorem forces_spec (row : List Deed) {i : Nat} (h : i < row.length) : ∃ b, (forces row)[i]? = some b ∧ (b = true ↔ ∀ k, i + 1 ≤ k → k < row.length → (forces row)[k]? = some true → isBack row[k]? ((i : Int) + 1) = false) := by
  refine ⟨_, by rw [forces_at row h, fz_pre row _ _ (by omega)], ?_⟩
  have e0 : row.length - (row.length - 1 - i) = i + 1 := by omega
  rw [e0]
  have e1 := fz_tk row ((i + 1 : Nat) : Int) (row.length - 1 - i)
  have e2 : ((i + 1 : Nat) : Int) = (i : Int) + 1 := by omega
  have pre : ∀ j, j < row.length - 1 - i → (fz row (row.length - 1 - i)).1[j]? = (fz row row.length).1[j]? := fun j hj => by rw [fz_pre row j _ hj, fz_pre row j _ (by omega)]
  by_cases z : ((i + 1 : Nat) : Int) ∈ (fz row (row.length - 1 - i)).2
  · rw [decide_eq_true z]
    refine ⟨fun q => (by cases q), fun q => ?_⟩
    obtain ⟨j, a, b, c⟩ := e1.mp z
    have hk : row.length - 1 - j < row.length := by omega
    have := q (row.length - 1 - j) (by omega) hk (by rw [forces_at row hk, show row.length - 1 - (row.length - 1 - j) = j by omega, ← pre j a]; exact b)
    rw [e2, this] at c
    cases c
  · rw [decide_eq_false z]
    refine ⟨fun _ k a b c => ?_, fun _ => rfl⟩
    cases q : isBack row[k]? ((i : Int) + 1) with
    | false => rfl
    | true =>
      refine (z (e1.mpr ⟨row.length - 1 - k, by omega, ?_, ?_⟩)).elim
      · rw [pre _ (by omega), ← forces_at row b]; exact c
      · rw [show row.length - 1 - (row.length - 1 - k) = k by omega, e2]; exact q
/-! ### the changes of a module, what they insert -/
def isCh (m : Str) : Deed → Bool
  | .change m' _ _ _ _ => decide (m' = m)
  | _ => false
def chOf (m : Str) (r : Nat) (row : List Deed) : List (Nat × Deed × Bool) := ((row.zip (forces row)).filter fun p => isCh m p.1).map fun p => (r, p.1, p.2)
def changes (m : Str) (rows : List (List Deed)) : List (Nat × Deed × Bool) := ((List.range 8).map fun r => chOf m r (rows.getD r [])).flatten
@[reducible] def chD (x : Nat × Deed × Bool) : PyData := .tuple [.int (x.1 : Int), deedD x.2.1, .bool x.2.2]
abbrev Item := Mk × Option Mk × Nat × Bool
def insL (r n : Int) (bh : Option Mk) (l : List Nat) : List (Mk × Option Mk × Nat) := l.mapIdx fun i c => ((n + (i : Int), r), if i = 0 then bh else some (n + (i : Int) - 1, r), c)
@[reducible] def insD (x : Mk × Option Mk × Nat) : PyData := .tuple [mkD x.1, obD x.2.1, .str (tx [x.2.2])]
def itsOf (x : Nat × Deed × Bool) : List Item := match x.2.1 with
  | .change _ _ bh n l => (insL (x.1 : Int) n bh l).map fun y => (y.1, y.2.1, y.2.2, x.2.2)
  | _ => []
@[reducible] def itD (x : Item) : PyData := .tuple [mkD x.1, obD x.2.1, .str (tx [x.2.2.1]), .bool x.2.2.2]
def found (m : Str) (rows : List (List Deed)) : List Item := ((changes m rows).map itsOf).flatten
def rmOf (x : Nat × Deed × Bool) : List Mk := match x.2.1 with
  | .change _ rm _ _ _ => if x.2.2 then rm else []
  | _ => []
def removed (m : Str) (rows : List (List Deed)) : List Mk := ((changes m rows).map rmOf).flatten
def leI (x y : Item) : Bool := leII x.1 y.1
abbrev Ent := Mk × Nat × Bool
def atOf (acc : List Ent) : Option Mk → Nat
  | none => 0
  | some b => (acc.map (·.1)).idxOf b + 1
def put1 (rmv : List Mk) (acc : List Ent) (x : Item) : List Ent := acc.take (atOf acc x.2.1) ++ [(x.1, x.2.2.1, x.2.2.2 && !decide (x.1 ∈ rmv))] ++ acc.drop (atOf acc x.2.1)
def srt (m : Str) (rows : List (List Deed)) : List Item := (found m rows).mergeSort leI
def rowL (m : Str) (rows : List (List Deed)) : List Ent := (srt m rows).foldl (put1 (removed m rows)) []
@[reducible] def entD (x : Ent) : PyData := .tuple [mkD x.1, .str (tx [x.2.1]), .bool x.2.2]
theorem srt_data (m : Str) (rows : List (List Deed)) : ((found m rows).map itD).mergeSort leD = (srt m rows).map itD := (PySem.W.sort_maps (r := leI) (s := leD) itD fun _ _ _ _ => rfl).symm
theorem kyd_it (x : Item) : Kyd (itD x) := ⟨_, _, _, rfl⟩
/-! ### rows that hold together -/
def MkOk (p : Mk) : Prop := 0 ≤ p.1 ∧ p.1 < 36028797018963968 ∧ 0 ≤ p.2 ∧ p.2 < 8
def DeedOk : Deed → Prop
  | .back p => 0 ≤ p
  | .change m rm bh n l => 1 ≤ n ∧ l.length ≤ 30 ∧ rm.length ≤ 10 ∧ (∀ p ∈ rm, MkOk p) ∧ n + l.length < 36028797018963968 ∧ (∀ c ∈ l, c < 128) ∧ PyData.strOk m = true
def RowOk (row : List Deed) : Prop := row.length ≤ 100 ∧ (∀ d ∈ row, DeedOk d) ∧ row.Pairwise fun d d' => match d, d' with
  | .change _ _ _ n l, .change _ _ _ n' l' => l' = [] ∨ n + l.length ≤ n'
  | _, _ => True
/-- the mark of a character of a change of the module -/
def Has (m : Str) (rows : List (List Deed)) (b : Mk) : Prop := ∃ (r : Nat) (row : List Deed) (rm : List Mk) (bh : Option Mk) (n : Int) (l : List Nat) (i : Nat), rows[r]? = some row ∧ .change m rm bh n l ∈ row ∧ i < l.length ∧ b = (n + (i : Int), (r : Int))
def Cl (rows : List (List Deed)) : Prop := ∀ (r : Nat) row m rm b n l, rows[r]? = some row → .change m rm (some b) n l ∈ row → Has m rows b ∧ b.1 < n
/-! ### data that may be compared -/
structure Sh (n : Nat) (d : PyData) : Prop where
  lay : d.canLay0 = true
  dep : d.depth ≤ n
theorem Sh.mono {n k : Nat} {d : PyData} (h : Sh n d) (e : n ≤ k) : Sh k d := ⟨h.lay, Nat.le_trans h.dep e⟩
theorem sh_all {n : Nat} : ∀ {ds : List PyData}, (∀ d ∈ ds, Sh n d) → PyData.canLayAll0 ds = true ∧ PyData.depthAll ds ≤ n
  | [], _ => ⟨by simp [PyData.canLayAll0], by simp [PyData.depthAll]⟩
  | d :: ds, h => by
    have h1 := h d List.mem_cons_self
    have h2 := sh_all (ds := ds) fun x hx => h x (List.mem_cons_of_mem _ hx)
    exact ⟨by simp only [PyData.canLayAll0, h1.lay, h2.1, Bool.and_self], by simp only [PyData.depthAll]; exact Nat.max_le.mpr ⟨h1.dep, h2.2⟩⟩
theorem sh_list {n : Nat} {ds : List PyData} (h : ∀ d ∈ ds, Sh n d) : Sh (n + 1) (.list ds) := ⟨by simp only [PyData.canLay0, (sh_all h).1], by simp only [PyData.depth]; exact Nat.succ_le_succ (sh_all h).2⟩
theorem sh_tup {n : Nat} {ds : List PyData} (h : ∀ d ∈ ds, Sh n d) : Sh (n + 1) (.tuple ds) := ⟨by simp only [PyData.canLay0, (sh_all h).1], by simp only [PyData.depth]; exact Nat.succ_le_succ (sh_all h).2⟩
theorem sh_int (i : Int) {n : Nat} : Sh n (.int i) := ⟨by simp only [PyData.canLay0], by simp only [PyData.depth]; exact Nat.zero_le _⟩
theorem sh_bool (i : Bool) {n : Nat} : Sh n (.bool i) := ⟨by simp only [PyData.canLay0], by simp only [PyData.depth]; exact Nat.zero_le _⟩
theorem sh_none {n : Nat} : Sh n .none := ⟨by simp only [PyData.canLay0], by simp only [PyData.depth]; exact Nat.zero_le _⟩
theorem sh_str {s : Str} (h : PyData.strOk s = true) {n : Nat} : Sh n (.str s) := ⟨by simp only [PyData.canLay0, h], by simp only [PyData.depth]; exact Nat.zero_le _⟩
theorem Sh.ok {n : Nat} {d : PyData} (h : Sh n d) (hn : n ≤ 64) : SeqAt.shaped d = true := by
  unfold SeqAt.shaped
  rw [h.lay, decide_eq_true (Nat.le_trans h.dep hn)]
  rfl
theorem sh_mk (p : Mk) : Sh 1 (mkD p) := sh_tup fun d hd => by
  simp only [List.mem_cons, List.not_mem_nil, or_false] at hd
  rcases hd with rfl | rfl <;> exact sh_int _
theorem sh_ob : ∀ b : Option Mk, Sh 1 (obD b)
  | none => sh_none
  | some p => sh_mk p
theorem strOk_tx {l : List Nat} (h : ∀ c ∈ l, c < 128) : PyData.strOk (tx l) = true := by
  unfold PyData.strOk tx
  rw [Array.all_eq_true']
  intro c hc
  have := h c (by simpa using hc)
  exact decide_eq_true (by omega)
theorem sh_deed {d : Deed} (h : DeedOk d) : Sh 3 (deedD d) := by
  cases d with
  | back p =>
    exact sh_tup fun d hd => by
      simp only [List.mem_cons, List.not_mem_nil, or_false] at hd
      rcases hd with rfl | rfl
      · exact sh_str (by decide +kernel)
      · exact sh_int _
  | change m rm bh n l =>
    exact sh_tup fun d hd => by
      simp only [List.mem_cons, List.not_mem_nil, or_false] at hd
      rcases hd with rfl | rfl | rfl | rfl | rfl | rfl
      · exact sh_str (by decide +kernel)
      · exact sh_str h.2.2.2.2.2.2
      · exact sh_tup fun d hd => by
          obtain ⟨p, _, rfl⟩ := List.mem_map.mp hd
          exact sh_mk p
      · exact (sh_ob bh).mono (by decide)
      · exact sh_int _
      · exact sh_str (strOk_tx h.2.2.2.2.2.1)
theorem eqv_back (d : Deed) (p : Int) : PyData.eqv (deedD d) (.tuple [.str "back", .int p]) = isBack (some d) p := by
  cases d with
  | back q =>
    simp [PyData.eqv, PyData.eqvAll, isBack]
    rw [Bool.eq_iff_iff, beq_iff_eq, decide_eq_true_iff]
  | change m rm bh n l => simp [PyData.eqv, PyData.eqvAll, isBack]
/-- the rows as lists that may change, or as data -/
def RowsAt (L : Led) (r : Rv) (rows : List (List Deed)) : Prop := ∃ rs, LR L r rs ∧ rs.length = rows.length ∧ ∀ (i : Nat) x row, rs[i]? = some x → rows[i]? = some row → LL L x (row.map deedD)
theorem RowsAt.le {L L' : Led} {r : Rv} {rows : List (List Deed)} (h : RowsAt L r rows) (l : Le L L') : RowsAt L' r rows := by
  obtain ⟨rs, a, b, c⟩ := h
  exact ⟨rs, a.le l, b, fun i x row e1 e2 => (c i x row e1 e2).le l⟩
theorem RowsAt.dt {L : Led} {rows : List (List Deed)} : RowsAt L (.dt (rowsD rows)) rows := ⟨(rows.map rowD).map Rv.dt, LL.dt, by rw [List.length_map, List.length_map], fun i x row e1 e2 => by
  rw [List.getElem?_map, List.getElem?_map, e2] at e1
  cases e1
  exact LL.dt⟩
theorem RowsAt.at_ {L : Led} {r : Rv} {rows : List (List Deed)} (h : RowsAt L r rows) : ∃ rs, LR L r rs ∧ rs.length = rows.length ∧ ∀ i : Nat, i < rows.length → ∃ x, rs[i]? = some x ∧ LL L x ((rows.getD i []).map deedD) := by
  obtain ⟨rs, a, b, c⟩ := h
  refine ⟨rs, a, b, fun i hi => ⟨rs[i], List.getElem?_eq_getElem (by omega), c i _ _ (List.getElem?_eq_getElem (by omega)) ?_⟩⟩
  rw [List.getD_eq_getElem?_getD, List.getElem?_eq_getElem hi]
  rfl
structure Wf (rows : List (List Deed)) : Prop where
  len : rows.length = 8
  ok : ∀ row ∈ rows, RowOk row
  cl : Cl rows
end K05

set_option Elab.async false
set_option linter.all false
set_option maxRecDepth 100000
set_option maxHeartbeats 4000000
namespace K05
open PySem PySem.Spec PyProof.Rows L2 Cw
theorem flat_len {α : Type} {c : Nat} : ∀ {L : List (List α)}, (∀ l ∈ L, l.length ≤ c) → L.flatten.length ≤ L.length * c
  | [], _ => by simp
  | l :: L, h => by
    have h1 := flat_len (L := L) fun l' hl => h l' (List.mem_cons_of_mem _ hl)
    have h2 := h l List.mem_cons_self
    rw [List.flatten_cons, List.length_append, List.length_cons, Nat.succ_mul]
    omega
theorem zip_at {α β : Type} : ∀ {xs : List α} {ys : List β} {i : Nat} {p : α × β}, (xs.zip ys)[i]? = some p → xs[i]? = some p.1 ∧ ys[i]? = some p.2 := fun {xs ys i p} h => List.getElem?_zip_eq_some.mp h
theorem mem_chOf {m : Str} {r : Nat} {row : List Deed} {x : Nat × Deed × Bool} : x ∈ chOf m r row ↔ x.1 = r ∧ isCh m x.2.1 = true ∧ ∃ i : Nat, row[i]? = some x.2.1 ∧ (forces row)[i]? = some x.2.2 := by
  unfold chOf
  rw [List.mem_map]
  constructor
  · rintro ⟨p, hp, rfl⟩
    obtain ⟨h1, h2⟩ := List.mem_filter.mp hp
    obtain ⟨i, hi⟩ := List.mem_iff_getElem?.mp h1
    exact ⟨rfl, h2, i, (zip_at hi).1, (zip_at hi).2⟩
  · rintro ⟨h1, h2, i, h3, h4⟩
    refine ⟨(x.2.1, x.2.2), List.mem_filter.mpr ⟨List.mem_iff_getElem?.mpr ⟨i, List.getElem?_zip_eq_some.mpr ⟨h3, h4⟩⟩, h2⟩, ?_⟩
    rw [← h1]
theorem mem_changes {m : Str} {rows : List (List Deed)} {x : Nat × Deed × Bool} : x ∈ changes m rows ↔ x.1 < 8 ∧ x ∈ chOf m x.1 (rows.getD x.1 []) := by
  unfold changes
  rw [List.mem_flatten]
  constructor
  · rintro ⟨l, hl, hx⟩
    obtain ⟨r, hr, rfl⟩ := List.mem_map.mp hl
    have e := (mem_chOf.mp hx).1
    rw [e]
    exact ⟨List.mem_range.mp hr, hx⟩
  · rintro ⟨h1, h2⟩
    exact ⟨_, List.mem_map.mpr ⟨x.1, List.mem_range.mpr h1, rfl⟩, h2⟩
section
variable {m : Str} {rows : List (List Deed)}
theorem Wf.at_ (W : Wf rows) (r : Nat) : RowOk (rows.getD r []) := by
  by_cases h : r < rows.length
  · rw [List.getD_eq_getElem?_getD, List.getElem?_eq_getElem h]
    exact W.ok _ (List.getElem_mem h)
  · rw [List.getD_eq_getElem?_getD, List.getElem?_eq_none (by omega)]
    exact ⟨Nat.zero_le _, (fun _ h => nomatch h), .nil⟩
theorem chOf_len (W : Wf rows) (r : Nat) : (chOf m r (rows.getD r [])).length ≤ 100 := by
  have h := (W.at_ r).1
  unfold chOf
  rw [List.length_map]
  refine Nat.le_trans (List.length_filter_le _ _) ?_
  rw [List.length_zip]
  omega
theorem changes_len (W : Wf rows) : (changes m rows).length ≤ 800 := by
  have h := flat_len (c := 100) (L := (List.range 8).map fun r => chOf m r (rows.getD r [])) fun l hl => by
    obtain ⟨r, _, rfl⟩ := List.mem_map.mp hl
    exact chOf_len W r
  rw [List.length_map, List.length_range] at h
  exact h
theorem ch_mem {x : Nat × Deed × Bool} (W : Wf rows) (h : x ∈ changes m rows) : DeedOk x.2.1 := by
  obtain ⟨_, h2⟩ := mem_changes.mp h
  obtain ⟨_, _, i, h3, _⟩ := mem_chOf.mp h2
  exact (W.at_ x.1).2.1 _ (List.mem_of_getElem? h3)
theorem its_len {x : Nat × Deed × Bool} (h : DeedOk x.2.1) : (itsOf x).length ≤ 30 := by
  unfold itsOf
  split
  · rename_i e
    rw [e] at h
    rw [List.length_map]
    unfold insL
    rw [List.length_mapIdx]
    exact h.2.1
  · exact Nat.zero_le _
theorem found_len (W : Wf rows) : (found m rows).length ≤ 24000 := by
  have h := flat_len (c := 30) (L := (changes m rows).map itsOf) fun l hl => by
    obtain ⟨x, hx, rfl⟩ := List.mem_map.mp hl
    exact its_len (ch_mem W hx)
  have := changes_len (m := m) W
  rw [List.length_map] at h
  show (((changes m rows).map itsOf).flatten).length ≤ _
  omega
theorem rm_len {x : Nat × Deed × Bool} (h : DeedOk x.2.1) : (rmOf x).length ≤ 10 := by
  unfold rmOf
  split
  · rename_i e
    rw [e] at h
    split
    · exact h.2.2.1
    · exact Nat.zero_le _
  · exact Nat.zero_le _
theorem removed_len (W : Wf rows) : (removed m rows).length ≤ 8000 := by
  have h := flat_len (c := 10) (L := (changes m rows).map rmOf) fun l hl => by
    obtain ⟨x, hx, rfl⟩ := List.mem_map.mp hl
    exact rm_len (ch_mem W hx)
  have := changes_len (m := m) W
  rw [List.length_map] at h
  show (((changes m rows).map rmOf).flatten).length ≤ _
  omega
/-- the items that a change gives -/
theorem mem_its {x : Nat × Deed × Bool} {y : Item} : y ∈ itsOf x ↔ ∃ m' rm bh n l, x.2.1 = .change m' rm bh n l ∧ ∃ (i : Nat) (c : Nat), l[i]? = some c ∧ y = ((n + (i : Int), (x.1 : Int)), (if i = 0 then bh else some (n + (i : Int) - 1, (x.1 : Int))), c, x.2.2) := by
  unfold itsOf
  constructor
  · intro h
    split at h
    · rename_i m' rm bh n l e
      obtain ⟨z, hz, rfl⟩ := List.mem_map.mp h
      obtain ⟨i, hi⟩ := List.mem_iff_getElem?.mp hz
      unfold insL at hi
      rw [List.getElem?_mapIdx] at hi
      cases hc : l[i]? with
      | none => rw [hc] at hi; cases hi
      | some c =>
        rw [hc] at hi
        cases hi
        exact ⟨m', rm, bh, n, l, e, i, c, hc, rfl⟩
    · cases h
  · rintro ⟨m', rm, bh, n, l, e, i, c, hc, rfl⟩
    rw [e]
    refine List.mem_map.mpr ⟨((n + (i : Int), (x.1 : Int)), (if i = 0 then bh else some (n + (i : Int) - 1, (x.1 : Int))), c), List.mem_iff_getElem?.mpr ⟨i, ?_⟩, rfl⟩
    unfold insL
    rw [List.getElem?_mapIdx, hc]
    rfl
theorem mem_found {y : Item} : y ∈ found m rows ↔ ∃ x ∈ changes m rows, y ∈ itsOf x := by
  unfold found
  rw [List.mem_flatten]
  constructor
  · rintro ⟨l, hl, hy⟩
    obtain ⟨x, hx, rfl⟩ := List.mem_map.mp hl
    exact ⟨x, hx, hy⟩
  · rintro ⟨x, hx, hy⟩
    exact ⟨_, List.mem_map.mpr ⟨x, hx, rfl⟩, hy⟩
/-- marks of the changes, each for itself -/
theorem found_nodup (W : Wf rows) : ((found m rows).map (·.1)).Nodup := by
  have two : ∀ (r : Nat) (d d' : Deed) (f f' : Bool) (y y' : Item), (match d, d' with
      | .change _ _ _ n l, .change _ _ _ n' l' => l' = [] ∨ n + l.length ≤ n'
      | _, _ => True) → y ∈ itsOf (r, d, f) → y' ∈ itsOf (r, d', f') → y.1 ≠ y'.1 := by
    intro r d d' f f' y y' h h1 h2 e
    obtain ⟨m1, rm1, bh1, n1, l1, e1, i1, c1, k1, rfl⟩ := mem_its.mp h1
    obtain ⟨m2, rm2, bh2, n2, l2, e2, i2, c2, k2, rfl⟩ := mem_its.mp h2
    have e1' : d = .change m1 rm1 bh1 n1 l1 := e1
    have e2' : d' = .change m2 rm2 bh2 n2 l2 := e2
    subst e1' e2'
    have hi := (List.getElem?_eq_some_iff.mp k1).1
    have h' : n1 + l1.length ≤ n2 := by
      have h : l2 = [] ∨ n1 + l1.length ≤ n2 := h
      rcases h with z | z
      · rw [z] at k2; cases k2
      · exact z
    have := congrArg Prod.fst e
    have this : n1 + (i1 : Int) = n2 + (i2 : Int) := this
    omega
  unfold found
  rw [List.map_flatten, List.map_map]
  rw [List.Nodup, List.pairwise_flatten]
  constructor
  · intro l hl
    obtain ⟨x, hx, rfl⟩ := List.mem_map.mp hl
    show ((itsOf x).map (·.1)).Pairwise (· ≠ ·)
    unfold itsOf
    split
    · rename_i m' rm bh n l e
      rw [List.map_map, List.pairwise_map]
      unfold insL
      rw [List.pairwise_iff_getElem]
      intro i j hi hj hij
      rw [List.getElem_mapIdx, List.getElem_mapIdx]
      intro e
      have := congrArg Prod.fst e
      have this : n + (i : Int) = n + (j : Int) := this
      omega
    · exact .nil
  · rw [List.pairwise_map]
    unfold changes
    rw [List.pairwise_flatten]
    constructor
    · intro l hl
      obtain ⟨r, _, rfl⟩ := List.mem_map.mp hl
      unfold chOf
      rw [List.pairwise_map]
      refine List.Pairwise.filter _ ?_
      have hp := (W.at_ r).2.2
      have hz : ((rows.getD r []).zip (forces (rows.getD r []))).map (·.1) = rows.getD r [] := List.map_fst_zip (by rw [forces_len]; exact Nat.le_refl _)
      rw [← hz, List.pairwise_map] at hp
      refine hp.imp fun {p q} h a ha b hb => ?_
      obtain ⟨y, hy, rfl⟩ := List.mem_map.mp ha
      obtain ⟨y', hy', rfl⟩ := List.mem_map.mp hb
      exact two r p.1 q.1 p.2 q.2 y y' h hy hy'
    · rw [List.pairwise_map]
      refine List.pairwise_lt_range.imp fun {r r'} h x hx x' hx' a ha b hb => ?_
      obtain ⟨y, hy, rfl⟩ := List.mem_map.mp ha
      obtain ⟨y', hy', rfl⟩ := List.mem_map.mp hb
      obtain ⟨m1, rm1, bh1, n1, l1, e1, i1, c1, k1, rfl⟩ := mem_its.mp hy
      obtain ⟨m2, rm2, bh2, n2, l2, e2, i2, c2, k2, rfl⟩ := mem_its.mp hy'
      intro e
      have := congrArg Prod.snd e
      have this : (x.1 : Int) = (x'.1 : Int) := this
      rw [(mem_chOf.mp hx).1, (mem_chOf.mp hx').1] at this
      omega
theorem has_found {b : Mk} (W : Wf rows) (h : Has m rows b) : b ∈ (found m rows).map (·.1) := by
  obtain ⟨r, row, rm, bh, n, l, i, hr, hd, hi, rfl⟩ := h
  obtain ⟨j, hj⟩ := List.mem_iff_getElem?.mp hd
  have hjl := (List.getElem?_eq_some_iff.mp hj).1
  have hr8 : r < 8 := by rw [← W.len]; exact (List.getElem?_eq_some_iff.mp hr).1
  have eg : rows.getD r [] = row := by rw [List.getD_eq_getElem?_getD, hr]; rfl
  obtain ⟨f, hf⟩ : ∃ f, (forces row)[j]? = some f := ⟨_, List.getElem?_eq_getElem (by rw [forces_len]; exact hjl)⟩
  refine List.mem_map.mpr ⟨((n + (i : Int), (r : Int)), (if i = 0 then bh else some (n + (i : Int) - 1, (r : Int))), l[i], f), mem_found.mpr ⟨(r, .change m rm bh n l, f), mem_changes.mpr ⟨hr8, ?_⟩, mem_its.mpr ⟨m, rm, bh, n, l, rfl, i, l[i], List.getElem?_eq_getElem hi, rfl⟩⟩, rfl⟩
  show _ ∈ chOf m r (rows.getD r [])
  rw [eg]
  exact mem_chOf.mpr ⟨rfl, by simp [isCh], j, hj, hf⟩
theorem found_has {y : Item} (W : Wf rows) (h : y ∈ found m rows) : Has m rows y.1 ∧ ∀ b, y.2.1 = some b → Has m rows b ∧ b.1 < y.1.1 := by
  obtain ⟨x, hx, hy⟩ := mem_found.mp h
  obtain ⟨h8, hc⟩ := mem_changes.mp hx
  obtain ⟨_, hm, j, hj, _⟩ := mem_chOf.mp hc
  obtain ⟨m', rm, bh, n, l, e, i, c, hl, rfl⟩ := mem_its.mp hy
  rw [e] at hm hj
  have hm' : m' = m := of_decide_eq_true hm
  subst hm'
  have hi := (List.getElem?_eq_some_iff.mp hl).1
  have hr : rows[x.1]? = some (rows.getD x.1 []) := by
    rw [List.getD_eq_getElem?_getD, List.getElem?_eq_getElem (by rw [W.len]; exact h8)]
    rfl
  refine ⟨⟨x.1, _, rm, bh, n, l, i, hr, List.mem_of_getElem? hj, hi, rfl⟩, fun b hb => ?_⟩
  by_cases z : i = 0
  · have hb' : (if i = 0 then bh else some (n + (i : Int) - 1, (x.1 : Int))) = some b := hb
    rw [if_pos z] at hb'
    subst hb'
    obtain ⟨h1, h2⟩ := W.cl x.1 _ _ rm b n l hr (List.mem_of_getElem? hj)
    exact ⟨h1, by show b.1 < n + (i : Int); omega⟩
  · have hb' : (if i = 0 then bh else some (n + (i : Int) - 1, (x.1 : Int))) = some b := hb
    rw [if_neg z] at hb'
    cases hb'
    refine ⟨⟨x.1, _, rm, bh, n, l, i - 1, hr, List.mem_of_getElem? hj, by omega, ?_⟩, by show n + (i : Int) - 1 < n + (i : Int); omega⟩
    rw [show ((i - 1 : Nat) : Int) = (i : Int) - 1 by omega]
    exact Prod.ext (by show n + (i : Int) - 1 = n + ((i : Int) - 1); omega) rfl
theorem srt_mem {y : Item} : y ∈ srt m rows ↔ y ∈ found m rows := List.mem_mergeSort
theorem srt_nodup (W : Wf rows) : ((srt m rows).map (·.1)).Nodup := ((List.mergeSort_perm _ _).map _).nodup_iff.mpr (found_nodup W)
theorem srt_len (W : Wf rows) : (srt m rows).length ≤ 24000 := by
  unfold srt
  rw [List.length_mergeSort]
  exact found_len W
theorem leII_total (x y : Mk) : (leII x y || leII y x) = true := by
  unfold leII
  rw [Bool.or_eq_true, decide_eq_true_iff, decide_eq_true_iff]
  omega
theorem leII_trans (x y z : Mk) (h1 : leII x y = true) (h2 : leII y z = true) : leII x z = true := by
  unfold leII at *
  rw [decide_eq_true_iff] at *
  omega
theorem srt_sorted : (srt m rows).Pairwise fun x y => leII x.1 y.1 = true := List.pairwise_mergeSort (le := leI) (fun a b c h1 h2 => leII_trans a.1 b.1 c.1 h1 h2) (fun a b => leII_total a.1 b.1) _
theorem srt_behind (W : Wf rows) {i : Nat} {x : Item} {b : Mk} (hx : (srt m rows)[i]? = some x) (hb : x.2.1 = some b) : b ∈ ((srt m rows).take i).map (·.1) := by
  obtain ⟨_, h⟩ := found_has W (srt_mem.mp (List.mem_of_getElem? hx))
  obtain ⟨h1, h2⟩ := h b hb
  obtain ⟨y, hy, rfl⟩ := List.mem_map.mp (has_found W h1)
  obtain ⟨j, hj⟩ := List.mem_iff_getElem?.mp (srt_mem.mpr hy)
  have hi := (List.getElem?_eq_some_iff.mp hx).1
  have hjl := (List.getElem?_eq_some_iff.mp hj).1
  have ei : (srt m rows)[i] = x := (List.getElem?_eq_some_iff.mp hx).2
  have ej : (srt m rows)[j] = y := (List.getElem?_eq_some_iff.mp hj).2
  by_cases z : j < i
  · refine List.mem_map.mpr ⟨y, List.mem_iff_getElem?.mpr ⟨j, ?_⟩, rfl⟩
    rw [List.getElem?_take_of_lt z]
    exact hj
  · exfalso
    by_cases z2 : i = j
    · subst z2
      rw [ei] at ej
      rw [← ej] at h2
      omega
    · have hp := List.pairwise_iff_getElem.mp (srt_sorted (m := m) (rows := rows)) i j hi hjl (by omega)
      rw [ei, ej] at hp
      unfold leII at hp
      have := of_decide_eq_true hp
      omega
end
end K05

set_option Elab.async false
set_option linter.all false
set_option maxRecDepth 100000
set_option maxHeartbeats 4000000
namespace K05
open PySem PySem.Spec PyProof.Rows L2 Cw
/-! ### small closers, each at its own key -/
local macro_rules | `(tactic| walk_at "oadd") => `(tactic| first | exact o_add | exact o_addS (by walk_at "sz") | exact o_cat (by walk_at "ll") (by walk_at "ll") (by walk_at "sz"))
local macro_rules | `(tactic| walk_at "osub") => `(tactic| exact o_sub)
local macro_rules | `(tactic| walk_at "omul") => `(tactic| first | exact o_mul (by walk_at "sd") | exact o_rep (by walk_at "ll") (by walk_at "sd") (by walk_at "sd") (by walk_at "sz"))
local macro_rules | `(tactic| walk_at "odiv") => `(tactic| first | exact o_div (by walk_at "sd") | exact o_divW (by walk_at "sd"))
local macro_rules | `(tactic| walk_at "olt") => `(tactic| exact o_lt)
local macro_rules | `(tactic| walk_at "ole") => `(tactic| exact o_le)
local macro_rules | `(tactic| walk_at "ogt") => `(tactic| exact o_gt)
local macro_rules | `(tactic| walk_at "oge") => `(tactic| exact o_ge)
local macro_rules | `(tactic| walk_at "oeq") => `(tactic| first | exact o_eqI | exact o_eqNI | exact o_eqS | exact o_eqB | exact o_eqR (Room.units (by assumption)) (by walk_at "dr") (by walk_at "dr") (by walk_at "sh") (by walk_at "sh"))
local macro_rules | `(tactic| walk_at "one") => `(tactic| first | exact o_neI | exact o_neS | exact o_neB | exact o_neR (Room.units (by assumption)) (by walk_at "dr") (by walk_at "dr") (by walk_at "sh") (by walk_at "sh"))
local macro_rules | `(tactic| walk_at "ois") => `(tactic| exact o_isN)
local macro_rules | `(tactic| walk_at "oisn") => `(tactic| exact o_notN)
local macro_rules | `(tactic| walk_at "iadd") => `(tactic| exact o_iadd)
local macro_rules | `(tactic| walk_at "isub") => `(tactic| exact o_isub)
local macro_rules | `(tactic| walk_at "lk") => `(tactic| first | assumption | exact updL_same | (refine Eq.trans (updL_ne (by first | assumption | (apply Ne.symm; assumption))) ?_; walk_at "lk"))
local macro_rules | `(tactic| walk_at "ll") => `(tactic| first | exact LL.dt | assumption | exact LL.h (by walk_at "lk"))
local macro_rules | `(tactic| walk_at "lr") => `(tactic| first | exact LL.dt | assumption | exact LR.h (by walk_at "lk"))
local macro_rules | `(tactic| walk_at "dr") => `(tactic| first | exact DD.dt | assumption | exact DD.ofLL (by walk_at "lk"))
local macro_rules | `(tactic| walk_at "sd") => `(tactic| first | omega | assumption | decide)
local macro_rules | `(tactic| walk_at "rg") => `(tactic| first | omega | assumption | decide)
local macro_rules | `(tactic| walk_at "sz") => `(tactic| first | assumption | (rw [sizeLine_eq]; first | omega | (simp; omega)))
local macro_rules | `(tactic| walk_at "osl") => `(tactic| first | exact s_str (by walk_at "sz") | exact s_lst (by walk_at "ll"))
local macro_rules | `(tactic| walk_at "c_len") => `(tactic| first | exact c_lenT | exact c_lenS (by walk_at "sz") | exact c_lenL (by walk_at "ll") | exact c_lenR (by walk_at "lr") | exact c_lenF (by assumption))
local macro_rules | `(tactic| walk_at "c_int") => `(tactic| first | exact c_int | exact c_intB)
local macro_rules | `(tactic| walk_at "c_min") => `(tactic| exact c_min rfl)
local macro_rules | `(tactic| walk_at "c_max") => `(tactic| exact c_max rfl)
local macro_rules | `(tactic| walk_at "c_ord") => `(tactic| exact c_ord (by walk_at "sz"))
local macro_rules | `(tactic| walk_at "c_list") => `(tactic| first | exact c_listT | exact c_list (by walk_at "ll") | exact c_listF (by assumption))
local macro_rules | `(tactic| walk_at "c_tuple") => `(tactic| first | exact c_tupleT | exact c_tuple (by walk_at "ll"))
local macro_rules | `(tactic| walk_at "c_isinstance") => `(tactic| exact c_isi (by walk_at "dr") (by decide))
local macro_rules | `(tactic| walk_at "few") => `(tactic| first | decide | exact Nat.le_of_ble_eq_true rfl | (rw [sizeLine_eq]; exact Nat.le_of_ble_eq_true rfl) | assumption)
local macro_rules | `(tactic| walk_at "fl") => `(tactic| first | assumption | rfl)
local macro_rules | `(tactic| walk_at "nf") => `(tactic| first | rfl | decide +kernel)
local macro_rules | `(tactic| walk_at "at") => `(tactic| first | assumption | rfl | exact atI_nat (by assumption))
local macro_rules | `(tactic| walk_at "oix") => `(tactic| first | exact i_tup (by walk_at "at") | exact i_lst (by walk_at "ll") (by walk_at "at") | exact i_lstR (by walk_at "lr") (by walk_at "at") | exact i_str (by walk_at "sz") (by walk_at "at") | exact i_lstF (by assumption) (by walk_at "at"))
local macro_rules | `(tactic| walk_at "ixn") => `(tactic| first | assumption | rfl)
local macro_rules | `(tactic| walk_at "okd") => `(tactic| first | rfl | assumption)
local macro_rules | `(tactic| walk_at "wr") => `(tactic| first | assumption | omega)
local macro_rules | `(tactic| walk_at "shn") => `(tactic| first | exact fun z => absurd z (by assumption) | exact fun z => absurd rfl z | exact fun _ => ⟨rfl, rfl⟩)
local macro_rules | `(tactic| walk_at "onin") => `(tactic| exact o_notIn2S)
local macro_rules | `(tactic| walk_at "okp") => `(tactic| first | assumption | exact nxt_p (by walk_at "okp"))
local macro_rules | `(tactic| walk_at "c_all") => `(tactic| exact c_all rfl (by walk_at "ll"))
local macro_rules | `(tactic| walk_at "c_sum") => `(tactic| exact c_sum rfl (by walk_at "ll"))
local macro_rules | `(tactic| walk_at "c_sorted") => `(tactic| exact c_sortedS (by walk_at "ll") (by walk_at "sz"))

structure TxD (K : PySem.W.Frag) (mg : Str → Option Value) (C : Addr) : Prop extends Txt K mg where
  c_Deeds : Cls K C
  n_Deeds_rows : NoAttr K C "rows"
  g_REPLICAS : ∃ t, mg "REPLICAS" = some (.int 8 t)
  g_LONGEST_NAME : ∃ t, mg "LONGEST_NAME" = some (.int 40 t)
section
variable {P : Program} {w : World} {K : PySem.W.Frag} {mg : Str → Option Value} {base : Heap} {C : Addr}
/-! ### what a change inserts -/
def pv (r n : Int) (bh : Option Mk) (i : Nat) : Option Mk := if i = 0 then bh else some (n + (i : Int) - 1, r)
theorem pv_succ (r n : Int) (bh : Option Mk) (i : Nat) : pv r n bh (i + 1) = some (n + (i : Int), r) := by
  unfold pv
  rw [if_neg (Nat.succ_ne_zero i), show n + ((i + 1 : Nat) : Int) - 1 = n + (i : Int) by omega]
theorem insL_at {r n : Int} {bh : Option Mk} {l : List Nat} {i c : Nat} (h : l[i]? = some c) : (insL r n bh l)[i]? = some ((n + (i : Int), r), pv r n bh i, c) := by
  unfold insL
  rw [List.getElem?_mapIdx, h]
  rfl
theorem insL_len {r n : Int} {bh : Option Mk} {l : List Nat} : (insL r n bh l).length = l.length := by
  unfold insL
  rw [List.length_mapIdx]
abbrev dts (ds : List PyData) : List Rv := ds.map Rv.dt
def sp_ins : Fs := fun as L Q _ => ∃ r m rm bh n l, as = [.dt (.int r), .dt (deedD (.change m rm bh n l))] ∧ l.length ≤ 1000 ∧ ∀ L', Le L L' → Q (.dt (.list ((insL r n bh l).map insD))) L'
theorem ins_snoc {r n : Int} {bh : Option Mk} {l : List Nat} {i c : Nat} (h : l[i]? = some c) : dts (((insL r n bh l).take i).map insD) ++ [.dt (.tuple [.tuple [.int (n + (i : Int)), .int r], obD (pv r n bh i), .str (tx [c])])] = dts (((insL r n bh l).take (i + 1)).map insD) := by
  rw [take_snoc (insL_at h)]
  simp
theorem ok_ins {f : Addr} {fd : FuncData} (F : Fun K "inserted" "inserted" s_inserted f fd) (T : TxD K mg C) : FnOk P w K mg base CX0 1 f fd P_inserted (lift sp_ins) := by
  refine fnok0 F sc_inserted (fun as L Q XC h => by obtain ⟨_, _, _, _, _, _, rfl, _⟩ := h; rfl) ?_
  intro cdv A outer s0 H E hr as L Q XC h
  obtain ⟨r, m, rm, bh, n, l, rfl, hz, q⟩ := h
  refine mss_cons (ms_set 2 sc_inserted.nd rfl (.inl rfl) (me_lst0 fun p hp => ?_))
  refine mss_cons (ms_set 3 sc_inserted.nd rfl (by first | exact .inl rfl | exact .inr rfl) (EX.to (ex_ix (ex_var 1 rfl rfl (.inl rfl)) ex_int (by walk_at "oix") (fun _ _ => rfl)) ?_))
  refine mss_cons (ms_for (tgt := (.t [4, 5])) rfl (ix_enumS (ax_cons (ex_ix (ex_var 1 rfl rfl (.inl rfl)) ex_int (by walk_at "oix") (fun _ _ => rfl)) ax_nil) (by rfl) T.m_enumerate) (pgn_tup rfl (pgn_cons 4 sc_inserted.nd rfl (by first | exact .inl rfl | exact .inr rfl) (pgn_cons 5 sc_inserted.nd rfl (by first | exact .inl rfl | exact .inr rfl) pgn_nil))) (fun i ρ L' => ∃ ix ch mk, ρ = [some (.dt (.int r)), some (.dt (deedD (.change m rm bh n l))), some (.vl (.ref p)), some (.dt (obD (pv r n bh i))), ix, ch, mk] ∧ L' = updL L p (.lst (dts (((insL r n bh l).take i).map insD)))) ⟨none, none, none, rfl, rfl⟩ (fun _ _ _ _ _ => trivial) ?_ ?_)
  · intro i y ρ L' hy hI
    obtain ⟨ix, ch, mk, rfl, rfl⟩ := hI
    unfold enumS at hy
    rw [tx_list, List.getElem?_mapIdx] at hy
    cases hc : l[i]? with
    | none => rw [hc] at hy; cases hy
    | some c =>
      rw [hc] at hy
      cases hy
      refine ⟨_, rfl, ?_⟩
      have hil := (List.getElem?_eq_some_iff.mp hc).1
      have hz1 : (dts (((insL r n bh l).take i).map insD)).length < sizeLine := by rw [List.length_map, List.length_map, List.length_take, sizeLine_eq]; omega
      refine mss_cons (ms_set 6 sc_inserted.nd rfl (by first | exact .inl rfl | exact .inr rfl) (EX.to (ex_tup (ad_cons (ex_bin (ex_ix (ex_var 1 rfl rfl (.inl rfl)) ex_int (by walk_at "oix") (fun _ _ => rfl)) (ex_var 4 rfl rfl (.inl rfl)) (by walk_at "oadd")) (ad_cons (ex_var 0 rfl rfl (.inl rfl)) ad_nil)) (by walk_at "few")) ?_))
      refine mss_cons (ms_expr (EX.to (ex_append (ex_var 2 rfl rfl (.inl rfl)) (by walk_at "lk") (ex_tup (ad_cons (ex_var 6 rfl rfl (.inl rfl)) (ad_cons (ex_var 3 rfl rfl (.inl rfl)) (ad_cons (ex_var 5 rfl rfl (.inl rfl)) ad_nil))) (by walk_at "few")) (by walk_at "lk") (by walk_at "sz")) ?_))
      refine mss_cons (ms_set 3 sc_inserted.nd rfl (by first | exact .inl rfl | exact .inr rfl) (EX.to (ex_var 6 rfl rfl (.inl rfl)) ?_))
      have e := ins_snoc (r := r) (n := n) (bh := bh) hc
      refine mss_nil ⟨_, _, _, by rw [pv_succ]; rfl, ?_⟩
      rw [updL_updL]
      exact congrArg (fun z => updL L p (.lst z)) e
  · intro ρ L' hI
    obtain ⟨ix, ch, mk, rfl, rfl⟩ := hI
    have el : (enumS (tx l)).length = l.length := by unfold enumS; rw [List.length_mapIdx, tx_list]
    rw [el, List.take_of_length_le (by rw [insL_len]; exact Nat.le_refl _)]
    refine MSs.settle 2 rfl updL_same ?_
    refine mss_cons (ms_ret (EX.to (ex_var 2 rfl rfl (.inl rfl)) ?_))
    exact q _ fun a m h => by
      unfold delL
      rw [if_neg (ne_led h hp), updL_ne (ne_led h hp)]
      exact h
theorem ok_lins {f : Addr} {fd : FuncData} (F : Fun K "_law_inserted" "_law_inserted" s_law_inserted f fd) (T : TxD K mg C) : FnOk P w K mg base CX0 1 f fd P_law_inserted (lift sp_ins) := by
  refine fnok0 F sc_law_inserted (fun as L Q XC h => by obtain ⟨_, _, _, _, _, _, rfl, _⟩ := h; rfl) ?_
  intro cdv A outer s0 H E hr as L Q XC h
  obtain ⟨r, m, rm, bh, n, l, rfl, hz, q⟩ := h
  have hsz : (tx l).length ≤ sizeLine := by rw [tx_len, sizeLine_eq]; omega
  have hsz2 : ((tx l).length : Int) < 2 ^ 62 := by rw [tx_len]; omega
  refine mss_cons (ms_set 2 sc_law_inserted.nd rfl (.inl rfl) (me_lst0 fun p hp => ?_))
  refine mss_cons (ms_set 3 sc_law_inserted.nd rfl (by first | exact .inl rfl | exact .inr rfl) (EX.to (ex_ix (ex_var 1 rfl rfl (.inl rfl)) ex_int (by walk_at "oix") (fun _ _ => rfl)) ?_))
  refine mss_cons (ms_for (tgt := (.n 4)) rfl (ix_range1 (ax_cons (ex_callB (ax_cons (ex_ix (ex_var 1 rfl rfl (.inl rfl)) ex_int (by walk_at "oix") (fun _ _ => rfl)) ax_nil) (by walk_at "c_len") (by rfl) T.m_len PySem.boot_len) ax_nil) (by walk_at "sd") (by walk_at "sd") (by rfl) T.m_range) (pgn_name 4 sc_law_inserted.nd rfl (by first | exact .inl rfl | exact .inr rfl)) (fun i ρ L' => ∃ k, ρ = [some (.dt (.int r)), some (.dt (deedD (.change m rm bh n l))), some (.vl (.ref p)), some (.dt (obD (pv r n bh i))), k] ∧ L' = updL L p (.lst (dts (((insL r n bh l).take i).map insD)))) ⟨none, rfl, rfl⟩ (fun _ _ _ _ _ => trivial) ?_ ?_)
  · intro i y ρ L' hy hI
    obtain ⟨k, rfl, rfl⟩ := hI
    obtain ⟨hi, rfl⟩ := rgY_at hy
    rw [tx_len, Int.toNat_natCast] at hi
    obtain ⟨c, hc⟩ : ∃ c, l[i]? = some c := ⟨_, List.getElem?_eq_getElem hi⟩
    refine ⟨_, rfl, ?_⟩
    rw [Int.zero_add]
    have hat : atI (tx l).cps.toList (i : Int) = some c := atI_nat (by rw [tx_list]; exact hc)
    have hz1 : (dts (((insL r n bh l).take i).map insD)).length < sizeLine := by rw [List.length_map, List.length_map, List.length_take, sizeLine_eq]; omega
    refine mss_cons (ms_expr (EX.to (ex_append (ex_var 2 rfl rfl (.inl rfl)) (by walk_at "lk") (ex_tup (ad_cons (ex_tup (ad_cons (ex_bin (ex_ix (ex_var 1 rfl rfl (.inl rfl)) ex_int (by walk_at "oix") (fun _ _ => rfl)) (ex_var 4 rfl rfl (.inl rfl)) (by walk_at "oadd")) (ad_cons (ex_var 0 rfl rfl (.inl rfl)) ad_nil)) (by walk_at "few")) (ad_cons (ex_var 3 rfl rfl (.inl rfl)) (ad_cons (ex_ix (ex_ix (ex_var 1 rfl rfl (.inl rfl)) ex_int (by walk_at "oix") (fun _ _ => rfl)) (ex_var 4 rfl rfl (.inl rfl)) (by walk_at "oix") (fun _ _ => rfl)) ad_nil))) (by walk_at "few")) (by walk_at "lk") (by walk_at "sz")) ?_))
    refine mss_cons (ms_set 3 sc_law_inserted.nd rfl (by first | exact .inl rfl | exact .inr rfl) (EX.to (ex_tup (ad_cons (ex_bin (ex_ix (ex_var 1 rfl rfl (.inl rfl)) ex_int (by walk_at "oix") (fun _ _ => rfl)) (ex_var 4 rfl rfl (.inl rfl)) (by walk_at "oadd")) (ad_cons (ex_var 0 rfl rfl (.inl rfl)) ad_nil)) (by walk_at "few")) ?_))
    have e := ins_snoc (r := r) (n := n) (bh := bh) hc
    refine mss_nil ⟨_, by rw [pv_succ]; rfl, ?_⟩
    rw [updL_updL]
    exact congrArg (fun z => updL L p (.lst z)) e
  · intro ρ L' hI
    obtain ⟨k, rfl, rfl⟩ := hI
    rw [rgY_len, tx_len, Int.toNat_natCast, List.take_of_length_le (by rw [insL_len]; exact Nat.le_refl _)]
    refine MSs.settle 2 rfl updL_same ?_
    refine mss_cons (ms_ret (EX.to (ex_var 2 rfl rfl (.inl rfl)) ?_))
    exact q _ fun a m h => by
      unfold delL
      rw [if_neg (ne_led h hp), updL_ne (ne_led h hp)]
      exact h
end
end K05

set_option Elab.async false
set_option linter.all false
set_option maxRecDepth 100000
set_option maxHeartbeats 4000000
namespace K05
open PySem PySem.Spec PyProof.Rows L2 Cw
/-! ### small closers, each at its own key -/
local macro_rules | `(tactic| walk_at "oadd") => `(tactic| first | exact o_add | exact o_addS (by walk_at "sz") | exact o_cat (by walk_at "ll") (by walk_at "ll") (by walk_at "sz"))
local macro_rules | `(tactic| walk_at "osub") => `(tactic| exact o_sub)
local macro_rules | `(tactic| walk_at "omul") => `(tactic| first | exact o_mul (by walk_at "sd") | exact o_rep (by walk_at "ll") (by walk_at "sd") (by walk_at "sd") (by walk_at "sz"))
local macro_rules | `(tactic| walk_at "odiv") => `(tactic| first | exact o_div (by walk_at "sd") | exact o_divW (by walk_at "sd"))
local macro_rules | `(tactic| walk_at "olt") => `(tactic| exact o_lt)
local macro_rules | `(tactic| walk_at "ole") => `(tactic| exact o_le)
local macro_rules | `(tactic| walk_at "ogt") => `(tactic| exact o_gt)
local macro_rules | `(tactic| walk_at "oge") => `(tactic| exact o_ge)
local macro_rules | `(tactic| walk_at "oeq") => `(tactic| first | exact o_eqI | exact o_eqNI | exact o_eqS | exact o_eqB | exact o_eqR (Room.units (by assumption)) (by walk_at "dr") (by walk_at "dr") (by walk_at "sh") (by walk_at "sh"))
local macro_rules | `(tactic| walk_at "one") => `(tactic| first | exact o_neI | exact o_neS | exact o_neB | exact o_neR (Room.units (by assumption)) (by walk_at "dr") (by walk_at "dr") (by walk_at "sh") (by walk_at "sh"))
local macro_rules | `(tactic| walk_at "ois") => `(tactic| exact o_isN)
local macro_rules | `(tactic| walk_at "oisn") => `(tactic| exact o_notN)
local macro_rules | `(tactic| walk_at "iadd") => `(tactic| exact o_iadd)
local macro_rules | `(tactic| walk_at "isub") => `(tactic| exact o_isub)
local macro_rules | `(tactic| walk_at "lk") => `(tactic| first | assumption | exact updL_same | (refine Eq.trans (updL_ne (by first | assumption | (apply Ne.symm; assumption))) ?_; walk_at "lk"))
local macro_rules | `(tactic| walk_at "ll") => `(tactic| first | exact LL.dt | assumption | exact LL.h (by walk_at "lk"))
local macro_rules | `(tactic| walk_at "lr") => `(tactic| first | exact LL.dt | assumption | exact LR.h (by walk_at "lk"))
local macro_rules | `(tactic| walk_at "dr") => `(tactic| first | exact DD.dt | assumption | exact DD.ofLL (by walk_at "lk"))
local macro_rules | `(tactic| walk_at "sd") => `(tactic| first | omega | assumption | decide)
local macro_rules | `(tactic| walk_at "rg") => `(tactic| first | omega | assumption | decide)
local macro_rules | `(tactic| walk_at "sz") => `(tactic| first | assumption | (rw [sizeLine_eq]; first | omega | (simp; omega)))
local macro_rules | `(tactic| walk_at "osl") => `(tactic| first | exact s_str (by walk_at "sz") | exact s_lst (by walk_at "ll"))
local macro_rules | `(tactic| walk_at "c_len") => `(tactic| first | exact c_lenT | exact c_lenS (by walk_at "sz") | exact c_lenL (by walk_at "ll") | exact c_lenR (by walk_at "lr") | exact c_lenF (by assumption))
local macro_rules | `(tactic| walk_at "c_int") => `(tactic| first | exact c_int | exact c_intB)
local macro_rules | `(tactic| walk_at "c_min") => `(tactic| exact c_min rfl)
local macro_rules | `(tactic| walk_at "c_max") => `(tactic| exact c_max rfl)
local macro_rules | `(tactic| walk_at "c_ord") => `(tactic| exact c_ord (by walk_at "sz"))
local macro_rules | `(tactic| walk_at "c_list") => `(tactic| first | exact c_listT | exact c_list (by walk_at "ll") | exact c_listF (by assumption))
local macro_rules | `(tactic| walk_at "c_tuple") => `(tactic| first | exact c_tupleT | exact c_tuple (by walk_at "ll"))
local macro_rules | `(tactic| walk_at "c_isinstance") => `(tactic| exact c_isi (by walk_at "dr") (by decide))
local macro_rules | `(tactic| walk_at "few") => `(tactic| first | decide | exact Nat.le_of_ble_eq_true rfl | (rw [sizeLine_eq]; exact Nat.le_of_ble_eq_true rfl) | assumption)
local macro_rules | `(tactic| walk_at "fl") => `(tactic| first | assumption | rfl)
local macro_rules | `(tactic| walk_at "nf") => `(tactic| first | rfl | decide +kernel)
local macro_rules | `(tactic| walk_at "at") => `(tactic| first | assumption | rfl | exact atI_nat (by assumption))
local macro_rules | `(tactic| walk_at "oix") => `(tactic| first | exact i_tup (by walk_at "at") | exact i_lst (by walk_at "ll") (by walk_at "at") | exact i_lstR (by walk_at "lr") (by walk_at "at") | exact i_str (by walk_at "sz") (by walk_at "at") | exact i_lstF (by assumption) (by walk_at "at"))
local macro_rules | `(tactic| walk_at "ixn") => `(tactic| first | assumption | rfl)
local macro_rules | `(tactic| walk_at "okd") => `(tactic| first | rfl | assumption)
local macro_rules | `(tactic| walk_at "wr") => `(tactic| first | assumption | omega)
local macro_rules | `(tactic| walk_at "shn") => `(tactic| first | exact fun z => absurd z (by assumption) | exact fun z => absurd rfl z | exact fun _ => ⟨rfl, rfl⟩)
local macro_rules | `(tactic| walk_at "onin") => `(tactic| exact o_notIn2S)
local macro_rules | `(tactic| walk_at "okp") => `(tactic| first | assumption | exact nxt_p (by walk_at "okp"))
local macro_rules | `(tactic| walk_at "c_all") => `(tactic| exact c_all rfl (by walk_at "ll"))
local macro_rules | `(tactic| walk_at "c_sum") => `(tactic| exact c_sum rfl (by walk_at "ll"))
local macro_rules | `(tactic| walk_at "c_sorted") => `(tactic| exact c_sortedS (by walk_at "ll") (by walk_at "sz"))

section
variable {P : Program} {w : World} {K : PySem.W.Frag} {mg : Str → Option Value} {base : Heap} {C : Addr}
/-! ### the object -/
abbrev deO (C w : Addr) : MO := .ins C [("rows", .vl (.ref w))]
abbrev refs (ps : List Addr) : List Rv := ps.map fun p => .vl (.ref p)
abbrev rowR (row : List Deed) : List Rv := dts (row.map deedD)
theorem atI_int {α : Type} {xs : List α} {r : Int} {x : α} (h0 : 0 ≤ r) (h : xs[r.toNat]? = some x) : atI xs r = some x := by
  obtain ⟨n, rfl⟩ : ∃ n : Nat, r = n := ⟨r.toNat, by omega⟩
  exact atI_nat (by simpa using h)
structure DAt (C : Addr) (L : Led) (q w : Addr) (ps : List Addr) (rows : List (List Deed)) : Prop where
  o : L q = some (deO C w)
  w : L w = some (.lst (refs ps))
  len : rows.length = 8
  pl : ps.length = 8
  at_ : ∀ (i : Nat) p row, ps[i]? = some p → rows[i]? = some row → L p = some (.lst (rowR row))
  nd : ps.Nodup
theorem rows_lk (x : Rv) : List.lookup ("rows" : Str) [(("rows" : Str), x)] = some x := by simp [List.lookup]
section
variable {L : Led} {q w' : Addr} {ps : List Addr} {rows : List (List Deed)}
theorem DAt.le {L' : Led} (D : DAt C L q w' ps rows) (l : Le L L') : DAt C L' q w' ps rows := ⟨l _ _ D.o, l _ _ D.w, D.len, D.pl, fun i p row h1 h2 => l _ _ (D.at_ i p row h1 h2), D.nd⟩
theorem DAt.get (D : DAt C L q w' ps rows) {r : Int} (h0 : 0 ≤ r) (h8 : r < 8) : ∃ p row, ps[r.toNat]? = some p ∧ rows[r.toNat]? = some row ∧ L p = some (.lst (rowR row)) ∧ rows.getD r.toNat [] = row ∧ atI (refs ps) r = some (.vl (.ref p)) := by
  have h1 : r.toNat < ps.length := by rw [D.pl]; omega
  have h2 : r.toNat < rows.length := by rw [D.len]; omega
  refine ⟨ps[r.toNat], rows[r.toNat], List.getElem?_eq_getElem h1, List.getElem?_eq_getElem h2, D.at_ _ _ _ (List.getElem?_eq_getElem h1) (List.getElem?_eq_getElem h2), by rw [List.getD_eq_getElem?_getD, List.getElem?_eq_getElem h2]; rfl, atI_int h0 (by rw [List.getElem?_map, List.getElem?_eq_getElem h1]; rfl)⟩
theorem DAt.nq (D : DAt C L q w' ps rows) : q ≠ w' := fun z => by
  have h := D.w
  rw [← z, D.o] at h
  cases h
theorem DAt.row_at (D : DAt C L q w' ps rows) {i : Nat} {p : Addr} (h : ps[i]? = some p) : ∃ row, rows[i]? = some row ∧ L p = some (.lst (rowR row)) := by
  have hi := (List.getElem?_eq_some_iff.mp h).1
  have h2 : i < rows.length := by rw [D.len, ← D.pl]; exact hi
  exact ⟨_, List.getElem?_eq_getElem h2, D.at_ i p _ h (List.getElem?_eq_getElem h2)⟩
/-- one deed more -/
theorem DAt.add (D : DAt C L q w' ps rows) {i : Nat} {p : Addr} {row : List Deed} (d : Deed) (hp : ps[i]? = some p) (hr : rows[i]? = some row) (nw : p ≠ w') : DAt C (updL L p (.lst (rowR (row ++ [d])))) q w' ps (rows.set i (row ++ [d])) := by
  have hlp := D.at_ i p row hp hr
  have nq : q ≠ p := fun z => by
    have h := D.o
    rw [z, hlp] at h
    cases h
  have hil := (List.getElem?_eq_some_iff.mp hr).1
  refine ⟨by rw [updL_ne nq]; exact D.o, by rw [updL_ne nw.symm]; exact D.w, by rw [List.length_set]; exact D.len, D.pl, fun j p' row' h1 h2 => ?_, D.nd⟩
  by_cases z : i = j
  · subst z
    rw [List.getElem?_set_self hil] at h2
    cases h2
    rw [hp] at h1
    cases h1
    exact updL_same
  · rw [List.getElem?_set_ne z] at h2
    have ne : p' ≠ p := fun e => by
      subst e
      have h3 := (List.getElem?_eq_some_iff.mp hp)
      have h4 := (List.getElem?_eq_some_iff.mp h1)
      exact z ((List.getElem_inj D.nd).mp (h3.2.trans h4.2.symm))
    rw [updL_ne ne]
    exact D.at_ j p' row' h1 h2
end
local macro_rules | `(tactic| walk_at "fl") => `(tactic| exact rows_lk _)
/-! ### self.rows = [[] for _ in range(8)] -/
structure News (L L' : Led) (ps : List Addr) (n : Nat) : Prop where
  pl : ps.length = n
  nd : ps.Nodup
  le : Le L L'
  at_ : ∀ p ∈ ps, L p = none ∧ L' p = some (.lst [])
theorem News.nil {L : Led} : News L L [] 0 := ⟨rfl, List.nodup_nil, Le.refl L, fun _ h => nomatch h⟩
theorem News.snoc {L L' : Led} {ps : List Addr} {n : Nat} (N : News L L' ps n) {p : Addr} (h : L' p = none) : News L (updL L' p (.lst [])) (ps ++ [p]) (n + 1) := by
  have hn : p ∉ ps := fun z => by
    have := (N.at_ p z).2
    rw [h] at this
    cases this
  refine ⟨by rw [List.length_append, N.pl]; rfl, ?_, N.le.trans (le_upd h), fun a ha => ?_⟩
  · rw [List.nodup_append]
    exact ⟨N.nd, by simp, fun a ha b hb e => hn (by rw [List.mem_singleton.mp hb] at e; rw [← e]; exact ha)⟩
  · rcases List.mem_append.mp ha with z | z
    · obtain ⟨h1, h2⟩ := N.at_ a z
      exact ⟨h1, by rw [updL_ne (fun e => hn (by rw [← e]; exact z))]; exact h2⟩
    · rw [List.mem_singleton.mp z]
      refine ⟨?_, updL_same⟩
      cases q : L p with
      | none => rfl
      | some m => rw [N.le _ _ q] at h; cases h
def sp_init (C : Addr) : Fs := fun as L Q _ => ∃ q, as = [.vl (.ref q)] ∧ L q = some (.ins C []) ∧ ∀ w ps L', DAt C L' q w ps (List.replicate 8 []) → L w = none → (∀ p ∈ ps, L p = none) → w ∉ ps → (∀ a, a ≠ q → ∀ m, L a = some m → L' a = some m) → Q (.dt .none) L'
theorem ok_init {f : Addr} {fd : FuncData} (F : Fun K "__init__" "Deeds.__init__" s_Deeds_init f fd) (T : TxD K mg C) : FnOk P w K mg base CX0 1 f fd P_Deeds_init (lift (sp_init C)) := by
  refine fnok0 F sc_Deeds_init (fun as L Q XC h => by obtain ⟨_, rfl, _⟩ := h; rfl) ?_
  intro cdv A outer s0 H E hr as L Q XC h
  obtain ⟨q, rfl, hq, k⟩ := h
  refine mss_cons (ms_setfldM (fs := []) (q := q) (me_lc (tgt := (.n 1)) (own := [("_", 1)]) (by rfl) sc_Deeds_init.nd (ix_range1 (ax_cons (ex_gint (by rfl) T.g_REPLICAS.choose_spec ⟨_, rfl⟩) ax_nil) (by walk_at "sd") (by walk_at "sd") (by rfl) T.m_range) (blkOk_by (by rfl)) rfl (fun s H C cl fp => (pgn_name 1 sc_Deeds_init.nd rfl (by first | exact .inl rfl | exact .inr rfl))) (by rw [rgY_len, sizeLine_eq]; decide)
    (fun i acc L' => ∃ ps, acc = refs ps ∧ News L L' ps i) ⟨[], rfl, News.nil⟩ (fun _ _ _ _ _ => trivial) ?_ ?_) T.c_Deeds T.n_Deeds_rows)
  · intro i y acc L' hy hI
    obtain ⟨ps, rfl, N⟩ := hI
    obtain ⟨hk, rfl⟩ := rgY_at hy
    refine ⟨_, rfl, fun b L2 => b = true ∧ L2 = L', fun _ _ _ _ _ => mts_nil ⟨rfl, rfl⟩, fun b L2 hb2 => ?_⟩
    obtain ⟨rfl, rfl⟩ := hb2
    exact ⟨fun _ s9 H9 C9 cl9 fp9 => me_lst0 fun p hp => ⟨ps ++ [p], by simp, N.snoc hp⟩, fun z => by cases z⟩
  · intro acc L' hI D hD
    obtain ⟨ps, rfl, N⟩ := hI
    rw [rgY_len] at N
    refine .inr ?_
    have hLD : L D = none := by
      cases z : L D with
      | none => rfl
      | some m => rw [N.le _ _ z] at hD; cases hD
    have nq : q ≠ D := ne_led hq hLD
    have hq2 : updL L' D (.lst (refs ps)) q = some (.ins C []) := by rw [updL_ne nq]; exact N.le _ _ hq
    refine ⟨(ex_var 0 rfl rfl (.inl rfl)), hq2, by decide, ?_⟩
    refine mss_nil (k D ps _ ⟨updL_same, by rw [updL_ne nq.symm]; exact updL_same, rfl, N.pl, fun i p row h1 h2 => ?_, N.nd⟩ hLD (fun p hp => (N.at_ p hp).1) (fun z => by rw [(N.at_ D z).2] at hD; cases hD) fun a ha m h => ?_)
    · have hp := List.mem_of_getElem? h1
      have e : row = [] := by
        have := List.mem_of_getElem? h2
        exact List.eq_of_mem_replicate this
      rw [e]
      have n1 : p ≠ q := fun z => by have := (N.at_ p hp).1; rw [z, hq] at this; cases this
      have n2 : p ≠ D := fun z => by have := (N.at_ p hp).2; rw [z, hD] at this; cases this
      rw [updL_ne n1, updL_ne n2]
      exact (N.at_ p hp).2
    · rw [updL_ne ha, updL_ne (ne_led h hLD)]
      exact N.le _ _ h
/-! ### counts, add -/
def cntD (rows : List (List Deed)) : List PyData := rows.map fun row => .int (row.length : Int)
theorem row_len (row : List Deed) : (rowR row).length = row.length := by rw [List.length_map, List.length_map]
def sp_counts (C : Addr) : Fs := fun as L Q _ => ∃ q w ps rows, as = [.vl (.ref q)] ∧ DAt C L q w ps rows ∧ ∀ p, L p = none → Q (.vl (.ref p)) (updL L p (.lst (dts (cntD rows))))
theorem ok_counts {f : Addr} {fd : FuncData} (F : Fun K "counts" "Deeds.counts" s_Deeds_counts f fd) (T : TxD K mg C) : FnOk P w K mg base CX0 1 f fd P_Deeds_counts (lift (sp_counts C)) := by
  refine fnok0 F sc_Deeds_counts (fun as L Q XC h => by obtain ⟨_, _, _, _, rfl, _⟩ := h; rfl) ?_
  intro cdv A outer s0 H E hr as L Q XC h
  obtain ⟨q, w', ps, rows, rfl, D, k⟩ := h
  have ho := D.o
  refine mss_cons (ms_ret (me_lc (tgt := (.n 1)) (own := [("row", 1)]) (by rfl) sc_Deeds_counts.nd (ix_lr (ex_fld (ex_var 0 rfl rfl (.inl rfl)) (by walk_at "lk") (by walk_at "fl") T.c_Deeds T.n_Deeds_rows) (LR.h D.w)) (blkOk_by (by rfl)) rfl (fun s H C cl fp => (pgn_name 1 sc_Deeds_counts.nd rfl (by first | exact .inl rfl | exact .inr rfl))) (by rw [List.length_map, List.length_map, D.pl, sizeLine_eq]; decide)
    (fun i acc L' => acc = dts ((cntD rows).take i) ∧ L' = L) ⟨rfl, rfl⟩ (fun i acc L' _ ⟨_, e⟩ => by rw [e]; exact LR.h D.w) ?_ ?_))
  · intro i y acc L' hy hI
    obtain ⟨rfl, rfl⟩ := hI
    rw [List.getElem?_map, List.getElem?_map] at hy
    cases hp : ps[i]? with
    | none => rw [hp] at hy; cases hy
    | some p =>
      rw [hp] at hy
      cases hy
      obtain ⟨row, h1, h2⟩ := D.row_at hp
      refine ⟨_, rfl, fun b L2 => b = true ∧ L2 = L', fun _ _ _ _ _ => mts_nil ⟨rfl, rfl⟩, fun b L2 hb2 => ?_⟩
      obtain ⟨rfl, rfl⟩ := hb2
      refine ⟨fun _ s9 H9 C9 cl9 fp9 => EX.to (ex_callB (ax_cons (ex_var 1 rfl rfl (by first | exact .inl rfl | exact .inr (.inl rfl) | exact .inr (.inr rfl))) ax_nil) (by walk_at "c_len") (by rfl) T.m_len PySem.boot_len) ?_, fun z => by cases z⟩
      refine ⟨?_, rfl⟩
      have hc : (cntD rows)[i]? = some (.int (row.length : Int)) := by unfold cntD; rw [List.getElem?_map, h1]; rfl
      unfold dts
      rw [take_snoc hc, List.map_append, List.length_map]
      rfl
  · intro acc L' hI D' hD
    obtain ⟨rfl, rfl⟩ := hI
    refine .inr ?_
    rw [List.length_map, List.length_map, D.pl, ← D.len, List.take_of_length_le (by unfold cntD; rw [List.length_map]; exact Nat.le_refl _)]
    exact k D' hD
def sp_add (C : Addr) : Fs := fun as L Q _ => ∃ q w ps rows p row, ∃ r : Int, ∃ d, as = [.vl (.ref q), .dt (.int r), .dt (deedD d)] ∧ DAt C L q w ps rows ∧ 0 ≤ r ∧ r < 8 ∧ ps[r.toNat]? = some p ∧ rows[r.toNat]? = some row ∧ row.length ≤ 1000 ∧ Q (.dt .none) (updL L p (.lst (rowR (row ++ [d]))))
theorem ok_add {f : Addr} {fd : FuncData} (F : Fun K "add" "Deeds.add" s_Deeds_add f fd) (T : TxD K mg C) : FnOk P w K mg base CX0 1 f fd P_Deeds_add (lift (sp_add C)) := by
  refine fnok0 F sc_Deeds_add (fun as L Q XC h => by obtain ⟨_, _, _, _, _, _, _, _, rfl, _⟩ := h; rfl) ?_
  intro cdv A outer s0 H E hr as L Q XC h
  obtain ⟨q, w', ps, rows, p, row, r, d, rfl, D, h0, h8, hp, hrow, hz, k⟩ := h
  have ho := D.o
  have hw := D.w
  have hlp := D.at_ _ _ _ hp hrow
  have hat : atI (refs ps) r = some (.vl (.ref p)) := atI_int h0 (by rw [List.getElem?_map, hp]; rfl)
  have hz1 : (rowR row).length < sizeLine := by rw [row_len, sizeLine_eq]; omega
  refine mss_cons (ms_expr (EX.to (ex_append (ex_ix (ex_fld (ex_var 0 rfl rfl (.inl rfl)) (by walk_at "lk") (by walk_at "fl") T.c_Deeds T.n_Deeds_rows) (ex_var 1 rfl rfl (.inl rfl)) (by walk_at "oix") (fun _ _ => rfl)) (by walk_at "lk") (ex_var 2 rfl rfl (.inl rfl)) (by walk_at "lk") (by walk_at "sz")) ?_))
  refine mss_nil ?_
  have e : rowR row ++ [.dt (deedD d)] = rowR (row ++ [d]) := by simp [rowR, dts]
  rw [e]
  exact k
end
end K05

set_option Elab.async false
set_option linter.all false
set_option maxRecDepth 100000
set_option maxHeartbeats 4000000
namespace K05
open PySem PySem.Spec PyProof.Rows L2 Cw
/-! ### small closers, each at its own key -/
local macro_rules | `(tactic| walk_at "oadd") => `(tactic| first | exact o_add | exact o_addS (by walk_at "sz") | exact o_cat (by walk_at "ll") (by walk_at "ll") (by walk_at "sz"))
local macro_rules | `(tactic| walk_at "osub") => `(tactic| exact o_sub)
local macro_rules | `(tactic| walk_at "omul") => `(tactic| first | exact o_mul (by walk_at "sd") | exact o_rep (by walk_at "ll") (by walk_at "sd") (by walk_at "sd") (by walk_at "sz"))
local macro_rules | `(tactic| walk_at "odiv") => `(tactic| first | exact o_div (by walk_at "sd") | exact o_divW (by walk_at "sd"))
local macro_rules | `(tactic| walk_at "olt") => `(tactic| exact o_lt)
local macro_rules | `(tactic| walk_at "ole") => `(tactic| exact o_le)
local macro_rules | `(tactic| walk_at "ogt") => `(tactic| exact o_gt)
local macro_rules | `(tactic| walk_at "oge") => `(tactic| exact o_ge)
local macro_rules | `(tactic| walk_at "oeq") => `(tactic| first | exact o_eqI | exact o_eqNI | exact o_eqS | exact o_eqB | exact o_eqR (Room.units (by assumption)) (by walk_at "dr") (by walk_at "dr") (by walk_at "sh") (by walk_at "sh"))
local macro_rules | `(tactic| walk_at "one") => `(tactic| first | exact o_neI | exact o_neS | exact o_neB | exact o_neR (Room.units (by assumption)) (by walk_at "dr") (by walk_at "dr") (by walk_at "sh") (by walk_at "sh"))
local macro_rules | `(tactic| walk_at "ois") => `(tactic| exact o_isN)
local macro_rules | `(tactic| walk_at "oisn") => `(tactic| exact o_notN)
local macro_rules | `(tactic| walk_at "iadd") => `(tactic| exact o_iadd)
local macro_rules | `(tactic| walk_at "isub") => `(tactic| exact o_isub)
local macro_rules | `(tactic| walk_at "lk") => `(tactic| first | assumption | exact updL_same | (refine Eq.trans (updL_ne (by first | assumption | (apply Ne.symm; assumption))) ?_; walk_at "lk"))
local macro_rules | `(tactic| walk_at "ll") => `(tactic| first | exact LL.dt | assumption | exact LL.h (by walk_at "lk"))
local macro_rules | `(tactic| walk_at "lr") => `(tactic| first | exact LL.dt | assumption | exact LR.h (by walk_at "lk"))
local macro_rules | `(tactic| walk_at "dr") => `(tactic| first | exact DD.dt | assumption | exact DD.ofLL (by walk_at "lk"))
local macro_rules | `(tactic| walk_at "sd") => `(tactic| first | omega | assumption | decide)
local macro_rules | `(tactic| walk_at "rg") => `(tactic| first | omega | assumption | decide)
local macro_rules | `(tactic| walk_at "sz") => `(tactic| first | assumption | (rw [sizeLine_eq]; first | omega | (simp; omega)))
local macro_rules | `(tactic| walk_at "osl") => `(tactic| first | exact s_str (by walk_at "sz") | exact s_lst (by walk_at "ll"))
local macro_rules | `(tactic| walk_at "c_len") => `(tactic| first | exact c_lenT | exact c_lenS (by walk_at "sz") | exact c_lenL (by walk_at "ll") | exact c_lenR (by walk_at "lr") | exact c_lenF (by assumption))
local macro_rules | `(tactic| walk_at "c_int") => `(tactic| first | exact c_int | exact c_intB)
local macro_rules | `(tactic| walk_at "c_min") => `(tactic| exact c_min rfl)
local macro_rules | `(tactic| walk_at "c_max") => `(tactic| exact c_max rfl)
local macro_rules | `(tactic| walk_at "c_ord") => `(tactic| exact c_ord (by walk_at "sz"))
local macro_rules | `(tactic| walk_at "c_list") => `(tactic| first | exact c_listT | exact c_list (by walk_at "ll") | exact c_listF (by assumption))
local macro_rules | `(tactic| walk_at "c_tuple") => `(tactic| first | exact c_tupleT | exact c_tuple (by walk_at "ll"))
local macro_rules | `(tactic| walk_at "c_isinstance") => `(tactic| exact c_isi (by walk_at "dr") (by decide))
local macro_rules | `(tactic| walk_at "few") => `(tactic| first | decide | exact Nat.le_of_ble_eq_true rfl | (rw [sizeLine_eq]; exact Nat.le_of_ble_eq_true rfl) | assumption)
local macro_rules | `(tactic| walk_at "fl") => `(tactic| first | assumption | rfl)
local macro_rules | `(tactic| walk_at "nf") => `(tactic| first | rfl | decide +kernel)
local macro_rules | `(tactic| walk_at "at") => `(tactic| first | assumption | rfl | exact atI_nat (by assumption))
local macro_rules | `(tactic| walk_at "oix") => `(tactic| first | exact i_tup (by walk_at "at") | exact i_lst (by walk_at "ll") (by walk_at "at") | exact i_lstR (by walk_at "lr") (by walk_at "at") | exact i_str (by walk_at "sz") (by walk_at "at") | exact i_lstF (by assumption) (by walk_at "at"))
local macro_rules | `(tactic| walk_at "ixn") => `(tactic| first | assumption | rfl)
local macro_rules | `(tactic| walk_at "okd") => `(tactic| first | rfl | assumption)
local macro_rules | `(tactic| walk_at "wr") => `(tactic| first | assumption | omega)
local macro_rules | `(tactic| walk_at "shn") => `(tactic| first | exact fun z => absurd z (by assumption) | exact fun z => absurd rfl z | exact fun _ => ⟨rfl, rfl⟩)
local macro_rules | `(tactic| walk_at "onin") => `(tactic| exact o_notIn2S)
local macro_rules | `(tactic| walk_at "okp") => `(tactic| first | assumption | exact nxt_p (by walk_at "okp"))
local macro_rules | `(tactic| walk_at "c_all") => `(tactic| exact c_all rfl (by walk_at "ll"))
local macro_rules | `(tactic| walk_at "c_sum") => `(tactic| exact c_sum rfl (by walk_at "ll"))
local macro_rules | `(tactic| walk_at "c_sorted") => `(tactic| exact c_sortedS (by walk_at "ll") (by walk_at "sz"))

section
variable {P : Program} {w : World} {K : PySem.W.Frag} {mg : Str → Option Value} {base : Heap} {C : Addr}
local macro_rules | `(tactic| walk_at "fl") => `(tactic| exact rows_lk _)
theorem le_del {L L0 : Led} {p : Addr} {m : MO} (hp : L p = none) (l : Le L0 L) : Le L0 (delL (updL L p m) p) := fun a m h => by
  have h1 := l _ _ h
  unfold delL
  rw [if_neg (ne_led h1 hp), updL_ne (ne_led h1 hp)]
  exact h1
/-! ### which deeds are in force -/
def fcD (row : List Deed) : List PyData := (forces row).map PyData.bool
def forBody : Stmt → List Stmt
  | .For _ _ b _ _ => b
  | _ => []
def sp_forces (C : Addr) : Fs := fun as L Q _ => ∃ q w ps rows, ∃ r : Int, as = [.vl (.ref q), .dt (.int r)] ∧ DAt C L q w ps rows ∧ 0 ≤ r ∧ r < 8 ∧ (rows.getD r.toNat []).length ≤ 1000 ∧ ∀ L', Le L L' → Q (.dt (.list (fcD (rows.getD r.toNat [])))) L'
theorem ok_forces {f : Addr} {fd : FuncData} (F : Fun K "forces" "Deeds.forces" s_Deeds_forces f fd) (T : TxD K mg C) : FnOk P w K mg base CX0 1 f fd P_Deeds_forces (lift (sp_forces C)) := by
  refine fnok0 F sc_Deeds_forces (fun as L Q XC h => by obtain ⟨_, _, _, _, _, rfl, _⟩ := h; rfl) ?_
  intro cdv A outer s0 H E hr as L Q XC h
  obtain ⟨q, w', ps, rows, r, rfl, D, h0, h8, hz, k⟩ := h
  obtain ⟨p, row, hp, hrow, hlp, eg, hat⟩ := D.get h0 h8
  rw [eg] at hz k
  have ho := D.o
  have hw := D.w
  refine mss_cons (ms_set 2 sc_Deeds_forces.nd rfl (by first | exact .inl rfl | exact .inr rfl) (EX.to (ex_ix (ex_fld (ex_var 0 rfl rfl (.inl rfl)) (by walk_at "lk") (by walk_at "fl") T.c_Deeds T.n_Deeds_rows) (ex_var 1 rfl rfl (.inl rfl)) (by walk_at "oix") (fun _ _ => rfl)) ?_))
  refine mss_cons (ms_set 3 sc_Deeds_forces.nd rfl (.inl rfl) (me_dnewK fun t ht => ?_))
  refine mss_cons (ms_set 4 sc_Deeds_forces.nd rfl (.inl rfl) (me_lst0 fun o hot => ?_))
  have n1 : p ≠ t := ne_led hlp ht
  have hlp1 : updL L t (.dK []) p = some (.lst (rowR row)) := by rw [updL_ne n1]; exact hlp
  have n2 : p ≠ o := ne_led hlp1 hot
  have n3 : t ≠ o := ne_led (updL_same (L := L) (m := .dK [])) hot
  have hoL : L o = none := by rw [updL_ne n3.symm] at hot; exact hot
  have hlp2 : ∀ kvs rs, updL (updL L t (.dK kvs)) o (.lst rs) p = some (.lst (rowR row)) := fun kvs rs => by rw [updL_ne n2, updL_ne n1]; exact hlp
  have hlq := hlp2 [] []
  refine mss_cons (ms_for (tgt := (.n 5)) rfl (ix_range3 (n := row.length) (ax_cons (ex_callB (ax_cons (ex_var 2 rfl rfl (.inl rfl)) ax_nil) (by walk_at "c_len") (by rfl) T.m_len PySem.boot_len) (ax_cons ex_int (ax_cons (ex_neg ex_int) ax_nil))) (by have h := RgC.neg (i := (row.length : Int)) (j := 0) (by omega) (by omega) (by decide) (by decide); rw [List.length_map]; simpa using h) (by rfl) T.m_range) (pgn_name 5 sc_Deeds_forces.nd rfl (by first | exact .inl rfl | exact .inr rfl))
    (fun i ρ L' => ∃ kvs pl fo, ρ = [some (.vl (.ref q)), some (.dt (.int r)), some (.vl (.ref p)), some (.vl (.ref t)), some (.vl (.ref o)), pl, fo] ∧ L' = updL (updL L t (.dK kvs)) o (.lst (dts ((fz row i).1.map PyData.bool))) ∧ kvs.length ≤ i ∧ ∀ z : Int, (getG kvs (.inl z)).isSome = decide (z ∈ (fz row i).2)) ⟨[], none, none, rfl, rfl, Nat.le_refl _, fun z => by simp [getG, fz]⟩ (fun _ _ _ _ _ => trivial) ?_ ?_)
  · intro i y ρ L' hy hI
    obtain ⟨kvs, pl, fo, rfl, rfl, hkl, hk⟩ := hI
    obtain ⟨hi, rfl⟩ := rgC_at hy
    refine ⟨_, rfl, ?_⟩
    have epl : ((row.map deedD).length : Int) + (i : Int) * -1 = ((row.length - i : Nat) : Int) := by rw [List.length_map]; omega
    rw [epl]
    have htk : updL (updL L t (.dK kvs)) o (.lst (dts ((fz row i).1.map PyData.bool))) t = some (.dK kvs) := by rw [updL_ne n3]; exact updL_same
    have hpk := hlp2 kvs (dts ((fz row i).1.map PyData.bool))
    have hok : updL (updL L t (.dK kvs)) o (.lst (dts ((fz row i).1.map PyData.bool))) o = some (.lst (dts ((fz row i).1.map PyData.bool))) := updL_same
    have hz1 : (dts ((fz row i).1.map PyData.bool)).length < sizeLine := by rw [List.length_map, List.length_map, fz_len, sizeLine_eq]; omega
    obtain ⟨d, hd⟩ : ∃ d, row[row.length - 1 - i]? = some d := ⟨_, List.getElem?_eq_getElem (by omega)⟩
    have hatd : atI (rowR row) (((row.length - i : Nat) : Int) - 1) = some (.dt (deedD d)) := by
      have e : ((row.length - i : Nat) : Int) - 1 = ((row.length - 1 - i : Nat) : Int) := by omega
      rw [e]
      exact atI_nat (by rw [List.getElem?_map, List.getElem?_map, hd]; rfl)
    have hiF := hk ((row.length - i : Nat) : Int)
    refine mss_cons (ms_set 6 sc_Deeds_forces.nd rfl (.inl rfl) (EX.to (ex_dnin (hu_of hr) (ex_var 5 rfl rfl (.inl rfl)) (ex_var 3 rfl rfl (.inl rfl)) (.inl ⟨kvs, .inl ((row.length - i : Nat) : Int), htk, rfl, rfl⟩)) ?_))
    rw [hiF]
    -- the turn's end
    have eb : dts ((fz row i).1.map PyData.bool) ++ [.dt (.bool (!decide (((row.length - i : Nat) : Int) ∈ (fz row i).2)))] = dts ((fz row (i + 1)).1.map PyData.bool) := by
      show _ = dts (((fz row i).1 ++ [_]).map PyData.bool)
      simp
    by_cases hin : ((row.length - i : Nat) : Int) ∈ (fz row i).2
    · rw [decide_eq_true hin] at eb ⊢
      cases d
      all_goals
        refine mss_cons (ms_ifx (tx_w (wx_and (tx_val (ex_var 6 rfl rfl (.inl rfl))) (fun _ => (wx_and1 (tx_cmp (ex_ix (ex_ix (ex_var 2 rfl rfl (.inl rfl)) (ex_bin (ex_var 5 rfl rfl (.inl rfl)) ex_int (by walk_at "osub")) (by walk_at "oix") (fun _ _ => rfl)) ex_int (by walk_at "oix") (fun _ _ => rfl)) ex_str (by walk_at "oeq") (nomark _)))))) (fun hT => ?_) (fun hF => ?_))
        · exact absurd hT (by simp)
        refine mss_nil (mss_cons (ms_expr (EX.to (ex_append (ex_var 4 rfl rfl (.inl rfl)) (by walk_at "lk") (ex_var 6 rfl rfl (.inl rfl)) (by walk_at "lk") (by walk_at "sz")) ?_)))
        refine mss_nil ⟨kvs, _, _, rfl, ?_, by omega, fun z => ?_⟩
        · rw [updL_updL]
          exact congrArg (fun z => updL (updL L t (.dK kvs)) o (.lst z)) eb
        · rw [hk z]
          congr 1
          show _ = (z ∈ (if _ then _ else _ : List Int))
          rw [if_pos hin]
    · rw [decide_eq_false hin] at eb ⊢
      -- behind the if
      have fin : ∀ kvs', kvs'.length ≤ i + 1 → (∀ z : Int, (getG kvs' (.inl z)).isSome = decide (z ∈ (fz row (i + 1)).2)) → MSs (y0 P w K mg base N_Deeds_forces "Deeds.forces" (defScope s_Deeds_forces) f cdv A outer s0 H E) ((forBody ((defBody s_Deeds_forces).getD 3 (.Pass ⟨0, 0, 0, 0⟩))).drop 2)
          (fun ρ L' => ∃ kvs pl fo, ρ = [some (.vl (.ref q)), some (.dt (.int r)), some (.vl (.ref p)), some (.vl (.ref t)), some (.vl (.ref o)), pl, fo] ∧ L' = updL (updL L t (.dK kvs)) o (.lst (dts ((fz row (i + 1)).1.map PyData.bool))) ∧ kvs.length ≤ i + 1 ∧ ∀ z : Int, (getG kvs (.inl z)).isSome = decide (z ∈ (fz row (i + 1)).2))
          { rt := Q,
            bk := fun ρ L => MSs (y0 P w K mg base N_Deeds_forces "Deeds.forces" (defScope s_Deeds_forces) f cdv A outer s0 H E) ((defBody s_Deeds_forces).drop 4) (fun x L' => Q (.dt .none) L') { rt := Q } ρ L,
            ct := fun ρ L' => ∃ kvs pl fo, ρ = [some (.vl (.ref q)), some (.dt (.int r)), some (.vl (.ref p)), some (.vl (.ref t)), some (.vl (.ref o)), pl, fo] ∧ L' = updL (updL L t (.dK kvs)) o (.lst (dts ((fz row (i + 1)).1.map PyData.bool))) ∧ kvs.length ≤ i + 1 ∧ ∀ z : Int, (getG kvs (.inl z)).isSome = decide (z ∈ (fz row (i + 1)).2) }
          [some (.vl (.ref q)), some (.dt (.int r)), some (.vl (.ref p)), some (.vl (.ref t)), some (.vl (.ref o)), some (.dt (.int ((row.length - i : Nat) : Int))), some (.dt (.bool true))] (updL (updL L t (.dK kvs')) o (.lst (dts ((fz row i).1.map PyData.bool)))) := by
        intro kvs' h1 h2
        have hok : updL (updL L t (.dK kvs')) o (.lst (dts ((fz row i).1.map PyData.bool))) o = some (.lst (dts ((fz row i).1.map PyData.bool))) := updL_same
        refine mss_cons (ms_expr (EX.to (ex_append (ex_var 4 rfl rfl (.inl rfl)) (by walk_at "lk") (ex_var 6 rfl rfl (.inl rfl)) (by walk_at "lk") (by walk_at "sz")) ?_))
        refine mss_nil ⟨kvs', _, _, rfl, ?_, h1, h2⟩
        rw [updL_updL]
        exact congrArg (fun z => updL (updL L t (.dK kvs')) o (.lst z)) eb
      have etk : (fz row (i + 1)).2 = (fz row i).2 ++ backOf (some d) := by
        show (if _ then _ else _ : List Int) = _
        rw [if_neg hin, hd]
      cases d with
      | back b =>
        refine mss_cons (ms_ifx (tx_w (wx_and (tx_val (ex_var 6 rfl rfl (.inl rfl))) (fun _ => (wx_and1 (tx_cmp (ex_ix (ex_ix (ex_var 2 rfl rfl (.inl rfl)) (ex_bin (ex_var 5 rfl rfl (.inl rfl)) ex_int (by walk_at "osub")) (by walk_at "oix") (fun _ _ => rfl)) ex_int (by walk_at "oix") (fun _ _ => rfl)) ex_str (by walk_at "oeq") (nomark _)))))) (fun hT => ?_) (fun hF => ?_))
        · refine mss_cons (ms_dputK (ks := .inl b) (hu_of hr) ex_bl (ex_var 3 rfl rfl (.inl rfl)) (ex_ix (ex_ix (ex_var 2 rfl rfl (.inl rfl)) (ex_bin (ex_var 5 rfl rfl (.inl rfl)) ex_int (by walk_at "osub")) (by walk_at "oix") (fun _ _ => rfl)) ex_int (by walk_at "oix") (fun _ _ => rfl)) htk (by rw [sizeLine_eq]; omega) ?_)
          rw [updL_comm n3.symm, updL_updL]
          refine mss_nil (fin _ (Nat.le_trans (put_len _ _ _) (by omega)) fun z => ?_)
          rw [get_put, etk]
          by_cases hz : z = b
          · subst hz
            rw [if_pos rfl]
            simp [backOf]
          · rw [if_neg (fun h => hz (Sum.inl.inj h)), hk z]
            simp [backOf, hz]
        · exact absurd hF (by simp)
      | change m rm bh n l =>
        refine mss_cons (ms_ifx (tx_w (wx_and (tx_val (ex_var 6 rfl rfl (.inl rfl))) (fun _ => (wx_and1 (tx_cmp (ex_ix (ex_ix (ex_var 2 rfl rfl (.inl rfl)) (ex_bin (ex_var 5 rfl rfl (.inl rfl)) ex_int (by walk_at "osub")) (by walk_at "oix") (fun _ _ => rfl)) ex_int (by walk_at "oix") (fun _ _ => rfl)) ex_str (by walk_at "oeq") (nomark _)))))) (fun hT => ?_) (fun hF => ?_))
        · exact absurd hT (by decide +kernel)
        · refine mss_nil (fin kvs (by omega) fun z => ?_)
          rw [etk, hk z]
          simp [backOf]
  · intro ρ L' hI
    obtain ⟨kvs, pl, fo, rfl, rfl, _, _⟩ := hI
    rw [rgC_len]
    refine MSs.settle 4 rfl updL_same ?_
    refine mss_cons (ms_ret (EX.to (ex_rev (ex_var 4 rfl rfl (.inl rfl)) (by walk_at "ll")) ?_))
    have e : ((fz row row.length).1.map PyData.bool).reverse = fcD row := by unfold fcD forces; rw [List.map_reverse]
    rw [e]
    have hot2 : updL L t (.dK kvs) o = none := by rw [updL_ne n3.symm]; exact hoL
    exact k _ (le_del hot2 (le_upd ht))
end
end K05

set_option Elab.async false
set_option linter.all false
set_option maxRecDepth 100000
set_option maxHeartbeats 4000000
namespace K05
open PySem PySem.Spec PyProof.Rows L2 Cw
/-! ### small closers, each at its own key -/
local macro_rules | `(tactic| walk_at "oadd") => `(tactic| first | exact o_add | exact o_addS (by walk_at "sz") | exact o_cat (by walk_at "ll") (by walk_at "ll") (by walk_at "sz"))
local macro_rules | `(tactic| walk_at "osub") => `(tactic| exact o_sub)
local macro_rules | `(tactic| walk_at "omul") => `(tactic| first | exact o_mul (by walk_at "sd") | exact o_rep (by walk_at "ll") (by walk_at "sd") (by walk_at "sd") (by walk_at "sz"))
local macro_rules | `(tactic| walk_at "odiv") => `(tactic| first | exact o_div (by walk_at "sd") | exact o_divW (by walk_at "sd"))
local macro_rules | `(tactic| walk_at "olt") => `(tactic| exact o_lt)
local macro_rules | `(tactic| walk_at "ole") => `(tactic| exact o_le)
local macro_rules | `(tactic| walk_at "ogt") => `(tactic| exact o_gt)
local macro_rules | `(tactic| walk_at "oge") => `(tactic| exact o_ge)
local macro_rules | `(tactic| walk_at "oeq") => `(tactic| first | exact o_eqI | exact o_eqNI | exact o_eqS | exact o_eqB | exact o_eqR (Room.units (by assumption)) (by walk_at "dr") (by walk_at "dr") (by walk_at "sh") (by walk_at "sh"))
local macro_rules | `(tactic| walk_at "one") => `(tactic| first | exact o_neI | exact o_neS | exact o_neB | exact o_neR (Room.units (by assumption)) (by walk_at "dr") (by walk_at "dr") (by walk_at "sh") (by walk_at "sh"))
local macro_rules | `(tactic| walk_at "ois") => `(tactic| exact o_isN)
local macro_rules | `(tactic| walk_at "oisn") => `(tactic| exact o_notN)
local macro_rules | `(tactic| walk_at "iadd") => `(tactic| exact o_iadd)
local macro_rules | `(tactic| walk_at "isub") => `(tactic| exact o_isub)
local macro_rules | `(tactic| walk_at "lk") => `(tactic| first | assumption | exact updL_same | (refine Eq.trans (updL_ne (by first | assumption | (apply Ne.symm; assumption))) ?_; walk_at "lk"))
local macro_rules | `(tactic| walk_at "ll") => `(tactic| first | exact LL.dt | assumption | exact LL.h (by walk_at "lk"))
local macro_rules | `(tactic| walk_at "lr") => `(tactic| first | exact LL.dt | assumption | exact LR.h (by walk_at "lk"))
local macro_rules | `(tactic| walk_at "dr") => `(tactic| first | exact DD.dt | assumption | exact DD.ofLL (by walk_at "lk"))
local macro_rules | `(tactic| walk_at "sd") => `(tactic| first | omega | assumption | decide)
local macro_rules | `(tactic| walk_at "rg") => `(tactic| first | omega | assumption | decide)
local macro_rules | `(tactic| walk_at "sz") => `(tactic| first | assumption | (rw [sizeLine_eq]; first | omega | (simp; omega)))
local macro_rules | `(tactic| walk_at "osl") => `(tactic| first | exact s_str (by walk_at "sz") | exact s_lst (by walk_at "ll"))
local macro_rules | `(tactic| walk_at "c_len") => `(tactic| first | exact c_lenT | exact c_lenS (by walk_at "sz") | exact c_lenL (by walk_at "ll") | exact c_lenR (by walk_at "lr") | exact c_lenF (by assumption))
local macro_rules | `(tactic| walk_at "c_int") => `(tactic| first | exact c_int | exact c_intB)
local macro_rules | `(tactic| walk_at "c_min") => `(tactic| exact c_min rfl)
local macro_rules | `(tactic| walk_at "c_max") => `(tactic| exact c_max rfl)
local macro_rules | `(tactic| walk_at "c_ord") => `(tactic| exact c_ord (by walk_at "sz"))
local macro_rules | `(tactic| walk_at "c_list") => `(tactic| first | exact c_listT | exact c_list (by walk_at "ll") | exact c_listF (by assumption))
local macro_rules | `(tactic| walk_at "c_tuple") => `(tactic| first | exact c_tupleT | exact c_tuple (by walk_at "ll"))
local macro_rules | `(tactic| walk_at "c_isinstance") => `(tactic| exact c_isi (by walk_at "dr") (by decide))
local macro_rules | `(tactic| walk_at "few") => `(tactic| first | decide | exact Nat.le_of_ble_eq_true rfl | (rw [sizeLine_eq]; exact Nat.le_of_ble_eq_true rfl) | assumption)
local macro_rules | `(tactic| walk_at "fl") => `(tactic| first | assumption | rfl)
local macro_rules | `(tactic| walk_at "nf") => `(tactic| first | rfl | decide +kernel)
local macro_rules | `(tactic| walk_at "at") => `(tactic| first | assumption | rfl | exact atI_nat (by assumption))
local macro_rules | `(tactic| walk_at "oix") => `(tactic| first | exact i_tup (by walk_at "at") | exact i_lst (by walk_at "ll") (by walk_at "at") | exact i_lstR (by walk_at "lr") (by walk_at "at") | exact i_str (by walk_at "sz") (by walk_at "at") | exact i_lstF (by assumption) (by walk_at "at"))
local macro_rules | `(tactic| walk_at "ixn") => `(tactic| first | assumption | rfl)
local macro_rules | `(tactic| walk_at "okd") => `(tactic| first | rfl | assumption)
local macro_rules | `(tactic| walk_at "wr") => `(tactic| first | assumption | omega)
local macro_rules | `(tactic| walk_at "shn") => `(tactic| first | exact fun z => absurd z (by assumption) | exact fun z => absurd rfl z | exact fun _ => ⟨rfl, rfl⟩)
local macro_rules | `(tactic| walk_at "onin") => `(tactic| exact o_notIn2S)
local macro_rules | `(tactic| walk_at "okp") => `(tactic| first | assumption | exact nxt_p (by walk_at "okp"))
local macro_rules | `(tactic| walk_at "c_all") => `(tactic| exact c_all rfl (by walk_at "ll"))
local macro_rules | `(tactic| walk_at "c_sum") => `(tactic| exact c_sum rfl (by walk_at "ll"))
local macro_rules | `(tactic| walk_at "c_sorted") => `(tactic| exact c_sortedS (by walk_at "ll") (by walk_at "sz"))

section
variable {P : Program} {w : World} {K : PySem.W.Frag} {mg : Str → Option Value} {base : Heap} {C : Addr}
local macro_rules | `(tactic| walk_at "fl") => `(tactic| exact rows_lk _)
def sp_inforce (C : Addr) : Fs := fun as L Q _ => ∃ q w ps rows, ∃ r pl : Int, ∃ b, as = [.vl (.ref q), .dt (.int r), .dt (.int pl)] ∧ DAt C L q w ps rows ∧ 0 ≤ r ∧ r < 8 ∧ (rows.getD r.toNat []).length ≤ 1000 ∧ 1 ≤ pl ∧ (forces (rows.getD r.toNat []))[(pl - 1).toNat]? = some b ∧ Q (.dt (.bool b)) L
theorem ok_inforce {f : Addr} {fd : FuncData} (F : Fun K "in_force" "Deeds.in_force" s_Deeds_in_force f fd) (T : TxD K mg C) (G_Deeds_forces' : MtM P w K mg base 1 C "forces" P_Deeds_forces (sp_forces C)) : FnOk P w K mg base CX0 2 f fd P_Deeds_in_force (lift (sp_inforce C)) := by
  have G_Deeds_forces := G_Deeds_forces'.forget
  refine fnok0 F sc_Deeds_in_force (fun as L Q XC h => by obtain ⟨_, _, _, _, _, _, _, rfl, _⟩ := h; rfl) ?_
  intro cdv A outer s0 H E hr as L Q XC h
  obtain ⟨q, w', ps, rows, r, pl, b, rfl, D, h0, h8, hz, hpl, hb, k⟩ := h
  have ho := D.o
  have hat : atI (fcD (rows.getD r.toNat [])) (pl - 1) = some (.bool b) := atI_int (by omega) (by unfold fcD; rw [List.getElem?_map, hb]; rfl)
  refine mss_cons (ms_ret (EX.to (ex_ix (ex_meth (ex_var 0 rfl rfl (.inl rfl)) (by walk_at "lk") (by walk_at "nf") T.c_Deeds G_Deeds_forces (hr.mono (by decide)) (ax_cons (ex_var 1 rfl rfl (.inl rfl)) ax_nil) ⟨q, w', ps, rows, r, rfl, D, h0, h8, hz, fun L' l => ⟨_, l, rfl, rfl⟩⟩) (ex_bin (ex_var 2 rfl rfl (.inl rfl)) ex_int (by walk_at "osub")) (by walk_at "oix") (fun _ _ => rfl)) ?_))
  exact k
/-! ### the changes of a module -/
def sp_changes (C : Addr) : Fs := fun as L Q _ => ∃ q w ps rows m, as = [.vl (.ref q), .dt (.str m)] ∧ DAt C L q w ps rows ∧ Wf rows ∧ ∀ L', Le L L' → Q (.dt (.list ((changes m rows).map chD))) L'
/-- the changes of the first replicas -/
def chTo (m : Str) (rows : List (List Deed)) (n : Nat) : List (Nat × Deed × Bool) := ((List.range n).map fun r => chOf m r (rows.getD r [])).flatten
theorem chTo_succ (m : Str) (rows : List (List Deed)) (n : Nat) : chTo m rows (n + 1) = chTo m rows n ++ chOf m n (rows.getD n []) := by
  unfold chTo
  rw [List.range_succ, List.map_append, List.flatten_append]
  simp
/-- the first of a replica's -/
def chF (m : Str) (r : Nat) (row : List Deed) (i : Nat) : List (Nat × Deed × Bool) := (((row.zip (forces row)).take i).filter fun p => isCh m p.1).map fun p => (r, p.1, p.2)
theorem chF_snoc {m : Str} {r : Nat} {row : List Deed} {i : Nat} {d : Deed} {b : Bool} (h : (row.zip (forces row))[i]? = some (d, b)) : chF m r row (i + 1) = chF m r row i ++ (if isCh m d then [(r, d, b)] else []) := by
  unfold chF
  rw [take_snoc h, List.filter_append, List.map_append]
  congr 1
  rw [List.filter_cons]
  show (List.map _ (if isCh m d = true then _ else _)) = _
  split <;> rfl
theorem chF_all {m : Str} {r : Nat} {row : List Deed} {i : Nat} (h : row.length ≤ i) : chF m r row i = chOf m r row := by
  unfold chF chOf
  rw [List.take_of_length_le (by rw [List.length_zip]; omega)]
theorem chF_len {m : Str} {r : Nat} {row : List Deed} {i : Nat} : (chF m r row i).length ≤ i := by
  unfold chF
  rw [List.length_map]
  refine Nat.le_trans (List.length_filter_le _ _) ?_
  rw [List.length_take]
  omega
theorem chTo_len {m : Str} {rows : List (List Deed)} (W : Wf rows) {n : Nat} (h : n ≤ 8) : (chTo m rows n).length ≤ 800 := by
  have h1 := flat_len (c := 100) (L := (List.range n).map fun r => chOf m r (rows.getD r [])) fun l hl => by
    obtain ⟨r, _, rfl⟩ := List.mem_map.mp hl
    exact chOf_len W r
  rw [List.length_map, List.length_range] at h1
  show (((List.range n).map fun r => chOf m r (rows.getD r [])).flatten).length ≤ _
  omega
theorem zip_row {row : List Deed} {i : Nat} (h : i < row.length) : ∃ d b, row[i]? = some d ∧ (forces row)[i]? = some b ∧ (row.zip (forces row))[i]? = some (d, b) := by
  have h2 : i < (forces row).length := by rw [forces_len]; exact h
  exact ⟨_, _, List.getElem?_eq_getElem h, List.getElem?_eq_getElem h2, List.getElem?_zip_eq_some.mpr ⟨List.getElem?_eq_getElem h, List.getElem?_eq_getElem h2⟩⟩
theorem ok_changes {f : Addr} {fd : FuncData} (F : Fun K "changes" "Deeds.changes" s_Deeds_changes f fd) (T : TxD K mg C) (G_Deeds_forces' : MtM P w K mg base 1 C "forces" P_Deeds_forces (sp_forces C)) : FnOk P w K mg base CX0 2 f fd P_Deeds_changes (lift (sp_changes C)) := by
  have G_Deeds_forces := G_Deeds_forces'.forget
  refine fnok0 F sc_Deeds_changes (fun as L Q XC h => by obtain ⟨_, _, _, _, _, rfl, _⟩ := h; rfl) ?_
  intro cdv A outer s0 H E hr as L Q XC h
  obtain ⟨q, w', ps, rows, m, rfl, D, W, k⟩ := h
  refine mss_cons (ms_set 2 sc_Deeds_changes.nd rfl (.inl rfl) (me_lst0 fun o hot => ?_))
  have Dl : ∀ rs, DAt C (updL L o (.lst rs)) q w' ps rows := fun rs => D.le (le_upd hot)
  refine mss_cons (ms_for (tgt := (.n 3)) rfl (ix_range1 (ax_cons (ex_gint (by rfl) T.g_REPLICAS.choose_spec ⟨_, rfl⟩) ax_nil) (by walk_at "sd") (by walk_at "sd") (by rfl) T.m_range) (pgn_name 3 sc_Deeds_changes.nd rfl (by first | exact .inl rfl | exact .inr rfl)) (fun i ρ L' => ∃ rp de fo, ρ = [some (.vl (.ref q)), some (.dt (.str m)), some (.vl (.ref o)), rp, de, fo] ∧ L' = updL L o (.lst (dts ((chTo m rows i).map chD)))) ⟨none, none, none, rfl, rfl⟩ (fun _ _ _ _ _ => trivial) ?_ ?_)
  · intro i y ρ L' hy hI
    obtain ⟨rp, de, fo, rfl, rfl⟩ := hI
    obtain ⟨hi, rfl⟩ := rgY_at hy
    refine ⟨_, rfl, ?_⟩
    rw [Int.zero_add]
    have hi8 : i < 8 := hi
    have D1 := Dl (dts ((chTo m rows i).map chD))
    have ho := D1.o
    have hw := D1.w
    obtain ⟨p, row, hp, hrow, hlp, eg, hat⟩ := D1.get (r := (i : Int)) (by omega) (by omega)
    rw [Int.toNat_natCast] at hp hrow eg
    have hRow := W.at_ i
    rw [eg] at hRow
    have hz1000 : (rows.getD ((i : Int)).toNat []).length ≤ 1000 := by rw [Int.toNat_natCast, eg]; have := hRow.1; omega
    have eg2 : rows.getD ((i : Int)).toNat [] = row := by rw [Int.toNat_natCast]; exact eg
    have npo : p ≠ o := by
      intro z
      have h1 := D.at_ i p row hp hrow
      rw [z, hot] at h1
      cases h1
    refine mss_cons (ms_for (tgt := (.t [4, 5])) rfl (ix_zip (ax_cons (ex_ix (ex_fld (ex_var 0 rfl rfl (.inl rfl)) (by walk_at "lk") (by walk_at "fl") T.c_Deeds T.n_Deeds_rows) (ex_var 3 rfl rfl (.inl rfl)) (by walk_at "oix") (fun _ _ => rfl)) (ax_cons (ex_meth (ex_var 0 rfl rfl (.inl rfl)) (by walk_at "lk") (by walk_at "nf") T.c_Deeds G_Deeds_forces (hr.mono (by decide)) (ax_cons (ex_var 3 rfl rfl (.inl rfl)) ax_nil) ⟨q, w', ps, rows, (i : Int), rfl, D1, by omega, by omega, hz1000, fun L' l => ⟨_, l, rfl, rfl⟩⟩) ax_nil)) (LR.h hlp) LL.dt (by rfl) T.m_zip) (pgn_tup rfl (pgn_cons 4 sc_Deeds_changes.nd rfl (by first | exact .inl rfl | exact .inr rfl) (pgn_cons 5 sc_Deeds_changes.nd rfl (by first | exact .inl rfl | exact .inr rfl) pgn_nil)))
      (fun j ρ L' => ∃ de fo, ρ = [some (.vl (.ref q)), some (.dt (.str m)), some (.vl (.ref o)), some (.dt (.int (i : Int))), de, fo] ∧ L' = updL L o (.lst (dts ((chTo m rows i ++ chF m i row j).map chD)))) ⟨_, _, rfl, by simp [chF]⟩ (fun j ρ L' _ hI => ?_) ?_ ?_)
    · obtain ⟨de, fo, _, e⟩ := hI
      rw [e]
      exact ⟨LR.h (by rw [updL_ne npo]; exact D.at_ i p row hp hrow), LL.dt⟩
    · intro j y ρ L' hy hI
      obtain ⟨de, fo, rfl, rfl⟩ := hI
      rw [eg2] at hy
      unfold zipY at hy
      rw [List.getElem?_map] at hy
      cases hzz : ((rowR row).zip (dts (fcD row)))[j]? with
      | none => rw [hzz] at hy; cases hy
      | some z =>
        rw [hzz] at hy
        cases hy
        obtain ⟨h1, h2⟩ := zip_at hzz
        have hjl : j < row.length := by have := (List.getElem?_eq_some_iff.mp h1).1; rw [row_len] at this; exact this
        obtain ⟨d, b, e1, e2, e3⟩ := zip_row hjl
        have z1 : z.1 = .dt (deedD d) := by
          rw [List.getElem?_map, List.getElem?_map, e1] at h1
          exact (Option.some.inj h1).symm
        have z2 : z.2 = .dt (.bool b) := by
          unfold fcD at h2
          rw [List.getElem?_map, List.getElem?_map, e2] at h2
          exact (Option.some.inj h2).symm
        obtain ⟨z, z'⟩ := z
        have z1 : z = .dt (deedD d) := z1
        have z2 : z' = .dt (.bool b) := z2
        subst z1 z2
        refine ⟨_, rfl, ?_⟩
        have hok : updL L o (.lst (dts ((chTo m rows i ++ chF m i row j).map chD))) o = some (.lst (dts ((chTo m rows i ++ chF m i row j).map chD))) := updL_same
        have hz1 : (dts ((chTo m rows i ++ chF m i row j).map chD)).length < sizeLine := by
          have g1 := chTo_len (m := m) W (Nat.le_of_lt hi8)
          have g2 := chF_len (m := m) (r := i) (row := row) (i := j)
          have g3 := hRow.1
          rw [List.length_map, List.length_map, List.length_append, sizeLine_eq]
          omega
        have es := chF_snoc (m := m) (r := i) e3
        cases d with
        | back x =>
          refine mss_cons (ms_ifx (tx_w (wx_andF (TX.eq (tx_cmp (ex_ix (ex_var 4 rfl rfl (.inl rfl)) ex_int (by walk_at "oix") (fun _ _ => rfl)) ex_str (by walk_at "oeq") (nomark _)) (by decide +kernel)))) (fun hT => ?_) (fun hF => ?_))
          · cases hT
          · refine mss_nil (mss_nil ⟨_, _, rfl, ?_⟩)
            rw [es]
            simp [isCh]
        | change m' rm bh n l =>
          refine mss_cons (ms_ifx (tx_w (wx_and (tx_cmp (ex_ix (ex_var 4 rfl rfl (.inl rfl)) ex_int (by walk_at "oix") (fun _ _ => rfl)) ex_str (by walk_at "oeq") (nomark _)) (fun _ => (wx_and1 (tx_cmp (ex_ix (ex_var 4 rfl rfl (.inl rfl)) ex_int (by walk_at "oix") (fun _ _ => rfl)) (ex_var 1 rfl rfl (.inl rfl)) (by walk_at "oeq") (nomark _)))))) (fun hT => ?_) (fun hF => ?_))
          · refine mss_cons (ms_expr (EX.to (ex_append (ex_var 2 rfl rfl (.inl rfl)) (by walk_at "lk") (ex_tup (ad_cons (ex_var 3 rfl rfl (.inl rfl)) (ad_cons (ex_var 4 rfl rfl (.inl rfl)) (ad_cons (ex_var 5 rfl rfl (.inl rfl)) ad_nil))) (by walk_at "few")) (by walk_at "lk") (by walk_at "sz")) ?_))
            refine mss_nil (mss_nil ⟨_, _, rfl, ?_⟩)
            have hm : isCh m (.change m' rm bh n l) = true := by
              simp only [Bool.and_eq_true, decide_eq_true_iff] at hT
              exact decide_eq_true hT.2
            rw [updL_updL, es, if_pos hm]
            simp
          · refine mss_nil (mss_nil ⟨_, _, rfl, ?_⟩)
            have hm : ¬ isCh m (.change m' rm bh n l) = true := fun z => by
              have z : m' = m := of_decide_eq_true z
              rw [z] at hF
              simp at hF
            rw [es, if_neg hm, List.append_nil]
    · intro ρ L' hI
      obtain ⟨de, fo, rfl, rfl⟩ := hI
      refine mss_nil ⟨_, _, _, rfl, ?_⟩
      have hlen : row.length ≤ (zipY (rowR row) (dts (fcD (rows.getD ((i : Int)).toNat [])))).length := by
        unfold zipY
        rw [List.length_map, List.length_zip, row_len, eg2]
        unfold fcD
        rw [List.length_map, List.length_map, forces_len]
        omega
      rw [chF_all hlen, chTo_succ, eg]
  · intro ρ L' hI
    obtain ⟨rp, de, fo, rfl, rfl⟩ := hI
    rw [rgY_len]
    refine MSs.settle 2 rfl updL_same ?_
    refine mss_cons (ms_ret (EX.to (ex_var 2 rfl rfl (.inl rfl)) ?_))
    exact k _ (le_del hot (Le.refl L))
end
end K05


set_option Elab.async false
set_option linter.all false
set_option maxRecDepth 100000
set_option maxHeartbeats 4000000
namespace K05
open PySem PySem.Spec PyProof.Rows L2 Cw
/-! ### small closers, each at its own key -/
local macro_rules | `(tactic| walk_at "oadd") => `(tactic| first | exact o_add | exact o_addS (by walk_at "sz") | exact o_cat (by walk_at "ll") (by walk_at "ll") (by walk_at "sz"))
local macro_rules | `(tactic| walk_at "osub") => `(tactic| exact o_sub)
local macro_rules | `(tactic| walk_at "omul") => `(tactic| first | exact o_mul (by walk_at "sd") | exact o_rep (by walk_at "ll") (by walk_at "sd") (by walk_at "sd") (by walk_at "sz"))
local macro_rules | `(tactic| walk_at "odiv") => `(tactic| first | exact o_div (by walk_at "sd") | exact o_divW (by walk_at "sd"))
local macro_rules | `(tactic| walk_at "olt") => `(tactic| exact o_lt)
local macro_rules | `(tactic| walk_at "ole") => `(tactic| exact o_le)
local macro_rules | `(tactic| walk_at "ogt") => `(tactic| exact o_gt)
local macro_rules | `(tactic| walk_at "oge") => `(tactic| exact o_ge)
local macro_rules | `(tactic| walk_at "oeq") => `(tactic| first | exact o_eqI | exact o_eqNI | exact o_eqS | exact o_eqB | exact o_eqR (Room.units (by assumption)) (by walk_at "dr") (by walk_at "dr") (by walk_at "sh") (by walk_at "sh"))
local macro_rules | `(tactic| walk_at "one") => `(tactic| first | exact o_neI | exact o_neS | exact o_neB | exact o_neR (Room.units (by assumption)) (by walk_at "dr") (by walk_at "dr") (by walk_at "sh") (by walk_at "sh"))
local macro_rules | `(tactic| walk_at "ois") => `(tactic| exact o_isN)
local macro_rules | `(tactic| walk_at "oisn") => `(tactic| exact o_notN)
local macro_rules | `(tactic| walk_at "iadd") => `(tactic| exact o_iadd)
local macro_rules | `(tactic| walk_at "isub") => `(tactic| exact o_isub)
local macro_rules | `(tactic| walk_at "lk") => `(tactic| first | assumption | exact updL_same | (refine Eq.trans (updL_ne (by first | assumption | (apply Ne.symm; assumption))) ?_; walk_at "lk"))
local macro_rules | `(tactic| walk_at "ll") => `(tactic| first | exact LL.dt | assumption | exact LL.h (by walk_at "lk"))
local macro_rules | `(tactic| walk_at "lr") => `(tactic| first | exact LL.dt | assumption | exact LR.h (by walk_at "lk"))
local macro_rules | `(tactic| walk_at "dr") => `(tactic| first | exact DD.dt | assumption | exact DD.ofLL (by walk_at "lk"))
local macro_rules | `(tactic| walk_at "sd") => `(tactic| first | omega | assumption | decide)
local macro_rules | `(tactic| walk_at "rg") => `(tactic| first | omega | assumption | decide)
local macro_rules | `(tactic| walk_at "sz") => `(tactic| first | assumption | (rw [sizeLine_eq]; first | omega | (simp; omega)))
local macro_rules | `(tactic| walk_at "osl") => `(tactic| first | exact s_str (by walk_at "sz") | exact s_lst (by walk_at "ll"))
local macro_rules | `(tactic| walk_at "c_len") => `(tactic| first | exact c_lenT | exact c_lenS (by walk_at "sz") | exact c_lenL (by walk_at "ll") | exact c_lenR (by walk_at "lr") | exact c_lenF (by assumption))
local macro_rules | `(tactic| walk_at "c_int") => `(tactic| first | exact c_int | exact c_intB)
local macro_rules | `(tactic| walk_at "c_min") => `(tactic| exact c_min rfl)
local macro_rules | `(tactic| walk_at "c_max") => `(tactic| exact c_max rfl)
local macro_rules | `(tactic| walk_at "c_ord") => `(tactic| exact c_ord (by walk_at "sz"))
local macro_rules | `(tactic| walk_at "c_list") => `(tactic| first | exact c_listT | exact c_list (by walk_at "ll") | exact c_listF (by assumption))
local macro_rules | `(tactic| walk_at "c_tuple") => `(tactic| first | exact c_tupleT | exact c_tuple (by walk_at "ll"))
local macro_rules | `(tactic| walk_at "c_isinstance") => `(tactic| exact c_isi (by walk_at "dr") (by decide))
local macro_rules | `(tactic| walk_at "few") => `(tactic| first | decide | exact Nat.le_of_ble_eq_true rfl | (rw [sizeLine_eq]; exact Nat.le_of_ble_eq_true rfl) | assumption)
local macro_rules | `(tactic| walk_at "fl") => `(tactic| first | assumption | rfl)
local macro_rules | `(tactic| walk_at "nf") => `(tactic| first | rfl | decide +kernel)
local macro_rules | `(tactic| walk_at "at") => `(tactic| first | assumption | rfl | exact atI_nat (by assumption))
local macro_rules | `(tactic| walk_at "oix") => `(tactic| first | exact i_tup (by walk_at "at") | exact i_lst (by walk_at "ll") (by walk_at "at") | exact i_lstR (by walk_at "lr") (by walk_at "at") | exact i_str (by walk_at "sz") (by walk_at "at") | exact i_lstF (by assumption) (by walk_at "at"))
local macro_rules | `(tactic| walk_at "ixn") => `(tactic| first | assumption | rfl)
local macro_rules | `(tactic| walk_at "okd") => `(tactic| first | rfl | assumption)
local macro_rules | `(tactic| walk_at "wr") => `(tactic| first | assumption | omega)
local macro_rules | `(tactic| walk_at "shn") => `(tactic| first | exact fun z => absurd z (by assumption) | exact fun z => absurd rfl z | exact fun _ => ⟨rfl, rfl⟩)
local macro_rules | `(tactic| walk_at "onin") => `(tactic| exact o_notIn2S)
local macro_rules | `(tactic| walk_at "okp") => `(tactic| first | assumption | exact nxt_p (by walk_at "okp"))
local macro_rules | `(tactic| walk_at "c_all") => `(tactic| exact c_all rfl (by walk_at "ll"))
local macro_rules | `(tactic| walk_at "c_sum") => `(tactic| exact c_sum rfl (by walk_at "ll"))
local macro_rules | `(tactic| walk_at "c_sorted") => `(tactic| exact c_sortedS (by walk_at "ll") (by walk_at "sz"))

local macro_rules | `(tactic| walk_at "sh") => `(tactic| assumption)
section
variable {P : Program} {w : World} {K : PySem.W.Frag} {mg : Str → Option Value} {base : Heap} {C : Addr}
/-- the value of what is walked -/
def yv : Yd → PyData := fun y => match y with | .r (.dt v) => v | _ => .none
def yi : Yd → Nat := fun y => match y with | .r (.dt (.int v)) => v.toNat | _ => 0
def tkT (row : List Deed) (fs : List Bool) (p : Int) : Yd → Bool := fun y => (fs.getD (yi y) false) && isBack row[row.length - 1 - yi y]? p
theorem tk_none {row : List Deed} {k : Nat} (h : k ≤ row.length) : ((((rgY 0 k).filter (tkT row (fz row k).1 ((row.length - k : Nat) : Int))).map yv).length : Int) = 0 ↔ ((row.length - k : Nat) : Int) ∉ (fz row k).2 := by
  rw [fz_tk]
  have e : ((((rgY 0 k).filter (tkT row (fz row k).1 ((row.length - k : Nat) : Int))).map yv).length : Int) = 0 ↔ (rgY 0 k).filter (tkT row (fz row k).1 ((row.length - k : Nat) : Int)) = [] := by
    rw [List.length_map]
    constructor
    · intro h
      exact List.length_eq_zero_iff.mp (by omega)
    · intro h
      rw [h]
      rfl
  rw [e, List.filter_eq_nil_iff]
  have hy : ∀ j, j < k → yi (.r (.dt (.int (0 + (j : Int))))) = j := fun j _ => by show (0 + (j : Int)).toNat = j; omega
  constructor
  · rintro h ⟨j, a, b, c⟩
    have hm : Yd.r (.dt (.int (0 + (j : Int)))) ∈ rgY 0 k := by
      unfold rgY
      exact List.mem_map.mpr ⟨j, List.mem_range.mpr a, rfl⟩
    refine h _ hm ?_
    unfold tkT
    rw [hy j a, List.getD_eq_getElem?_getD, b, c]
    rfl
  · rintro h y hy'
    obtain ⟨j, hj⟩ := List.mem_iff_getElem?.mp hy'
    obtain ⟨hjk, rfl⟩ := rgY_at hj
    intro z
    unfold tkT at z
    rw [hy j hjk, Bool.and_eq_true] at z
    refine h ⟨j, hjk, ?_, z.2⟩
    have hl : j < (fz row k).1.length := by rw [fz_len]; exact hjk
    rw [List.getD_eq_getElem?_getD, List.getElem?_eq_getElem hl] at z
    rw [List.getElem?_eq_getElem hl]
    exact congrArg some z.1
def sp_lforces : Fs := fun as L Q _ => ∃ r row, as = [r] ∧ LL L r (row.map deedD) ∧ row.length ≤ 1000 ∧ (∀ d ∈ row, DeedOk d) ∧ ∀ L', Le L L' → Q (.dt (.list (fcD row))) L'
theorem ok_lforces {f : Addr} {fd : FuncData} (F : Fun K "_law_forces" "_law_forces" s_law_forces f fd) (T : TxD K mg C) : FnOk P w K mg base CX0 1 f fd P_law_forces (lift sp_lforces) := by
  refine fnok0 F sc_law_forces (fun as L Q XC h => by obtain ⟨_, _, rfl, _⟩ := h; rfl) ?_
  intro cdv A outer s0 H E hr as L Q XC h
  obtain ⟨r, row, rfl, hrl, hz, hok, k⟩ := h
  have hz2 : ((row.map deedD).length : Int) < 2 ^ 62 := by rw [List.length_map]; omega
  refine mss_cons (ms_set 1 sc_law_forces.nd rfl (.inr rfl) (me_lst0 fun o hot => ?_))
  have hrl2 : ∀ m, LL (updL L o m) r (row.map deedD) := fun m => hrl.le (le_upd hot)
  have hrl3 := hrl2 (.lst [])
  refine mss_cons (ms_for (tgt := (.n 2)) rfl (ix_range1 (ax_cons (ex_callB (ax_cons (ex_var 0 rfl rfl (by first | exact .inl rfl | exact .inr (.inl rfl) | exact .inr (.inr rfl))) ax_nil) (by walk_at "c_len") (by rfl) T.m_len PySem.boot_len) ax_nil) (by walk_at "sd") (by walk_at "sd") (by rfl) T.m_range) (pgn_name 2 sc_law_forces.nd rfl (by first | exact .inl rfl | exact .inr rfl)) (fun i ρ L' => ∃ kk pl tk, ρ = [some r, some (.vl (.ref o)), kk, pl, tk, none] ∧ L' = updL L o (.lst (dts ((fz row i).1.map PyData.bool)))) ⟨none, none, none, rfl, rfl⟩ (fun _ _ _ _ _ => trivial) ?_ ?_)
  · intro i y ρ L' hy hI
    obtain ⟨kk, pl, tk, rfl, rfl⟩ := hI
    obtain ⟨hi, rfl⟩ := rgY_at hy
    rw [List.length_map, Int.toNat_natCast] at hi
    refine ⟨_, rfl, ?_⟩
    rw [Int.zero_add]
    have hrl3 := hrl2 (.lst (dts ((fz row i).1.map PyData.bool)))
    have hofs : updL L o (.lst (dts ((fz row i).1.map PyData.bool))) o = some (.lst (dts ((fz row i).1.map PyData.bool))) := updL_same
    have hfl : ((fz row i).1.map PyData.bool).length = i := by rw [List.length_map, fz_len]
    refine mss_cons (ms_set 3 sc_law_forces.nd rfl (by first | exact .inl rfl | exact .inr rfl) (EX.to (ex_bin (ex_callB (ax_cons (ex_var 0 rfl rfl (by first | exact .inl rfl | exact .inr (.inl rfl) | exact .inr (.inr rfl))) ax_nil) (by walk_at "c_len") (by rfl) T.m_len PySem.boot_len) (ex_var 2 rfl rfl (.inl rfl)) (by walk_at "osub")) ?_))
    have epl : ((row.map deedD).length : Int) - (i : Int) = ((row.length - i : Nat) : Int) := by rw [List.length_map]; omega
    rw [epl]
    refine mss_cons (ms_setlcf (i := 4) (tgt := (.n 5)) (own := [("j", 5)]) yv (tkT row (fz row i).1 ((row.length - i : Nat) : Int)) (by rfl) sc_law_forces.nd rfl rfl (by rfl) (ix_range1 (ax_cons (ex_callB (ax_cons (ex_var 1 rfl rfl (by first | exact .inl rfl | exact .inr (.inl rfl) | exact .inr (.inr rfl))) ax_nil) (by walk_at "c_len") (by rfl) T.m_len PySem.boot_len) ax_nil) (by walk_at "sd") (by walk_at "sd") (by rfl) T.m_range) trivial (blkOk_by (by rfl)) rfl (fun s H C cl fp => (pgn_name 5 sc_law_forces.nd rfl (by first | exact .inl rfl | exact .inr rfl))) (by rw [rgY_len, sizeLine_eq, hfl]; omega) (fun j y hy => ?_) ?_)
    · obtain ⟨hj, rfl⟩ := rgY_at hy
      rw [hfl, Int.toNat_natCast] at hj
      obtain ⟨d, hd⟩ : ∃ d, row[row.length - 1 - j]? = some d := ⟨_, List.getElem?_eq_getElem (by omega)⟩
      obtain ⟨b, hb⟩ : ∃ b, (fz row i).1[j]? = some b := ⟨_, List.getElem?_eq_getElem (by rw [fz_len]; exact hj)⟩
      have h1 : atI ((fz row i).1.map PyData.bool) (0 + (j : Int)) = some (.bool b) := atI_int (by omega) (by rw [List.getElem?_map, show (0 + (j : Int)).toNat = j by omega, hb]; rfl)
      have h2 : atI (row.map deedD) (((row.map deedD).length : Int) - 1 - (0 + (j : Int))) = some (deedD d) := atI_int (by rw [List.length_map]; omega) (by rw [List.getElem?_map, show (((row.map deedD).length : Int) - 1 - (0 + (j : Int))).toNat = row.length - 1 - j by rw [List.length_map]; omega, hd]; rfl)
      have hsh : SeqAt.shaped (deedD d) = true := (sh_deed (hok d (List.mem_of_getElem? hd))).ok (by decide)
      have hsh2 : SeqAt.shaped (.tuple [.str "back", .int ((row.length - i : Nat) : Int)]) = true := (sh_deed (d := .back _) (by show (0 : Int) ≤ _; exact Int.natCast_nonneg _)).ok (by decide)
      refine ⟨_, rfl, fun s H C cl fp => TX.eq (tx_w (wx_and (tx_val (ex_ix (ex_var 1 rfl rfl (by first | exact .inl rfl | exact .inr (.inl rfl) | exact .inr (.inr rfl))) (ex_var 5 rfl rfl (by first | exact .inl rfl | exact .inr (.inl rfl) | exact .inr (.inr rfl))) (by walk_at "oix") (fun _ _ => rfl))) (fun _ => (wx_and1 (tx_cmp (ex_ix (ex_var 0 rfl rfl (by first | exact .inl rfl | exact .inr (.inl rfl) | exact .inr (.inr rfl))) (ex_bin (ex_bin (ex_callB (ax_cons (ex_var 0 rfl rfl (by first | exact .inl rfl | exact .inr (.inl rfl) | exact .inr (.inr rfl))) ax_nil) (by walk_at "c_len") (by rfl) T.m_len PySem.boot_len) ex_int (by walk_at "osub")) (ex_var 5 rfl rfl (by first | exact .inl rfl | exact .inr (.inl rfl) | exact .inr (.inr rfl))) (by walk_at "osub")) (by walk_at "oix") (fun _ _ => rfl)) (ex_tup (ad_cons ex_str (ad_cons (ex_var 3 rfl rfl (by first | exact .inl rfl | exact .inr (.inl rfl) | exact .inr (.inr rfl))) ad_nil)) (by walk_at "few")) (by walk_at "oeq") (nomark _)))))) ?_, fun _ s H C cl fp => (ex_var 5 rfl rfl (by first | exact .inl rfl | exact .inr (.inl rfl) | exact .inr (.inr rfl)))⟩
      rw [eqv_back]
      unfold tkT
      have ey : yi (.r (.dt (.int (0 + (j : Int))))) = j := by show (0 + (j : Int)).toNat = j; omega
      rw [ey, List.getD_eq_getElem?_getD, hb, hd]
      rfl
    · rw [hfl, Int.toNat_natCast]
      have hz1 : (dts ((fz row i).1.map PyData.bool)).length < sizeLine := by rw [List.length_map, hfl, sizeLine_eq]; omega
      refine mss_cons (ms_expr (EX.to (ex_append (ex_var 1 rfl rfl (by first | exact .inl rfl | exact .inr (.inl rfl) | exact .inr (.inr rfl))) (by walk_at "lk") (ex_cmp (ex_callB (ax_cons (ex_var 4 rfl rfl (.inl rfl)) ax_nil) (by walk_at "c_len") (by rfl) T.m_len PySem.boot_len) ex_int (by walk_at "oeq") (nomark _)) (by walk_at "lk") (by walk_at "sz")) ?_))
      refine mss_nil ⟨_, _, _, rfl, ?_⟩
      rw [updL_updL]
      have e : decide (((((rgY 0 i).filter (tkT row (fz row i).1 ((row.length - i : Nat) : Int))).map yv).length : Int) = 0) = !decide (((row.length - i : Nat) : Int) ∈ (fz row i).2) := by
        rw [Bool.eq_iff_iff, decide_eq_true_iff, tk_none (by omega)]
        simp
      rw [e]
      have eb : dts ((fz row i).1.map PyData.bool) ++ [.dt (.bool (!decide (((row.length - i : Nat) : Int) ∈ (fz row i).2)))] = dts ((fz row (i + 1)).1.map PyData.bool) := by
        show _ = dts (((fz row i).1 ++ [_]).map PyData.bool)
        simp
      rw [eb]
  · intro ρ L' hI
    obtain ⟨kk, pl, tk, rfl, rfl⟩ := hI
    rw [rgY_len, List.length_map, Int.toNat_natCast]
    refine MSs.settle 1 rfl updL_same ?_
    have hrl3 : LL (delL (updL L o (.lst (dts ((fz row row.length).1.map PyData.bool)))) o) r (row.map deedD) := hrl.le (le_del hot (Le.refl L))
    refine mss_cons (ms_ret (EX.to (ex_lcp (tgt := (.n 2)) (own := [("k", 2)]) (fun y => .bool ((fz row row.length).1.getD (row.length - 1 - yi y) false)) (by rfl) sc_law_forces.nd (ix_range1 (ax_cons (ex_callB (ax_cons (ex_var 0 rfl rfl (by first | exact .inl rfl | exact .inr (.inl rfl) | exact .inr (.inr rfl))) ax_nil) (by walk_at "c_len") (by rfl) T.m_len PySem.boot_len) ax_nil) (by walk_at "sd") (by walk_at "sd") (by rfl) T.m_range) trivial (blkOk_by (by rfl)) rfl (fun s H C cl fp => (pgn_name 2 sc_law_forces.nd rfl (by first | exact .inl rfl | exact .inr rfl))) (by rw [rgY_len, sizeLine_eq, List.length_map, Int.toNat_natCast]; omega) ?_) ?_))
    · intro j y hy
      obtain ⟨hj, rfl⟩ := rgY_at hy
      rw [List.length_map, Int.toNat_natCast] at hj
      have ey : yi (.r (.dt (.int (0 + (j : Int))))) = j := by show (0 + (j : Int)).toNat = j; omega
      obtain ⟨b, hb⟩ : ∃ b, (fz row row.length).1[row.length - 1 - j]? = some b := ⟨_, List.getElem?_eq_getElem (by rw [fz_len]; omega)⟩
      have h1 : atI ((fz row row.length).1.map PyData.bool) (((row.map deedD).length : Int) - 1 - (0 + (j : Int))) = some (.bool ((fz row row.length).1.getD (row.length - 1 - yi (.r (.dt (.int (0 + (j : Int)))))) false)) := by
        rw [ey, List.getD_eq_getElem?_getD, hb]
        exact atI_int (by rw [List.length_map]; omega) (by rw [List.getElem?_map, show (((row.map deedD).length : Int) - 1 - (0 + (j : Int))).toNat = row.length - 1 - j by rw [List.length_map]; omega, hb]; rfl)
      exact ⟨_, rfl, fun s H C cl fp => (ex_ix (ex_var 1 rfl rfl (by first | exact .inl rfl | exact .inr (.inl rfl) | exact .inr (.inr rfl))) (ex_bin (ex_bin (ex_callB (ax_cons (ex_var 0 rfl rfl (by first | exact .inl rfl | exact .inr (.inl rfl) | exact .inr (.inr rfl))) ax_nil) (by walk_at "c_len") (by rfl) T.m_len PySem.boot_len) ex_int (by walk_at "osub")) (ex_var 2 rfl rfl (by first | exact .inl rfl | exact .inr (.inl rfl) | exact .inr (.inr rfl))) (by walk_at "osub")) (by walk_at "oix") (fun _ _ => rfl))⟩
    · have e : (rgY 0 (((row.map deedD).length : Int)).toNat).map (fun y => PyData.bool ((fz row row.length).1.getD (row.length - 1 - yi y) false)) = fcD row := by
        unfold fcD
        refine List.ext_getElem? fun j => ?_
        unfold rgY
        rw [List.length_map, Int.toNat_natCast, List.map_map, List.getElem?_map, List.getElem?_map]
        by_cases hj : j < row.length
        · rw [List.getElem?_range hj, forces_at row hj]
          have ey : yi (.r (.dt (.int (0 + (j : Int))))) = j := by show (0 + (j : Int)).toNat = j; omega
          show some (PyData.bool ((fz row row.length).1.getD (row.length - 1 - yi (.r (.dt (.int (0 + (j : Int)))))) false)) = _
          rw [ey, List.getD_eq_getElem?_getD, List.getElem?_eq_getElem (by rw [fz_len]; omega)]
          rfl
        · rw [List.getElem?_eq_none (by rw [List.length_range]; omega), List.getElem?_eq_none (by rw [forces_len]; omega)]
          rfl
      rw [e]
      exact k _ (le_del hot (Le.refl L))
end
end K05

set_option Elab.async false
set_option linter.all false
set_option maxRecDepth 100000
set_option maxHeartbeats 4000000
namespace K05
open PySem PySem.Spec PyProof.Rows L2 Cw
/-! ### small closers, each at its own key -/
local macro_rules | `(tactic| walk_at "oadd") => `(tactic| first | exact o_add | exact o_addS (by walk_at "sz") | exact o_cat (by walk_at "ll") (by walk_at "ll") (by walk_at "sz"))
local macro_rules | `(tactic| walk_at "osub") => `(tactic| exact o_sub)
local macro_rules | `(tactic| walk_at "omul") => `(tactic| first | exact o_mul (by walk_at "sd") | exact o_rep (by walk_at "ll") (by walk_at "sd") (by walk_at "sd") (by walk_at "sz"))
local macro_rules | `(tactic| walk_at "odiv") => `(tactic| first | exact o_div (by walk_at "sd") | exact o_divW (by walk_at "sd"))
local macro_rules | `(tactic| walk_at "olt") => `(tactic| exact o_lt)
local macro_rules | `(tactic| walk_at "ole") => `(tactic| exact o_le)
local macro_rules | `(tactic| walk_at "ogt") => `(tactic| exact o_gt)
local macro_rules | `(tactic| walk_at "oge") => `(tactic| exact o_ge)
local macro_rules | `(tactic| walk_at "oeq") => `(tactic| first | exact o_eqI | exact o_eqNI | exact o_eqS | exact o_eqB | exact o_eqR (Room.units (by assumption)) (by walk_at "dr") (by walk_at "dr") (by walk_at "sh") (by walk_at "sh"))
local macro_rules | `(tactic| walk_at "one") => `(tactic| first | exact o_neI | exact o_neS | exact o_neB | exact o_neR (Room.units (by assumption)) (by walk_at "dr") (by walk_at "dr") (by walk_at "sh") (by walk_at "sh"))
local macro_rules | `(tactic| walk_at "ois") => `(tactic| exact o_isN)
local macro_rules | `(tactic| walk_at "oisn") => `(tactic| exact o_notN)
local macro_rules | `(tactic| walk_at "iadd") => `(tactic| exact o_iadd)
local macro_rules | `(tactic| walk_at "isub") => `(tactic| exact o_isub)
local macro_rules | `(tactic| walk_at "lk") => `(tactic| first | assumption | exact updL_same | (refine Eq.trans (updL_ne (by first | assumption | (apply Ne.symm; assumption))) ?_; walk_at "lk"))
local macro_rules | `(tactic| walk_at "ll") => `(tactic| first | exact LL.dt | assumption | exact LL.h (by walk_at "lk"))
local macro_rules | `(tactic| walk_at "lr") => `(tactic| first | exact LL.dt | assumption | exact LR.h (by walk_at "lk"))
local macro_rules | `(tactic| walk_at "dr") => `(tactic| first | exact DD.dt | assumption | exact DD.ofLL (by walk_at "lk"))
local macro_rules | `(tactic| walk_at "sd") => `(tactic| first | omega | assumption | decide)
local macro_rules | `(tactic| walk_at "rg") => `(tactic| first | omega | assumption | decide)
local macro_rules | `(tactic| walk_at "sz") => `(tactic| first | assumption | (rw [sizeLine_eq]; first | omega | (simp; omega)))
local macro_rules | `(tactic| walk_at "osl") => `(tactic| first | exact s_str (by walk_at "sz") | exact s_lst (by walk_at "ll"))
local macro_rules | `(tactic| walk_at "c_len") => `(tactic| first | exact c_lenT | exact c_lenS (by walk_at "sz") | exact c_lenL (by walk_at "ll") | exact c_lenR (by walk_at "lr") | exact c_lenF (by assumption))
local macro_rules | `(tactic| walk_at "c_int") => `(tactic| first | exact c_int | exact c_intB)
local macro_rules | `(tactic| walk_at "c_min") => `(tactic| exact c_min rfl)
local macro_rules | `(tactic| walk_at "c_max") => `(tactic| exact c_max rfl)
local macro_rules | `(tactic| walk_at "c_ord") => `(tactic| exact c_ord (by walk_at "sz"))
local macro_rules | `(tactic| walk_at "c_list") => `(tactic| first | exact c_listT | exact c_list (by walk_at "ll") | exact c_listF (by assumption))
local macro_rules | `(tactic| walk_at "c_tuple") => `(tactic| first | exact c_tupleT | exact c_tuple (by walk_at "ll"))
local macro_rules | `(tactic| walk_at "c_isinstance") => `(tactic| exact c_isi (by walk_at "dr") (by decide))
local macro_rules | `(tactic| walk_at "few") => `(tactic| first | decide | exact Nat.le_of_ble_eq_true rfl | (rw [sizeLine_eq]; exact Nat.le_of_ble_eq_true rfl) | assumption)
local macro_rules | `(tactic| walk_at "fl") => `(tactic| first | assumption | rfl)
local macro_rules | `(tactic| walk_at "nf") => `(tactic| first | rfl | decide +kernel)
local macro_rules | `(tactic| walk_at "at") => `(tactic| first | assumption | rfl | exact atI_nat (by assumption))
local macro_rules | `(tactic| walk_at "oix") => `(tactic| first | exact i_tup (by walk_at "at") | exact i_lst (by walk_at "ll") (by walk_at "at") | exact i_lstR (by walk_at "lr") (by walk_at "at") | exact i_str (by walk_at "sz") (by walk_at "at") | exact i_lstF (by assumption) (by walk_at "at"))
local macro_rules | `(tactic| walk_at "ixn") => `(tactic| first | assumption | rfl)
local macro_rules | `(tactic| walk_at "okd") => `(tactic| first | rfl | assumption)
local macro_rules | `(tactic| walk_at "wr") => `(tactic| first | assumption | omega)
local macro_rules | `(tactic| walk_at "shn") => `(tactic| first | exact fun z => absurd z (by assumption) | exact fun z => absurd rfl z | exact fun _ => ⟨rfl, rfl⟩)
local macro_rules | `(tactic| walk_at "onin") => `(tactic| exact o_notIn2S)
local macro_rules | `(tactic| walk_at "okp") => `(tactic| first | assumption | exact nxt_p (by walk_at "okp"))
local macro_rules | `(tactic| walk_at "c_all") => `(tactic| exact c_all rfl (by walk_at "ll"))
local macro_rules | `(tactic| walk_at "c_sum") => `(tactic| exact c_sum rfl (by walk_at "ll"))
local macro_rules | `(tactic| walk_at "c_sorted") => `(tactic| exact c_sortedS (by walk_at "ll") (by walk_at "sz"))

section
variable {P : Program} {w : World} {K : PySem.W.Frag} {mg : Str → Option Value} {base : Heap} {C : Addr}
def sp_lchanges : Fs := fun as L Q _ => ∃ r rows m, as = [r, .dt (.str m)] ∧ RowsAt L r rows ∧ Wf rows ∧ ∀ L', Le L L' → Q (.dt (.list ((changes m rows).map chD))) L'
theorem ok_lchanges {f : Addr} {fd : FuncData} (F : Fun K "_law_changes" "_law_changes" s_law_changes f fd) (T : TxD K mg C) (G_law_forces' : FnM P w K mg base 1 "_law_forces" P_law_forces sp_lforces) : FnOk P w K mg base CX0 2 f fd P_law_changes (lift sp_lchanges) := by
  have G_law_forces := G_law_forces'.forget
  refine fnok0 F sc_law_changes (fun as L Q XC h => by obtain ⟨_, _, _, rfl, _⟩ := h; rfl) ?_
  intro cdv A outer s0 H E hr as L Q XC h
  obtain ⟨r, rows, m, rfl, hR, W, k⟩ := h
  obtain ⟨rs, hrs, hrl, hat0⟩ := hR.at_
  refine mss_cons (ms_set 2 sc_law_changes.nd rfl (.inl rfl) (me_lst0 fun o hot => ?_))
  refine mss_cons (ms_for (tgt := (.n 3)) rfl (ix_range1 (ax_cons ex_int ax_nil) (by walk_at "sd") (by walk_at "sd") (by rfl) T.m_range) (pgn_name 3 sc_law_changes.nd rfl (by first | exact .inl rfl | exact .inr rfl)) (fun i ρ L' => ∃ rp fo kk, ρ = [some r, some (.dt (.str m)), some (.vl (.ref o)), rp, fo, kk] ∧ L' = updL L o (.lst (dts ((chTo m rows i).map chD)))) ⟨none, none, none, rfl, rfl⟩ (fun _ _ _ _ _ => trivial) ?_ ?_)
  · intro i y ρ L' hy hI
    obtain ⟨rp, fo, kk, rfl, rfl⟩ := hI
    obtain ⟨hi, rfl⟩ := rgY_at hy
    refine ⟨_, rfl, ?_⟩
    rw [Int.zero_add]
    have hi8 : i < 8 := hi
    obtain ⟨x, hx1, hx2⟩ := hat0 i (by rw [W.len]; omega)
    have hat : atI rs (i : Int) = some x := atI_nat hx1
    have hRow := W.at_ i
    generalize hrow : rows.getD i [] = row at hx2 hRow
    have lU : ∀ m, Le L (updL L o m) := fun m => le_upd hot
    have hrs2 := hrs.le (lU (.lst (dts ((chTo m rows i).map chD))))
    have hx3 : LL (updL L o (.lst (dts ((chTo m rows i).map chD)))) x (row.map deedD) := hx2.le (lU _)
    have hz : row.length ≤ 1000 := by have := hRow.1; omega
    have hlen2 : ((row.map deedD).length : Int) < 2 ^ 62 := by rw [List.length_map]; omega
    refine mss_cons (ms_set 4 sc_law_changes.nd rfl (by first | exact .inl rfl | exact .inr rfl) (EX.to (ex_call G_law_forces (hr.mono (by decide)) (by rfl) (ax_cons (ex_ix (ex_var 0 rfl rfl (.inl rfl)) (ex_var 3 rfl rfl (.inl rfl)) (by walk_at "oix") (fun _ _ => rfl)) ax_nil) ⟨x, row, rfl, hx3, hz, hRow.2.1, fun L' l => ⟨_, l, rfl, rfl⟩⟩) ?_))
    refine mss_cons (ms_for (tgt := (.n 5)) rfl (ix_range1 (ax_cons (ex_callB (ax_cons (ex_ix (ex_var 0 rfl rfl (.inl rfl)) (ex_var 3 rfl rfl (.inl rfl)) (by walk_at "oix") (fun _ _ => rfl)) ax_nil) (by walk_at "c_len") (by rfl) T.m_len PySem.boot_len) ax_nil) (by walk_at "sd") (by walk_at "sd") (by rfl) T.m_range) (pgn_name 5 sc_law_changes.nd rfl (by first | exact .inl rfl | exact .inr rfl))
      (fun j ρ L' => ∃ kk, ρ = [some r, some (.dt (.str m)), some (.vl (.ref o)), some (.dt (.int (i : Int))), some (.dt (.list (fcD row))), kk] ∧ L' = updL L o (.lst (dts ((chTo m rows i ++ chF m i row j).map chD)))) ⟨_, rfl, by simp [chF]⟩ (fun _ _ _ _ _ => trivial) ?_ ?_)
    · intro j y ρ L' hy hI
      obtain ⟨kk, rfl, rfl⟩ := hI
      obtain ⟨hj, rfl⟩ := rgY_at hy
      rw [List.length_map, Int.toNat_natCast] at hj
      obtain ⟨d, b, e1, e2, e3⟩ := zip_row hj
      refine ⟨_, rfl, ?_⟩
      rw [Int.zero_add]
      have hrs3 := hrs.le (lU (.lst (dts ((chTo m rows i ++ chF m i row j).map chD))))
      have hx4 : LL (updL L o (.lst (dts ((chTo m rows i ++ chF m i row j).map chD)))) x (row.map deedD) := hx2.le (lU _)
      have hatd : atI (row.map deedD) (j : Int) = some (deedD d) := atI_nat (by rw [List.getElem?_map, e1]; rfl)
      have hatb : atI (fcD row) (j : Int) = some (.bool b) := atI_nat (by unfold fcD; rw [List.getElem?_map, e2]; rfl)
      have hok : updL L o (.lst (dts ((chTo m rows i ++ chF m i row j).map chD))) o = some (.lst (dts ((chTo m rows i ++ chF m i row j).map chD))) := updL_same
      have hz1 : (dts ((chTo m rows i ++ chF m i row j).map chD)).length < sizeLine := by
        have g1 := chTo_len (m := m) W (Nat.le_of_lt hi8)
        have g2 := chF_len (m := m) (r := i) (row := row) (i := j)
        rw [List.length_map, List.length_map, List.length_append, sizeLine_eq]
        omega
      have es := chF_snoc (m := m) (r := i) e3
      cases d with
      | back x =>
        refine mss_cons (ms_ifx (tx_w (wx_andF (TX.eq (tx_cmp (ex_ix (ex_ix (ex_ix (ex_var 0 rfl rfl (.inl rfl)) (ex_var 3 rfl rfl (.inl rfl)) (by walk_at "oix") (fun _ _ => rfl)) (ex_var 5 rfl rfl (.inl rfl)) (by walk_at "oix") (fun _ _ => rfl)) ex_int (by walk_at "oix") (fun _ _ => rfl)) ex_str (by walk_at "oeq") (nomark _)) (by decide +kernel)))) (fun hT => ?_) (fun hF => ?_))
        · cases hT
        · refine mss_nil (mss_nil ⟨_, rfl, ?_⟩)
          rw [es]
          simp [isCh]
      | change m' rm bh n l =>
        refine mss_cons (ms_ifx (tx_w (wx_and (tx_cmp (ex_ix (ex_ix (ex_ix (ex_var 0 rfl rfl (.inl rfl)) (ex_var 3 rfl rfl (.inl rfl)) (by walk_at "oix") (fun _ _ => rfl)) (ex_var 5 rfl rfl (.inl rfl)) (by walk_at "oix") (fun _ _ => rfl)) ex_int (by walk_at "oix") (fun _ _ => rfl)) ex_str (by walk_at "oeq") (nomark _)) (fun _ => (wx_and1 (tx_cmp (ex_ix (ex_ix (ex_ix (ex_var 0 rfl rfl (.inl rfl)) (ex_var 3 rfl rfl (.inl rfl)) (by walk_at "oix") (fun _ _ => rfl)) (ex_var 5 rfl rfl (.inl rfl)) (by walk_at "oix") (fun _ _ => rfl)) ex_int (by walk_at "oix") (fun _ _ => rfl)) (ex_var 1 rfl rfl (.inl rfl)) (by walk_at "oeq") (nomark _)))))) (fun hT => ?_) (fun hF => ?_))
        · refine mss_cons (ms_expr (EX.to (ex_append (ex_var 2 rfl rfl (.inl rfl)) (by walk_at "lk") (ex_tup (ad_cons (ex_var 3 rfl rfl (.inl rfl)) (ad_cons (ex_ix (ex_ix (ex_var 0 rfl rfl (.inl rfl)) (ex_var 3 rfl rfl (.inl rfl)) (by walk_at "oix") (fun _ _ => rfl)) (ex_var 5 rfl rfl (.inl rfl)) (by walk_at "oix") (fun _ _ => rfl)) (ad_cons (ex_ix (ex_var 4 rfl rfl (.inl rfl)) (ex_var 5 rfl rfl (.inl rfl)) (by walk_at "oix") (fun _ _ => rfl)) ad_nil))) (by walk_at "few")) (by walk_at "lk") (by walk_at "sz")) ?_))
          refine mss_nil (mss_nil ⟨_, rfl, ?_⟩)
          have hm : isCh m (.change m' rm bh n l) = true := by
            simp only [Bool.and_eq_true, decide_eq_true_iff] at hT
            exact decide_eq_true hT.2
          rw [updL_updL, es, if_pos hm]
          simp
        · refine mss_nil (mss_nil ⟨_, rfl, ?_⟩)
          have hm : ¬ isCh m (.change m' rm bh n l) = true := fun z => by
            have z : m' = m := of_decide_eq_true z
            rw [z] at hF
            simp at hF
          rw [es, if_neg hm, List.append_nil]
    · intro ρ L' hI
      obtain ⟨kk, rfl, rfl⟩ := hI
      refine mss_nil ⟨_, _, _, rfl, ?_⟩
      rw [rgY_len, List.length_map, Int.toNat_natCast, chF_all (Nat.le_refl _), chTo_succ, hrow]
  · intro ρ L' hI
    obtain ⟨rp, fo, kk, rfl, rfl⟩ := hI
    rw [rgY_len]
    refine MSs.settle 2 rfl updL_same ?_
    refine mss_cons (ms_ret (EX.to (ex_var 2 rfl rfl (.inl rfl)) ?_))
    exact k _ (le_del hot (Le.refl L))
end
end K05

set_option Elab.async false
set_option linter.all false
set_option maxRecDepth 100000
set_option maxHeartbeats 4000000
namespace K05
open PySem PySem.Spec PyProof.Rows L2 Cw
/-! ### how the rows grow -/
def accL (rmv : List Mk) (xs : List Item) (i : Nat) : List Ent := (xs.take i).foldl (put1 rmv) []
theorem accL_succ {rmv : List Mk} {xs : List Item} {i : Nat} {x : Item} (h : xs[i]? = some x) : accL rmv xs (i + 1) = put1 rmv (accL rmv xs i) x := by
  unfold accL
  rw [take_snoc h, List.foldl_append]
  rfl
theorem put1_perm (rmv : List Mk) (acc : List Ent) (x : Item) : ((put1 rmv acc x).map (·.1)).Perm (acc.map (·.1) ++ [x.1]) := by
  unfold put1
  rw [List.map_append, List.map_append]
  have h : acc.map (·.1) = (acc.take (atOf acc x.2.1)).map (·.1) ++ (acc.drop (atOf acc x.2.1)).map (·.1) := by rw [← List.map_append, List.take_append_drop]
  rw [h, List.append_assoc, List.append_assoc]
  refine List.Perm.append_left _ ?_
  exact List.perm_append_comm
theorem accL_perm (rmv : List Mk) (xs : List Item) : ∀ i, ((accL rmv xs i).map (·.1)).Perm ((xs.take i).map (·.1))
  | 0 => by unfold accL; rw [List.take_zero]; exact List.Perm.refl _
  | i + 1 => by
    have ih := accL_perm rmv xs i
    cases h : xs[i]? with
    | none =>
      have e : xs.take (i + 1) = xs.take i := by
        have hl : xs.length ≤ i := List.getElem?_eq_none_iff.mp h
        rw [List.take_of_length_le hl, List.take_of_length_le (by omega)]
      unfold accL at ih ⊢
      rw [e]
      exact ih
    | some x =>
      rw [accL_succ h, take_snoc h, List.map_append]
      exact (put1_perm _ _ _).trans (ih.append_right _)
theorem accL_len (rmv : List Mk) (xs : List Item) (i : Nat) : (accL rmv xs i).length = (xs.take i).length := by
  have := (accL_perm rmv xs i).length_eq
  rwa [List.length_map, List.length_map] at this
section
variable {m : Str} {rows : List (List Deed)} {rmv : List Mk}
theorem acc_new (W : Wf rows) {i : Nat} {x : Item} (h : (srt m rows)[i]? = some x) : x.1 ∉ (accL rmv (srt m rows) i).map (·.1) := by
  intro z
  have hn := srt_nodup (m := m) W
  have hz := (accL_perm rmv (srt m rows) i).mem_iff.mp z
  have e : (srt m rows).map (·.1) = ((srt m rows).take i).map (·.1) ++ ((srt m rows).drop i).map (·.1) := by rw [← List.map_append, List.take_append_drop]
  rw [e, List.nodup_append] at hn
  have hd : x.1 ∈ ((srt m rows).drop i).map (·.1) := by
    refine List.mem_map.mpr ⟨x, List.mem_iff_getElem?.mpr ⟨0, ?_⟩, rfl⟩
    rw [List.getElem?_drop]
    exact h
  exact hn.2.2 _ hz _ hd rfl
theorem acc_behind (W : Wf rows) {i : Nat} {x : Item} {b : Mk} (h : (srt m rows)[i]? = some x) (hb : x.2.1 = some b) : b ∈ (accL rmv (srt m rows) i).map (·.1) := (accL_perm rmv (srt m rows) i).mem_iff.mpr (srt_behind W h hb)
theorem acc_le (W : Wf rows) (i : Nat) : (accL rmv (srt m rows) i).length ≤ 24000 := by
  rw [accL_len, List.length_take]
  have := srt_len (m := m) W
  omega
theorem acc_all : accL (removed m rows) (srt m rows) (srt m rows).length = rowL m rows := by
  unfold accL rowL
  rw [List.take_length]
end
theorem idx_at {α : Type} [BEq α] [LawfulBEq α] {l : List α} {b : α} (h : b ∈ l) : l[l.idxOf b]? = some b ∧ l.idxOf b < l.length ∧ ∀ k z, k < l.idxOf b → l[k]? = some z → z ≠ b := by
  have hl := List.idxOf_lt_length_iff.mpr h
  refine ⟨?_, hl, fun k z hk hz e => ?_⟩
  · rw [List.getElem?_eq_getElem hl, List.getElem_idxOf hl]
  · subst e
    have := List.not_of_lt_findIdx (p := (· == z)) (xs := l) (i := k) hk
    have e2 := (List.getElem?_eq_some_iff.mp hz).2
    rw [e2] at this
    simp at this
theorem eqv_mk (a b : Mk) : PyData.eqv (mkD a) (mkD b) = decide (a = b) := by
  obtain ⟨a1, a2⟩ := a
  obtain ⟨b1, b2⟩ := b
  simp [PyData.eqv, PyData.eqvAll]
  rw [Bool.eq_iff_iff, Bool.and_eq_true, Bool.and_eq_true, beq_iff_eq, beq_iff_eq, decide_eq_true_iff, decide_eq_true_iff]
/-! ### marks as keys -/
abbrev keyM (p : Mk) : List Key := [.inl p.1, .inl p.2]
theorem keyM_inj {p q : Mk} (h : keyM p = keyM q) : p = q := by
  obtain ⟨a, b⟩ := p
  obtain ⟨c, d⟩ := q
  have h' : ([Sum.inl a, Sum.inl b] : List Key) = [Sum.inl c, Sum.inl d] := h
  injection h' with h1 h2
  injection h2 with h2 h3
  rw [Sum.inl.inj h1, Sum.inl.inj h2]
theorem get_mem {κ β : Type} [DecidableEq κ] (kvs : List (κ × β)) (k : κ) : (getG kvs k).isSome = decide (k ∈ kvs.map (·.1)) := by
  rw [← any_get, Bool.eq_iff_iff, List.any_eq_true, decide_eq_true_iff, List.mem_map]
  exact ⟨fun ⟨x, h1, h2⟩ => ⟨x, h1, of_decide_eq_true h2⟩, fun ⟨x, h1, h2⟩ => ⟨x, h1, decide_eq_true h2⟩⟩
theorem pairK_of {p : Mk} (h : MkOk p) : PairK (keyM p) := by
  obtain ⟨h1, h2, h3, h4⟩ := h
  refine ⟨p.1.toNat, p.2.toNat, ?_, by omega, by omega⟩
  show [Sum.inl p.1, Sum.inl p.2] = _
  rw [show ((p.1.toNat : Nat) : Int) = p.1 by omega, show ((p.2.toNat : Nat) : Int) = p.2 by omega]
theorem merge_keys (kvs : List (List Key × Rv)) (v : Rv) (rm : List Mk) (p : Mk) : (getG (mergeG kvs (ofKeys v (rm.map keyM))) (keyM p)).isSome = ((getG kvs (keyM p)).isSome || decide (p ∈ rm)) := by
  have h : keyM p ∈ rm.map keyM ↔ p ∈ rm := by
    rw [List.mem_map]
    exact ⟨fun ⟨q, h1, h2⟩ => keyM_inj h2 ▸ h1, fun h => ⟨p, h, rfl⟩⟩
  rw [merge_get, ← get_mem, ofKeys_get]
  exact congrArg _ (decide_eq_decide.mpr h)
end K05

set_option Elab.async false
set_option linter.all false
set_option maxRecDepth 100000
set_option maxHeartbeats 4000000
namespace K05
open PySem PySem.Spec PyProof.Rows L2 Cw
/-! ### small closers, each at its own key -/
local macro_rules | `(tactic| walk_at "oadd") => `(tactic| first | exact o_add | exact o_addS (by walk_at "sz") | exact o_cat (by walk_at "ll") (by walk_at "ll") (by walk_at "sz"))
local macro_rules | `(tactic| walk_at "osub") => `(tactic| exact o_sub)
local macro_rules | `(tactic| walk_at "omul") => `(tactic| first | exact o_mul (by walk_at "sd") | exact o_rep (by walk_at "ll") (by walk_at "sd") (by walk_at "sd") (by walk_at "sz"))
local macro_rules | `(tactic| walk_at "odiv") => `(tactic| first | exact o_div (by walk_at "sd") | exact o_divW (by walk_at "sd"))
local macro_rules | `(tactic| walk_at "olt") => `(tactic| exact o_lt)
local macro_rules | `(tactic| walk_at "ole") => `(tactic| exact o_le)
local macro_rules | `(tactic| walk_at "ogt") => `(tactic| exact o_gt)
local macro_rules | `(tactic| walk_at "oge") => `(tactic| exact o_ge)
local macro_rules | `(tactic| walk_at "oeq") => `(tactic| first | exact o_eqI | exact o_eqNI | exact o_eqS | exact o_eqB | exact o_eqR (Room.units (by assumption)) (by walk_at "dr") (by walk_at "dr") (by walk_at "sh") (by walk_at "sh"))
local macro_rules | `(tactic| walk_at "one") => `(tactic| first | exact o_neI | exact o_neS | exact o_neB | exact o_neR (Room.units (by assumption)) (by walk_at "dr") (by walk_at "dr") (by walk_at "sh") (by walk_at "sh"))
local macro_rules | `(tactic| walk_at "ois") => `(tactic| exact o_isN)
local macro_rules | `(tactic| walk_at "oisn") => `(tactic| exact o_notN)
local macro_rules | `(tactic| walk_at "iadd") => `(tactic| exact o_iadd)
local macro_rules | `(tactic| walk_at "isub") => `(tactic| exact o_isub)
local macro_rules | `(tactic| walk_at "lk") => `(tactic| first | assumption | exact updL_same | (refine Eq.trans (updL_ne (by first | assumption | (apply Ne.symm; assumption))) ?_; walk_at "lk"))
local macro_rules | `(tactic| walk_at "ll") => `(tactic| first | exact LL.dt | assumption | exact LL.h (by walk_at "lk"))
local macro_rules | `(tactic| walk_at "lr") => `(tactic| first | exact LL.dt | assumption | exact LR.h (by walk_at "lk"))
local macro_rules | `(tactic| walk_at "dr") => `(tactic| first | exact DD.dt | assumption | exact DD.ofLL (by walk_at "lk"))
local macro_rules | `(tactic| walk_at "sd") => `(tactic| first | omega | assumption | decide)
local macro_rules | `(tactic| walk_at "rg") => `(tactic| first | omega | assumption | decide)
local macro_rules | `(tactic| walk_at "sz") => `(tactic| first | assumption | (rw [sizeLine_eq]; first | omega | (simp; omega)))
local macro_rules | `(tactic| walk_at "osl") => `(tactic| first | exact s_str (by walk_at "sz") | exact s_lst (by walk_at "ll"))
local macro_rules | `(tactic| walk_at "c_len") => `(tactic| first | exact c_lenT | exact c_lenS (by walk_at "sz") | exact c_lenL (by walk_at "ll") | exact c_lenR (by walk_at "lr") | exact c_lenF (by assumption))
local macro_rules | `(tactic| walk_at "c_int") => `(tactic| first | exact c_int | exact c_intB)
local macro_rules | `(tactic| walk_at "c_min") => `(tactic| exact c_min rfl)
local macro_rules | `(tactic| walk_at "c_max") => `(tactic| exact c_max rfl)
local macro_rules | `(tactic| walk_at "c_ord") => `(tactic| exact c_ord (by walk_at "sz"))
local macro_rules | `(tactic| walk_at "c_list") => `(tactic| first | exact c_listT | exact c_list (by walk_at "ll") | exact c_listF (by assumption))
local macro_rules | `(tactic| walk_at "c_tuple") => `(tactic| first | exact c_tupleT | exact c_tuple (by walk_at "ll"))
local macro_rules | `(tactic| walk_at "c_isinstance") => `(tactic| exact c_isi (by walk_at "dr") (by decide))
local macro_rules | `(tactic| walk_at "few") => `(tactic| first | decide | exact Nat.le_of_ble_eq_true rfl | (rw [sizeLine_eq]; exact Nat.le_of_ble_eq_true rfl) | assumption)
local macro_rules | `(tactic| walk_at "fl") => `(tactic| first | assumption | rfl)
local macro_rules | `(tactic| walk_at "nf") => `(tactic| first | rfl | decide +kernel)
local macro_rules | `(tactic| walk_at "at") => `(tactic| first | assumption | rfl | exact atI_nat (by assumption))
local macro_rules | `(tactic| walk_at "oix") => `(tactic| first | exact i_tup (by walk_at "at") | exact i_lst (by walk_at "ll") (by walk_at "at") | exact i_lstR (by walk_at "lr") (by walk_at "at") | exact i_str (by walk_at "sz") (by walk_at "at") | exact i_lstF (by assumption) (by walk_at "at"))
local macro_rules | `(tactic| walk_at "ixn") => `(tactic| first | assumption | rfl)
local macro_rules | `(tactic| walk_at "okd") => `(tactic| first | rfl | assumption)
local macro_rules | `(tactic| walk_at "wr") => `(tactic| first | assumption | omega)
local macro_rules | `(tactic| walk_at "shn") => `(tactic| first | exact fun z => absurd z (by assumption) | exact fun z => absurd rfl z | exact fun _ => ⟨rfl, rfl⟩)
local macro_rules | `(tactic| walk_at "onin") => `(tactic| exact o_notIn2S)
local macro_rules | `(tactic| walk_at "okp") => `(tactic| first | assumption | exact nxt_p (by walk_at "okp"))
local macro_rules | `(tactic| walk_at "c_all") => `(tactic| exact c_all rfl (by walk_at "ll"))
local macro_rules | `(tactic| walk_at "c_sum") => `(tactic| exact c_sum rfl (by walk_at "ll"))
local macro_rules | `(tactic| walk_at "c_sorted") => `(tactic| exact c_sortedS (by walk_at "ll") (by walk_at "sz"))

local macro_rules | `(tactic| walk_at "sh") => `(tactic| assumption)
section
variable {P : Program} {w : World} {K : PySem.W.Frag} {mg : Str → Option Value} {base : Heap} {C : Addr}
/-- what is inserted, with its force -/
def gx (f : Bool) : Yd → PyData := fun y => match y with
  | .r (.dt (.tuple [a, b, c])) => .tuple [a, b, c, .bool f]
  | _ => .none
def gk : Yd → List Key := fun y => match y with
  | .r (.dt (.tuple [.int a, .int b])) => [.inl a, .inl b]
  | _ => []
theorem gx_map (f : Bool) (l : List (Mk × Option Mk × Nat)) : ((l.map insD).map fun d => Yd.r (.dt d)).map (gx f) = (l.map fun x => (x.1, x.2.1, x.2.2, f)).map itD := by
  rw [List.map_map, List.map_map, List.map_map]
  rfl
theorem gk_map (l : List Mk) : ((l.map mkD).map fun d => Yd.r (.dt d)).map gk = l.map keyM := by
  rw [List.map_map, List.map_map]
  rfl
def fdTo (m : Str) (rows : List (List Deed)) (i : Nat) : List Item := (((changes m rows).take i).map itsOf).flatten
def rmTo (m : Str) (rows : List (List Deed)) (i : Nat) : List Mk := (((changes m rows).take i).map rmOf).flatten
theorem fdTo_succ {m : Str} {rows : List (List Deed)} {i : Nat} {x : Nat × Deed × Bool} (h : (changes m rows)[i]? = some x) : fdTo m rows (i + 1) = fdTo m rows i ++ itsOf x := by
  unfold fdTo
  rw [take_snoc h, List.map_append, List.flatten_append]
  simp
theorem rmTo_succ {m : Str} {rows : List (List Deed)} {i : Nat} {x : Nat × Deed × Bool} (h : (changes m rows)[i]? = some x) : rmTo m rows (i + 1) = rmTo m rows i ++ rmOf x := by
  unfold rmTo
  rw [take_snoc h, List.map_append, List.flatten_append]
  simp
theorem fdTo_len {m : Str} {rows : List (List Deed)} (W : Wf rows) (i : Nat) : (fdTo m rows i).length ≤ 24000 := by
  have h := flat_len (c := 30) (L := ((changes m rows).take i).map itsOf) fun l hl => by
    obtain ⟨x, hx, rfl⟩ := List.mem_map.mp hl
    exact its_len (ch_mem W (List.mem_of_mem_take hx))
  have := changes_len (m := m) W
  rw [List.length_map, List.length_take] at h
  show ((((changes m rows).take i).map itsOf).flatten).length ≤ _
  omega
theorem rmTo_len {m : Str} {rows : List (List Deed)} (W : Wf rows) (i : Nat) : (rmTo m rows i).length ≤ 8000 := by
  have h := flat_len (c := 10) (L := ((changes m rows).take i).map rmOf) fun l hl => by
    obtain ⟨x, hx, rfl⟩ := List.mem_map.mp hl
    exact rm_len (ch_mem W (List.mem_of_mem_take hx))
  have := changes_len (m := m) W
  rw [List.length_map, List.length_take] at h
  show ((((changes m rows).take i).map rmOf).flatten).length ≤ _
  omega
theorem ch_is {m : Str} {rows : List (List Deed)} {x : Nat × Deed × Bool} (W : Wf rows) (h : x ∈ changes m rows) : ∃ m' rm bh n l, x.2.1 = .change m' rm bh n l ∧ l.length ≤ 30 ∧ rm.length ≤ 10 ∧ ∀ p ∈ rm, MkOk p := by
  have hok := ch_mem W h
  have hc := (mem_chOf.mp (mem_changes.mp h).2).2.1
  cases e : x.2.1 with
  | back p => rw [e] at hc; cases hc
  | change m' rm bh n l =>
    rw [e] at hok
    exact ⟨_, _, _, _, _, rfl, hok.2.1, hok.2.2.1, hok.2.2.2.1⟩
def sp_row (C Tb : Addr) (tq : Str) : Fs := fun as L Q _ => ∃ q w ps rows m, as = [.vl (.ref q), .dt (.str m)] ∧ DAt C L q w ps rows ∧ Wf rows ∧ L Tb = some (.tab tq) ∧ ∀ L', Le L L' → ∀ p, L' p = none → Q (.vl (.ref p)) (updL L' p (.lst (dts ((rowL m rows).map entD))))
theorem ok_row {f : Addr} {fd : FuncData} {c Tb : Addr} (F : Fun K "row" "Deeds.row" s_Deeds_row f fd) (T : TxD K mg C) (TB : LamX.TabB base mg c Tb) (hcd : fd.code = .ref c) (G_Deeds_changes' : MtM P w K mg base 2 C "changes" P_Deeds_changes (sp_changes C)) (G_inserted' : FnM P w K mg base 1 "inserted" P_inserted sp_ins) : FnOk P w K mg base CX0 3 f fd P_Deeds_row (lift (sp_row C Tb "Deeds.row.<locals>.<lambda>")) := by
  have G_Deeds_changes := G_Deeds_changes'.forget
  have G_inserted := G_inserted'.forget
  refine fnok0C F sc_Deeds_row (fun as L Q XC h => by obtain ⟨_, _, _, _, _, rfl, _⟩ := h; rfl) ?_
  intro A outer s0 H E hr as L Q XC h
  obtain ⟨q, w', ps, rows, m, rfl, D, W, hTb, k⟩ := h
  have ho := D.o
  have hu2 : (y0 P w K mg base N_Deeds_row "Deeds.row" (defScope s_Deeds_row) f fd.code A outer s0 H E).X.A.units + 2 < cLine := by
    have := hr.un
    show (A.deeper _).units + 2 < cLine
    omega
  have hu65 : (y0 P w K mg base N_Deeds_row "Deeds.row" (defScope s_Deeds_row) f fd.code A outer s0 H E).X.A.units + 65 < cLine := by
    have := hr.un
    show (A.deeper _).units + 65 < cLine
    omega
  refine mss_cons (ms_set 2 sc_Deeds_row.nd rfl (.inl rfl) (me_dnewT fun t ht => ?_))
  refine mss_cons (ms_set 3 sc_Deeds_row.nd rfl (.inl rfl) (me_lst0 fun o hot => ?_))
  have nto : t ≠ o := ne_led (updL_same (L := L) (m := .dT [])) hot
  have hoL : L o = none := by rw [updL_ne nto.symm] at hot; exact hot
  have lL : ∀ kvs rs, Le L (updL (updL L t (.dT kvs)) o (.lst rs)) := fun kvs rs => (le_upd ht).trans (le_upd (by rw [updL_ne nto.symm]; exact hoL))
  have D1 := D.le (lL [] [])
  have ho1 := D1.o
  -- what the second part does
  have part2 : ∀ (kvs : List (List Key × Rv)) (rp de fo : Option Rv), (∀ p : Mk, (getG kvs (keyM p)).isSome = decide (p ∈ removed m rows)) →
      MSs (y0 P w K mg base N_Deeds_row "Deeds.row" (defScope s_Deeds_row) f fd.code A outer s0 H E) ((defBody s_Deeds_row).drop 3) (fun x L' => Q (.dt .none) L') { rt := Q }
        [some (.vl (.ref q)), some (.dt (.str m)), some (.vl (.ref t)), some (.vl (.ref o)), rp, de, fo, none, none, none, none, none, none] (updL (updL L t (.dT kvs)) o (.lst (dts ((found m rows).map itD)))) := by
    intro kvs rp de fo hkv
    have hof : updL (updL L t (.dT kvs)) o (.lst (dts ((found m rows).map itD))) o = some (.lst (dts ((found m rows).map itD))) := updL_same
    have htt : updL (updL L t (.dT kvs)) o (.lst (dts ((found m rows).map itD))) t = some (.dT kvs) := by rw [updL_ne nto]; exact updL_same
    have hTb1 : updL (updL L t (.dT kvs)) o (.lst (dts ((found m rows).map itD))) Tb = some (.tab "Deeds.row.<locals>.<lambda>") := lL _ _ _ _ hTb
    have lLb := lL kvs (dts ((found m rows).map itD))
    generalize hLb : updL (updL L t (.dT kvs)) o (.lst (dts ((found m rows).map itD))) = Lb at *
    refine mss_cons (ms_set 7 sc_Deeds_row.nd rfl (.inl rfl) (me_lst0 fun p1 hp1 => ?_))
    refine mss_cons (ms_set 8 sc_Deeds_row.nd rfl (.inr rfl) (me_dnewT fun se hse => ?_))
    have nps : p1 ≠ se := ne_led (updL_same (L := Lb) (m := .lst [])) hse
    have hseL : Lb se = none := by rw [updL_ne nps.symm] at hse; exact hse
    have lP : ∀ rs kv2, Le Lb (updL (updL Lb p1 (.lst rs)) se (.dT kv2)) := fun rs kv2 => (le_upd hp1).trans (le_upd (by rw [updL_ne nps.symm]; exact hseL))
    have hof2 := lP [] [] _ _ hof
    have hTb2 := lP [] [] _ _ hTb1
    refine mss_cons (ms_for (tgt := (.t [9, 10, 11, 6])) rfl (ix_data (ex_sortLam (ex_var 3 rfl rfl (.inl rfl)) (LL.h hof2) (fun d hd => by obtain ⟨x, _, rfl⟩ := List.mem_map.mp hd; exact kyd_it x) hTb2 hr TB hcd (by show ((("Deeds.row" : Str) ++ ".<locals>.") ++ "<lambda>" : Str) = _; decide +kernel) (by rfl) T.m_sorted)) (pgn_tup rfl (pgn_cons 9 sc_Deeds_row.nd rfl (by first | exact .inl rfl | exact .inr rfl) (pgn_cons 10 sc_Deeds_row.nd rfl (by first | exact .inl rfl | exact .inr rfl) (pgn_cons 11 sc_Deeds_row.nd rfl (by first | exact .inl rfl | exact .inr rfl) (pgn_cons 6 sc_Deeds_row.nd rfl (by first | exact .inl rfl | exact .inr rfl) pgn_nil)))))
      (fun i ρ L' => ∃ kv2 fo mk bh ch ix, ρ = [some (.vl (.ref q)), some (.dt (.str m)), some (.vl (.ref t)), some (.vl (.ref o)), rp, de, fo, some (.vl (.ref p1)), some (.vl (.ref se)), mk, bh, ch, ix] ∧ L' = updL (updL Lb p1 (.lst (dts ((accL (removed m rows) (srt m rows) i).map fun e => mkD e.1)))) se (.dT kv2) ∧ kv2.length ≤ i ∧ ∀ e ∈ accL (removed m rows) (srt m rows) i, getG kv2 (keyM e.1) = some (.dt (.tuple [.str (tx [e.2.1]), .bool e.2.2])))
      ⟨[], fo, none, none, none, none, rfl, rfl, Nat.le_refl _, (fun _ h => by cases h)⟩ (fun _ _ _ _ _ => trivial) ?_ ?_)
    · intro i y ρ L' hy hI
      obtain ⟨kv2, fo, mk, bh, ch, ix, rfl, rfl, hk2l, hk2⟩ := hI
      rw [srt_data, List.getElem?_map, List.getElem?_map] at hy
      cases hx : (srt m rows)[i]? with
      | none => rw [hx] at hy; cases hy
      | some x =>
        rw [hx] at hy
        cases hy
        have hnew := acc_new (rmv := removed m rows) W hx
        have hbeh := fun b hb => acc_behind (rmv := removed m rows) (b := b) W hx hb
        have hacl := acc_le (m := m) (rmv := removed m rows) W i
        have hil := (List.getElem?_eq_some_iff.mp hx).1
        have hsl := srt_len (m := m) W
        obtain ⟨mk0, bhv, c, fb⟩ := x
        refine ⟨_, rfl, ?_⟩
        generalize hacc : accL (removed m rows) (srt m rows) i = acc at *
        have eacc : accL (removed m rows) (srt m rows) (i + 1) = put1 (removed m rows) acc (mk0, bhv, c, fb) := by rw [accL_succ hx, hacc]
        have hp1s : updL (updL Lb p1 (.lst (dts (acc.map fun e => mkD e.1)))) se (.dT kv2) p1 = some (.lst (dts (acc.map fun e => mkD e.1))) := by rw [updL_ne nps]; exact updL_same
        have hdd : DD (updL (updL Lb p1 (.lst (dts (acc.map fun e => mkD e.1)))) se (.dT kv2)) (.vl (.ref p1)) (.list (acc.map fun e => mkD e.1)) := DD.ofLL hp1s
        have hsh1 : SeqAt.shaped (.list (acc.map fun e => mkD e.1)) = true := (sh_list (n := 1) fun d hd => by obtain ⟨e, _, rfl⟩ := List.mem_map.mp hd; exact sh_mk _).ok (by decide)
        have hat0 : atOf acc bhv ≤ acc.length := by
          cases bhv with
          | none => exact Nat.zero_le _
          | some b =>
            have := (idx_at (hbeh b rfl)).2.1
            rw [List.length_map] at this
            exact this
        refine mss_cons (ms_set 12 sc_Deeds_row.nd rfl (by first | exact .inl rfl | exact .inr rfl) (EX.to ex_int ?_))
        refine mss_cons (ms_cut [some (.vl (.ref q)), some (.dt (.str m)), some (.vl (.ref t)), some (.vl (.ref o)), rp, de, some (.dt (.bool fb)), some (.vl (.ref p1)), some (.vl (.ref se)), some (.dt (mkD mk0)), some (.dt (obD bhv)), some (.dt (.str (tx [c]))), some (.dt (.int ((atOf acc bhv : Nat) : Int)))] (updL (updL Lb p1 (.lst (dts (acc.map fun e => mkD e.1)))) se (.dT kv2)) ?_ ?_)
        · cases bhv with
          | none =>
            refine (ms_ifx (tx_cmp (ex_var 10 rfl rfl (.inl rfl)) ex_non (by walk_at "oisn") (nomark _)) (fun hT => ?_) (fun hF => ?_))
            · exact absurd hT (by simp [isNone])
            · exact mss_nil ⟨rfl, rfl⟩
          | some b =>
            refine (ms_ifx (tx_cmp (ex_var 10 rfl rfl (.inl rfl)) ex_non (by walk_at "oisn") (nomark _)) (fun hT => ?_) (fun hF => ?_))
            · obtain ⟨h1, h2, h3⟩ := idx_at (hbeh b rfl)
              refine mss_cons (ms_set 12 sc_Deeds_row.nd rfl (.inl rfl) (EX.to (ex_bin (ex_index (j := (acc.map (·.1)).idxOf b) (z := mkD b) hu65 (ex_var 7 rfl rfl (.inl rfl)) (ex_var 10 rfl rfl (.inl rfl)) hdd hdd hsh1 ((sh_mk b).ok (by decide)) ?_ (by rw [eqv_mk]; exact decide_eq_true rfl) (fun k z' hk hz => ?_)) ex_int o_add) ?_))
              · have e : (acc.map fun e => mkD e.1) = (acc.map (·.1)).map mkD := by rw [List.map_map]; rfl
                rw [e, List.getElem?_map, h1]
                rfl
              · have e : (acc.map fun e => mkD e.1) = (acc.map (·.1)).map mkD := by rw [List.map_map]; rfl
                rw [e, List.getElem?_map] at hz
                cases hq : (acc.map (·.1))[k]? with
                | none => rw [hq] at hz; cases hz
                | some u =>
                  rw [hq] at hz
                  cases hz
                  rw [eqv_mk]
                  exact decide_eq_false (h3 k u hk hq)
              · exact mss_nil ⟨rfl, rfl⟩
            · exact absurd hF (by simp [isNone])
        · have hz1 : (dts (acc.map fun e => mkD e.1)).length < sizeLine := by rw [List.length_map, List.length_map, sizeLine_eq]; omega
          have hi0 : (0 : Int) ≤ ((atOf acc bhv : Nat) : Int) := Int.natCast_nonneg _
          have hi1 : ((atOf acc bhv : Nat) : Int) < 2 ^ 63 := by omega
          refine mss_cons (ms_expr (EX.to (ex_insert (ex_var 7 rfl rfl (.inl rfl)) (by walk_at "lk") (ax_cons (ex_var 12 rfl rfl (.inl rfl)) (ax_cons (ex_var 9 rfl rfl (.inl rfl)) ax_nil)) (by walk_at "lk") (by walk_at "sz") (by walk_at "sd") (by walk_at "sd")) ?_))
          rw [Int.toNat_natCast]
          have ntp : t ≠ p1 := ne_led htt hp1
          have nts : t ≠ se := ne_led htt hseL
          have h3t : updL (updL (updL Lb p1 (.lst (dts (acc.map fun e => mkD e.1)))) se (.dT kv2)) p1 (.lst ((dts (acc.map fun e => mkD e.1)).take (atOf acc bhv) ++ [.dt (mkD mk0)] ++ (dts (acc.map fun e => mkD e.1)).drop (atOf acc bhv))) t = some (.dT kvs) := by rw [updL_ne ntp, updL_ne nts, updL_ne ntp]; exact htt
          have h3s : updL (updL (updL Lb p1 (.lst (dts (acc.map fun e => mkD e.1)))) se (.dT kv2)) p1 (.lst ((dts (acc.map fun e => mkD e.1)).take (atOf acc bhv) ++ [.dt (mkD mk0)] ++ (dts (acc.map fun e => mkD e.1)).drop (atOf acc bhv))) se = some (.dT kv2) := by rw [updL_ne nps.symm]; exact updL_same
          refine mss_cons (ms_dputT (ks := keyM mk0) (hu_of hr) (ex_tup (ad_cons (ex_var 11 rfl rfl (.inl rfl)) (ad_cons (ex_and (ex_var 6 rfl rfl (by first | exact .inl rfl | exact .inr (.inl rfl) | exact .inr (.inr rfl))) (fun _ => ex_one (ex_dnin (hu_of hr) (ex_var 9 rfl rfl (.inl rfl)) (ex_var 2 rfl rfl (.inl rfl)) (.inr ⟨kvs, keyM mk0, h3t, rfl, rfl⟩)))) ad_nil)) (by walk_at "few")) (ex_var 8 rfl rfl (by first | exact .inl rfl | exact .inr (.inl rfl) | exact .inr (.inr rfl))) (ex_var 9 rfl rfl (.inl rfl)) h3s (by rw [sizeLine_eq]; omega) ?_)
          rw [hkv mk0]
          have hput := put_len kv2 (keyM mk0) (.dt (.tuple [.str (tx [c]), .bool (fb && !decide (mk0 ∈ removed m rows))]))
          refine mss_nil ⟨putG kv2 (keyM mk0) (.dt (.tuple [.str (tx [c]), .bool (fb && !decide (mk0 ∈ removed m rows))])), _, _, _, _, _, rfl, ?_, by omega, fun e he => ?_⟩
          · rw [updL_comm nps.symm, updL_updL, updL_updL]
            have em : (dts (acc.map fun e => mkD e.1)).take (atOf acc bhv) ++ [.dt (mkD mk0)] ++ (dts (acc.map fun e => mkD e.1)).drop (atOf acc bhv) = dts ((accL (removed m rows) (srt m rows) (i + 1)).map fun e => mkD e.1) := by
              rw [eacc]
              unfold put1 dts
              rw [← List.map_take, ← List.map_drop, ← List.map_take, ← List.map_drop]
              simp
            rw [em]
          · rw [eacc] at he
            unfold put1 at he
            rw [get_put]
            have hor : e ∈ acc ∨ e = (mk0, c, fb && !decide (mk0 ∈ removed m rows)) := by
              rcases List.mem_append.mp he with z | z
              · rcases List.mem_append.mp z with z | z
                · exact .inl (List.mem_of_mem_take z)
                · exact .inr (List.mem_singleton.mp z)
              · exact .inl (List.mem_of_mem_drop z)
            rcases hor with z | z
            · have ne : ¬ keyM e.1 = keyM mk0 := fun h => hnew (keyM_inj h ▸ List.mem_map.mpr ⟨e, z, rfl⟩)
              rw [if_neg ne]
              exact hk2 e z
            · rw [z, if_pos rfl]
    · intro ρ L' hI
      obtain ⟨kv2, fo, mk, bh, ch, ix, rfl, rfl, hk2l, hk2⟩ := hI
      rw [srt_data, List.length_map, List.length_map, acc_all] at *
      have hrl : (rowL m rows).length ≤ 24000 := by rw [← acc_all]; exact acc_le W _
      have hp1s : updL (updL Lb p1 (.lst (dts ((rowL m rows).map fun e => mkD e.1)))) se (.dT kv2) p1 = some (.lst (dts ((rowL m rows).map fun e => mkD e.1))) := by rw [updL_ne nps]; exact updL_same
      have hses : updL (updL Lb p1 (.lst (dts ((rowL m rows).map fun e => mkD e.1)))) se (.dT kv2) se = some (.dT kv2) := updL_same
      refine mss_cons (ms_ret (me_lc (tgt := (.n 9)) (own := [("mark", 9)]) (by rfl) sc_Deeds_row.nd (ix_lr (ex_var 7 rfl rfl (.inl rfl)) (LR.h hp1s)) (blkOk_by (by rfl)) rfl (fun s H C cl fp => (pgn_name 9 sc_Deeds_row.nd rfl (by first | exact .inl rfl | exact .inr rfl))) (by rw [List.length_map, List.length_map, List.length_map, sizeLine_eq]; omega)
        (fun i acc L' => acc = dts (((rowL m rows).take i).map entD) ∧ L' = updL (updL Lb p1 (.lst (dts ((rowL m rows).map fun e => mkD e.1)))) se (.dT kv2)) ⟨rfl, rfl⟩ (fun i acc L' _ ⟨_, e⟩ => by rw [e]; exact LR.h hp1s) ?_ ?_))
      · intro i y acc L' hy hI
        obtain ⟨rfl, rfl⟩ := hI
        rw [List.getElem?_map, List.getElem?_map, List.getElem?_map] at hy
        cases he : (rowL m rows)[i]? with
        | none => rw [he] at hy; cases hy
        | some e =>
          rw [he] at hy
          cases hy
          have hge := hk2 e (List.mem_of_getElem? he)
          refine ⟨_, rfl, fun b L2 => b = true ∧ L2 = _, fun _ _ _ _ _ => mts_nil ⟨rfl, rfl⟩, fun b L2 hb2 => ?_⟩
          obtain ⟨rfl, rfl⟩ := hb2
          refine ⟨fun _ s9 H9 C9 cl9 fp9 => EX.to (ex_bin (ex_tup (ad_cons (ex_var 9 rfl rfl (by first | exact .inl rfl | exact .inr (.inl rfl) | exact .inr (.inr rfl))) ad_nil) (by walk_at "few")) (ex_dget (r := .dt (.tuple [.str (tx [e.2.1]), .bool e.2.2])) (hu_of hr) (ex_var 8 rfl rfl (by first | exact .inl rfl | exact .inr (.inl rfl) | exact .inr (.inr rfl))) (ex_var 9 rfl rfl (by first | exact .inl rfl | exact .inr (.inl rfl) | exact .inr (.inr rfl))) (.inr ⟨kv2, keyM e.1, hses, rfl, hge.symm⟩)) (o_catT (by simp) (by simp) (by walk_at "few"))) ⟨?_, rfl⟩, fun z => by cases z⟩
          rw [take_snoc he]
          simp [dts, entD]
      · intro acc L' hI D' hD
        obtain ⟨rfl, rfl⟩ := hI
        refine .inr ?_
        rw [List.length_map, List.length_map, List.length_map, List.take_length]
        exact k _ (lLb.trans (lP _ _)) D' hD
  refine mss_cons (ms_for (tgt := (.t [4, 5, 6])) rfl (ix_data (ex_meth (ex_var 0 rfl rfl (.inl rfl)) (by walk_at "lk") (by walk_at "nf") T.c_Deeds G_Deeds_changes (hr.mono (by decide)) (ax_cons (ex_var 1 rfl rfl (.inl rfl)) ax_nil) ⟨q, w', ps, rows, m, rfl, D1, W, fun L' l => ⟨_, l, rfl, rfl⟩⟩)) (pgn_tup rfl (pgn_cons 4 sc_Deeds_row.nd rfl (by first | exact .inl rfl | exact .inr rfl) (pgn_cons 5 sc_Deeds_row.nd rfl (by first | exact .inl rfl | exact .inr rfl) (pgn_cons 6 sc_Deeds_row.nd rfl (by first | exact .inl rfl | exact .inr rfl) pgn_nil)))) (fun i ρ L' => ∃ kvs rp de fo, ρ = [some (.vl (.ref q)), some (.dt (.str m)), some (.vl (.ref t)), some (.vl (.ref o)), rp, de, fo, none, none, none, none, none, none] ∧ L' = updL (updL L t (.dT kvs)) o (.lst (dts ((fdTo m rows i).map itD))) ∧ (∀ p : Mk, (getG kvs (keyM p)).isSome = decide (p ∈ rmTo m rows i)) ∧ kvs.length ≤ 10 * i) ⟨[], none, none, none, rfl, rfl, fun p => by simp [getG, rmTo], Nat.le_refl _⟩ (fun _ _ _ _ _ => trivial) ?_ ?_)
  · intro i y ρ L' hy hI
    obtain ⟨kvs, rp, de, fo, rfl, rfl, hkv, hkl⟩ := hI
    rw [List.getElem?_map, List.getElem?_map] at hy
    cases hx : (changes m rows)[i]? with
    | none => rw [hx] at hy; cases hy
    | some x =>
      rw [hx] at hy
      cases hy
      have hil := (List.getElem?_eq_some_iff.mp hx).1
      have hcl := changes_len (m := m) W
      obtain ⟨m', rm, bh, n, l, ed, hl30, hrm10, hrmok⟩ := ch_is W (List.mem_of_getElem? hx)
      obtain ⟨r, d, fb⟩ := x
      have ed : d = .change m' rm bh n l := ed
      subst ed
      refine ⟨_, rfl, ?_⟩
      have hl1000 : l.length ≤ 1000 := by omega
      have hok : updL (updL L t (.dT kvs)) o (.lst (dts ((fdTo m rows i).map itD))) o = some (.lst (dts ((fdTo m rows i).map itD))) := updL_same
      have eits : itsOf (r, Deed.change m' rm bh n l, fb) = (insL (r : Int) n bh l).map fun x => (x.1, x.2.1, x.2.2, fb) := rfl
      refine mss_cons (ms_expr (EX.to (ex_extend (ex_var 3 rfl rfl (.inl rfl)) (ex_lcp (tgt := (.t [9, 10, 11])) (own := [("mark", 9), ("behind", 10), ("char", 11)]) (gx fb) (by rfl) sc_Deeds_row.nd (ix_data (ex_call G_inserted (hr.mono (by decide)) (by rfl) (ax_cons (ex_var 4 rfl rfl (.inl rfl)) (ax_cons (ex_var 5 rfl rfl (.inl rfl)) ax_nil)) ⟨(r : Int), m', rm, bh, n, l, rfl, hl1000, fun L' l => ⟨_, l, rfl, rfl⟩⟩)) trivial (blkOk_by (by rfl)) rfl (fun s H C cl fp => (pgn_tup rfl (pgn_cons 9 sc_Deeds_row.nd rfl (by first | exact .inl rfl | exact .inr rfl) (pgn_cons 10 sc_Deeds_row.nd rfl (by first | exact .inl rfl | exact .inr rfl) (pgn_cons 11 sc_Deeds_row.nd rfl (by first | exact .inl rfl | exact .inr rfl) pgn_nil))))) ?_ (fun j y hy => ?_)) hok hok LL.dt ?_) ?_))
      · rw [List.length_map, List.length_map, insL_len, sizeLine_eq]; omega
      · rw [List.getElem?_map, List.getElem?_map] at hy
        cases hz : (insL (r : Int) n bh l)[j]? with
        | none => rw [hz] at hy; cases hy
        | some z =>
          rw [hz] at hy
          cases hy
          exact ⟨_, rfl, fun s H C cl fp => (ex_tup (ad_cons (ex_var 9 rfl rfl (by first | exact .inl rfl | exact .inr (.inl rfl) | exact .inr (.inr rfl))) (ad_cons (ex_var 10 rfl rfl (by first | exact .inl rfl | exact .inr (.inl rfl) | exact .inr (.inr rfl))) (ad_cons (ex_var 11 rfl rfl (by first | exact .inl rfl | exact .inr (.inl rfl) | exact .inr (.inr rfl))) (ad_cons (ex_var 6 rfl rfl (by first | exact .inl rfl | exact .inr (.inl rfl) | exact .inr (.inr rfl))) ad_nil)))) (by walk_at "few"))⟩
      · have g1 := fdTo_len (m := m) W i
        rw [List.length_map, List.length_map, List.length_map, List.length_map, List.length_map, List.length_map, insL_len, sizeLine_eq]
        omega
      · rw [gx_map, ← eits, updL_updL]
        have e1 : dts ((fdTo m rows i).map itD) ++ ((itsOf (r, Deed.change m' rm bh n l, fb)).map itD).map Rv.dt = dts ((fdTo m rows (i + 1)).map itD) := by
          rw [fdTo_succ hx]
          simp [dts]
        rw [e1]
        have hts : updL (updL L t (.dT kvs)) o (.lst (dts ((fdTo m rows (i + 1)).map itD))) t = some (.dT kvs) := by rw [updL_ne nto]; exact updL_same
        cases fb with
        | false =>
          refine mss_cons (ms_ifx (tx_val (ex_var 6 rfl rfl (by first | exact .inl rfl | exact .inr (.inl rfl) | exact .inr (.inr rfl)))) (fun hT => ?_) (fun hF => ?_))
          · cases hT
          · refine mss_nil (mss_nil ⟨kvs, _, _, _, rfl, rfl, fun p => ?_, by omega⟩)
            rw [hkv p, rmTo_succ hx]
            simp [rmOf]
        | true =>
          refine mss_cons (ms_ifx (tx_val (ex_var 6 rfl rfl (by first | exact .inl rfl | exact .inr (.inl rfl) | exact .inr (.inr rfl)))) (fun hT => ?_) (fun hF => ?_))
          · refine mss_cons (ms_expr (me_updT (d := t) hu2 (ex_var 2 rfl rfl (.inl rfl)) hts (me_dcT (tgt := (.n 9)) (own := [("mark", 9)]) gk (hu_of hr) (by rfl) sc_Deeds_row.nd (ix_tupD (ex_ix (ex_var 5 rfl rfl (.inl rfl)) ex_int (by walk_at "oix") (fun _ _ => rfl))) trivial (blkOk_by (by rfl)) rfl (fun s H C cl fp => (pgn_name 9 sc_Deeds_row.nd rfl (by first | exact .inl rfl | exact .inr rfl))) (by rw [List.length_map, List.length_map, sizeLine_eq]; omega) (fun j y hy => ?_) (fun b hb => ?_))))
            · rw [List.getElem?_map, List.getElem?_map] at hy
              cases hz : rm[j]? with
              | none => rw [hz] at hy; cases hy
              | some z =>
                rw [hz] at hy
                cases hy
                exact ⟨_, rfl, fun s H C cl fp => (ex_var 9 rfl rfl (by first | exact .inl rfl | exact .inr (.inl rfl) | exact .inr (.inr rfl))), fun s H C cl fp => ex_bl⟩
            · rw [gk_map]
              have nbt : t ≠ b := ne_led hts hb
              have hkl2 := ofKeys_len tru (rm.map keyM)
              rw [List.length_map] at hkl2
              refine ⟨b, kvs, ofKeys tru (rm.map keyM), rfl, by rw [updL_ne nbt]; exact hts, updL_same, nbt, by rw [sizeLine_eq]; omega, ofKeys_nodup _ _, fun kk hk => ?_, ?_⟩
              · obtain ⟨p, hp, rfl⟩ := List.mem_map.mp (ofKeys_mem hk)
                exact pairK_of (hrmok p hp)
              · have nbo : b ≠ o := by
                  intro z
                  rw [z, updL_same] at hb
                  cases hb
                have hbL : updL (updL L t (.dT (mergeG kvs (ofKeys tru (rm.map keyM))))) o (.lst (dts ((fdTo m rows (i + 1)).map itD))) b = none := by
                  rw [updL_ne nbo, updL_ne nbt.symm]
                  rw [updL_ne nbo, updL_ne nbt.symm] at hb
                  exact hb
                have el : updL (updL (updL (updL L t (.dT kvs)) o (.lst (dts ((fdTo m rows (i + 1)).map itD)))) b (.dT (ofKeys tru (rm.map keyM)))) t (.dT (mergeG kvs (ofKeys tru (rm.map keyM)))) = updL (updL (updL L t (.dT (mergeG kvs (ofKeys tru (rm.map keyM))))) o (.lst (dts ((fdTo m rows (i + 1)).map itD)))) b (.dT (ofKeys tru (rm.map keyM))) := by
                  rw [updL_comm nbt.symm, updL_comm nto.symm, updL_updL]
                rw [el]
                refine MSs.le (ρ' := _) ?_ (le_upd hbL) ⟨rfl, fun _ _ e => e⟩
                have hml := merge_len (ofKeys tru (rm.map keyM)) kvs
                refine mss_nil (mss_nil ⟨_, _, _, _, rfl, rfl, fun p => ?_, by omega⟩)
                rw [merge_keys, hkv p, rmTo_succ hx, Bool.eq_iff_iff, Bool.or_eq_true, decide_eq_true_iff, decide_eq_true_iff, decide_eq_true_iff, List.mem_append]
                exact Iff.rfl
          · exact absurd hF (by simp)
  · intro ρ L' hI
    obtain ⟨kvs, rp, de, fo, rfl, rfl, hkv, hkl⟩ := hI
    rw [List.length_map, List.length_map] at hkv ⊢
    have e1 : fdTo m rows (changes m rows).length = found m rows := by unfold fdTo found; rw [List.take_length]
    have e2 : rmTo m rows (changes m rows).length = removed m rows := by unfold rmTo removed; rw [List.take_length]
    rw [e1]
    rw [e2] at hkv
    exact part2 kvs rp de fo hkv
end
end K05

set_option Elab.async false
set_option linter.all false
set_option maxRecDepth 100000
set_option maxHeartbeats 4000000
namespace K05
open PySem PySem.Spec PyProof.Rows L2 Cw
/-! ### small closers, each at its own key -/
local macro_rules | `(tactic| walk_at "oadd") => `(tactic| first | exact o_add | exact o_addS (by walk_at "sz") | exact o_cat (by walk_at "ll") (by walk_at "ll") (by walk_at "sz"))
local macro_rules | `(tactic| walk_at "osub") => `(tactic| exact o_sub)
local macro_rules | `(tactic| walk_at "omul") => `(tactic| first | exact o_mul (by walk_at "sd") | exact o_rep (by walk_at "ll") (by walk_at "sd") (by walk_at "sd") (by walk_at "sz"))
local macro_rules | `(tactic| walk_at "odiv") => `(tactic| first | exact o_div (by walk_at "sd") | exact o_divW (by walk_at "sd"))
local macro_rules | `(tactic| walk_at "olt") => `(tactic| exact o_lt)
local macro_rules | `(tactic| walk_at "ole") => `(tactic| exact o_le)
local macro_rules | `(tactic| walk_at "ogt") => `(tactic| exact o_gt)
local macro_rules | `(tactic| walk_at "oge") => `(tactic| exact o_ge)
local macro_rules | `(tactic| walk_at "oeq") => `(tactic| first | exact o_eqI | exact o_eqNI | exact o_eqS | exact o_eqB | exact o_eqR (Room.units (by assumption)) (by walk_at "dr") (by walk_at "dr") (by walk_at "sh") (by walk_at "sh"))
local macro_rules | `(tactic| walk_at "one") => `(tactic| first | exact o_neI | exact o_neS | exact o_neB | exact o_neR (Room.units (by assumption)) (by walk_at "dr") (by walk_at "dr") (by walk_at "sh") (by walk_at "sh"))
local macro_rules | `(tactic| walk_at "ois") => `(tactic| exact o_isN)
local macro_rules | `(tactic| walk_at "oisn") => `(tactic| exact o_notN)
local macro_rules | `(tactic| walk_at "iadd") => `(tactic| exact o_iadd)
local macro_rules | `(tactic| walk_at "isub") => `(tactic| exact o_isub)
local macro_rules | `(tactic| walk_at "lk") => `(tactic| first | assumption | exact updL_same | (refine Eq.trans (updL_ne (by first | assumption | (apply Ne.symm; assumption))) ?_; walk_at "lk"))
local macro_rules | `(tactic| walk_at "ll") => `(tactic| first | exact LL.dt | assumption | exact LL.h (by walk_at "lk"))
local macro_rules | `(tactic| walk_at "lr") => `(tactic| first | exact LL.dt | assumption | exact LR.h (by walk_at "lk"))
local macro_rules | `(tactic| walk_at "dr") => `(tactic| first | exact DD.dt | assumption | exact DD.ofLL (by walk_at "lk"))
local macro_rules | `(tactic| walk_at "sd") => `(tactic| first | omega | assumption | decide)
local macro_rules | `(tactic| walk_at "rg") => `(tactic| first | omega | assumption | decide)
local macro_rules | `(tactic| walk_at "sz") => `(tactic| first | assumption | (rw [sizeLine_eq]; first | omega | (simp; omega)))
local macro_rules | `(tactic| walk_at "osl") => `(tactic| first | exact s_str (by walk_at "sz") | exact s_lst (by walk_at "ll"))
local macro_rules | `(tactic| walk_at "c_len") => `(tactic| first | exact c_lenT | exact c_lenS (by walk_at "sz") | exact c_lenL (by walk_at "ll") | exact c_lenR (by walk_at "lr") | exact c_lenF (by assumption))
local macro_rules | `(tactic| walk_at "c_int") => `(tactic| first | exact c_int | exact c_intB)
local macro_rules | `(tactic| walk_at "c_min") => `(tactic| exact c_min rfl)
local macro_rules | `(tactic| walk_at "c_max") => `(tactic| exact c_max rfl)
local macro_rules | `(tactic| walk_at "c_ord") => `(tactic| exact c_ord (by walk_at "sz"))
local macro_rules | `(tactic| walk_at "c_list") => `(tactic| first | exact c_listT | exact c_list (by walk_at "ll") | exact c_listF (by assumption))
local macro_rules | `(tactic| walk_at "c_tuple") => `(tactic| first | exact c_tupleT | exact c_tuple (by walk_at "ll"))
local macro_rules | `(tactic| walk_at "c_isinstance") => `(tactic| exact c_isi (by walk_at "dr") (by decide))
local macro_rules | `(tactic| walk_at "few") => `(tactic| first | decide | exact Nat.le_of_ble_eq_true rfl | (rw [sizeLine_eq]; exact Nat.le_of_ble_eq_true rfl) | assumption)
local macro_rules | `(tactic| walk_at "fl") => `(tactic| first | assumption | rfl)
local macro_rules | `(tactic| walk_at "nf") => `(tactic| first | rfl | decide +kernel)
local macro_rules | `(tactic| walk_at "at") => `(tactic| first | assumption | rfl | exact atI_nat (by assumption))
local macro_rules | `(tactic| walk_at "oix") => `(tactic| first | exact i_tup (by walk_at "at") | exact i_lst (by walk_at "ll") (by walk_at "at") | exact i_lstR (by walk_at "lr") (by walk_at "at") | exact i_str (by walk_at "sz") (by walk_at "at") | exact i_lstF (by assumption) (by walk_at "at"))
local macro_rules | `(tactic| walk_at "ixn") => `(tactic| first | assumption | rfl)
local macro_rules | `(tactic| walk_at "okd") => `(tactic| first | rfl | assumption)
local macro_rules | `(tactic| walk_at "wr") => `(tactic| first | assumption | omega)
local macro_rules | `(tactic| walk_at "shn") => `(tactic| first | exact fun z => absurd z (by assumption) | exact fun z => absurd rfl z | exact fun _ => ⟨rfl, rfl⟩)
local macro_rules | `(tactic| walk_at "onin") => `(tactic| exact o_notIn2S)
local macro_rules | `(tactic| walk_at "okp") => `(tactic| first | assumption | exact nxt_p (by walk_at "okp"))
local macro_rules | `(tactic| walk_at "c_all") => `(tactic| exact c_all rfl (by walk_at "ll"))
local macro_rules | `(tactic| walk_at "c_sum") => `(tactic| exact c_sum rfl (by walk_at "ll"))
local macro_rules | `(tactic| walk_at "c_sorted") => `(tactic| exact c_sortedS (by walk_at "ll") (by walk_at "sz"))

local macro_rules | `(tactic| walk_at "sh") => `(tactic| assumption)
section
variable {P : Program} {w : World} {K : PySem.W.Frag} {mg : Str → Option Value} {base : Heap} {C : Addr}
def fst0 : Yd → PyData := fun y => match y with
  | .r (.dt (.tuple (a :: _))) => a
  | _ => .none
theorem any_mk (rm : List Mk) (p : Mk) : ((rm.map mkD).any fun z => PyData.eqv z (mkD p)) = decide (p ∈ rm) := by
  rw [Bool.eq_iff_iff, List.any_eq_true, decide_eq_true_iff]
  constructor
  · rintro ⟨x, hx, he⟩
    obtain ⟨q, hq, rfl⟩ := List.mem_map.mp hx
    rw [eqv_mk] at he
    rw [← of_decide_eq_true he]
    exact hq
  · intro h
    exact ⟨mkD p, List.mem_map.mpr ⟨p, h, rfl⟩, by rw [eqv_mk]; exact decide_eq_true rfl⟩
def sp_lrow (Tb : Addr) (tq : Str) : Fs := fun as L Q _ => ∃ r rows m, as = [r, .dt (.str m)] ∧ RowsAt L r rows ∧ Wf rows ∧ L Tb = some (.tab tq) ∧ ∀ L', Le L L' → Q (.dt (.list ((rowL m rows).map entD))) L'
theorem ok_lrow {f : Addr} {fd : FuncData} {c Tb : Addr} (F : Fun K "_law_row" "_law_row" s_law_row f fd) (T : TxD K mg C) (TB : LamX.TabB base mg c Tb) (hcd : fd.code = .ref c) (G_law_changes' : FnM P w K mg base 2 "_law_changes" P_law_changes sp_lchanges) (G_law_inserted' : FnM P w K mg base 1 "_law_inserted" P_law_inserted sp_ins) : FnOk P w K mg base CX0 3 f fd P_law_row (lift (sp_lrow Tb "_law_row.<locals>.<lambda>")) := by
  have G_law_changes := G_law_changes'.forget
  have G_law_inserted := G_law_inserted'.forget
  refine fnok0C F sc_law_row (fun as L Q XC h => by obtain ⟨_, _, _, rfl, _⟩ := h; rfl) ?_
  intro A outer s0 H E hr as L Q XC h
  obtain ⟨r0, rows, m, rfl, hR, W, hTb, k⟩ := h
  have hu65 : (y0 P w K mg base N_law_row "_law_row" (defScope s_law_row) f fd.code A outer s0 H E).X.A.units + 65 < cLine := by
    have := hr.un
    show (A.deeper _).units + 65 < cLine
    omega
  refine mss_cons (ms_set 2 sc_law_row.nd rfl (by first | exact .inl rfl | exact .inr rfl) (EX.to (ex_lst ad_nil (by walk_at "few")) ?_))
  refine mss_cons (ms_set 3 sc_law_row.nd rfl (.inl rfl) (me_lst0 fun o hot => ?_))
  refine mss_cons (ms_for (tgt := (.t [4, 5, 6])) rfl (ix_data (ex_call G_law_changes (hr.mono (by decide)) (by rfl) (ax_cons (ex_var 0 rfl rfl (.inl rfl)) (ax_cons (ex_var 1 rfl rfl (.inl rfl)) ax_nil)) ⟨r0, rows, m, rfl, hR.le (le_upd hot), W, fun L' l => ⟨_, l, rfl, rfl⟩⟩)) (pgn_tup rfl (pgn_cons 4 sc_law_row.nd rfl (by first | exact .inl rfl | exact .inr rfl) (pgn_cons 5 sc_law_row.nd rfl (by first | exact .inl rfl | exact .inr rfl) (pgn_cons 6 sc_law_row.nd rfl (by first | exact .inl rfl | exact .inr rfl) pgn_nil)))) (fun i ρ L' => ∃ rp de fo mk bh ch, ρ = [some r0, some (.dt (.str m)), some (.dt (.list ((rmTo m rows i).map mkD))), some (.vl (.ref o)), rp, de, fo, mk, bh, ch, none, none, none] ∧ L' = updL L o (.lst (dts ((fdTo m rows i).map itD)))) ⟨none, none, none, none, none, none, rfl, rfl⟩ (fun _ _ _ _ _ => trivial) ?_ ?_)
  · intro i y ρ L' hy hI
    obtain ⟨rp, de, fo, mk, bh, ch, rfl, rfl⟩ := hI
    rw [List.getElem?_map, List.getElem?_map] at hy
    cases hx : (changes m rows)[i]? with
    | none => rw [hx] at hy; cases hy
    | some x =>
      rw [hx] at hy
      cases hy
      obtain ⟨m', rm, bh0, n, l, ed, hl30, hrm10, hrmok⟩ := ch_is W (List.mem_of_getElem? hx)
      obtain ⟨r, d, fb⟩ := x
      have ed : d = .change m' rm bh0 n l := ed
      subst ed
      refine ⟨_, rfl, ?_⟩
      have hl1000 : l.length ≤ 1000 := by omega
      have eits : itsOf (r, Deed.change m' rm bh0 n l, fb) = (insL (r : Int) n bh0 l).map fun x => (x.1, x.2.1, x.2.2, fb) := rfl
      refine mss_cons (ms_for (tgt := (.t [7, 8, 9])) rfl (ix_data (ex_call G_law_inserted (hr.mono (by decide)) (by rfl) (ax_cons (ex_var 4 rfl rfl (.inl rfl)) (ax_cons (ex_var 5 rfl rfl (.inl rfl)) ax_nil)) ⟨(r : Int), m', rm, bh0, n, l, rfl, hl1000, fun L' l => ⟨_, l, rfl, rfl⟩⟩)) (pgn_tup rfl (pgn_cons 7 sc_law_row.nd rfl (by first | exact .inl rfl | exact .inr rfl) (pgn_cons 8 sc_law_row.nd rfl (by first | exact .inl rfl | exact .inr rfl) (pgn_cons 9 sc_law_row.nd rfl (by first | exact .inl rfl | exact .inr rfl) pgn_nil)))) (fun j ρ L' => ∃ mk bh ch, ρ = [some r0, some (.dt (.str m)), some (.dt (.list ((rmTo m rows i).map mkD))), some (.vl (.ref o)), some (.dt (.int (r : Int))), some (.dt (deedD (.change m' rm bh0 n l))), some (.dt (.bool fb)), mk, bh, ch, none, none, none] ∧ L' = updL L o (.lst (dts ((fdTo m rows i ++ (itsOf (r, Deed.change m' rm bh0 n l, fb)).take j).map itD)))) ⟨mk, bh, ch, rfl, by rw [List.take_zero, List.append_nil]⟩ (fun _ _ _ _ _ => trivial) ?_ ?_)
      · intro j y ρ L' hy hI
        obtain ⟨mk, bh, ch, rfl, rfl⟩ := hI
        rw [List.getElem?_map, List.getElem?_map] at hy
        cases hz : (insL (r : Int) n bh0 l)[j]? with
        | none => rw [hz] at hy; cases hy
        | some z =>
          rw [hz] at hy
          cases hy
          refine ⟨_, rfl, ?_⟩
          have hok : updL L o (.lst (dts ((fdTo m rows i ++ (itsOf (r, Deed.change m' rm bh0 n l, fb)).take j).map itD))) o = some (.lst (dts ((fdTo m rows i ++ (itsOf (r, Deed.change m' rm bh0 n l, fb)).take j).map itD))) := updL_same
          have hz1 : (dts ((fdTo m rows i ++ (itsOf (r, Deed.change m' rm bh0 n l, fb)).take j).map itD)).length < sizeLine := by
            have g1 := fdTo_len (m := m) W i
            rw [eits, List.length_map, List.length_map, List.length_append, List.length_take, List.length_map, insL_len, sizeLine_eq]
            omega
          refine mss_cons (ms_expr (EX.to (ex_append (ex_var 3 rfl rfl (.inl rfl)) (by walk_at "lk") (ex_tup (ad_cons (ex_var 7 rfl rfl (.inl rfl)) (ad_cons (ex_var 8 rfl rfl (.inl rfl)) (ad_cons (ex_var 9 rfl rfl (.inl rfl)) (ad_cons (ex_var 6 rfl rfl (.inl rfl)) ad_nil)))) (by walk_at "few")) (by walk_at "lk") (by walk_at "sz")) ?_))
          refine mss_nil ⟨_, _, _, rfl, ?_⟩
          have hij : (itsOf (r, Deed.change m' rm bh0 n l, fb))[j]? = some (z.1, z.2.1, z.2.2, fb) := by rw [eits, List.getElem?_map, hz]; rfl
          rw [updL_updL, take_snoc hij]
          congr 2
          simp [dts, itD]
      · intro ρ L' hI
        obtain ⟨mk, bh, ch, rfl, rfl⟩ := hI
        have el : ((((insL (r : Int) n bh0 l).map insD).map fun d => Yd.r (.dt d)).length) = (itsOf (r, Deed.change m' rm bh0 n l, fb)).length := by rw [eits, List.length_map, List.length_map, List.length_map]
        rw [el, List.take_length, ← fdTo_succ hx]
        have hrl := rmTo_len (m := m) W i
        cases fb with
        | false =>
          refine mss_cons (ms_ifx (tx_val (ex_var 6 rfl rfl (.inl rfl))) (fun hT => ?_) (fun hF => ?_))
          · cases hT
          · refine mss_nil (mss_nil ⟨some (.dt (.int (r : Int))), some (.dt (deedD (.change m' rm bh0 n l))), some (.dt (.bool false)), mk, bh, ch, ?_, rfl⟩)
            rw [rmTo_succ hx]
            simp [rmOf]
        | true =>
          have hz1 : ((rmTo m rows i).map mkD).length + (rm.map mkD).length ≤ sizeLine := by rw [List.length_map, List.length_map, sizeLine_eq]; omega
          refine mss_cons (ms_ifx (tx_val (ex_var 6 rfl rfl (.inl rfl))) (fun hT => ?_) (fun hF => ?_))
          · refine mss_cons (ms_set 2 sc_law_row.nd rfl (by first | exact .inl rfl | exact .inr rfl) (EX.to (ex_bin (ex_var 2 rfl rfl (.inl rfl)) (ex_callTy (ax_cons (ex_ix (ex_var 5 rfl rfl (.inl rfl)) ex_int (by walk_at "oix") (fun _ _ => rfl)) ax_nil) (by walk_at "c_list") (by rfl) T.m_list (by decide +kernel)) (by walk_at "oadd")) ?_))
            refine mss_nil (mss_nil ⟨some (.dt (.int (r : Int))), some (.dt (deedD (.change m' rm bh0 n l))), some (.dt (.bool true)), mk, bh, ch, ?_, rfl⟩)
            rw [rmTo_succ hx, List.map_append]
            rfl
          · exact absurd hF (by simp)
  · intro ρ L' hI
    obtain ⟨rp, de, fo, mk, bh, ch, rfl, rfl⟩ := hI
    rw [List.length_map, List.length_map]
    have e1 : fdTo m rows (changes m rows).length = found m rows := by unfold fdTo found; rw [List.take_length]
    have e2 : rmTo m rows (changes m rows).length = removed m rows := by unfold rmTo removed; rw [List.take_length]
    rw [e1, e2]
    have hof : updL L o (.lst (dts ((found m rows).map itD))) o = some (.lst (dts ((found m rows).map itD))) := updL_same
    have hTb1 : updL L o (.lst (dts ((found m rows).map itD))) Tb = some (.tab "_law_row.<locals>.<lambda>") := le_upd hot _ _ hTb
    have lLb : Le L (updL L o (.lst (dts ((found m rows).map itD)))) := le_upd hot
    generalize updL L o (.lst (dts ((found m rows).map itD))) = Lb at *
    refine mss_cons (ms_set 10 sc_law_row.nd rfl (.inl rfl) (me_lst0 fun p1 hp1 => ?_))
    have hof2 := le_upd (m := .lst []) hp1 _ _ hof
    have hTb2 := le_upd (m := .lst []) hp1 _ _ hTb1
    refine mss_cons (ms_for (tgt := (.t [7, 8, 9, 6])) rfl (ix_data (ex_sortLam (ex_var 3 rfl rfl (.inl rfl)) (LL.h hof2) (fun d hd => by obtain ⟨x, _, rfl⟩ := List.mem_map.mp hd; exact kyd_it x) hTb2 hr TB hcd (by show ((("_law_row" : Str) ++ ".<locals>.") ++ "<lambda>" : Str) = _; decide +kernel) (by rfl) T.m_sorted)) (pgn_tup rfl (pgn_cons 7 sc_law_row.nd rfl (by first | exact .inl rfl | exact .inr rfl) (pgn_cons 8 sc_law_row.nd rfl (by first | exact .inl rfl | exact .inr rfl) (pgn_cons 9 sc_law_row.nd rfl (by first | exact .inl rfl | exact .inr rfl) (pgn_cons 6 sc_law_row.nd rfl (by first | exact .inl rfl | exact .inr rfl) pgn_nil)))))
      (fun i ρ L' => ∃ fo mk bh ch ix, ρ = [some r0, some (.dt (.str m)), some (.dt (.list ((removed m rows).map mkD))), some (.vl (.ref o)), rp, de, fo, mk, bh, ch, some (.vl (.ref p1)), ix, none] ∧ L' = updL Lb p1 (.lst (dts ((accL (removed m rows) (srt m rows) i).map entD))))
      ⟨fo, mk, bh, ch, none, rfl, rfl⟩ (fun _ _ _ _ _ => trivial) ?_ ?_)
    · intro i y ρ L' hy hI
      obtain ⟨fo, mk, bh, ch, ix, rfl, rfl⟩ := hI
      rw [srt_data, List.getElem?_map, List.getElem?_map] at hy
      cases hx : (srt m rows)[i]? with
      | none => rw [hx] at hy; cases hy
      | some x =>
        rw [hx] at hy
        cases hy
        have hbeh := fun b hb => acc_behind (rmv := removed m rows) (b := b) W hx hb
        have hacl := acc_le (m := m) (rmv := removed m rows) W i
        have hil := (List.getElem?_eq_some_iff.mp hx).1
        have hsl := srt_len (m := m) W
        obtain ⟨mk0, bhv, c, fb⟩ := x
        refine ⟨_, rfl, ?_⟩
        generalize hacc : accL (removed m rows) (srt m rows) i = acc at *
        have eacc : accL (removed m rows) (srt m rows) (i + 1) = put1 (removed m rows) acc (mk0, bhv, c, fb) := by rw [accL_succ hx, hacc]
        have hp1s : updL Lb p1 (.lst (dts (acc.map entD))) p1 = some (.lst (dts (acc.map entD))) := updL_same
        have hsh1 : SeqAt.shaped (.list ((acc.map (·.1)).map mkD)) = true := (sh_list (n := 1) fun d hd => by obtain ⟨e, _, rfl⟩ := List.mem_map.mp hd; exact sh_mk _).ok (by decide)
        have hsh2 : SeqAt.shaped (mkD mk0) = true := (sh_mk _).ok (by decide)
        have hsh3 : SeqAt.shaped (.list ((removed m rows).map mkD)) = true := (sh_list (n := 1) fun d hd => by obtain ⟨e, _, rfl⟩ := List.mem_map.mp hd; exact sh_mk _).ok (by decide)
        have hat0 : atOf acc bhv ≤ acc.length := by
          cases bhv with
          | none => exact Nat.zero_le _
          | some b =>
            have := (idx_at (hbeh b rfl)).2.1
            rw [List.length_map] at this
            exact this
        refine mss_cons (ms_set 11 sc_law_row.nd rfl (by first | exact .inl rfl | exact .inr rfl) (EX.to ex_int ?_))
        refine mss_cons (ms_cut [some r0, some (.dt (.str m)), some (.dt (.list ((removed m rows).map mkD))), some (.vl (.ref o)), rp, de, some (.dt (.bool fb)), some (.dt (mkD mk0)), some (.dt (obD bhv)), some (.dt (.str (tx [c]))), some (.vl (.ref p1)), some (.dt (.int ((atOf acc bhv : Nat) : Int))), none] (updL Lb p1 (.lst (dts (acc.map entD)))) ?_ ?_)
        · cases bhv with
          | none =>
            refine (ms_ifx (tx_cmp (ex_var 8 rfl rfl (.inl rfl)) ex_non (by walk_at "oisn") (nomark _)) (fun hT => ?_) (fun hF => ?_))
            · exact absurd hT (by simp [isNone])
            · exact mss_nil ⟨rfl, rfl⟩
          | some b =>
            refine (ms_ifx (tx_cmp (ex_var 8 rfl rfl (.inl rfl)) ex_non (by walk_at "oisn") (nomark _)) (fun hT => ?_) (fun hF => ?_))
            · obtain ⟨h1, h2, h3⟩ := idx_at (hbeh b rfl)
              have ecmp : (((dts (acc.map entD)).map Yd.r).map fst0) = (acc.map (·.1)).map mkD := by
                simp only [dts, List.map_map]
                rfl
              refine mss_cons (ms_set 11 sc_law_row.nd rfl (.inl rfl) (EX.to (ex_bin (ex_index (r := .dt (.list ((acc.map (·.1)).map mkD))) (j := (acc.map (·.1)).idxOf b) (z := mkD b) hu65 (EX.eq (me_lcp (tgt := (.n 12)) (own := [("each", 12)]) fst0 (by rfl) sc_law_row.nd (ix_lr (ex_var 10 rfl rfl (.inl rfl)) (LR.h hp1s)) (LR.h hp1s) (blkOk_by (by rfl)) rfl (fun s H C cl fp => (pgn_name 12 sc_law_row.nd rfl (by first | exact .inl rfl | exact .inr rfl))) (by rw [List.length_map, List.length_map, List.length_map, sizeLine_eq]; omega) (fun j y hy => ?_) ⟨rfl, rfl⟩) (by rw [ecmp])) (ex_var 8 rfl rfl (.inl rfl)) DD.dt DD.dt hsh1 ((sh_mk b).ok (by decide)) ?_ (by rw [eqv_mk]; exact decide_eq_true rfl) (fun k z' hk hz => ?_)) ex_int o_add) ?_))
              · rw [List.getElem?_map, List.getElem?_map, List.getElem?_map] at hy
                cases he : acc[j]? with
                | none => rw [he] at hy; cases hy
                | some e =>
                  rw [he] at hy
                  cases hy
                  exact ⟨_, rfl, fun s H C cl fp => (ex_ix (ex_var 12 rfl rfl (by first | exact .inl rfl | exact .inr (.inl rfl) | exact .inr (.inr rfl))) ex_int (by walk_at "oix") (fun _ _ => rfl))⟩
              · rw [List.getElem?_map, h1]
                rfl
              · rw [List.getElem?_map] at hz
                cases hq : (acc.map (·.1))[k]? with
                | none => rw [hq] at hz; cases hz
                | some u =>
                  rw [hq] at hz
                  cases hz
                  rw [eqv_mk]
                  exact decide_eq_false (h3 k u hk hq)
              · exact mss_nil ⟨rfl, rfl⟩
            · exact absurd hF (by simp [isNone])
        · have hz1 : (dts (acc.map entD)).length < sizeLine := by rw [List.length_map, List.length_map, sizeLine_eq]; omega
          have hi0 : (0 : Int) ≤ ((atOf acc bhv : Nat) : Int) := Int.natCast_nonneg _
          have hi1 : ((atOf acc bhv : Nat) : Int) < 2 ^ 63 := by omega
          refine mss_cons (ms_expr (EX.to (ex_insert (ex_var 10 rfl rfl (.inl rfl)) hp1s (ax_cons (ex_var 11 rfl rfl (.inl rfl)) (ax_cons (ex_tup (ad_cons (ex_var 7 rfl rfl (.inl rfl)) (ad_cons (ex_var 9 rfl rfl (.inl rfl)) (ad_cons (ex_and (ex_var 6 rfl rfl (.inl rfl)) (fun _ => ex_one (ex_cmp (ex_var 7 rfl rfl (.inl rfl)) (ex_var 2 rfl rfl (.inl rfl)) (o_notInR hu65 DD.dt DD.dt hsh2 hsh3) rfl))) ad_nil))) (by walk_at "few")) ax_nil)) hp1s hz1 hi0 hi1) ?_))
          rw [Int.toNat_natCast, any_mk]
          refine mss_nil ⟨_, _, _, _, _, rfl, ?_⟩
          rw [updL_updL, eacc]
          congr 2
          unfold put1 dts
          rw [← List.map_take, ← List.map_drop, ← List.map_take, ← List.map_drop]
          simp
    · intro ρ L' hI
      obtain ⟨fo, mk, bh, ch, ix, rfl, rfl⟩ := hI
      rw [srt_data, List.length_map, List.length_map, acc_all]
      refine MSs.settle 10 rfl updL_same ?_
      refine mss_cons (ms_ret (EX.to (ex_var 10 rfl rfl (.inl rfl)) ?_))
      exact k _ (le_del hp1 lLb)
end
end K05

set_option Elab.async false
set_option linter.all false
set_option maxRecDepth 100000
set_option maxHeartbeats 4000000
namespace K05
open PySem PySem.Spec PyProof.Rows L2 Cw
/-! ### small closers, each at its own key -/
local macro_rules | `(tactic| walk_at "oadd") => `(tactic| first | exact o_add | exact o_addS (by walk_at "sz") | exact o_cat (by walk_at "ll") (by walk_at "ll") (by walk_at "sz"))
local macro_rules | `(tactic| walk_at "osub") => `(tactic| exact o_sub)
local macro_rules | `(tactic| walk_at "omul") => `(tactic| first | exact o_mul (by walk_at "sd") | exact o_rep (by walk_at "ll") (by walk_at "sd") (by walk_at "sd") (by walk_at "sz"))
local macro_rules | `(tactic| walk_at "odiv") => `(tactic| first | exact o_div (by walk_at "sd") | exact o_divW (by walk_at "sd"))
local macro_rules | `(tactic| walk_at "olt") => `(tactic| exact o_lt)
local macro_rules | `(tactic| walk_at "ole") => `(tactic| exact o_le)
local macro_rules | `(tactic| walk_at "ogt") => `(tactic| exact o_gt)
local macro_rules | `(tactic| walk_at "oge") => `(tactic| exact o_ge)
local macro_rules | `(tactic| walk_at "oeq") => `(tactic| first | exact o_eqI | exact o_eqNI | exact o_eqS | exact o_eqB | exact o_eqR (Room.units (by assumption)) (by walk_at "dr") (by walk_at "dr") (by walk_at "sh") (by walk_at "sh"))
local macro_rules | `(tactic| walk_at "one") => `(tactic| first | exact o_neI | exact o_neS | exact o_neB | exact o_neR (Room.units (by assumption)) (by walk_at "dr") (by walk_at "dr") (by walk_at "sh") (by walk_at "sh"))
local macro_rules | `(tactic| walk_at "ois") => `(tactic| exact o_isN)
local macro_rules | `(tactic| walk_at "oisn") => `(tactic| exact o_notN)
local macro_rules | `(tactic| walk_at "iadd") => `(tactic| exact o_iadd)
local macro_rules | `(tactic| walk_at "isub") => `(tactic| exact o_isub)
local macro_rules | `(tactic| walk_at "lk") => `(tactic| first | assumption | exact updL_same | (refine Eq.trans (updL_ne (by first | assumption | (apply Ne.symm; assumption))) ?_; walk_at "lk"))
local macro_rules | `(tactic| walk_at "ll") => `(tactic| first | exact LL.dt | assumption | exact LL.h (by walk_at "lk"))
local macro_rules | `(tactic| walk_at "lr") => `(tactic| first | exact LL.dt | assumption | exact LR.h (by walk_at "lk"))
local macro_rules | `(tactic| walk_at "dr") => `(tactic| first | exact DD.dt | assumption | exact DD.ofLL (by walk_at "lk"))
local macro_rules | `(tactic| walk_at "sd") => `(tactic| first | omega | assumption | decide)
local macro_rules | `(tactic| walk_at "rg") => `(tactic| first | omega | assumption | decide)
local macro_rules | `(tactic| walk_at "sz") => `(tactic| first | assumption | (rw [sizeLine_eq]; first | omega | (simp; omega)))
local macro_rules | `(tactic| walk_at "osl") => `(tactic| first | exact s_str (by walk_at "sz") | exact s_lst (by walk_at "ll"))
local macro_rules | `(tactic| walk_at "c_len") => `(tactic| first | exact c_lenT | exact c_lenS (by walk_at "sz") | exact c_lenL (by walk_at "ll") | exact c_lenR (by walk_at "lr") | exact c_lenF (by assumption))
local macro_rules | `(tactic| walk_at "c_int") => `(tactic| first | exact c_int | exact c_intB)
local macro_rules | `(tactic| walk_at "c_min") => `(tactic| exact c_min rfl)
local macro_rules | `(tactic| walk_at "c_max") => `(tactic| exact c_max rfl)
local macro_rules | `(tactic| walk_at "c_ord") => `(tactic| exact c_ord (by walk_at "sz"))
local macro_rules | `(tactic| walk_at "c_list") => `(tactic| first | exact c_listT | exact c_list (by walk_at "ll") | exact c_listF (by assumption))
local macro_rules | `(tactic| walk_at "c_tuple") => `(tactic| first | exact c_tupleT | exact c_tuple (by walk_at "ll"))
local macro_rules | `(tactic| walk_at "c_isinstance") => `(tactic| exact c_isi (by walk_at "dr") (by decide))
local macro_rules | `(tactic| walk_at "few") => `(tactic| first | decide | exact Nat.le_of_ble_eq_true rfl | (rw [sizeLine_eq]; exact Nat.le_of_ble_eq_true rfl) | assumption)
local macro_rules | `(tactic| walk_at "fl") => `(tactic| first | assumption | rfl)
local macro_rules | `(tactic| walk_at "nf") => `(tactic| first | rfl | decide +kernel)
local macro_rules | `(tactic| walk_at "at") => `(tactic| first | assumption | rfl | exact atI_nat (by assumption))
local macro_rules | `(tactic| walk_at "oix") => `(tactic| first | exact i_tup (by walk_at "at") | exact i_lst (by walk_at "ll") (by walk_at "at") | exact i_lstR (by walk_at "lr") (by walk_at "at") | exact i_str (by walk_at "sz") (by walk_at "at") | exact i_lstF (by assumption) (by walk_at "at"))
local macro_rules | `(tactic| walk_at "ixn") => `(tactic| first | assumption | rfl)
local macro_rules | `(tactic| walk_at "okd") => `(tactic| first | rfl | assumption)
local macro_rules | `(tactic| walk_at "wr") => `(tactic| first | assumption | omega)
local macro_rules | `(tactic| walk_at "shn") => `(tactic| first | exact fun z => absurd z (by assumption) | exact fun z => absurd rfl z | exact fun _ => ⟨rfl, rfl⟩)
local macro_rules | `(tactic| walk_at "onin") => `(tactic| exact o_notIn2S)
local macro_rules | `(tactic| walk_at "okp") => `(tactic| first | assumption | exact nxt_p (by walk_at "okp"))
local macro_rules | `(tactic| walk_at "c_all") => `(tactic| exact c_all rfl (by walk_at "ll"))
local macro_rules | `(tactic| walk_at "c_sum") => `(tactic| exact c_sum rfl (by walk_at "ll"))
local macro_rules | `(tactic| walk_at "c_sorted") => `(tactic| exact c_sortedS (by walk_at "ll") (by walk_at "sz"))

local macro_rules | `(tactic| walk_at "mulok") => `(tactic| exact mulOk_of 1 64 (by decide +kernel) (by decide) (by decide) (by decide) (by decide))
local macro_rules | `(tactic| walk_at "sz") => `(tactic| first | assumption | (rw [sizeLine_eq]; first | omega | (simp; omega)) | exact Nat.le_of_ble_eq_true (by decide +kernel))
/-! ### the greatest -/
def mx (i j : Int) : Int := if j > i then j else i
theorem mx_l (i j : Int) : i ≤ mx i j := by unfold mx; split <;> omega
theorem mx_r (i j : Int) : j ≤ mx i j := by unfold mx; split <;> omega
theorem mx_le {i j b : Int} (h1 : i ≤ b) (h2 : j ≤ b) : mx i j ≤ b := by unfold mx; split <;> omega
def up (a : Int) : Deed → Int
  | .back _ => a
  | .change _ _ _ n l => mx a (n + (l.length : Int))
def upR (a : Int) (row : List Deed) : Int := row.foldl up a
def lastL (rows : List (List Deed)) : Int := rows.foldl upR 0
theorem fold_take {α β : Type} {f : β → α → β} {l : List α} {i : Nat} {x : α} (a : β) (h : l[i]? = some x) : (l.take (i + 1)).foldl f a = f ((l.take i).foldl f a) x := by
  rw [take_snoc h, List.foldl_append]
  rfl
/-- no number beyond -/
def Bd (B : Int) (rows : List (List Deed)) : Prop := ∀ row ∈ rows, ∀ m rm bh n l, Deed.change m rm bh n l ∈ row → n + (l.length : Int) ≤ B
theorem upR_le {B : Int} : ∀ {row : List Deed} {a : Int}, a ≤ B → (∀ m rm bh n l, Deed.change m rm bh n l ∈ row → n + (l.length : Int) ≤ B) → upR a row ≤ B
  | [], a, h, _ => h
  | d :: row, a, h, k => by
    show upR (up a d) row ≤ B
    refine upR_le ?_ fun m rm bh n l hm => k m rm bh n l (List.mem_cons_of_mem _ hm)
    cases d with
    | back p => exact h
    | change m rm bh n l => exact mx_le h (k m rm bh n l List.mem_cons_self)
theorem upR_ge : ∀ {row : List Deed} {a : Int}, a ≤ upR a row
  | [], a => Int.le_refl _
  | d :: row, a => by
    show a ≤ upR (up a d) row
    refine Int.le_trans ?_ upR_ge
    cases d with
    | back p => exact Int.le_refl _
    | change m rm bh n l => exact mx_l _ _
theorem upR_mem : ∀ {row : List Deed} {a : Int} {m : Str} {rm : List Mk} {bh : Option Mk} {n : Int} {l : List Nat}, Deed.change m rm bh n l ∈ row → n + (l.length : Int) ≤ upR a row
  | d :: row, a, m, rm, bh, n, l, h => by
    show _ ≤ upR (up a d) row
    rcases List.mem_cons.mp h with e | e
    · subst e
      exact Int.le_trans (mx_r _ _) upR_ge
    · exact upR_mem e
theorem last_le {B : Int} {rows : List (List Deed)} (h0 : 0 ≤ B) (h : Bd B rows) : lastL rows ≤ B := by
  have go : ∀ (rs : List (List Deed)) (a : Int), a ≤ B → (∀ row ∈ rs, row ∈ rows) → rs.foldl upR a ≤ B := by
    intro rs
    induction rs with
    | nil => exact fun a h _ => h
    | cons row rs ih => exact fun a ha hr => ih _ (upR_le ha (h row (hr row List.mem_cons_self))) fun row' hm => hr row' (List.mem_cons_of_mem _ hm)
  exact go rows 0 h0 fun _ h => h
def upM (a : Int) : Option Mk → Int
  | none => a
  | some p => mx a (p.1 + 1)
theorem upM_le {B : Int} : ∀ {os : List (Option Mk)} {a : Int}, a ≤ B → (∀ p, some p ∈ os → p.1 + 1 ≤ B) → os.foldl upM a ≤ B
  | [], a, h, _ => h
  | o :: os, a, h, k => by
    show os.foldl upM (upM a o) ≤ B
    refine upM_le ?_ fun p hm => k p (List.mem_cons_of_mem _ hm)
    cases o with
    | none => exact h
    | some p => exact mx_le h (k p List.mem_cons_self)
theorem upM_ge : ∀ {os : List (Option Mk)} {a : Int}, a ≤ os.foldl upM a
  | [], a => Int.le_refl _
  | o :: os, a => by
    show a ≤ os.foldl upM (upM a o)
    refine Int.le_trans ?_ upM_ge
    cases o with
    | none => exact Int.le_refl _
    | some p => exact mx_l _ _
theorem upM_mem : ∀ {os : List (Option Mk)} {a : Int} {p : Mk}, some p ∈ os → p.1 + 1 ≤ os.foldl upM a
  | o :: os, a, p, h => by
    show _ ≤ os.foldl upM (upM a o)
    rcases List.mem_cons.mp h with e | e
    · subst e
      exact Int.le_trans (mx_r _ _) upM_ge
    · exact upM_mem e
/-! ### the modules, the letters -/
def mods : List Str := ["main", "a", ((Txt.mul "z" 39) ++ "y"), (Txt.mul "z" 40)]
theorem mods_ok : ∀ m ∈ mods, PyData.strOk m = true := by decide +kernel
theorem mods_at {z : Int} (h0 : 0 ≤ z) (h : z < mods.length) : ∃ m, m ∈ mods ∧ atI (mods.map PyData.str) z = some (.str m) := by
  have h1 : z.toNat < mods.length := by omega
  exact ⟨_, List.getElem_mem h1, atI_int h0 (by rw [List.getElem?_map, List.getElem?_eq_getElem h1]; rfl)⟩
def chars : Str := " !\"#$&'()*+,-./0123456789:;<=>?@ABCDEFGHIJKLMNOPQRSTUVWXYZ[\\]^_`abcdefghijklmnopqrstuvwxyz{|}~\n"
theorem chars_all : ∀ j < 95, ∃ c ∈ List.range 128, chars.cps.toList[j]? = some c := by decide +kernel
theorem chars_at (z : Int) : ∃ c, atI chars.cps.toList (z % 95) = some c ∧ c < 128 := by
  have h0 : 0 ≤ z % 95 := Int.emod_nonneg _ (by decide)
  have h1 : z % 95 < 95 := Int.emod_lt_of_pos _ (by decide)
  obtain ⟨c, hc, e⟩ := chars_all (z % 95).toNat (by omega)
  exact ⟨c, atI_int h0 e, List.mem_range.mp hc⟩
section
variable {P : Program} {w : World} {K : PySem.W.Frag} {mg : Str → Option Value} {base : Heap} {C : Addr}
def sp_last : Fs := fun as L Q _ => ∃ r rows, as = [r] ∧ RowsAt L r rows ∧ (∀ row ∈ rows, ∀ d ∈ row, DeedOk d) ∧ Q (.dt (.int (lastL rows))) L
theorem ok_last {f : Addr} {fd : FuncData} (F : Fun K "_law_last" "_law_last" s_law_last f fd) (T : TxD K mg C) : FnOk P w K mg base CX0 1 f fd P_law_last (lift sp_last) := by
  refine fnok0 F sc_law_last (fun as L Q XC h => by obtain ⟨_, _, rfl, _⟩ := h; rfl) ?_
  intro cdv A outer s0 H E hr as L Q XC h
  obtain ⟨r, rows, rfl, hR, hok, k⟩ := h
  obtain ⟨rs, hrs, hlen, hat⟩ := hR.at_
  refine mss_cons (ms_set 1 sc_law_last.nd rfl (by first | exact .inl rfl | exact .inr rfl) (EX.to ex_int ?_))
  refine mss_cons (ms_for (tgt := (.n 2)) rfl (ix_lr (ex_var 0 rfl rfl (.inl rfl)) hrs) (pgn_name 2 sc_law_last.nd rfl (by first | exact .inl rfl | exact .inr rfl)) (fun i ρ L' => ∃ ro de, ρ = [some r, some (.dt (.int ((rows.take i).foldl upR 0))), ro, de] ∧ L' = L) ⟨none, none, rfl, rfl⟩ (fun _ _ _ _ ⟨_, _, _, e⟩ => by rw [e]; exact hrs) ?_ ?_)
  · intro i y ρ L' hy hI
    obtain ⟨ro, de, rfl, rfl⟩ := hI
    rw [List.getElem?_map] at hy
    have hi : i < rows.length := by
      rw [← hlen]
      cases hx : rs[i]? with
      | none => rw [hx] at hy; cases hy
      | some x => exact (List.getElem?_eq_some_iff.mp hx).1
    obtain ⟨x, hx, hxl⟩ := hat i hi
    rw [hx] at hy
    cases hy
    have hrow : rows[i]? = some (rows.getD i []) := by rw [List.getD_eq_getElem?_getD, List.getElem?_eq_getElem hi]; rfl
    have hmem : rows.getD i [] ∈ rows := List.mem_of_getElem? hrow
    rw [fold_take 0 hrow]
    generalize rows.getD i [] = row at *
    generalize (rows.take i).foldl upR 0 = a
    refine ⟨_, rfl, ?_⟩
    refine mss_cons (ms_for (tgt := (.n 3)) rfl (ix_lr (ex_var 2 rfl rfl (.inl rfl)) hxl) (pgn_name 3 sc_law_last.nd rfl (by first | exact .inl rfl | exact .inr rfl)) (fun j ρ L2 => ∃ de, ρ = [some r, some (.dt (.int ((row.take j).foldl up a))), some x, de] ∧ L2 = L') ⟨de, rfl, rfl⟩ (fun _ _ _ _ ⟨_, _, e⟩ => by rw [e]; exact hxl) ?_ ?_)
    · intro j y ρ L' hy hI
      obtain ⟨de, rfl, rfl⟩ := hI
      rw [List.getElem?_map, List.getElem?_map, List.getElem?_map] at hy
      cases hd : row[j]? with
      | none => rw [hd] at hy; cases hy
      | some d =>
        rw [hd] at hy
        cases hy
        have hdo := hok row hmem d (List.mem_of_getElem? hd)
        rw [fold_take a hd]
        refine ⟨_, rfl, ?_⟩
        cases d with
        | back p =>
          refine mss_cons (ms_ifx (tx_cmp (ex_ix (ex_var 3 rfl rfl (.inl rfl)) ex_int (by walk_at "oix") (fun _ _ => rfl)) ex_str (by walk_at "oeq") (nomark _)) (fun hT => ?_) (fun hF => ?_))
          · exact absurd hT (by decide +kernel)
          · exact mss_nil (mss_nil ⟨_, rfl, rfl⟩)
        | change m rm bh n l =>
          have hz : (tx l).length ≤ sizeLine := by rw [tx_len, sizeLine_eq]; have := hdo.2.1; omega
          refine mss_cons (ms_ifx (tx_cmp (ex_ix (ex_var 3 rfl rfl (.inl rfl)) ex_int (by walk_at "oix") (fun _ _ => rfl)) ex_str (by walk_at "oeq") (nomark _)) (fun hT => ?_) (fun hF => ?_))
          · refine mss_cons (ms_set 1 sc_law_last.nd rfl (by first | exact .inl rfl | exact .inr rfl) (EX.to (ex_callB (ax_cons (ex_var 1 rfl rfl (.inl rfl)) (ax_cons (ex_bin (ex_ix (ex_var 3 rfl rfl (.inl rfl)) ex_int (by walk_at "oix") (fun _ _ => rfl)) (ex_callB (ax_cons (ex_ix (ex_var 3 rfl rfl (.inl rfl)) ex_int (by walk_at "oix") (fun _ _ => rfl)) ax_nil) (by walk_at "c_len") (by rfl) T.m_len PySem.boot_len) (by walk_at "oadd")) ax_nil)) (by walk_at "c_max") (by rfl) T.m_max (by decide +kernel)) ?_))
            refine mss_nil (mss_nil ⟨some (.dt (deedD (.change m rm bh n l))), ?_, rfl⟩)
            rw [tx_len]
            rfl
          · exact absurd hF (by decide +kernel)
    · intro ρ L' hI
      obtain ⟨de, rfl, rfl⟩ := hI
      refine mss_nil ⟨some x, de, ?_, rfl⟩
      rw [List.length_map, List.length_map, List.length_map, List.take_length]
      rfl
  · intro ρ L' hI
    obtain ⟨ro, de, rfl, rfl⟩ := hI
    rw [List.length_map, hlen, List.take_length]
    refine mss_cons (ms_ret (EX.to (ex_var 1 rfl rfl (.inl rfl)) ?_))
    exact k
def sp_modules : Fs := fun as L Q _ => as = [] ∧ Q (.dt (.list (mods.map PyData.str))) L
theorem ok_lmodules {f : Addr} {fd : FuncData} (F : Fun K "_law_modules" "_law_modules" s_law_modules f fd) (T : TxD K mg C) : FnOk P w K mg base CX0 1 f fd P_law_modules (lift sp_modules) := by
  refine fnok0 F sc_law_modules (fun as L Q XC h => by obtain ⟨rfl, _⟩ := h; rfl) ?_
  intro cdv A outer s0 H E hr as L Q XC h
  obtain ⟨rfl, k⟩ := h
  refine mss_cons (ms_ret (EX.to (ex_lst (ad_cons ex_str (ad_cons ex_str (ad_cons (ex_bin (ex_bin ex_str ex_int (o_repS (by walk_at "mulok"))) ex_str (by walk_at "oadd")) (ad_cons (ex_bin ex_str ex_int (o_repS (by walk_at "mulok"))) ad_nil)))) (by walk_at "few")) ?_))
  exact k
def sp_letters : Fs := fun as L Q _ => ∃ (d : List Int) (i : Int), as = [.dt (.list (d.map PyData.int)), .dt (.int i)] ∧ 0 ≤ i ∧ ∀ l : List Nat, l.length ≤ 24 → (∀ c ∈ l, c < 128) → Q (.dt (.str (tx l))) L
theorem ok_letters {f : Addr} {fd : FuncData} (F : Fun K "_law_letters" "_law_letters" s_law_letters f fd) (T : TxD K mg C) (G_law_at : FnM P w K mg base 2 "_law_at" P_law_at sp_at) : FnOk P w K mg base CX0 3 f fd P_law_letters (lift sp_letters) := by
  refine fnok0 F sc_law_letters (fun as L Q XC h => by obtain ⟨_, _, rfl, _⟩ := h; rfl) ?_
  intro cdv A outer s0 H E hr as L Q XC h
  obtain ⟨d, i, rfl, h0, k⟩ := h
  have hb0 : 0 ≤ lawAt d i % 5 := Int.emod_nonneg _ (by decide)
  have hb1 : lawAt d i % 5 < 5 := Int.emod_lt_of_pos _ (by decide)
  refine mss_cons (ms_set 2 sc_law_letters.nd rfl (by first | exact .inl rfl | exact .inr rfl) (EX.to ex_str ?_))
  refine mss_cons (ms_set 3 sc_law_letters.nd rfl (by first | exact .inl rfl | exact .inr rfl) (EX.to ex_str ?_))
  refine mss_cons (ms_for (tgt := (.n 4)) rfl (ix_range1 (ax_cons (ex_bin (ex_call G_law_at (hr.mono (by decide)) (by rfl) (ax_cons (ex_var 0 rfl rfl (.inl rfl)) (ax_cons (ex_var 1 rfl rfl (.inl rfl)) ax_nil)) ⟨_, _, rfl, by walk_at "sd", rfl, rfl⟩) ex_int (o_mod (by decide))) ax_nil) (by walk_at "sd") (by walk_at "sd") (by rfl) T.m_range) (pgn_name 4 sc_law_letters.nd rfl (by first | exact .inl rfl | exact .inr rfl)) (fun j ρ L' => ∃ l kk, ρ = [some (.dt (.list (d.map PyData.int))), some (.dt (.int i)), some (.dt (.str chars)), some (.dt (.str (tx l))), kk] ∧ L' = L ∧ l.length ≤ j ∧ ∀ c ∈ l, c < 128) ⟨[], none, rfl, rfl, Nat.le_refl _, fun _ h => by cases h⟩ (fun _ _ _ _ _ => trivial) ?_ ?_)
  · intro j y ρ L' hy hI
    obtain ⟨l, kk, rfl, rfl, hl, hc⟩ := hI
    obtain ⟨hj, rfl⟩ := rgY_at hy
    refine ⟨_, rfl, ?_⟩
    obtain ⟨c, hat, hc1⟩ := chars_at (lawAt d (i + 1) + 37 * (0 + (j : Int)))
    have hz : chars.length ≤ sizeLine := Nat.le_of_ble_eq_true (by decide +kernel)
    have hz2 : (tx l).length + (⟨#[c]⟩ : Str).length ≤ sizeLine := by
      have e : (⟨#[c]⟩ : Str).length = 1 := rfl
      rw [tx_len, e, sizeLine_eq]
      omega
    refine mss_cons (ms_set 3 sc_law_letters.nd rfl (by first | exact .inl rfl | exact .inr rfl) (EX.to (ex_bin (ex_var 3 rfl rfl (.inl rfl)) (ex_ix (ex_var 2 rfl rfl (.inl rfl)) (ex_bin (ex_bin (ex_call G_law_at (hr.mono (by decide)) (by rfl) (ax_cons (ex_var 0 rfl rfl (.inl rfl)) (ax_cons (ex_bin (ex_var 1 rfl rfl (.inl rfl)) ex_int (by walk_at "oadd")) ax_nil)) ⟨_, _, rfl, by walk_at "sd", rfl, rfl⟩) (ex_bin ex_int (ex_var 4 rfl rfl (.inl rfl)) (o_mul (.inl (by decide)))) (by walk_at "oadd")) ex_int (o_mod (by decide))) (by walk_at "oix") (fun _ _ => rfl)) (by walk_at "oadd")) ?_))
    refine mss_nil ⟨l ++ [c], some (.dt (.int (0 + (j : Int)))), ?_, rfl, ?_, ?_⟩
    · rw [← tx_cat]
      rfl
    · rw [List.length_append]
      show l.length + 1 ≤ _
      omega
    · intro x hx
      rcases List.mem_append.mp hx with z | z
      · exact hc x z
      · rw [List.mem_singleton.mp z]; exact hc1
  · intro ρ L' hI
    obtain ⟨l, kk, rfl, rfl, hl, hc⟩ := hI
    rw [rgY_len] at hl
    refine mss_cons (ms_ret (EX.to (ex_var 3 rfl rfl (.inl rfl)) ?_))
    exact k l (by omega) hc
end
end K05

set_option Elab.async false
set_option linter.all false
set_option maxRecDepth 100000
set_option maxHeartbeats 4000000
namespace K05
open PySem PySem.Spec PyProof.Rows L2 Cw
/-! ### small closers, each at its own key -/
local macro_rules | `(tactic| walk_at "oadd") => `(tactic| first | exact o_add | exact o_addS (by walk_at "sz") | exact o_cat (by walk_at "ll") (by walk_at "ll") (by walk_at "sz"))
local macro_rules | `(tactic| walk_at "osub") => `(tactic| exact o_sub)
local macro_rules | `(tactic| walk_at "omul") => `(tactic| first | exact o_mul (by walk_at "sd") | exact o_rep (by walk_at "ll") (by walk_at "sd") (by walk_at "sd") (by walk_at "sz"))
local macro_rules | `(tactic| walk_at "odiv") => `(tactic| first | exact o_div (by walk_at "sd") | exact o_divW (by walk_at "sd"))
local macro_rules | `(tactic| walk_at "olt") => `(tactic| exact o_lt)
local macro_rules | `(tactic| walk_at "ole") => `(tactic| exact o_le)
local macro_rules | `(tactic| walk_at "ogt") => `(tactic| exact o_gt)
local macro_rules | `(tactic| walk_at "oge") => `(tactic| exact o_ge)
local macro_rules | `(tactic| walk_at "oeq") => `(tactic| first | exact o_eqI | exact o_eqNI | exact o_eqS | exact o_eqB | exact o_eqR (Room.units (by assumption)) (by walk_at "dr") (by walk_at "dr") (by walk_at "sh") (by walk_at "sh"))
local macro_rules | `(tactic| walk_at "one") => `(tactic| first | exact o_neI | exact o_neS | exact o_neB | exact o_neR (Room.units (by assumption)) (by walk_at "dr") (by walk_at "dr") (by walk_at "sh") (by walk_at "sh"))
local macro_rules | `(tactic| walk_at "ois") => `(tactic| exact o_isN)
local macro_rules | `(tactic| walk_at "oisn") => `(tactic| exact o_notN)
local macro_rules | `(tactic| walk_at "iadd") => `(tactic| exact o_iadd)
local macro_rules | `(tactic| walk_at "isub") => `(tactic| exact o_isub)
local macro_rules | `(tactic| walk_at "lk") => `(tactic| first | assumption | exact updL_same | (refine Eq.trans (updL_ne (by first | assumption | (apply Ne.symm; assumption))) ?_; walk_at "lk"))
local macro_rules | `(tactic| walk_at "ll") => `(tactic| first | exact LL.dt | assumption | exact LL.h (by walk_at "lk"))
local macro_rules | `(tactic| walk_at "lr") => `(tactic| first | exact LL.dt | assumption | exact LR.h (by walk_at "lk"))
local macro_rules | `(tactic| walk_at "dr") => `(tactic| first | exact DD.dt | assumption | exact DD.ofLL (by walk_at "lk"))
local macro_rules | `(tactic| walk_at "sd") => `(tactic| first | omega | assumption | decide)
local macro_rules | `(tactic| walk_at "rg") => `(tactic| first | omega | assumption | decide)
local macro_rules | `(tactic| walk_at "sz") => `(tactic| first | assumption | (rw [sizeLine_eq]; first | omega | (simp; omega)))
local macro_rules | `(tactic| walk_at "osl") => `(tactic| first | exact s_str (by walk_at "sz") | exact s_lst (by walk_at "ll"))
local macro_rules | `(tactic| walk_at "c_len") => `(tactic| first | exact c_lenT | exact c_lenS (by walk_at "sz") | exact c_lenL (by walk_at "ll") | exact c_lenR (by walk_at "lr") | exact c_lenF (by assumption))
local macro_rules | `(tactic| walk_at "c_int") => `(tactic| first | exact c_int | exact c_intB)
local macro_rules | `(tactic| walk_at "c_min") => `(tactic| exact c_min rfl)
local macro_rules | `(tactic| walk_at "c_max") => `(tactic| exact c_max rfl)
local macro_rules | `(tactic| walk_at "c_ord") => `(tactic| exact c_ord (by walk_at "sz"))
local macro_rules | `(tactic| walk_at "c_list") => `(tactic| first | exact c_listT | exact c_list (by walk_at "ll") | exact c_listF (by assumption))
local macro_rules | `(tactic| walk_at "c_tuple") => `(tactic| first | exact c_tupleT | exact c_tuple (by walk_at "ll"))
local macro_rules | `(tactic| walk_at "c_isinstance") => `(tactic| exact c_isi (by walk_at "dr") (by decide))
local macro_rules | `(tactic| walk_at "few") => `(tactic| first | decide | exact Nat.le_of_ble_eq_true rfl | (rw [sizeLine_eq]; exact Nat.le_of_ble_eq_true rfl) | assumption)
local macro_rules | `(tactic| walk_at "fl") => `(tactic| first | assumption | rfl)
local macro_rules | `(tactic| walk_at "nf") => `(tactic| first | rfl | decide +kernel)
local macro_rules | `(tactic| walk_at "at") => `(tactic| first | assumption | rfl | exact atI_nat (by assumption))
local macro_rules | `(tactic| walk_at "oix") => `(tactic| first | exact i_tup (by walk_at "at") | exact i_lst (by walk_at "ll") (by walk_at "at") | exact i_lstR (by walk_at "lr") (by walk_at "at") | exact i_str (by walk_at "sz") (by walk_at "at") | exact i_lstF (by assumption) (by walk_at "at"))
local macro_rules | `(tactic| walk_at "ixn") => `(tactic| first | assumption | rfl)
local macro_rules | `(tactic| walk_at "okd") => `(tactic| first | rfl | assumption)
local macro_rules | `(tactic| walk_at "wr") => `(tactic| first | assumption | omega)
local macro_rules | `(tactic| walk_at "shn") => `(tactic| first | exact fun z => absurd z (by assumption) | exact fun z => absurd rfl z | exact fun _ => ⟨rfl, rfl⟩)
local macro_rules | `(tactic| walk_at "onin") => `(tactic| exact o_notIn2S)
local macro_rules | `(tactic| walk_at "okp") => `(tactic| first | assumption | exact nxt_p (by walk_at "okp"))
local macro_rules | `(tactic| walk_at "c_all") => `(tactic| exact c_all rfl (by walk_at "ll"))
local macro_rules | `(tactic| walk_at "c_sum") => `(tactic| exact c_sum rfl (by walk_at "ll"))
local macro_rules | `(tactic| walk_at "c_sorted") => `(tactic| exact c_sortedS (by walk_at "ll") (by walk_at "sz"))

section
variable {Y : Cm} {e : Expr} {es : List Expr} {ρ : Rho} {L L1 : Led} {r : Rv}
theorem ma_ex {K : List Rv → Led → Prop} (h : EX Y e ρ L r L1) (t : MA Y es ρ L1 fun rs L2 => K (r :: rs) L2) (hs : starEach (e :: es) Y.X.env = (false, eval e Y.X.env) :: starEach es Y.X.env := by rfl) : MA Y (e :: es) ρ L K := ma_cons h (fun r' L' ⟨e1, e2⟩ => by rw [e1, e2]; exact t) hs
theorem ma_last {K : List Rv → Led → Prop} (h : ME Y e ρ L fun r L' => K [r] L') (hs : starEach [e] Y.X.env = [(false, eval e Y.X.env)] := by rfl) : MA Y [e] ρ L K := ma_cons h (fun r' L' k => MA.imp ax_nil fun rs L2 ⟨e1, e2⟩ => by rw [e1, e2]; exact k) hs
theorem ma_ax {rs : List Rv} {K : List Rv → Led → Prop} (h : AX Y es ρ L rs L1) (k : K rs L1) : MA Y es ρ L K := MA.imp h fun rs' L' ⟨e1, e2⟩ => by rw [e1, e2]; exact k
end
/-! ### a deed more -/
theorem row_has {m : Str} {rows : List (List Deed)} {b : Mk} (W : Wf rows) (h : b ∈ (rowL m rows).map (·.1)) : Has m rows b := by
  rw [← acc_all] at h
  have h1 := (accL_perm (removed m rows) (srt m rows) (srt m rows).length).mem_iff.mp h
  rw [List.take_length] at h1
  obtain ⟨y, hy, rfl⟩ := List.mem_map.mp h1
  exact (found_has W (srt_mem.mp hy)).1
theorem rowL_len {m : Str} {rows : List (List Deed)} (W : Wf rows) : (rowL m rows).length ≤ 24000 := by
  rw [← acc_all]
  exact acc_le W _
theorem pick {ps : List Mk} (h : 0 < ps.length) (z : Int) : ∃ p, p ∈ ps ∧ atI (ps.map mkD) (z % ((ps.map mkD).length : Int)) = some (mkD p) := by
  rw [List.length_map]
  have h0 : 0 ≤ z % (ps.length : Int) := Int.emod_nonneg _ (by omega)
  have h1 : z % (ps.length : Int) < ps.length := Int.emod_lt_of_pos _ (by omega)
  have h2 : (z % (ps.length : Int)).toNat < ps.length := by omega
  exact ⟨_, List.getElem_mem h2, atI_int h0 (by rw [List.getElem?_map, List.getElem?_eq_getElem h2]; rfl)⟩
theorem has_lt {m : Str} {rows : List (List Deed)} {b : Mk} {B : Int} (hB : Bd B rows) (h : Has m rows b) : b.1 + 1 ≤ B := by
  obtain ⟨r, row, rm, bh, n, l, i, h1, h2, h3, rfl⟩ := h
  have := hB row (List.mem_of_getElem? h1) m rm bh n l h2
  show n + (i : Int) + 1 ≤ B
  omega
abbrev stepMax : Int := 6
def NewDeed (rows : List (List Deed)) (r : Nat) (B : Int) : Deed → Prop
  | .back p => 1 ≤ p ∧ p ≤ ((rows.getD r []).length : Int)
  | .change m rm bh n l => m ∈ mods ∧ rm.length ≤ 3 ∧ (∀ p ∈ rm, Has m rows p ∧ p.1 < n) ∧ (∀ p, bh = some p → Has m rows p ∧ p.1 < n) ∧ 1 ≤ n ∧ (∀ m' rm' bh' n' l', Deed.change m' rm' bh' n' l' ∈ rows.getD r [] → n' + (l'.length : Int) ≤ n) ∧ n ≤ B + stepMax ∧ l.length ≤ 24 ∧ ∀ c ∈ l, c < 128
theorem steps_at (z : Int) : ∃ s : Int, atI [PyData.int 0, .int 0, .int 1, .int 5] (z % 4) = some (.int s) ∧ 0 ≤ s ∧ s ≤ 5 := by
  have h0 : 0 ≤ z % 4 := Int.emod_nonneg _ (by decide)
  have h1 : z % 4 < 4 := Int.emod_lt_of_pos _ (by decide)
  generalize z % 4 = q at h0 h1
  obtain ⟨n, rfl⟩ : ∃ n : Nat, q = n := ⟨q.toNat, by omega⟩
  have h2 : n = 0 ∨ n = 1 ∨ n = 2 ∨ n = 3 := by omega
  rcases h2 with rfl | rfl | rfl | rfl
  · exact ⟨0, atI_nat rfl, by decide, by decide⟩
  · exact ⟨0, atI_nat rfl, by decide, by decide⟩
  · exact ⟨1, atI_nat rfl, by decide, by decide⟩
  · exact ⟨5, atI_nat rfl, by decide, by decide⟩
section
variable {P : Program} {w : World} {K : PySem.W.Frag} {mg : Str → Option Value} {base : Heap} {C : Addr}
def sp_deed (Tb : Addr) (tq : Str) : Fs := fun as L Q _ => ∃ (d : List Int) (i : Int) (r : Rv) (rows : List (List Deed)) (rp B : Int), as = [.dt (.list (d.map PyData.int)), .dt (.int i), r, .dt (.int rp)] ∧ 0 ≤ i ∧ RowsAt L r rows ∧ Wf rows ∧ Bd B rows ∧ 0 ≤ B ∧ 0 ≤ rp ∧ rp < 8 ∧ L Tb = some (.tab tq) ∧ ∀ deed, NewDeed rows rp.toNat B deed → ∀ L', Le L L' → Q (.dt (deedD deed)) L'
theorem ok_deed {f : Addr} {fd : FuncData} {Tb : Addr} {tq : Str} (F : Fun K "_law_deed" "_law_deed" s_law_deed f fd) (T : TxD K mg C) (G_law_at : FnM P w K mg base 2 "_law_at" P_law_at sp_at) (G_law_modules : FnM P w K mg base 1 "_law_modules" P_law_modules sp_modules) (G_law_row' : FnM P w K mg base 3 "_law_row" P_law_row (sp_lrow Tb tq)) (G_law_last : FnM P w K mg base 1 "_law_last" P_law_last sp_last) (G_law_letters : FnM P w K mg base 3 "_law_letters" P_law_letters sp_letters) : FnOk P w K mg base CX0 4 f fd P_law_deed (lift (sp_deed Tb tq)) := by
  have G_law_row := G_law_row'.forget
  refine fnok0 F sc_law_deed (fun as L Q XC h => by obtain ⟨_, _, _, _, _, _, rfl, _⟩ := h; rfl) ?_
  intro cdv A outer s0 H E hr as L Q XC h
  obtain ⟨d, i, r, rows, rp, B, rfl, hi0, hR, W, hB, hB0, h0, h8, hTb, k⟩ := h
  obtain ⟨rs, hrs, hlen, hat0⟩ := hR.at_
  obtain ⟨x, hx1, hx2⟩ := hat0 rp.toNat (by rw [W.len]; omega)
  have hat : atI rs rp = some x := atI_int h0 hx1
  have hRow := W.at_ rp.toNat
  have hrow : rows[rp.toNat]? = some (rows.getD rp.toNat []) := by rw [List.getD_eq_getElem?_getD, List.getElem?_eq_getElem (by rw [W.len]; omega)]; rfl
  have hmem := List.mem_of_getElem? hrow
  unfold NewDeed at k
  generalize rows.getD rp.toNat [] = row at *
  have hBrow := hB row hmem
  refine mss_cons (ms_set 4 sc_law_deed.nd rfl (by first | exact .inl rfl | exact .inr rfl) (EX.to (ex_ix (ex_var 2 rfl rfl (.inl rfl)) (ex_var 3 rfl rfl (.inl rfl)) (by walk_at "oix") (fun _ _ => rfl)) ?_))
  refine mss_cons (ms_ifx (tx_w (wx_and (tx_cmp (ex_bin (ex_call G_law_at (hr.mono (by decide)) (by rfl) (ax_cons (ex_var 0 rfl rfl (.inl rfl)) (ax_cons (ex_var 1 rfl rfl (.inl rfl)) ax_nil)) ⟨_, _, rfl, by walk_at "sd", rfl, rfl⟩) ex_int (o_mod (by decide))) ex_int (by walk_at "oeq") (nomark _)) (fun _ => (wx_and1 (tx_cmp (ex_callB (ax_cons (ex_var 4 rfl rfl (.inl rfl)) ax_nil) (by walk_at "c_len") (by rfl) T.m_len PySem.boot_len) ex_int (by walk_at "ogt") (nomark _)))))) (fun hT => ?_) (fun hF => ?_))
  · simp only [Bool.and_eq_true, decide_eq_true_iff] at hT
    have hpos : 0 < ((row.map deedD).length : Int) := hT.2
    refine mss_cons (ms_ret (EX.to (ex_tup (ad_cons ex_str (ad_cons (ex_bin ex_int (ex_bin (ex_call G_law_at (hr.mono (by decide)) (by rfl) (ax_cons (ex_var 0 rfl rfl (.inl rfl)) (ax_cons (ex_bin (ex_var 1 rfl rfl (.inl rfl)) ex_int (by walk_at "oadd")) ax_nil)) ⟨_, _, rfl, by walk_at "sd", rfl, rfl⟩) (ex_callB (ax_cons (ex_var 4 rfl rfl (.inl rfl)) ax_nil) (by walk_at "c_len") (by rfl) T.m_len PySem.boot_len) (o_mod (by walk_at "sd"))) (by walk_at "oadd")) ad_nil)) (by walk_at "few")) ?_))
    refine k (.back (1 + lawAt d (i + 1) % ((row.map deedD).length : Int))) ?_ _ (Le.refl _)
    have b0 := Int.emod_nonneg (lawAt d (i + 1)) (show ((row.map deedD).length : Int) ≠ 0 by omega)
    have b1 := Int.emod_lt_of_pos (lawAt d (i + 1)) hpos
    rw [List.length_map] at b0 b1 ⊢
    exact ⟨by omega, by omega⟩
  · clear hF
    have hml : (mods.length : Int) = 4 := by decide +kernel
    obtain ⟨m, hm, hatm⟩ := mods_at (z := lawAt d (i + 1) % 16 / 5) (by omega) (by omega)
    refine mss_nil (mss_cons (ms_set 5 sc_law_deed.nd rfl (by first | exact .inl rfl | exact .inr rfl) (EX.to (ex_ix (ex_call0 G_law_modules (hr.mono (by decide)) (by rfl) ⟨rfl, rfl, rfl⟩) (ex_bin (ex_bin (ex_call G_law_at (hr.mono (by decide)) (by rfl) (ax_cons (ex_var 0 rfl rfl (.inl rfl)) (ax_cons (ex_bin (ex_var 1 rfl rfl (.inl rfl)) ex_int (by walk_at "oadd")) ax_nil)) ⟨_, _, rfl, by walk_at "sd", rfl, rfl⟩) ex_int (o_mod (by decide))) ex_int (o_div ⟨by decide, by decide⟩)) (by walk_at "oix") (fun _ _ => rfl)) ?_)))
    refine mss_cons (ms_setlcp (i := 6) (tgt := (.n 13)) (own := [("each", 13)]) fst0 (by rfl) sc_law_deed.nd rfl rfl (by rfl) (ix_data (ex_call G_law_row (hr.mono (by decide)) (by rfl) (ax_cons (ex_var 2 rfl rfl (.inl rfl)) (ax_cons (ex_var 5 rfl rfl (.inl rfl)) ax_nil)) ⟨r, rows, m, rfl, hR, W, hTb, fun L' l => ⟨_, l, rfl, rfl⟩⟩)) trivial (blkOk_by (by rfl)) rfl (fun s H C cl fp => (pgn_name 13 sc_law_deed.nd rfl (by first | exact .inl rfl | exact .inr rfl))) (by rw [List.length_map, List.length_map, sizeLine_eq]; have := rowL_len (m := m) W; omega) (fun j y hy => ?_) ?_)
    · rw [List.getElem?_map, List.getElem?_map] at hy
      cases he : (rowL m rows)[j]? with
      | none => rw [he] at hy; cases hy
      | some e =>
        rw [he] at hy
        cases hy
        exact ⟨_, rfl, fun s H C cl fp => (ex_ix (ex_var 13 rfl rfl (by first | exact .inl rfl | exact .inr (.inl rfl) | exact .inr (.inr rfl))) ex_int (by walk_at "oix") (fun _ _ => rfl))⟩
    have emk : (((rowL m rows).map entD).map fun d => Yd.r (.dt d)).map fst0 = ((rowL m rows).map (·.1)).map mkD := by
      simp only [List.map_map]
      rfl
    rw [emk]
    have hmk : ∀ p ∈ (rowL m rows).map (·.1), Has m rows p := fun p hp => row_has W hp
    generalize (rowL m rows).map (·.1) = marks at hmk
    clear emk
    refine mss_cons (ms_set 7 sc_law_deed.nd rfl (.inl rfl) (me_lst0 fun o hot => ?_))
    have hb0 : 0 ≤ lawAt d (i + 2) % 4 := Int.emod_nonneg _ (by decide)
    have hb1 : lawAt d (i + 2) % 4 < 4 := Int.emod_lt_of_pos _ (by decide)
    refine mss_cons (ms_for (tgt := (.n 8)) rfl (ix_range1 (ax_cons (ex_bin (ex_call G_law_at (hr.mono (by decide)) (by rfl) (ax_cons (ex_var 0 rfl rfl (.inl rfl)) (ax_cons (ex_bin (ex_var 1 rfl rfl (.inl rfl)) ex_int (by walk_at "oadd")) ax_nil)) ⟨_, _, rfl, by walk_at "sd", rfl, rfl⟩) ex_int (o_mod (by decide))) ax_nil) (by walk_at "sd") (by walk_at "sd") (by rfl) T.m_range) (pgn_name 8 sc_law_deed.nd rfl (by first | exact .inl rfl | exact .inr rfl)) (fun j ρ L' => ∃ rm kk, ρ = [some (.dt (.list (d.map PyData.int))), some (.dt (.int i)), some r, some (.dt (.int rp)), some x, some (.dt (.str m)), some (.dt (.list (marks.map mkD))), some (.vl (.ref o)), kk, none, none, none, none, none] ∧ L' = updL L o (.lst (dts (rm.map mkD))) ∧ rm.length ≤ j ∧ ∀ p ∈ rm, p ∈ marks) ⟨[], none, rfl, rfl, Nat.le_refl _, fun _ h => by cases h⟩ (fun _ _ _ _ _ => trivial) ?_ ?_)
    · intro j y ρ L' hy hI
      obtain ⟨rm, kk, rfl, rfl, hrl, hrm⟩ := hI
      obtain ⟨hj, rfl⟩ := rgY_at hy
      refine ⟨_, rfl, ?_⟩
      have ho : updL L o (.lst (dts (rm.map mkD))) o = some (.lst (dts (rm.map mkD))) := updL_same
      have hz1 : (dts (rm.map mkD)).length < sizeLine := by rw [List.length_map, List.length_map, sizeLine_eq]; omega
      refine mss_cons (ms_ifx (tx_cmp (ex_callB (ax_cons (ex_var 6 rfl rfl (.inl rfl)) ax_nil) (by walk_at "c_len") (by rfl) T.m_len PySem.boot_len) ex_int (by walk_at "ogt") (nomark _)) (fun hT => ?_) (fun hF => ?_))
      · have hpos : 0 < ((marks.map mkD).length : Int) := of_decide_eq_true hT
        obtain ⟨p, hp, hatp⟩ := pick (ps := marks) (by rw [List.length_map] at hpos; omega) (lawAt d (i + 3 + (0 + (j : Int))))
        refine mss_cons (ms_expr (EX.to (ex_append (ex_var 7 rfl rfl (.inl rfl)) (by walk_at "lk") (ex_ix (ex_var 6 rfl rfl (.inl rfl)) (ex_bin (ex_call G_law_at (hr.mono (by decide)) (by rfl) (ax_cons (ex_var 0 rfl rfl (.inl rfl)) (ax_cons (ex_bin (ex_bin (ex_var 1 rfl rfl (.inl rfl)) ex_int (by walk_at "oadd")) (ex_var 8 rfl rfl (.inl rfl)) (by walk_at "oadd")) ax_nil)) ⟨_, _, rfl, by walk_at "sd", rfl, rfl⟩) (ex_callB (ax_cons (ex_var 6 rfl rfl (.inl rfl)) ax_nil) (by walk_at "c_len") (by rfl) T.m_len PySem.boot_len) (o_mod (by walk_at "sd"))) (by walk_at "oix") (fun _ _ => rfl)) (by walk_at "lk") (by walk_at "sz")) ?_))
        refine mss_nil (mss_nil ⟨rm ++ [p], some (.dt (.int (0 + (j : Int)))), rfl, ?_, ?_, ?_⟩)
        · rw [updL_updL]
          congr 2
          simp [dts]
        · rw [List.length_append]
          show rm.length + 1 ≤ _
          omega
        · intro q hq
          rcases List.mem_append.mp hq with z | z
          · exact hrm q z
          · rw [List.mem_singleton.mp z]; exact hp
      · exact mss_nil (mss_nil ⟨rm, some (.dt (.int (0 + (j : Int)))), rfl, rfl, by omega, hrm⟩)
    · intro ρ L' hI
      obtain ⟨rm, kk, rfl, rfl, hrl, hrm⟩ := hI
      rw [rgY_len] at hrl
      have hrl3 : rm.length ≤ 3 := by omega
      have lU : Le L (updL L o (.lst (dts (rm.map mkD)))) := le_upd hot
      have hol : LL (updL L o (.lst (dts (rm.map mkD)))) (.vl (.ref o)) (rm.map mkD) := LL.h updL_same
      have hx3 := hx2.le lU
      have hR3 := hR.le lU
      generalize updL L o (.lst (dts (rm.map mkD))) = L2 at *
      -- behind the choice of a character
      have rest : ∀ bh : Option Mk, (∀ p, bh = some p → p ∈ marks) → MSs (y0 P w K mg base N_law_deed "_law_deed" (defScope s_law_deed) f cdv A outer s0 H E) ((defBody s_law_deed).drop 8) (fun x L' => Q (.dt .none) L') { rt := Q }
          [some (.dt (.list (d.map PyData.int))), some (.dt (.int i)), some r, some (.dt (.int rp)), some x, some (.dt (.str m)), some (.dt (.list (marks.map mkD))), some (.vl (.ref o)), kk, some (.dt (obD bh)), none, none, none, none] L2 := by
        intro bh hbh
        refine mss_cons (ms_set 10 sc_law_deed.nd rfl (by first | exact .inl rfl | exact .inr rfl) (EX.to ex_int ?_))
        have eobs : rm.map mkD ++ [obD bh] = (rm.map some ++ [bh]).map obD := by simp [Function.comp_def]
        have hos : ∀ p, some p ∈ rm.map some ++ [bh] → p.1 + 1 ≤ B := by
          intro p hp
          rcases List.mem_append.mp hp with z | z
          · obtain ⟨q, hq, e⟩ := List.mem_map.mp z
            cases e
            exact has_lt hB (hmk p (hrm p hq))
          · exact has_lt hB (hmk p (hbh p (List.mem_singleton.mp z).symm))
        have hn1 : ∀ p, p ∈ rm → p.1 + 1 ≤ (rm.map some ++ [bh]).foldl upM 1 := fun p hp => upM_mem (List.mem_append.mpr (.inl (List.mem_map.mpr ⟨p, hp, rfl⟩)))
        have hn2 : ∀ p, bh = some p → p.1 + 1 ≤ (rm.map some ++ [bh]).foldl upM 1 := fun p hp => upM_mem (List.mem_append.mpr (.inr (List.mem_singleton.mpr hp.symm)))
        have hn3 : (rm.map some ++ [bh]).foldl upM 1 ≤ B + 1 := upM_le (by omega) fun p hp => by have := hos p hp; omega
        have hn4 : 1 ≤ (rm.map some ++ [bh]).foldl upM 1 := upM_ge
        refine mss_cons (ms_for (tgt := (.n 11)) rfl (ix_data (ex_bin (ex_var 7 rfl rfl (.inl rfl)) (ex_lst (ad_cons (ex_var 9 rfl rfl (.inl rfl)) ad_nil) (by walk_at "few")) (by walk_at "oadd"))) (pgn_name 11 sc_law_deed.nd rfl (by first | exact .inl rfl | exact .inr rfl)) (fun j ρ L' => ∃ ma, ρ = [some (.dt (.list (d.map PyData.int))), some (.dt (.int i)), some r, some (.dt (.int rp)), some x, some (.dt (.str m)), some (.dt (.list (marks.map mkD))), some (.vl (.ref o)), kk, some (.dt (obD bh)), some (.dt (.int (((rm.map some ++ [bh]).take j).foldl upM 1))), ma, none, none] ∧ L' = L2) ⟨none, rfl, rfl⟩ (fun _ _ _ _ _ => trivial) ?_ ?_)
        · intro j y ρ L' hy hI
          obtain ⟨ma, rfl, rfl⟩ := hI
          rw [eobs, List.getElem?_map, List.getElem?_map] at hy
          cases ho : (rm.map some ++ [bh])[j]? with
          | none => rw [ho] at hy; cases hy
          | some ob =>
            rw [ho] at hy
            cases hy
            rw [fold_take 1 ho]
            generalize ((rm.map some ++ [bh]).take j).foldl upM 1 = a
            refine ⟨_, rfl, ?_⟩
            cases ob with
            | none =>
              refine mss_cons (ms_ifx (tx_cmp (ex_var 11 rfl rfl (.inl rfl)) ex_non (by walk_at "oisn") (nomark _)) (fun hT => ?_) (fun hF => ?_))
              · exact absurd hT (by decide)
              · exact mss_nil (mss_nil ⟨_, rfl, rfl⟩)
            | some p =>
              refine mss_cons (ms_ifx (tx_cmp (ex_var 11 rfl rfl (.inl rfl)) ex_non (by walk_at "oisn") (nomark _)) (fun hT => ?_) (fun hF => ?_))
              · refine mss_cons (ms_set 10 sc_law_deed.nd rfl (by first | exact .inl rfl | exact .inr rfl) (EX.to (ex_callB (ax_cons (ex_var 10 rfl rfl (.inl rfl)) (ax_cons (ex_bin (ex_ix (ex_var 11 rfl rfl (.inl rfl)) ex_int (by walk_at "oix") (fun _ _ => rfl)) ex_int (by walk_at "oadd")) ax_nil)) (by walk_at "c_max") (by rfl) T.m_max (by decide +kernel)) ?_))
                exact mss_nil (mss_nil ⟨some (.dt (obD (some p))), rfl, rfl⟩)
              · exact absurd hF (by simp [isNone])
        · intro ρ L' hI
          obtain ⟨ma, rfl, rfl⟩ := hI
          rw [eobs, List.length_map, List.length_map, List.take_length]
          generalize (rm.map some ++ [bh]).foldl upM 1 = n0 at *
          have hu1 : n0 ≤ upR n0 row := upR_ge
          have hu2 : upR n0 row ≤ B + 1 := upR_le (by omega) fun m rm bh n l h => by have := hBrow m rm bh n l h; omega
          have hu3 : ∀ m' rm' bh' n' l', Deed.change m' rm' bh' n' l' ∈ row → n' + (l'.length : Int) ≤ upR n0 row := fun _ _ _ _ _ h => upR_mem h
          refine mss_cons (ms_for (tgt := (.n 12)) rfl (ix_lr (ex_var 4 rfl rfl (.inl rfl)) hx3) (pgn_name 12 sc_law_deed.nd rfl (by first | exact .inl rfl | exact .inr rfl)) (fun j ρ L2 => ∃ de, ρ = [some (.dt (.list (d.map PyData.int))), some (.dt (.int i)), some r, some (.dt (.int rp)), some x, some (.dt (.str m)), some (.dt (.list (marks.map mkD))), some (.vl (.ref o)), kk, some (.dt (obD bh)), some (.dt (.int ((row.take j).foldl up n0))), ma, de, none] ∧ L2 = L') ⟨none, rfl, rfl⟩ (fun _ _ _ _ ⟨_, _, e⟩ => by rw [e]; exact hx3) ?_ ?_)
          · intro j y ρ L2 hy hI
            obtain ⟨de, rfl, rfl⟩ := hI
            rw [List.getElem?_map, List.getElem?_map, List.getElem?_map] at hy
            cases hd : row[j]? with
            | none => rw [hd] at hy; cases hy
            | some dd =>
              rw [hd] at hy
              cases hy
              have hdo := hRow.2.1 dd (List.mem_of_getElem? hd)
              rw [fold_take n0 hd]
              generalize (row.take j).foldl up n0 = a
              refine ⟨_, rfl, ?_⟩
              cases dd with
              | back p =>
                refine mss_cons (ms_ifx (tx_cmp (ex_ix (ex_var 12 rfl rfl (.inl rfl)) ex_int (by walk_at "oix") (fun _ _ => rfl)) ex_str (by walk_at "oeq") (nomark _)) (fun hT => ?_) (fun hF => ?_))
                · exact absurd hT (by decide +kernel)
                · exact mss_nil (mss_nil ⟨_, rfl, rfl⟩)
              | change m' rm' bh' n l =>
                have hz : (tx l).length ≤ sizeLine := by rw [tx_len, sizeLine_eq]; have := hdo.2.1; omega
                refine mss_cons (ms_ifx (tx_cmp (ex_ix (ex_var 12 rfl rfl (.inl rfl)) ex_int (by walk_at "oix") (fun _ _ => rfl)) ex_str (by walk_at "oeq") (nomark _)) (fun hT => ?_) (fun hF => ?_))
                · refine mss_cons (ms_set 10 sc_law_deed.nd rfl (by first | exact .inl rfl | exact .inr rfl) (EX.to (ex_callB (ax_cons (ex_var 10 rfl rfl (.inl rfl)) (ax_cons (ex_bin (ex_ix (ex_var 12 rfl rfl (.inl rfl)) ex_int (by walk_at "oix") (fun _ _ => rfl)) (ex_callB (ax_cons (ex_ix (ex_var 12 rfl rfl (.inl rfl)) ex_int (by walk_at "oix") (fun _ _ => rfl)) ax_nil) (by walk_at "c_len") (by rfl) T.m_len PySem.boot_len) (by walk_at "oadd")) ax_nil)) (by walk_at "c_max") (by rfl) T.m_max (by decide +kernel)) ?_))
                  refine mss_nil (mss_nil ⟨some (.dt (deedD (.change m' rm' bh' n l))), ?_, rfl⟩)
                  rw [tx_len]
                  rfl
                · exact absurd hF (by decide +kernel)
          · intro ρ L2 hI
            obtain ⟨de, rfl, rfl⟩ := hI
            rw [List.length_map, List.length_map, List.length_map, List.take_length]
            have eU : row.foldl up n0 = upR n0 row := rfl
            rw [eU]
            generalize upR n0 row = n1 at *
            obtain ⟨s, hs, s0', s5⟩ := steps_at (lawAt d (i + 8))
            refine mss_cons (ms_set 10 sc_law_deed.nd rfl (by first | exact .inl rfl | exact .inr rfl) (EX.to (ex_bin (ex_var 10 rfl rfl (.inl rfl)) (ex_ix (ex_lst (ad_cons ex_int (ad_cons ex_int (ad_cons ex_int (ad_cons ex_int ad_nil)))) (by walk_at "few")) (ex_bin (ex_call G_law_at (hr.mono (by decide)) (by rfl) (ax_cons (ex_var 0 rfl rfl (.inl rfl)) (ax_cons (ex_bin (ex_var 1 rfl rfl (.inl rfl)) ex_int (by walk_at "oadd")) ax_nil)) ⟨_, _, rfl, by walk_at "sd", rfl, rfl⟩) ex_int (o_mod (by decide))) (by walk_at "oix") (fun _ _ => rfl)) (by walk_at "oadd")) ?_))
            -- the end
            have fin : ∀ n : Int, n1 ≤ n → n ≤ B + 6 → MSs (y0 P w K mg base N_law_deed "_law_deed" (defScope s_law_deed) f cdv A outer s0 H E) ((defBody s_law_deed).drop 13) (fun x L' => Q (.dt .none) L') { rt := Q }
                [some (.dt (.list (d.map PyData.int))), some (.dt (.int i)), some r, some (.dt (.int rp)), some x, some (.dt (.str m)), some (.dt (.list (marks.map mkD))), some (.vl (.ref o)), kk, some (.dt (obD bh)), some (.dt (.int n)), ma, de, none] L2 := by
              intro n hnl hnu
              refine mss_cons (ms_ret (me_tup (ds := []) (ma_ex ex_str (ma_ex (ex_var 5 rfl rfl (.inl rfl)) (ma_ex (ex_callTy (ax_cons (ex_var 7 rfl rfl (.inl rfl)) ax_nil) (by walk_at "c_tuple") (by rfl) T.m_tuple (by decide +kernel)) (ma_ex (ex_var 9 rfl rfl (.inl rfl)) (ma_ex (ex_var 10 rfl rfl (.inl rfl)) (ma_last (me_call G_law_letters (hr.mono (by decide)) (by rfl) (ma_ax (ax_cons (ex_var 0 rfl rfl (.inl rfl)) (ax_cons (ex_bin (ex_var 1 rfl rfl (.inl rfl)) ex_int (by walk_at "oadd")) ax_nil)) ⟨d, _, rfl, by omega, fun l hl hc => ?_⟩))))))))))
              refine ⟨[.str "change", .str m, .tuple (rm.map mkD), obD bh, .int n, .str (tx l)], rfl, by rw [sizeLine_eq]; exact (by decide : 6 ≤ 16777216), ?_⟩
              exact k (.change m rm bh n l) ⟨hm, hrl3, fun p hp => ⟨hmk p (hrm p hp), by have := hn1 p hp; omega⟩, fun p hp => ⟨hmk p (hbh p hp), by have := hn2 p hp; omega⟩, by omega, fun m' rm' bh' n' l' h => by have := hu3 m' rm' bh' n' l' h; omega, hnu, hl, hc⟩ _ lU
            refine mss_cons (ms_ifx (tx_cmp (ex_bin (ex_bin (ex_call G_law_at (hr.mono (by decide)) (by rfl) (ax_cons (ex_var 0 rfl rfl (.inl rfl)) (ax_cons (ex_bin (ex_var 1 rfl rfl (.inl rfl)) ex_int (by walk_at "oadd")) ax_nil)) ⟨_, _, rfl, by walk_at "sd", rfl, rfl⟩) ex_int (o_div ⟨by decide, by decide⟩)) ex_int (o_mod (by decide))) ex_int (by walk_at "oeq") (nomark _)) (fun hT => ?_) (fun hF => ?_))
            · have hl := last_le hB0 hB
              refine mss_cons (ms_set 10 sc_law_deed.nd rfl (by first | exact .inl rfl | exact .inr rfl) (EX.to (ex_callB (ax_cons (ex_var 10 rfl rfl (.inl rfl)) (ax_cons (ex_bin (ex_call G_law_last (hr.mono (by decide)) (by rfl) (ax_cons (ex_var 2 rfl rfl (.inl rfl)) ax_nil) ⟨r, rows, rfl, hR3, fun row hr => (W.ok row hr).2.1, rfl, rfl⟩) ex_int (by walk_at "oadd")) ax_nil)) (by walk_at "c_max") (by rfl) T.m_max (by decide +kernel)) ?_))
              exact mss_nil (fin (mx (n1 + s) (lastL rows + 1)) (Int.le_trans (by omega) (mx_l _ _)) (mx_le (by omega) (by omega)))
            · exact mss_nil (fin (n1 + s) (by omega) (by omega))
      refine mss_cons (ms_set 9 sc_law_deed.nd rfl (by first | exact .inl rfl | exact .inr rfl) (EX.to ex_non ?_))
      refine mss_cons (ms_ifx (tx_w (wx_and (tx_cmp (ex_callB (ax_cons (ex_var 6 rfl rfl (.inl rfl)) ax_nil) (by walk_at "c_len") (by rfl) T.m_len PySem.boot_len) ex_int (by walk_at "ogt") (nomark _)) (fun _ => (wx_and1 (tx_cmp (ex_bin (ex_call G_law_at (hr.mono (by decide)) (by rfl) (ax_cons (ex_var 0 rfl rfl (.inl rfl)) (ax_cons (ex_bin (ex_var 1 rfl rfl (.inl rfl)) ex_int (by walk_at "oadd")) ax_nil)) ⟨_, _, rfl, by walk_at "sd", rfl, rfl⟩) ex_int (o_mod (by decide))) ex_int (by walk_at "one") (nomark _)))))) (fun hT => ?_) (fun hF => ?_))
      · simp only [Bool.and_eq_true, decide_eq_true_iff] at hT
        have hpos : 0 < ((marks.map mkD).length : Int) := hT.1
        obtain ⟨p, hp, hatp⟩ := pick (ps := marks) (by rw [List.length_map] at hpos; omega) (lawAt d (i + 7) / 5)
        refine mss_cons (ms_set 9 sc_law_deed.nd rfl (by first | exact .inl rfl | exact .inr rfl) (EX.to (ex_ix (ex_var 6 rfl rfl (.inl rfl)) (ex_bin (ex_bin (ex_call G_law_at (hr.mono (by decide)) (by rfl) (ax_cons (ex_var 0 rfl rfl (.inl rfl)) (ax_cons (ex_bin (ex_var 1 rfl rfl (.inl rfl)) ex_int (by walk_at "oadd")) ax_nil)) ⟨_, _, rfl, by walk_at "sd", rfl, rfl⟩) ex_int (o_div ⟨by decide, by decide⟩)) (ex_callB (ax_cons (ex_var 6 rfl rfl (.inl rfl)) ax_nil) (by walk_at "c_len") (by rfl) T.m_len PySem.boot_len) (o_mod (by walk_at "sd"))) (by walk_at "oix") (fun _ _ => rfl)) ?_))
        exact mss_nil (rest (some p) fun q e => by cases e; exact hp)
      · exact mss_nil (rest none fun q e => by cases e)
end
end K05

set_option Elab.async false
set_option linter.all false
set_option maxRecDepth 100000
set_option maxHeartbeats 4000000
namespace K05
open PySem PySem.Spec PyProof.Rows L2 Cw
/-! ### rows that grow -/
abbrev Tri := Nat × Nat × Deed
@[reducible] def trD (t : Tri) : PyData := .tuple [.int (t.1 : Int), .int (t.2.1 : Int), deedD t.2.2]
def addR (rows : List (List Deed)) (r : Nat) (d : Deed) : List (List Deed) := rows.set r (rows.getD r [] ++ [d])
def rowsTo (ts : List Tri) : List (List Deed) := ts.foldl (fun rows t => addR rows t.1 t.2.2) (List.replicate 8 [])
theorem rowsTo_snoc (ts : List Tri) (t : Tri) : rowsTo (ts ++ [t]) = addR (rowsTo ts) t.1 t.2.2 := by
  unfold rowsTo
  rw [List.foldl_append]
  rfl
theorem addR_len (rows : List (List Deed)) (r : Nat) (d : Deed) : (addR rows r d).length = rows.length := by unfold addR; rw [List.length_set]
theorem rowsTo_len (ts : List Tri) : (rowsTo ts).length = 8 := by
  have go : ∀ (ts : List Tri) (rows : List (List Deed)), (ts.foldl (fun rows t => addR rows t.1 t.2.2) rows).length = rows.length := by
    intro ts
    induction ts with
    | nil => exact fun _ => rfl
    | cons t ts ih => exact fun rows => (ih _).trans (addR_len _ _ _)
  exact go ts _
theorem addR_get (rows : List (List Deed)) (r j : Nat) (d : Deed) (hr : r < rows.length) : (addR rows r d).getD j [] = if r = j then rows.getD r [] ++ [d] else rows.getD j [] := by
  unfold addR
  rw [List.getD_eq_getElem?_getD]
  by_cases h : r = j
  · subst h
    rw [if_pos rfl, List.getElem?_set_self hr]
    rfl
  · rw [if_neg h, List.getElem?_set_ne h, List.getD_eq_getElem?_getD]
theorem row_le : ∀ (ts : List Tri) (r : Nat), ((rowsTo ts).getD r []).length ≤ ts.length := by
  have go : ∀ (ts : List Tri) (rows : List (List Deed)) (r n : Nat), (∀ r, (rows.getD r []).length ≤ n) → (((ts.foldl (fun rows t => addR rows t.1 t.2.2) rows)).getD r []).length ≤ n + ts.length := by
    intro ts
    induction ts with
    | nil => exact fun rows r n h => h r
    | cons t ts ih =>
      intro rows r n h
      have := ih (addR rows t.1 t.2.2) r (n + 1) fun j => by
        by_cases hr : t.1 < rows.length
        · rw [addR_get _ _ _ _ hr]
          split
          · rw [List.length_append]
            have := h t.1
            show _ + 1 ≤ _
            omega
          · have := h j; omega
        · unfold addR
          rw [List.set_eq_of_length_le (by omega)]
          have := h j
          omega
      rw [List.length_cons]
      refine Nat.le_trans this ?_
      omega
  intro ts r
  have := go ts (List.replicate 8 []) r 0 fun r => by
    rw [List.getD_eq_getElem?_getD, List.getElem?_replicate]
    split <;> exact Nat.zero_le _
  unfold rowsTo
  omega
/-- each row's deeds are in the other ones' row -/
def Inc (rows rows' : List (List Deed)) : Prop := ∀ (r : Nat) row, rows[r]? = some row → ∃ row', rows'[r]? = some row' ∧ ∀ d ∈ row, d ∈ row'
theorem Inc.refl (rows : List (List Deed)) : Inc rows rows := fun r row h => ⟨row, h, fun _ h => h⟩
theorem Inc.trans {a b c : List (List Deed)} (h : Inc a b) (k : Inc b c) : Inc a c := fun r row e => by
  obtain ⟨r1, e1, f1⟩ := h r row e
  obtain ⟨r2, e2, f2⟩ := k r r1 e1
  exact ⟨r2, e2, fun d hd => f2 d (f1 d hd)⟩
theorem inc_add (rows : List (List Deed)) (r : Nat) (d : Deed) : Inc rows (addR rows r d) := fun j row h => by
  unfold addR
  by_cases z : r = j
  · subst z
    have hl := (List.getElem?_eq_some_iff.mp h).1
    refine ⟨_, List.getElem?_set_self hl, fun x hx => ?_⟩
    rw [List.getD_eq_getElem?_getD, h]
    exact List.mem_append.mpr (.inl hx)
  · exact ⟨row, by rw [List.getElem?_set_ne z]; exact h, fun _ h => h⟩
theorem Has.mono {m : Str} {rows rows' : List (List Deed)} {b : Mk} (h : Has m rows b) (i : Inc rows rows') : Has m rows' b := by
  obtain ⟨r, row, rm, bh, n, l, k, h1, h2, h3, h4⟩ := h
  obtain ⟨row', e1, e2⟩ := i r row h1
  exact ⟨r, row', rm, bh, n, l, k, e1, e2 _ h2, h3, h4⟩
theorem has_ok {m : Str} {rows : List (List Deed)} {b : Mk} (W : Wf rows) (h : Has m rows b) : MkOk b := by
  obtain ⟨r, row, rm, bh, n, l, k, h1, h2, h3, rfl⟩ := h
  have hr := (List.getElem?_eq_some_iff.mp h1).1
  rw [W.len] at hr
  have ok := (W.ok row (List.mem_of_getElem? h1)).2.1 _ h2
  obtain ⟨a1, a2, a3, a4, a5, a6, a7⟩ := ok
  refine ⟨?_, ?_, ?_, ?_⟩
  · show 0 ≤ n + (k : Int); omega
  · show n + (k : Int) < 36028797018963968; omega
  · show (0 : Int) ≤ (r : Int); omega
  · show (r : Int) < 8; omega
section
variable {rows V : List (List Deed)} {r : Nat} {B : Int} {d : Deed}
theorem new_ok (W : Wf V) (hn : NewDeed V r B d) (hB : B + stepMax + 24 < 36028797018963968) : DeedOk d := by
  cases d with
  | back p => exact Int.le_trans (by decide) hn.1
  | change m rm bh n l =>
    obtain ⟨h1, h2, h3, h4, h5, h6, h7, h8, h9⟩ := hn
    exact ⟨h5, by omega, by omega, fun p hp => has_ok W (h3 p hp).1, by omega, h9, mods_ok m h1⟩
theorem cl_add (W : Cl rows) (hi : Inc V rows) (hn : NewDeed V r B d) : Cl (addR rows r d) := fun j row m rm b n l h hm => by
  have mono := inc_add rows r d
  have hold : ∀ row0, rows[j]? = some row0 → Deed.change m rm (some b) n l ∈ row0 → Has m (addR rows r d) b ∧ b.1 < n := fun row0 h1 h2 => by
    obtain ⟨a1, a2⟩ := W j row0 m rm b n l h1 h2
    exact ⟨a1.mono mono, a2⟩
  unfold addR at h
  by_cases z : r = j
  · subst z
    have hl : r < rows.length := by
      have := (List.getElem?_eq_some_iff.mp h).1
      rwa [List.length_set] at this
    rw [List.getElem?_set_self hl] at h
    cases h
    rcases List.mem_append.mp hm with q | q
    · refine hold _ ?_ q
      rw [List.getD_eq_getElem?_getD, List.getElem?_eq_getElem hl]
      rfl
    · rw [← List.mem_singleton.mp q] at hn
      obtain ⟨a1, a2⟩ := hn.2.2.2.1 b rfl
      exact ⟨(a1.mono hi).mono mono, a2⟩
  · rw [List.getElem?_set_ne z] at h
    exact hold _ h hm
theorem wf_add (W : Wf rows) (WV : Wf V) (hi : Inc V rows) (he : V.getD r [] = rows.getD r []) (hn : NewDeed V r B d) (hB : B + stepMax + 24 < 36028797018963968) (hl : (rows.getD r []).length < 100) : Wf (addR rows r d) := by
  refine ⟨by rw [addR_len]; exact W.len, fun row hrow => ?_, cl_add W.cl hi hn⟩
  obtain ⟨j, hj⟩ := List.mem_iff_getElem?.mp hrow
  unfold addR at hj
  by_cases z : r = j
  · subst z
    have hr : r < rows.length := by
      have := (List.getElem?_eq_some_iff.mp hj).1
      rwa [List.length_set] at this
    rw [List.getElem?_set_self hr] at hj
    cases hj
    obtain ⟨a1, a2, a3⟩ := W.at_ r
    refine ⟨by rw [List.length_append]; show _ + 1 ≤ _; omega, fun x hx => ?_, ?_⟩
    · rcases List.mem_append.mp hx with q | q
      · exact a2 x q
      · rw [List.mem_singleton.mp q]; exact new_ok WV hn hB
    · rw [List.pairwise_append]
      refine ⟨a3, List.pairwise_singleton _ _, fun x hx y hy => ?_⟩
      rw [List.mem_singleton.mp hy]
      cases d with
      | back p => cases x <;> trivial
      | change m rm bh n l =>
        cases x with
        | back p => trivial
        | change m' rm' bh' n' l' => exact .inr (hn.2.2.2.2.2.1 m' rm' bh' n' l' (by rw [he]; exact hx))
  · rw [List.getElem?_set_ne z] at hj
    exact W.ok row (List.mem_of_getElem? hj)
theorem bd_add (hb : Bd B rows) (hn : NewDeed V r B d) (h0 : 0 ≤ B) : Bd (B + stepMax + 24) (addR rows r d) := fun row hrow m rm bh n l hm => by
  have hs : (0 : Int) ≤ stepMax := by decide
  obtain ⟨j, hj⟩ := List.mem_iff_getElem?.mp hrow
  unfold addR at hj
  have old : ∀ row0 ∈ rows, Deed.change m rm bh n l ∈ row0 → n + (l.length : Int) ≤ B + stepMax + 24 := fun row0 h1 h2 => by
    have := hb row0 h1 m rm bh n l h2
    omega
  by_cases z : r = j
  · subst z
    have hr : r < rows.length := by
      have := (List.getElem?_eq_some_iff.mp hj).1
      rwa [List.length_set] at this
    rw [List.getElem?_set_self hr] at hj
    cases hj
    rcases List.mem_append.mp hm with q | q
    · refine old _ ?_ q
      rw [List.getD_eq_getElem?_getD, List.getElem?_eq_getElem hr]
      exact List.getElem_mem hr
    · rw [← List.mem_singleton.mp q] at hn
      have h1 := hn.2.2.2.2.2.2.1
      have h2 := hn.2.2.2.2.2.2.2.1
      omega
  · rw [List.getElem?_set_ne z] at hj
    exact old row (List.mem_of_getElem? hj) hm
end
/-! ### what a replica knows -/
def vis (rows : List (List Deed)) (c : List Nat) : List (List Deed) := (List.range 8).map fun k => (rows.getD k []).take (c.getD k 0)
theorem vis_len (rows : List (List Deed)) (c : List Nat) : (vis rows c).length = 8 := by unfold vis; rw [List.length_map, List.length_range]
theorem vis_at {rows : List (List Deed)} {c : List Nat} {k : Nat} (h : k < 8) : (vis rows c)[k]? = some ((rows.getD k []).take (c.getD k 0)) := by
  unfold vis
  rw [List.getElem?_map, List.getElem?_range h]
  rfl
theorem vis_inc {rows : List (List Deed)} (hl : rows.length = 8) (c : List Nat) : Inc (vis rows c) rows := fun r row h => by
  have hr := (List.getElem?_eq_some_iff.mp h).1
  rw [vis_len] at hr
  rw [vis_at hr] at h
  cases h
  exact ⟨rows.getD r [], by rw [List.getD_eq_getElem?_getD, List.getElem?_eq_getElem (by omega)]; rfl, fun d hd => List.mem_of_mem_take hd⟩
theorem vis_wf {rows : List (List Deed)} {c : List Nat} (W : Wf rows) (h : Cl (vis rows c)) : Wf (vis rows c) := by
  refine ⟨vis_len _ _, fun row hrow => ?_, h⟩
  unfold vis at hrow
  obtain ⟨k, _, rfl⟩ := List.mem_map.mp hrow
  obtain ⟨a1, a2, a3⟩ := W.at_ k
  exact ⟨by rw [List.length_take]; omega, fun d hd => a2 d (List.mem_of_mem_take hd), a3.sublist (List.take_sublist _ _)⟩
theorem vis_bd {B : Int} {rows : List (List Deed)} {c : List Nat} (hl : rows.length = 8) (h : Bd B rows) : Bd B (vis rows c) := fun row hrow m rm bh n l hm => by
  obtain ⟨r, hr⟩ := List.mem_iff_getElem?.mp hrow
  obtain ⟨row', e1, e2⟩ := vis_inc hl c r row hr
  exact h row' (List.mem_of_getElem? e1) m rm bh n l (e2 _ hm)
theorem vis_mono {rows : List (List Deed)} {c c' : List Nat} (h : ∀ k < 8, c.getD k 0 ≤ c'.getD k 0) : Inc (vis rows c) (vis rows c') := fun r row e => by
  have hr := (List.getElem?_eq_some_iff.mp e).1
  rw [vis_len] at hr
  rw [vis_at hr] at e
  cases e
  refine ⟨_, vis_at hr, fun d hd => ?_⟩
  have e : ((rows.getD r []).take (c'.getD r 0)).take (c.getD r 0) = (rows.getD r []).take (c.getD r 0) := by rw [List.take_take, Nat.min_eq_left (h r hr)]
  rw [← e] at hd
  exact List.mem_of_mem_take hd
def join (c c' : List Nat) : List Nat := (List.range 8).map fun j => max (c.getD j 0) (c'.getD j 0)
theorem join_at {c c' : List Nat} {j : Nat} (h : j < 8) : (join c c').getD j 0 = max (c.getD j 0) (c'.getD j 0) := by
  unfold join
  rw [List.getD_eq_getElem?_getD, List.getElem?_map, List.getElem?_range h]
  rfl
theorem join_cl {rows : List (List Deed)} {c c' : List Nat} (h : Cl (vis rows c)) (h' : Cl (vis rows c')) : Cl (vis rows (join c c')) := fun r row m rm b n l e hm => by
  have hr := (List.getElem?_eq_some_iff.mp e).1
  rw [vis_len] at hr
  rw [vis_at hr] at e
  cases e
  rw [join_at hr] at hm
  have i1 : Inc (vis rows c) (vis rows (join c c')) := vis_mono fun k hk => by rw [join_at hk]; exact Nat.le_max_left _ _
  have i2 : Inc (vis rows c') (vis rows (join c c')) := vis_mono fun k hk => by rw [join_at hk]; exact Nat.le_max_right _ _
  rcases Nat.le_total (c.getD r 0) (c'.getD r 0) with q | q
  · rw [Nat.max_eq_right q] at hm
    obtain ⟨a1, a2⟩ := h' r _ m rm b n l (vis_at hr) hm
    exact ⟨a1.mono i2, a2⟩
  · rw [Nat.max_eq_left q] at hm
    obtain ⟨a1, a2⟩ := h r _ m rm b n l (vis_at hr) hm
    exact ⟨a1.mono i1, a2⟩
/-! ### the deeds that the law draws -/
structure Good (ts : List Tri) : Prop where
  wf : ∀ i ≤ ts.length, Wf (rowsTo (ts.take i))
  bd : Bd (1 + (stepMax + 24) * (ts.length : Int)) (rowsTo ts)
  at_ : ∀ (i : Nat) t, ts[i]? = some t → t.1 < 8 ∧ t.2.1 = ((rowsTo (ts.take i)).getD t.1 []).length + 1
theorem Good.all {ts : List Tri} (G : Good ts) : Wf (rowsTo ts) := by
  have := G.wf ts.length (Nat.le_refl _)
  rwa [List.take_length] at this
structure Inv (most : Nat) (ts : List Tri) (cs : List (List Nat)) : Prop where
  good : Good ts
  cl : cs.length = most
  m8 : most ≤ 8
  c8 : ∀ c ∈ cs, c.length = 8
  le : ∀ c ∈ cs, ∀ j < 8, c.getD j 0 ≤ ((rowsTo ts).getD j []).length
  own : ∀ r c, cs[r]? = some c → c.getD r 0 = ((rowsTo ts).getD r []).length
  vis : ∀ c ∈ cs, Cl (vis (rowsTo ts) c)
  who : ∀ t ∈ ts, t.1 < most
theorem nil_at (r : Nat) : (List.replicate 8 ([] : List Deed)).getD r [] = [] := by
  rw [List.getD_eq_getElem?_getD, List.getElem?_replicate]
  split <;> rfl
theorem cl_nil {rows : List (List Deed)} (h : ∀ (r : Nat) row, rows[r]? = some row → row = []) : Cl rows := fun r row m rm b n l e hm => by
  rw [h r row e] at hm
  cases hm
theorem inv_nil {most : Nat} (h : most ≤ 8) : Inv most [] (List.replicate most (List.replicate 8 0)) := by
  have e0 : rowsTo [] = List.replicate 8 [] := rfl
  have en : ∀ (r : Nat) row, (List.replicate 8 ([] : List Deed))[r]? = some row → row = [] := fun r row e => List.eq_of_mem_replicate (List.mem_of_getElem? e)
  have hc : ∀ c ∈ List.replicate most (List.replicate 8 0), c = List.replicate 8 0 := fun c hc => List.eq_of_mem_replicate hc
  have hz : ∀ j, (List.replicate 8 0).getD j 0 = 0 := fun j => by
    rw [List.getD_eq_getElem?_getD, List.getElem?_replicate]
    split <;> rfl
  refine ⟨⟨fun i hi => ?_, fun row hrow m rm bh n l hm => ?_, fun i t ht => by cases ht⟩, List.length_replicate, h, fun c h1 => by rw [hc c h1]; rfl, fun c h1 j hj => by rw [hc c h1, hz]; exact Nat.zero_le _, fun r c e => ?_, fun c h1 => cl_nil fun r row e => ?_, fun _ h => by cases h⟩
  · rw [List.take_nil, e0]
    exact ⟨rfl, fun row hr => by rw [List.eq_of_mem_replicate hr]; exact ⟨Nat.zero_le _, (fun _ h => by cases h), .nil⟩, cl_nil en⟩
  · rw [List.eq_of_mem_replicate hrow] at hm
    cases hm
  · rw [hc c (List.mem_of_getElem? e), hz, e0, nil_at]
    rfl
  · have hr := (List.getElem?_eq_some_iff.mp e).1
    rw [vis_len] at hr
    rw [vis_at hr, e0, nil_at] at e
    cases e
    exact List.take_nil
section
variable {most : Nat} {ts : List Tri} {cs : List (List Nat)} {r : Nat} {c : List Nat}
theorem set_mem {α : Type} {xs : List α} {i : Nat} {x y : α} (h : y ∈ xs.set i x) : y = x ∨ y ∈ xs := by
  rcases List.mem_or_eq_of_mem_set h with z | z
  · exact .inr z
  · exact .inl z
theorem Inv.join (I : Inv most ts cs) {o : Nat} {c' : List Nat} (hr : cs[r]? = some c) (ho : cs[o]? = some c') : Inv most ts (cs.set r (K05.join c c')) := by
  have hrl := (List.getElem?_eq_some_iff.mp hr).1
  have hcm := List.mem_of_getElem? hr
  have hom := List.mem_of_getElem? ho
  refine ⟨I.good, by rw [List.length_set]; exact I.cl, I.m8, fun x hx => ?_, fun x hx j hj => ?_, fun r' x e => ?_, fun x hx => ?_, I.who⟩
  · rcases set_mem hx with rfl | z
    · unfold K05.join; rw [List.length_map, List.length_range]
    · exact I.c8 x z
  · rcases set_mem hx with rfl | z
    · rw [join_at hj]
      exact Nat.max_le.mpr ⟨I.le c hcm j hj, I.le c' hom j hj⟩
    · exact I.le x z j hj
  · by_cases z : r = r'
    · subst z
      rw [List.getElem?_set_self hrl] at e
      cases e
      have h8 : r < 8 := by have := I.cl; have := I.m8; omega
      rw [join_at h8, I.own r c hr]
      have := I.le c' hom r h8
      omega
    · rw [List.getElem?_set_ne z] at e
      exact I.own r' x e
  · rcases set_mem hx with rfl | z
    · exact join_cl (I.vis c hcm) (I.vis c' hom)
    · exact I.vis x z
theorem vis_own (I : Inv most ts cs) (hr : cs[r]? = some c) : (K05.vis (rowsTo ts) c).getD r [] = (rowsTo ts).getD r [] := by
  have hrl := (List.getElem?_eq_some_iff.mp hr).1
  have h8 : r < 8 := by have := I.cl; have := I.m8; omega
  rw [List.getD_eq_getElem?_getD, vis_at h8, I.own r c hr]
  show (List.take _ _) = _
  rw [List.take_of_length_le (Nat.le_refl _)]
theorem Inv.step (I : Inv most ts cs) (hr : cs[r]? = some c) {d : Deed} (hn : NewDeed (K05.vis (rowsTo ts) c) r (1 + (stepMax + 24) * (ts.length : Int)) d) (hl : ts.length < 100) : Inv most (ts ++ [(r, ((rowsTo ts).getD r []).length + 1, d)]) (cs.set r (c.set r (((rowsTo ts).getD r []).length + 1))) := by
  have hrl := (List.getElem?_eq_some_iff.mp hr).1
  have hcm := List.mem_of_getElem? hr
  have h8 : r < 8 := by have := I.cl; have := I.m8; omega
  have hrl8 : r < (rowsTo ts).length := by rw [rowsTo_len]; exact h8
  have hB : 1 + (stepMax + 24) * (ts.length : Int) + stepMax + 24 < 36028797018963968 := by
    show 1 + (stepMax + 24) * (ts.length : Int) + stepMax + 24 < 36028797018963968
    have e : (stepMax + 24) * (ts.length : Int) ≤ (stepMax + 24) * 100 := Int.mul_le_mul_of_nonneg_left (by omega) (by decide)
    have e2 : 1 + (stepMax + 24) * 100 + stepMax + 24 < 36028797018963968 := by decide
    omega
  have W := I.good.all
  have WV := vis_wf W (I.vis c hcm)
  have he := vis_own I hr
  have hrow := row_le ts r
  have W2 : Wf (addR (rowsTo ts) r d) := wf_add W WV (vis_inc W.len c) he hn hB (by omega)
  have esn : rowsTo (ts ++ [(r, ((rowsTo ts).getD r []).length + 1, d)]) = addR (rowsTo ts) r d := rowsTo_snoc _ _
  have hb0 : 0 ≤ 1 + (stepMax + 24) * (ts.length : Int) := by
    have : 0 ≤ (stepMax + 24) * (ts.length : Int) := Int.mul_nonneg (by decide) (Int.natCast_nonneg _)
    omega
  refine ⟨⟨fun i hi => ?_, ?_, fun i t ht => ?_⟩, by rw [List.length_set]; exact I.cl, I.m8, fun x hx => ?_, fun x hx j hj => ?_, fun r' x e => ?_, fun x hx => ?_, fun t ht => ?_⟩
  · rw [List.length_append] at hi
    have hi : i ≤ ts.length + 1 := hi
    by_cases z : i ≤ ts.length
    · rw [List.take_append_of_le_length z]
      exact I.good.wf i z
    · rw [List.take_of_length_le (by rw [List.length_append]; show ts.length + 1 ≤ i; omega), esn]
      exact W2
  · rw [esn, List.length_append]
    have h := bd_add I.good.bd hn hb0
    have e : 1 + (stepMax + 24) * ((ts.length + [(r, ((rowsTo ts).getD r []).length + 1, d)].length : Nat) : Int) = 1 + (stepMax + 24) * (ts.length : Int) + stepMax + 24 := by
      show 1 + (stepMax + 24) * ((ts.length + 1 : Nat) : Int) = _
      rw [show ((ts.length + 1 : Nat) : Int) = (ts.length : Int) + 1 by omega, Int.mul_add, Int.mul_one]
      omega
    rw [e]
    exact h
  · by_cases z : i < ts.length
    · rw [List.getElem?_append_left z] at ht
      rw [List.take_append_of_le_length (by omega)]
      exact I.good.at_ i t ht
    · rw [List.getElem?_append_right (by omega)] at ht
      have hi : i - ts.length = 0 := by
        by_cases q : i - ts.length = 0
        · exact q
        · rw [List.getElem?_eq_none (by show 1 ≤ _; omega)] at ht; cases ht
      rw [hi] at ht
      cases ht
      have e : i = ts.length := by omega
      subst e
      rw [List.take_append_of_le_length (Nat.le_refl _), List.take_length]
      exact ⟨h8, rfl⟩
  · rcases set_mem hx with rfl | z
    · rw [List.length_set]; exact I.c8 c hcm
    · exact I.c8 x z
  · rw [esn, addR_get _ _ _ _ hrl8]
    rcases set_mem hx with rfl | z
    · rw [List.getD_eq_getElem?_getD]
      by_cases q : r = j
      · subst q
        rw [List.getElem?_set_self (by rw [I.c8 c hcm]; exact h8), if_pos rfl, List.length_append]
        exact Nat.le_refl _
      · rw [List.getElem?_set_ne q, if_neg q, ← List.getD_eq_getElem?_getD]
        exact I.le c hcm j hj
    · have := I.le x z j hj
      split
      · rename_i q
        subst q
        rw [List.length_append]
        omega
      · exact this
  · rw [esn, addR_get _ _ _ _ hrl8]
    by_cases z : r = r'
    · subst z
      rw [List.getElem?_set_self hrl] at e
      cases e
      rw [List.getD_eq_getElem?_getD, List.getElem?_set_self (by rw [I.c8 c hcm]; exact h8), if_pos rfl, List.length_append]
      rfl
    · rw [List.getElem?_set_ne z] at e
      rw [if_neg z]
      exact I.own r' x e
  · rw [esn]
    rcases set_mem hx with rfl | z
    · have e : K05.vis (addR (rowsTo ts) r d) (c.set r (((rowsTo ts).getD r []).length + 1)) = addR (K05.vis (rowsTo ts) c) r d := by
        refine List.ext_getElem? fun k => ?_
        by_cases hk : k < 8
        · rw [vis_at hk, addR_get _ _ _ _ hrl8]
          unfold addR
          by_cases q : r = k
          · subst q
            rw [if_pos rfl, List.getElem?_set_self (by rw [vis_len]; exact hk), he, List.getD_eq_getElem?_getD (l := c.set _ _), List.getElem?_set_self (by rw [I.c8 c hcm]; exact h8), List.take_of_length_le (by rw [List.length_append]; exact Nat.le_refl _)]
          · rw [if_neg q, List.getElem?_set_ne q, vis_at hk, List.getD_eq_getElem?_getD (l := c.set _ _), List.getElem?_set_ne q, ← List.getD_eq_getElem?_getD]
        · rw [List.getElem?_eq_none (by rw [vis_len]; omega), List.getElem?_eq_none (by rw [addR_len, vis_len]; omega)]
      rw [e]
      exact cl_add (I.vis c hcm) (Inc.refl _) hn
    · have e : K05.vis (addR (rowsTo ts) r d) x = K05.vis (rowsTo ts) x := by
        refine List.ext_getElem? fun k => ?_
        by_cases hk : k < 8
        · rw [vis_at hk, vis_at hk, addR_get _ _ _ _ hrl8]
          split
          · rename_i q
            subst q
            rw [List.take_append_of_le_length (I.le x z r hk)]
          · rfl
        · rw [List.getElem?_eq_none (by rw [vis_len]; omega), List.getElem?_eq_none (by rw [vis_len]; omega)]
      rw [e]
      exact I.vis x z
  · rcases List.mem_append.mp ht with z | z
    · exact I.who t z
    · rw [List.mem_singleton.mp z]
      have := I.cl
      show r < most
      omega
end
end K05

set_option Elab.async false
set_option linter.all false
set_option maxRecDepth 100000
set_option maxHeartbeats 4000000
namespace K05
open PySem PySem.Spec PyProof.Rows L2 Cw
/-! ### small closers, each at its own key -/
local macro_rules | `(tactic| walk_at "oadd") => `(tactic| first | exact o_add | exact o_addS (by walk_at "sz") | exact o_cat (by walk_at "ll") (by walk_at "ll") (by walk_at "sz"))
local macro_rules | `(tactic| walk_at "osub") => `(tactic| exact o_sub)
local macro_rules | `(tactic| walk_at "omul") => `(tactic| first | exact o_mul (by walk_at "sd") | exact o_rep (by walk_at "ll") (by walk_at "sd") (by walk_at "sd") (by walk_at "sz"))
local macro_rules | `(tactic| walk_at "odiv") => `(tactic| first | exact o_div (by walk_at "sd") | exact o_divW (by walk_at "sd"))
local macro_rules | `(tactic| walk_at "olt") => `(tactic| exact o_lt)
local macro_rules | `(tactic| walk_at "ole") => `(tactic| exact o_le)
local macro_rules | `(tactic| walk_at "ogt") => `(tactic| exact o_gt)
local macro_rules | `(tactic| walk_at "oge") => `(tactic| exact o_ge)
local macro_rules | `(tactic| walk_at "oeq") => `(tactic| first | exact o_eqI | exact o_eqNI | exact o_eqS | exact o_eqB | exact o_eqR (Room.units (by assumption)) (by walk_at "dr") (by walk_at "dr") (by walk_at "sh") (by walk_at "sh"))
local macro_rules | `(tactic| walk_at "one") => `(tactic| first | exact o_neI | exact o_neS | exact o_neB | exact o_neR (Room.units (by assumption)) (by walk_at "dr") (by walk_at "dr") (by walk_at "sh") (by walk_at "sh"))
local macro_rules | `(tactic| walk_at "ois") => `(tactic| exact o_isN)
local macro_rules | `(tactic| walk_at "oisn") => `(tactic| exact o_notN)
local macro_rules | `(tactic| walk_at "iadd") => `(tactic| exact o_iadd)
local macro_rules | `(tactic| walk_at "isub") => `(tactic| exact o_isub)
local macro_rules | `(tactic| walk_at "lk") => `(tactic| first | assumption | exact updL_same | (refine Eq.trans (updL_ne (by first | assumption | (apply Ne.symm; assumption))) ?_; walk_at "lk"))
local macro_rules | `(tactic| walk_at "ll") => `(tactic| first | exact LL.dt | assumption | exact LL.h (by walk_at "lk"))
local macro_rules | `(tactic| walk_at "lr") => `(tactic| first | exact LL.dt | assumption | exact LR.h (by walk_at "lk"))
local macro_rules | `(tactic| walk_at "dr") => `(tactic| first | exact DD.dt | assumption | exact DD.ofLL (by walk_at "lk"))
local macro_rules | `(tactic| walk_at "sd") => `(tactic| first | omega | assumption | decide)
local macro_rules | `(tactic| walk_at "rg") => `(tactic| first | omega | assumption | decide)
local macro_rules | `(tactic| walk_at "sz") => `(tactic| first | assumption | (rw [sizeLine_eq]; first | omega | (simp; omega)))
local macro_rules | `(tactic| walk_at "osl") => `(tactic| first | exact s_str (by walk_at "sz") | exact s_lst (by walk_at "ll"))
local macro_rules | `(tactic| walk_at "c_len") => `(tactic| first | exact c_lenT | exact c_lenS (by walk_at "sz") | exact c_lenL (by walk_at "ll") | exact c_lenR (by walk_at "lr") | exact c_lenF (by assumption))
local macro_rules | `(tactic| walk_at "c_int") => `(tactic| first | exact c_int | exact c_intB)
local macro_rules | `(tactic| walk_at "c_min") => `(tactic| exact c_min rfl)
local macro_rules | `(tactic| walk_at "c_max") => `(tactic| exact c_max rfl)
local macro_rules | `(tactic| walk_at "c_ord") => `(tactic| exact c_ord (by walk_at "sz"))
local macro_rules | `(tactic| walk_at "c_list") => `(tactic| first | exact c_listT | exact c_list (by walk_at "ll") | exact c_listF (by assumption))
local macro_rules | `(tactic| walk_at "c_tuple") => `(tactic| first | exact c_tupleT | exact c_tuple (by walk_at "ll"))
local macro_rules | `(tactic| walk_at "c_isinstance") => `(tactic| exact c_isi (by walk_at "dr") (by decide))
local macro_rules | `(tactic| walk_at "few") => `(tactic| first | decide | exact Nat.le_of_ble_eq_true rfl | (rw [sizeLine_eq]; exact Nat.le_of_ble_eq_true rfl) | assumption)
local macro_rules | `(tactic| walk_at "fl") => `(tactic| first | assumption | rfl)
local macro_rules | `(tactic| walk_at "nf") => `(tactic| first | rfl | decide +kernel)
local macro_rules | `(tactic| walk_at "at") => `(tactic| first | assumption | rfl | exact atI_nat (by assumption))
local macro_rules | `(tactic| walk_at "oix") => `(tactic| first | exact i_tup (by walk_at "at") | exact i_lst (by walk_at "ll") (by walk_at "at") | exact i_lstR (by walk_at "lr") (by walk_at "at") | exact i_str (by walk_at "sz") (by walk_at "at") | exact i_lstF (by assumption) (by walk_at "at"))
local macro_rules | `(tactic| walk_at "ixn") => `(tactic| first | assumption | rfl)
local macro_rules | `(tactic| walk_at "okd") => `(tactic| first | rfl | assumption)
local macro_rules | `(tactic| walk_at "wr") => `(tactic| first | assumption | omega)
local macro_rules | `(tactic| walk_at "shn") => `(tactic| first | exact fun z => absurd z (by assumption) | exact fun z => absurd rfl z | exact fun _ => ⟨rfl, rfl⟩)
local macro_rules | `(tactic| walk_at "onin") => `(tactic| exact o_notIn2S)
local macro_rules | `(tactic| walk_at "okp") => `(tactic| first | assumption | exact nxt_p (by walk_at "okp"))
local macro_rules | `(tactic| walk_at "c_all") => `(tactic| exact c_all rfl (by walk_at "ll"))
local macro_rules | `(tactic| walk_at "c_sum") => `(tactic| exact c_sum rfl (by walk_at "ll"))
local macro_rules | `(tactic| walk_at "c_sorted") => `(tactic| exact c_sortedS (by walk_at "ll") (by walk_at "sz"))

section
variable {P : Program} {w : World} {K : PySem.W.Frag} {mg : Str → Option Value} {base : Heap} {C : Addr}
/-! ### what a replica knows -/
abbrev cntI (c : List Nat) : List PyData := c.map fun (n : Nat) => PyData.int (n : Int)
abbrev cntR (c : List Nat) : List Rv := dts (cntI c)
theorem cnt_at {c : List Nat} {j : Nat} (h : j < c.length) : atI (cntI c) (j : Int) = some (.int ((c.getD j 0 : Nat) : Int)) := atI_nat (by rw [List.getElem?_map, List.getElem?_eq_getElem h, List.getD_eq_getElem?_getD, List.getElem?_eq_getElem h]; rfl)
def sp_visible : Fs := fun as L Q _ => ∃ r rc rows c, as = [r, rc] ∧ RowsAt L r rows ∧ LL L rc (cntI c) ∧ rows.length = 8 ∧ c.length = 8 ∧ Q (.dt (rowsD (vis rows c))) L
theorem ok_visible {f : Addr} {fd : FuncData} (F : Fun K "_law_visible" "_law_visible" s_law_visible f fd) (T : TxD K mg C) : FnOk P w K mg base CX0 1 f fd P_law_visible (lift sp_visible) := by
  refine fnok0 F sc_law_visible (fun as L Q XC h => by obtain ⟨_, _, _, _, rfl, _⟩ := h; rfl) ?_
  intro cdv A outer s0 H E hr as L Q XC h
  obtain ⟨r, rc, rows, c, rfl, hR, hc, hl, hcl, k⟩ := h
  obtain ⟨rs, hrs, hrl, hat0⟩ := hR.at_
  refine mss_cons (ms_ret (EX.to (ex_lcp (tgt := (.n 2)) (own := [("k", 2)]) (fun y => rowD ((vis rows c).getD (yi y) [])) (by rfl) sc_law_visible.nd (ix_range1 (ax_cons ex_int ax_nil) (by walk_at "sd") (by walk_at "sd") (by rfl) T.m_range) trivial (blkOk_by (by rfl)) rfl (fun s H C cl fp => (pgn_name 2 sc_law_visible.nd rfl (by first | exact .inl rfl | exact .inr rfl))) (by rw [rgY_len, sizeLine_eq]; decide) ?_) ?_))
  · intro j y hy
    obtain ⟨hj, rfl⟩ := rgY_at hy
    have hj8 : j < 8 := hj
    obtain ⟨x, hx1, hx2⟩ := hat0 j (by omega)
    have hat : atI rs (0 + (j : Int)) = some x := by rw [Int.zero_add]; exact atI_nat hx1
    have hat2 : atI (cntI c) (0 + (j : Int)) = some (.int ((c.getD j 0 : Nat) : Int)) := by rw [Int.zero_add]; exact cnt_at (by omega)
    have ey : yi (.r (.dt (.int (0 + (j : Int))))) = j := by show (0 + (j : Int)).toNat = j; omega
    refine ⟨_, rfl, fun s H C cl fp => EX.eq (ex_slice (ex_ix (ex_var 0 rfl rfl (by first | exact .inl rfl | exact .inr (.inl rfl) | exact .inr (.inr rfl))) (ex_var 2 rfl rfl (by first | exact .inl rfl | exact .inr (.inl rfl) | exact .inr (.inr rfl))) (by walk_at "oix") (fun _ _ => rfl)) px_none (px_some (ex_ix (ex_var 1 rfl rfl (by first | exact .inl rfl | exact .inr (.inl rfl) | exact .inr (.inr rfl))) (ex_var 2 rfl rfl (by first | exact .inl rfl | exact .inr (.inl rfl) | exact .inr (.inr rfl))) (by walk_at "oix") (fun _ _ => rfl))) (by walk_at "osl")) ?_⟩
    rw [ey, cut_to, ← List.map_take, List.getD_eq_getElem?_getD (l := vis rows c), vis_at hj8]
    rfl
  · have e : (rgY 0 (8 : Int).toNat).map (fun y => rowD ((vis rows c).getD (yi y) [])) = (vis rows c).map rowD := by
      refine List.ext_getElem? fun j => ?_
      rw [List.getElem?_map, List.getElem?_map]
      by_cases hj : j < 8
      · have hy : (rgY 0 (8 : Int).toNat)[j]? = some (.r (.dt (.int (0 + (j : Int))))) := by
          unfold rgY
          rw [List.getElem?_map, List.getElem?_range (by show j < 8; exact hj)]
          rfl
        have ey : yi (.r (.dt (.int (0 + (j : Int))))) = j := by show (0 + (j : Int)).toNat = j; omega
        rw [hy, vis_at hj]
        show some (rowD ((vis rows c).getD (yi (.r (.dt (.int (0 + (j : Int)))))) [])) = _
        rw [ey, List.getD_eq_getElem?_getD, vis_at hj]
        rfl
      · rw [List.getElem?_eq_none (by rw [rgY_len]; show 8 ≤ j; omega), List.getElem?_eq_none (by rw [vis_len]; omega)]
        rfl
    rw [e]
    exact k
/-! ### the deeds that are drawn -/
structure St (L L' : Led) (w1 w2 o : Addr) (p1 p2 : List Addr) (ts : List Tri) (cs : List (List Nat)) : Prop where
  rows : Lol L' w1 p1 ((rowsTo ts).map rowR)
  cnts : Lol L' w2 p2 (cs.map cntR)
  out : L' o = some (.lst (dts (ts.map trD)))
  dj : ∀ a ∈ w1 :: p1, a ∉ w2 :: p2
  o1 : o ∉ w1 :: p1
  o2 : o ∉ w2 :: p2
  n1 : ∀ a ∈ w1 :: p1, L a = none
  n2 : ∀ a ∈ w2 :: p2, L a = none
  no : L o = none
  le : Le L L'
section
variable {L L' : Led} {w1 w2 o : Addr} {p1 p2 : List Addr} {ts : List Tri} {cs : List (List Nat)}
theorem St.join (S : St L L' w1 w2 o p1 p2 ts cs) {r : Nat} (hr : r < p2.length) {D : Addr} (hD : L' D = none) (c' : List Nat) : St L (updL (updL L' D (.lst (cntR c'))) w2 (.lst ((rfs p2).set r (.vl (.ref D))))) w1 w2 o p1 (p2.set r D) ts (cs.set r c') := by
  have hD1 : D ∉ w1 :: p1 := fun z => by obtain ⟨rs, e⟩ := S.rows.mem z; rw [hD] at e; cases e
  have hDo : o ≠ D := fun z => by have := S.out; rw [z, hD] at this; cases this
  have hw1 : w2 ∉ w1 :: p1 := fun z => S.dj w2 z List.mem_cons_self
  have hset : ∀ a, a ∈ w2 :: p2.set r D → a = D ∨ a ∈ w2 :: p2 := fun a ha => by
    rcases List.mem_cons.mp ha with z | z
    · exact .inr (List.mem_cons.mpr (.inl z))
    · rcases List.mem_or_eq_of_mem_set z with q | q
      · exact .inr (List.mem_cons.mpr (.inr q))
      · exact .inl q
  refine ⟨(S.rows.skip hD1).skip hw1, ?_, ?_, fun a ha hb => ?_, S.o1, fun hb => ?_, S.n1, fun a ha => ?_, S.no, (S.le.mut (S.le.none hD)).mut (S.n2 w2 List.mem_cons_self)⟩
  · rw [List.map_set]
    exact S.cnts.swap hr hD
  · rw [updL_ne (fun z => S.o2 (by rw [z]; exact List.mem_cons_self)), updL_ne hDo]
    exact S.out
  · rcases hset a hb with z | z
    · exact hD1 (by rw [← z]; exact ha)
    · exact S.dj a ha z
  · rcases hset o hb with z | z
    · exact hDo z
    · exact S.o2 z
  · rcases hset a ha with z | z
    · rw [z]; exact S.le.none hD
    · exact S.n2 a z
theorem St.add (S : St L L' w1 w2 o p1 p2 ts cs) {r : Nat} {pa pb : Addr} {c : List Nat} (hp1 : p1[r]? = some pa) (hp2 : p2[r]? = some pb) (hc : cs[r]? = some c) (d : Deed) : St L (updL (updL (updL L' pa (.lst (rowR ((rowsTo ts).getD r []) ++ [.dt (deedD d)]))) pb (.lst ((cntR c).set r (.dt (.int ((((rowsTo ts).getD r []).length + 1 : Nat) : Int)))))) o (.lst (dts (ts.map trD) ++ [.dt (trD (r, ((rowsTo ts).getD r []).length + 1, d))]))) w1 w2 o p1 p2 (ts ++ [(r, ((rowsTo ts).getD r []).length + 1, d)]) (cs.set r (c.set r (((rowsTo ts).getD r []).length + 1))) := by
  have ha1 : pa ∈ w1 :: p1 := List.mem_cons_of_mem _ (List.mem_of_getElem? hp1)
  have hb2 : pb ∈ w2 :: p2 := List.mem_cons_of_mem _ (List.mem_of_getElem? hp2)
  have ha2 : pa ∉ w2 :: p2 := S.dj pa ha1
  have hb1 : pb ∉ w1 :: p1 := fun z => S.dj pb z hb2
  refine ⟨?_, ?_, ?_, S.dj, S.o1, S.o2, S.n1, S.n2, S.no, ((S.le.mut (S.n1 pa ha1)).mut (S.n2 pb hb2)).mut S.no⟩
  · rw [rowsTo_snoc]
    unfold addR
    rw [List.map_set]
    have e : rowR ((rowsTo ts).getD r [] ++ [d]) = rowR ((rowsTo ts).getD r []) ++ [.dt (deedD d)] := by simp [rowR, dts]
    show Lol _ w1 p1 (((rowsTo ts).map rowR).set r (rowR ((rowsTo ts).getD r [] ++ [d])))
    rw [e]
    exact ((S.rows.put hp1).skip hb1).skip S.o1
  · rw [List.map_set]
    have e : cntR (c.set r (((rowsTo ts).getD r []).length + 1)) = (cntR c).set r (.dt (.int ((((rowsTo ts).getD r []).length + 1 : Nat) : Int))) := by
      unfold cntR cntI dts
      rw [List.map_set, List.map_set]
    rw [e]
    exact ((S.cnts.skip ha2).put hp2).skip S.o2
  · rw [updL_same, List.map_append]
    unfold dts
    rw [List.map_append]
    rfl
end
theorem rows_lol {L : Led} {w1 : Addr} {p1 : List Addr} {rows : List (List Deed)} (h : Lol L w1 p1 (rows.map rowR)) : RowsAt L (.vl (.ref w1)) rows := ⟨rfs p1, LR.h h.w, by rw [List.length_map, h.p.pl, List.length_map], fun i x row h1 h2 => by
  rw [List.getElem?_map] at h1
  cases hp : p1[i]? with
  | none => rw [hp] at h1; cases h1
  | some p =>
    rw [hp] at h1
    cases h1
    exact LL.h (h.p.at_ i p _ hp (by rw [List.getElem?_map, h2]; rfl))⟩
def sp_triples (Tb : Addr) (tq : Str) : Fs := fun as L Q _ => ∃ (d : List Int) (start : Int) (steps most : Nat), as = [.dt (.list (d.map PyData.int)), .dt (.int start), .dt (.int (steps : Int)), .dt (.int (most : Int))] ∧ 0 ≤ start ∧ steps ≤ 64 ∧ 1 ≤ most ∧ most ≤ 8 ∧ L Tb = some (.tab tq) ∧ ∀ ts, ts.length = steps → Good ts → (∀ t ∈ ts, t.1 < most) → ∀ L', Le L L' → Q (.dt (.list (ts.map trD))) L'
theorem ok_triples {f : Addr} {fd : FuncData} {Tb : Addr} {tq : Str} (F : Fun K "_law_triples" "_law_triples" s_law_triples f fd) (T : TxD K mg C) (G_law_at : FnM P w K mg base 2 "_law_at" P_law_at sp_at) (G_law_deed' : FnM P w K mg base 4 "_law_deed" P_law_deed (sp_deed Tb tq)) (G_law_visible : FnM P w K mg base 1 "_law_visible" P_law_visible sp_visible) : FnOk P w K mg base CX0 5 f fd P_law_triples (lift (sp_triples Tb tq)) := by
  have G_law_deed := G_law_deed'.forget
  refine fnok0 F sc_law_triples (fun as L Q XC h => by obtain ⟨_, _, _, _, rfl, _⟩ := h; rfl) ?_
  intro cdv A outer s0 H E hr as L Q XC h
  obtain ⟨d, start, steps, most, rfl, h0, h64, hm1, hm8, hTb, k⟩ := h
  refine mss_cons (ms_setlc (i := 4) (tgt := (.n 6)) (own := [("k", 6)]) (by rfl) sc_law_triples.nd rfl rfl (by rfl) (ix_range1 (ax_cons ex_int ax_nil) (by walk_at "sd") (by walk_at "sd") (by rfl) T.m_range) (blkOk_by (by rfl)) rfl (fun s H C cl fp => (pgn_name 6 sc_law_triples.nd rfl (by first | exact .inl rfl | exact .inr rfl))) (by rw [rgY_len, sizeLine_eq]; decide)
    (fun i acc L' => ∃ ps, acc = rfs ps ∧ Lop L' ps (List.replicate i []) ∧ (∀ a ∈ ps, L a = none) ∧ Le L L') ⟨[], rfl, Lop.nil, (fun _ h => by cases h), Le.refl L⟩ (fun _ _ _ _ _ => trivial) ?_ ?_)
  · intro i y acc L' hy hI
    obtain ⟨ps, rfl, N, hn, hle⟩ := hI
    obtain ⟨hk, rfl⟩ := rgY_at hy
    refine ⟨_, rfl, fun b L2 => b = true ∧ L2 = L', fun _ _ _ _ _ => mts_nil ⟨rfl, rfl⟩, fun b L2 hb2 => ?_⟩
    obtain ⟨rfl, rfl⟩ := hb2
    refine ⟨fun _ s9 H9 C9 cl9 fp9 => me_lst0 fun p hp => ⟨ps ++ [p], by rw [rfs, rfs, List.map_append]; rfl, ?_, fun a ha => ?_, hle.mut (hle.none hp)⟩, fun z => by cases z⟩
    · rw [List.replicate_succ']
      exact N.snoc hp
    · rcases List.mem_append.mp ha with z | z
      · exact hn a z
      · rw [List.mem_singleton.mp z]; exact hle.none hp
  intro acc L1 hI w1 hw1
  obtain ⟨p1, rfl, N, hn1, hle⟩ := hI
  rw [rgY_len] at N
  refine .inr ?_
  have R1 := N.close hw1
  have l1 : Le L (updL L1 w1 (.lst (rfs p1))) := hle.mut (hle.none hw1)
  have n1 : ∀ a ∈ w1 :: p1, L a = none := fun a ha => by
    rcases List.mem_cons.mp ha with z | z
    · rw [z]; exact hle.none hw1
    · exact hn1 a z
  generalize updL L1 w1 (.lst (rfs p1)) = L1' at *
  refine mss_cons (ms_set 5 sc_law_triples.nd rfl (.inr rfl) (me_lst0 fun w2 hw2 => ?_))
  have hw21 : w2 ∉ w1 :: p1 := fun z => by obtain ⟨rs, e⟩ := R1.mem z; rw [hw2] at e; cases e
  have R2 := R1.skip (m := .lst []) hw21
  have C2 : Lol (updL L1' w2 (.lst [])) w2 [] (([] : List (List Nat)).map cntR) := ⟨by simp, Lop.nil, updL_same⟩
  have l2 : Le L (updL L1' w2 (.lst [])) := l1.mut (l1.none hw2)
  have nw2 := l1.none hw2
  generalize updL L1' w2 (.lst []) = L2 at *
  have hm62 : (most : Int) < 2 ^ 62 := by omega
  refine mss_cons (ms_for (tgt := (.n 6)) rfl (ix_range1 (ax_cons (ex_var 3 rfl rfl (.inl rfl)) ax_nil) (by walk_at "sd") (by walk_at "sd") (by rfl) T.m_range) (pgn_name 6 sc_law_triples.nd rfl (by first | exact .inl rfl | exact .inr rfl)) (fun i ρ L' => ∃ p2 kk, ρ = [some (.dt (.list (d.map PyData.int))), some (.dt (.int start)), some (.dt (.int (steps : Int))), some (.dt (.int (most : Int))), some (.vl (.ref w1)), some (.vl (.ref w2)), kk, none, none, none, none, none, none] ∧ Lol L' w1 p1 ((rowsTo []).map rowR) ∧ Lol L' w2 p2 ((List.replicate i (List.replicate 8 0)).map cntR) ∧ (∀ a ∈ w1 :: p1, a ∉ w2 :: p2) ∧ (∀ a ∈ w2 :: p2, L a = none) ∧ Le L L') ⟨[], none, rfl, R2, C2, fun a ha hb => by rw [List.mem_singleton.mp hb] at ha; exact hw21 ha, fun a ha => by rw [List.mem_singleton.mp ha]; exact nw2, l2⟩ (fun _ _ _ _ _ => trivial) ?_ ?_)
  · intro i y ρ L' hy hI
    obtain ⟨p2, kk, rfl, A1, A2, dj, n2, hl⟩ := hI
    obtain ⟨hi, rfl⟩ := rgY_at hy
    refine ⟨_, rfl, ?_⟩
    have hi8 : i < 8 := by omega
    have hw := A2.w
    refine mss_cons (ms_expr (me_append (ex_var 5 rfl rfl (by first | exact .inl rfl | exact .inr (.inl rfl) | exact .inr (.inr rfl))) hw (me_lcpH (tgt := (.n 12)) (own := [("j", 12)]) (fun _ => .int 0) (by rfl) sc_law_triples.nd (ix_range1 (ax_cons ex_int ax_nil) (by walk_at "sd") (by walk_at "sd") (by rfl) T.m_range) trivial (blkOk_by (by rfl)) rfl (fun s H C cl fp => (pgn_name 12 sc_law_triples.nd rfl (by first | exact .inl rfl | exact .inr rfl))) (by rw [rgY_len, sizeLine_eq]; decide) ?_ ?_)))
    · intro j y hy
      obtain ⟨hj, rfl⟩ := rgY_at hy
      exact ⟨_, rfl, fun s H C cl fp => ex_int⟩
    · intro D hD
      have ez : (rgY 0 (8 : Int).toNat).map (fun _ => PyData.int 0) = cntI (List.replicate 8 0) := by rfl
      rw [ez]
      have hDw : w2 ≠ D := ne_led hw hD
      refine ⟨rfs p2, by rw [updL_ne hDw]; exact hw, by rw [List.length_map, A2.p.pl, List.length_map, List.length_replicate, sizeLine_eq]; omega, mss_nil ⟨p2 ++ [D], some (.dt (.int (0 + (i : Int)))), rfl, ?_, ?_, fun a ha hb => ?_, fun a ha => ?_, ?_⟩⟩
      · refine (A1.skip fun z => ?_).skip fun z => dj w2 z List.mem_cons_self
        obtain ⟨rs, e⟩ := A1.mem z
        rw [hD] at e
        cases e
      · rw [List.replicate_succ' (n := i) (a := List.replicate 8 0), List.map_append]
        exact A2.snoc hD
      · rcases List.mem_cons.mp hb with z | z
        · exact dj a ha (by rw [z]; exact List.mem_cons_self)
        · rcases List.mem_append.mp z with q | q
          · exact dj a ha (List.mem_cons_of_mem _ q)
          · rw [List.mem_singleton.mp q] at ha
            obtain ⟨rs, e⟩ := A1.mem ha
            rw [hD] at e
            cases e
      · rcases List.mem_cons.mp ha with z | z
        · exact n2 a (by rw [z]; exact List.mem_cons_self)
        · rcases List.mem_append.mp z with q | q
          · exact n2 a (List.mem_cons_of_mem _ q)
          · rw [List.mem_singleton.mp q]; exact hl.none hD
      · exact (hl.mut (hl.none hD)).mut (n2 w2 List.mem_cons_self)
  · intro ρ L' hI
    obtain ⟨p20, kk, rfl, A1, A2, dj, n2, hl⟩ := hI
    rw [rgY_len, Int.toNat_natCast] at A2
    refine mss_cons (ms_set 7 sc_law_triples.nd rfl (.inl rfl) (me_lst0 fun o hot => ?_))
    have o1 : o ∉ w1 :: p1 := fun z => by obtain ⟨rs, e⟩ := A1.mem z; rw [hot] at e; cases e
    have o2 : o ∉ w2 :: p20 := fun z => by obtain ⟨rs, e⟩ := A2.mem z; rw [hot] at e; cases e
    have S0 : St L (updL L' o (.lst [])) w1 w2 o p1 p20 [] (List.replicate most (List.replicate 8 0)) := ⟨A1.skip o1, A2.skip o2, updL_same, dj, o1, o2, n1, n2, hl.none hot, hl.mut (hl.none hot)⟩
    generalize updL L' o (.lst []) = L3 at *
    have hs62 : (steps : Int) < 2 ^ 62 := by omega
    refine mss_cons (ms_for (tgt := (.n 6)) rfl (ix_range1 (ax_cons (ex_var 2 rfl rfl (.inl rfl)) ax_nil) (by walk_at "sd") (by walk_at "sd") (by rfl) T.m_range) (pgn_name 6 sc_law_triples.nd rfl (by first | exact .inl rfl | exact .inr rfl)) (fun i ρ L' => ∃ ts cs p2 kk ba re ot de, ρ = [some (.dt (.list (d.map PyData.int))), some (.dt (.int start)), some (.dt (.int (steps : Int))), some (.dt (.int (most : Int))), some (.vl (.ref w1)), some (.vl (.ref w2)), kk, some (.vl (.ref o)), ba, re, ot, de, none] ∧ St L L' w1 w2 o p1 p2 ts cs ∧ Inv most ts cs ∧ ts.length = i) ⟨[], _, p20, kk, none, none, none, none, rfl, S0, inv_nil hm8, rfl⟩ (fun _ _ _ _ _ => trivial) ?_ ?_)
    · intro i y ρ L' hy hI
      obtain ⟨ts, cs, p2, kk, ba, re, ot, de, rfl, S, I, htl⟩ := hI
      obtain ⟨hi, rfl⟩ := rgY_at hy
      have hi64 : i < 64 := by omega
      refine ⟨_, rfl, ?_⟩
      refine mss_cons (ms_set 8 sc_law_triples.nd rfl (by first | exact .inl rfl | exact .inr rfl) (EX.to (ex_bin (ex_var 1 rfl rfl (.inl rfl)) (ex_bin ex_int (ex_var 6 rfl rfl (.inl rfl)) (o_mul (.inl (by decide)))) (by walk_at "oadd")) ?_))
      generalize hba : start + 16 * (0 + (i : Int)) = base'
      have hba0 : 0 ≤ base' := by omega
      refine mss_cons (ms_set 9 sc_law_triples.nd rfl (by first | exact .inl rfl | exact .inr rfl) (EX.to (ex_bin (ex_call G_law_at (hr.mono (by decide)) (by rfl) (ax_cons (ex_var 0 rfl rfl (.inl rfl)) (ax_cons (ex_var 8 rfl rfl (.inl rfl)) ax_nil)) ⟨_, _, rfl, by walk_at "sd", rfl, rfl⟩) (ex_var 3 rfl rfl (.inl rfl)) (o_mod (by walk_at "sd"))) ?_))
      obtain ⟨r, hr1, hr2⟩ : ∃ r : Nat, lawAt d base' % (most : Int) = (r : Int) ∧ r < most := by
        have h1 := Int.emod_nonneg (lawAt d base') (show (most : Int) ≠ 0 by omega)
        have h2 := Int.emod_lt_of_pos (lawAt d base') (show (0 : Int) < most by omega)
        exact ⟨(lawAt d base' % (most : Int)).toNat, by omega, by omega⟩
      rw [hr1]
      refine mss_cons (ms_set 10 sc_law_triples.nd rfl (by first | exact .inl rfl | exact .inr rfl) (EX.to (ex_bin (ex_call G_law_at (hr.mono (by decide)) (by rfl) (ax_cons (ex_var 0 rfl rfl (.inl rfl)) (ax_cons (ex_bin (ex_var 8 rfl rfl (.inl rfl)) ex_int (by walk_at "oadd")) ax_nil)) ⟨_, _, rfl, by walk_at "sd", rfl, rfl⟩) (ex_bin (ex_var 3 rfl rfl (.inl rfl)) ex_int (by walk_at "oadd")) (o_mod (by walk_at "sd"))) ?_))
      obtain ⟨q, hq1⟩ : ∃ q : Nat, lawAt d (base' + 1) % ((most : Int) + 1) = (q : Int) := by
        have h1 := Int.emod_nonneg (lawAt d (base' + 1)) (show (most : Int) + 1 ≠ 0 by omega)
        exact ⟨(lawAt d (base' + 1) % ((most : Int) + 1)).toNat, by omega⟩
      rw [hq1]
      -- behind what another one knew
      have rest : ∀ (cs : List (List Nat)) (p2 : List Addr) (L' : Led), St L L' w1 w2 o p1 p2 ts cs → Inv most ts cs → MSs (y0 P w K mg base N_law_triples "_law_triples" (defScope s_law_triples) f cdv A outer s0 H E) ((forBody ((defBody s_law_triples).getD 4 (.Pass ⟨0, 0, 0, 0⟩))).drop 4)
          (fun ρ L' => ∃ ts cs p2 kk ba re ot de, ρ = [some (.dt (.list (d.map PyData.int))), some (.dt (.int start)), some (.dt (.int (steps : Int))), some (.dt (.int (most : Int))), some (.vl (.ref w1)), some (.vl (.ref w2)), kk, some (.vl (.ref o)), ba, re, ot, de, none] ∧ St L L' w1 w2 o p1 p2 ts cs ∧ Inv most ts cs ∧ ts.length = i + 1)
          { rt := Q,
            bk := fun ρ L => MSs (y0 P w K mg base N_law_triples "_law_triples" (defScope s_law_triples) f cdv A outer s0 H E) ((defBody s_law_triples).drop 5) (fun x L' => Q (.dt .none) L') { rt := Q } ρ L,
            ct := fun ρ L' => ∃ ts cs p2 kk ba re ot de, ρ = [some (.dt (.list (d.map PyData.int))), some (.dt (.int start)), some (.dt (.int (steps : Int))), some (.dt (.int (most : Int))), some (.vl (.ref w1)), some (.vl (.ref w2)), kk, some (.vl (.ref o)), ba, re, ot, de, none] ∧ St L L' w1 w2 o p1 p2 ts cs ∧ Inv most ts cs ∧ ts.length = i + 1 }
          [some (.dt (.list (d.map PyData.int))), some (.dt (.int start)), some (.dt (.int (steps : Int))), some (.dt (.int (most : Int))), some (.vl (.ref w1)), some (.vl (.ref w2)), some (.dt (.int (0 + (i : Int)))), some (.vl (.ref o)), some (.dt (.int base')), some (.dt (.int (r : Int))), some (.dt (.int (q : Int))), de, none] L' := by
        intro cs p2 L' S I
        have hcl := I.cl
        obtain ⟨pb, rb, e1, e2, e3, e4⟩ := S.cnts.get (r := (r : Int)) (by omega) (by rw [List.length_map, hcl]; omega)
        obtain ⟨pa, ra, f1, f2, f3, f4⟩ := S.rows.get (r := (r : Int)) (by omega) (by rw [List.length_map, rowsTo_len]; omega)
        rw [Int.toNat_natCast] at e1 e2 f1 f2
        obtain ⟨c, hc⟩ : ∃ c, cs[r]? = some c := ⟨_, List.getElem?_eq_getElem (by omega)⟩
        rw [List.getElem?_map, hc] at e2
        cases e2
        have hcm := List.mem_of_getElem? hc
        have hc8 := I.c8 c hcm
        have hrow : (rowsTo ts)[r]? = some ((rowsTo ts).getD r []) := by rw [List.getD_eq_getElem?_getD, List.getElem?_eq_getElem (by rw [rowsTo_len]; omega)]; rfl
        rw [List.getElem?_map, hrow] at f2
        cases f2
        have hw1 := S.rows.w
        have hw2 := S.cnts.w
        have ho := S.out
        have hR : RowsAt L' (.vl (.ref w1)) (rowsTo ts) := rows_lol S.rows
        have hv := vis_wf I.good.all (I.vis c hcm)
        have hB0 : 0 ≤ 1 + (stepMax + 24) * (ts.length : Int) := by
          have : 0 ≤ (stepMax + 24) * (ts.length : Int) := Int.mul_nonneg (by decide) (Int.natCast_nonneg _)
          omega
        refine mss_cons (ms_set 11 sc_law_triples.nd rfl (.inl rfl) (me_call G_law_deed (hr.mono (by decide)) (by rfl) (ma_ax (ax_cons (ex_var 0 rfl rfl (.inl rfl)) (ax_cons (ex_bin (ex_var 8 rfl rfl (.inl rfl)) ex_int (by walk_at "oadd")) (ax_cons (ex_call G_law_visible (hr.mono (by decide)) (by rfl) (ax_cons (ex_var 4 rfl rfl (.inl rfl)) (ax_cons (ex_ix (ex_var 5 rfl rfl (by first | exact .inl rfl | exact .inr (.inl rfl) | exact .inr (.inr rfl))) (ex_var 9 rfl rfl (by first | exact .inl rfl | exact .inr (.inl rfl) | exact .inr (.inr rfl))) (by walk_at "oix") (fun _ _ => rfl)) ax_nil)) ⟨_, _, rowsTo ts, c, rfl, hR, LL.h e3, rowsTo_len ts, hc8, rfl, rfl⟩) (ax_cons (ex_var 9 rfl rfl (by first | exact .inl rfl | exact .inr (.inl rfl) | exact .inr (.inr rfl))) ax_nil)))) ⟨d, base' + 2, _, vis (rowsTo ts) c, (r : Int), 1 + (stepMax + 24) * (ts.length : Int), rfl, by omega, RowsAt.dt, hv, vis_bd (rowsTo_len ts) I.good.bd, hB0, by omega, by omega, S.le _ _ hTb, fun deed hn L2 l2 => ⟨L', l2, ?_⟩⟩)))
        rw [Int.toNat_natCast] at hn
        have hstep := I.step hc hn (by omega)
        have hadd := S.add f1 e1 hc deed
        have hrl := row_le ts r
        generalize hrowg : (rowsTo ts).getD r [] = row at *
        have hz1 : (rowR row).length < sizeLine := by rw [row_len, sizeLine_eq]; omega
        have nab : pa ≠ pb := fun z => S.dj pa (List.mem_cons_of_mem _ (List.mem_of_getElem? f1)) (by rw [z]; exact List.mem_cons_of_mem _ (List.mem_of_getElem? e1))
        have n1a : w1 ≠ pa := fun z => S.rows.nw (by rw [z]; exact List.mem_of_getElem? f1)
        have n2b : w2 ≠ pb := fun z => S.cnts.nw (by rw [z]; exact List.mem_of_getElem? e1)
        have n1b : w1 ≠ pb := fun z => S.dj w1 List.mem_cons_self (by rw [z]; exact List.mem_cons_of_mem _ (List.mem_of_getElem? e1))
        have n2a : w2 ≠ pa := fun z => S.dj pa (List.mem_cons_of_mem _ (List.mem_of_getElem? f1)) (by rw [← z]; exact List.mem_cons_self)
        have noa : o ≠ pa := fun z => S.o1 (by rw [z]; exact List.mem_cons_of_mem _ (List.mem_of_getElem? f1))
        have nob : o ≠ pb := fun z => S.o2 (by rw [z]; exact List.mem_cons_of_mem _ (List.mem_of_getElem? e1))
        have hix : ixN (cntR c).length (r : Int) = some r := by
          unfold ixN
          rw [if_pos (by omega), if_pos (by rw [List.length_map, List.length_map, hc8]; omega)]
          rfl
        refine mss_cons (ms_expr (EX.to (ex_append (ex_ix (ex_var 4 rfl rfl (.inl rfl)) (ex_var 9 rfl rfl (by first | exact .inl rfl | exact .inr (.inl rfl) | exact .inr (.inr rfl))) (by walk_at "oix") (fun _ _ => rfl)) (by walk_at "lk") (ex_var 11 rfl rfl (.inl rfl)) (by walk_at "lk") (by walk_at "sz")) ?_))
        have hlen : ((rowR row ++ [Rv.dt (deedD deed)]).length : Int) = ((row.length + 1 : Nat) : Int) := by rw [List.length_append, row_len]; rfl
        refine mss_cons (ms_setix (ex_callB (ax_cons (ex_ix (ex_var 4 rfl rfl (.inl rfl)) (ex_var 9 rfl rfl (by first | exact .inl rfl | exact .inr (.inl rfl) | exact .inr (.inr rfl))) (by walk_at "oix") (fun _ _ => rfl)) ax_nil) (by walk_at "c_len") (by rfl) T.m_len PySem.boot_len) (ex_ix (ex_var 5 rfl rfl (by first | exact .inl rfl | exact .inr (.inl rfl) | exact .inr (.inr rfl))) (ex_var 9 rfl rfl (by first | exact .inl rfl | exact .inr (.inl rfl) | exact .inr (.inr rfl))) (by walk_at "oix") (fun _ _ => rfl)) (ex_var 9 rfl rfl (by first | exact .inl rfl | exact .inr (.inl rfl) | exact .inr (.inr rfl))) (by walk_at "lk") (by walk_at "ixn") ?_)
        rw [hlen]
        have hzo : (dts (ts.map trD)).length < sizeLine := by rw [List.length_map, List.length_map, sizeLine_eq]; omega
        refine mss_cons (ms_expr (EX.to (ex_append (ex_var 7 rfl rfl (.inl rfl)) (by walk_at "lk") (ex_tup (ad_cons (ex_var 9 rfl rfl (by first | exact .inl rfl | exact .inr (.inl rfl) | exact .inr (.inr rfl))) (ad_cons (ex_callB (ax_cons (ex_ix (ex_var 4 rfl rfl (.inl rfl)) (ex_var 9 rfl rfl (by first | exact .inl rfl | exact .inr (.inl rfl) | exact .inr (.inr rfl))) (by walk_at "oix") (fun _ _ => rfl)) ax_nil) (by walk_at "c_len") (by rfl) T.m_len PySem.boot_len) (ad_cons (ex_var 11 rfl rfl (.inl rfl)) ad_nil))) (by walk_at "few")) (by walk_at "lk") (by walk_at "sz")) ?_))
        rw [hlen]
        refine mss_nil ⟨_, _, p2, _, _, _, _, _, rfl, hadd, hstep, ?_⟩
        rw [List.length_append]
        show ts.length + 1 = _
        omega
      refine mss_cons (ms_ifx (tx_cmp (ex_var 10 rfl rfl (by first | exact .inl rfl | exact .inr (.inl rfl) | exact .inr (.inr rfl))) (ex_var 3 rfl rfl (.inl rfl)) (by walk_at "olt") (nomark _)) (fun hT => ?_) (fun hF => ?_))
      · have hq2 : q < most := by have := of_decide_eq_true hT; omega
        have hcl := I.cl
        obtain ⟨pr, rr, e1, e2, e3, e4⟩ := S.cnts.get (r := (r : Int)) (by omega) (by rw [List.length_map, hcl]; omega)
        obtain ⟨pq, rq, f1, f2, f3, f4⟩ := S.cnts.get (r := (q : Int)) (by omega) (by rw [List.length_map, hcl]; omega)
        rw [Int.toNat_natCast] at e1 e2 f1 f2
        obtain ⟨cr, hcr⟩ : ∃ c, cs[r]? = some c := ⟨_, List.getElem?_eq_getElem (by omega)⟩
        obtain ⟨cq, hcq⟩ : ∃ c, cs[q]? = some c := ⟨_, List.getElem?_eq_getElem (by omega)⟩
        rw [List.getElem?_map, hcr] at e2
        rw [List.getElem?_map, hcq] at f2
        cases e2
        cases f2
        have hw := S.cnts.w
        have c8r := I.c8 cr (List.mem_of_getElem? hcr)
        have c8q := I.c8 cq (List.mem_of_getElem? hcq)
        refine mss_cons (ms_setixM (me_lcpH (tgt := (.n 12)) (own := [("j", 12)]) (fun y => .int ((max (cr.getD (yi y) 0) (cq.getD (yi y) 0) : Nat) : Int)) (by rfl) sc_law_triples.nd (ix_range1 (ax_cons ex_int ax_nil) (by walk_at "sd") (by walk_at "sd") (by rfl) T.m_range) trivial (blkOk_by (by rfl)) rfl (fun s H C cl fp => (pgn_name 12 sc_law_triples.nd rfl (by first | exact .inl rfl | exact .inr rfl))) (by rw [rgY_len, sizeLine_eq]; decide) ?_ ?_))
        · intro j y hy
          obtain ⟨hj, rfl⟩ := rgY_at hy
          have hj8 : j < 8 := hj
          have ey : yi (.r (.dt (.int (0 + (j : Int))))) = j := by show (0 + (j : Int)).toNat = j; omega
          have hat1 : atI (cntI cr) (0 + (j : Int)) = some (.int ((cr.getD j 0 : Nat) : Int)) := by rw [Int.zero_add]; exact cnt_at (by omega)
          have hat2 : atI (cntI cq) (0 + (j : Int)) = some (.int ((cq.getD j 0 : Nat) : Int)) := by rw [Int.zero_add]; exact cnt_at (by omega)
          refine ⟨_, rfl, fun s H C cl fp => EX.eq (ex_callB (ax_cons (ex_ix (ex_ix (ex_var 5 rfl rfl (by first | exact .inl rfl | exact .inr (.inl rfl) | exact .inr (.inr rfl))) (ex_var 9 rfl rfl (by first | exact .inl rfl | exact .inr (.inl rfl) | exact .inr (.inr rfl))) (by walk_at "oix") (fun _ _ => rfl)) (ex_var 12 rfl rfl (by first | exact .inl rfl | exact .inr (.inl rfl) | exact .inr (.inr rfl))) (by walk_at "oix") (fun _ _ => rfl)) (ax_cons (ex_ix (ex_ix (ex_var 5 rfl rfl (by first | exact .inl rfl | exact .inr (.inl rfl) | exact .inr (.inr rfl))) (ex_var 10 rfl rfl (by first | exact .inl rfl | exact .inr (.inl rfl) | exact .inr (.inr rfl))) (by walk_at "oix") (fun _ _ => rfl)) (ex_var 12 rfl rfl (by first | exact .inl rfl | exact .inr (.inl rfl) | exact .inr (.inr rfl))) (by walk_at "oix") (fun _ _ => rfl)) ax_nil)) (by walk_at "c_max") (by rfl) T.m_max (by decide +kernel)) ?_⟩
          rw [ey]
          congr 2
          split <;> omega
        · intro D hD
          have ej : (rgY 0 (8 : Int).toNat).map (fun y => PyData.int ((max (cr.getD (yi y) 0) (cq.getD (yi y) 0) : Nat) : Int)) = cntI (join cr cq) := by
            unfold rgY join cntI
            rw [List.map_map, List.map_map]
            refine List.map_congr_left fun j _ => ?_
            have ey : yi (.r (.dt (.int (0 + (j : Int))))) = j := by show (0 + (j : Int)).toNat = j; omega
            show PyData.int ((max (cr.getD (yi (.r (.dt (.int (0 + (j : Int)))))) 0) (cq.getD (yi (.r (.dt (.int (0 + (j : Int)))))) 0) : Nat) : Int) = _
            rw [ey]
            rfl
          rw [ej]
          have hDw : w2 ≠ D := ne_led hw hD
          refine ⟨w2, rfs p2, (r : Int), r, (ex_var 5 rfl rfl (by first | exact .inl rfl | exact .inr (.inl rfl) | exact .inr (.inr rfl))), (ex_var 9 rfl rfl (by first | exact .inl rfl | exact .inr (.inl rfl) | exact .inr (.inr rfl))), by rw [updL_ne hDw]; exact hw, ?_, mss_nil (rest _ _ _ (S.join (by rw [S.cnts.p.pl, List.length_map]; omega) hD (join cr cq)) (I.join hcr hcq))⟩
          unfold ixN
          rw [if_pos (by omega), if_pos (by rw [List.length_map, S.cnts.p.pl, List.length_map]; omega)]
          rfl
      · exact mss_nil (rest cs p2 L' S I)
    · intro ρ L' hI
      obtain ⟨ts, cs, p2, kk, ba, re, ot, de, rfl, S, I, htl⟩ := hI
      rw [rgY_len, Int.toNat_natCast] at htl
      refine MSs.settle 7 rfl S.out ?_
      refine mss_cons (ms_ret (EX.to (ex_var 7 rfl rfl (.inl rfl)) ?_))
      refine k ts htl I.good I.who _ fun a m h => ?_
      unfold delL
      rw [if_neg (fun z => by rw [z, S.no] at h; cases h)]
      exact S.le a m h
end
end K05

set_option Elab.async false
set_option linter.all false
set_option maxRecDepth 100000
set_option maxHeartbeats 4000000
namespace K05
open PySem PySem.Spec PyProof.Rows L2 Cw
/-! ### small closers, each at its own key -/
local macro_rules | `(tactic| walk_at "oadd") => `(tactic| first | exact o_add | exact o_addS (by walk_at "sz") | exact o_cat (by walk_at "ll") (by walk_at "ll") (by walk_at "sz"))
local macro_rules | `(tactic| walk_at "osub") => `(tactic| exact o_sub)
local macro_rules | `(tactic| walk_at "omul") => `(tactic| first | exact o_mul (by walk_at "sd") | exact o_rep (by walk_at "ll") (by walk_at "sd") (by walk_at "sd") (by walk_at "sz"))
local macro_rules | `(tactic| walk_at "odiv") => `(tactic| first | exact o_div (by walk_at "sd") | exact o_divW (by walk_at "sd"))
local macro_rules | `(tactic| walk_at "olt") => `(tactic| exact o_lt)
local macro_rules | `(tactic| walk_at "ole") => `(tactic| exact o_le)
local macro_rules | `(tactic| walk_at "ogt") => `(tactic| exact o_gt)
local macro_rules | `(tactic| walk_at "oge") => `(tactic| exact o_ge)
local macro_rules | `(tactic| walk_at "oeq") => `(tactic| first | exact o_eqI | exact o_eqNI | exact o_eqS | exact o_eqB | exact o_eqR (Room.units (by assumption)) (by walk_at "dr") (by walk_at "dr") (by walk_at "sh") (by walk_at "sh"))
local macro_rules | `(tactic| walk_at "one") => `(tactic| first | exact o_neI | exact o_neS | exact o_neB | exact o_neR (Room.units (by assumption)) (by walk_at "dr") (by walk_at "dr") (by walk_at "sh") (by walk_at "sh"))
local macro_rules | `(tactic| walk_at "ois") => `(tactic| exact o_isN)
local macro_rules | `(tactic| walk_at "oisn") => `(tactic| exact o_notN)
local macro_rules | `(tactic| walk_at "iadd") => `(tactic| exact o_iadd)
local macro_rules | `(tactic| walk_at "isub") => `(tactic| exact o_isub)
local macro_rules | `(tactic| walk_at "lk") => `(tactic| first | assumption | exact updL_same | (refine Eq.trans (updL_ne (by first | assumption | (apply Ne.symm; assumption))) ?_; walk_at "lk"))
local macro_rules | `(tactic| walk_at "ll") => `(tactic| first | exact LL.dt | assumption | exact LL.h (by walk_at "lk"))
local macro_rules | `(tactic| walk_at "lr") => `(tactic| first | exact LL.dt | assumption | exact LR.h (by walk_at "lk"))
local macro_rules | `(tactic| walk_at "dr") => `(tactic| first | exact DD.dt | assumption | exact DD.ofLL (by walk_at "lk"))
local macro_rules | `(tactic| walk_at "sd") => `(tactic| first | omega | assumption | decide)
local macro_rules | `(tactic| walk_at "rg") => `(tactic| first | omega | assumption | decide)
local macro_rules | `(tactic| walk_at "sz") => `(tactic| first | assumption | (rw [sizeLine_eq]; first | omega | (simp; omega)))
local macro_rules | `(tactic| walk_at "osl") => `(tactic| first | exact s_str (by walk_at "sz") | exact s_lst (by walk_at "ll"))
local macro_rules | `(tactic| walk_at "c_len") => `(tactic| first | exact c_lenT | exact c_lenS (by walk_at "sz") | exact c_lenL (by walk_at "ll") | exact c_lenR (by walk_at "lr") | exact c_lenF (by assumption))
local macro_rules | `(tactic| walk_at "c_int") => `(tactic| first | exact c_int | exact c_intB)
local macro_rules | `(tactic| walk_at "c_min") => `(tactic| exact c_min rfl)
local macro_rules | `(tactic| walk_at "c_max") => `(tactic| exact c_max rfl)
local macro_rules | `(tactic| walk_at "c_ord") => `(tactic| exact c_ord (by walk_at "sz"))
local macro_rules | `(tactic| walk_at "c_list") => `(tactic| first | exact c_listT | exact c_list (by walk_at "ll") | exact c_listF (by assumption))
local macro_rules | `(tactic| walk_at "c_tuple") => `(tactic| first | exact c_tupleT | exact c_tuple (by walk_at "ll"))
local macro_rules | `(tactic| walk_at "c_isinstance") => `(tactic| exact c_isi (by walk_at "dr") (by decide))
local macro_rules | `(tactic| walk_at "few") => `(tactic| first | decide | exact Nat.le_of_ble_eq_true rfl | (rw [sizeLine_eq]; exact Nat.le_of_ble_eq_true rfl) | assumption)
local macro_rules | `(tactic| walk_at "fl") => `(tactic| first | assumption | rfl)
local macro_rules | `(tactic| walk_at "nf") => `(tactic| first | rfl | decide +kernel)
local macro_rules | `(tactic| walk_at "at") => `(tactic| first | assumption | rfl | exact atI_nat (by assumption))
local macro_rules | `(tactic| walk_at "oix") => `(tactic| first | exact i_tup (by walk_at "at") | exact i_lst (by walk_at "ll") (by walk_at "at") | exact i_lstR (by walk_at "lr") (by walk_at "at") | exact i_str (by walk_at "sz") (by walk_at "at") | exact i_lstF (by assumption) (by walk_at "at"))
local macro_rules | `(tactic| walk_at "ixn") => `(tactic| first | assumption | rfl)
local macro_rules | `(tactic| walk_at "okd") => `(tactic| first | rfl | assumption)
local macro_rules | `(tactic| walk_at "wr") => `(tactic| first | assumption | omega)
local macro_rules | `(tactic| walk_at "shn") => `(tactic| first | exact fun z => absurd z (by assumption) | exact fun z => absurd rfl z | exact fun _ => ⟨rfl, rfl⟩)
local macro_rules | `(tactic| walk_at "onin") => `(tactic| exact o_notIn2S)
local macro_rules | `(tactic| walk_at "okp") => `(tactic| first | assumption | exact nxt_p (by walk_at "okp"))
local macro_rules | `(tactic| walk_at "c_all") => `(tactic| exact c_all rfl (by walk_at "ll"))
local macro_rules | `(tactic| walk_at "c_sum") => `(tactic| exact c_sum rfl (by walk_at "ll"))
local macro_rules | `(tactic| walk_at "c_sorted") => `(tactic| exact c_sortedS (by walk_at "ll") (by walk_at "sz"))

section
variable {P : Program} {w : World} {K : PySem.W.Frag} {mg : Str → Option Value} {base : Heap} {C : Addr}
theorem good_mem {ts : List Tri} (G : Good ts) {i : Nat} {t : Tri} (h : ts[i]? = some t) : t.1 < 8 := (G.at_ i t h).1
theorem rows_take {ts : List Tri} {i : Nat} {t : Tri} (h : ts[i]? = some t) : rowsTo (ts.take (i + 1)) = addR (rowsTo (ts.take i)) t.1 t.2.2 := by rw [take_snoc h, rowsTo_snoc]
def sp_rowsof : Fs := fun as L Q _ => ∃ ts, as = [.dt (.list (ts.map trD))] ∧ (∀ t ∈ ts, t.1 < 8) ∧ ts.length ≤ 1000 ∧ ∀ w1 p1 L', Le L L' → Lol L' w1 p1 ((rowsTo ts).map rowR) → (∀ a ∈ w1 :: p1, L a = none) → Q (.vl (.ref w1)) L'
theorem ok_rowsof {f : Addr} {fd : FuncData} (F : Fun K "_law_rows_of" "_law_rows_of" s_law_rows_of f fd) (T : TxD K mg C) : FnOk P w K mg base CX0 1 f fd P_law_rows_of (lift sp_rowsof) := by
  refine fnok0 F sc_law_rows_of (fun as L Q XC h => by obtain ⟨_, rfl, _⟩ := h; rfl) ?_
  intro cdv A outer s0 H E hr as L Q XC h
  obtain ⟨ts, rfl, h8, hlen, k⟩ := h
  refine mss_cons (ms_setlc (i := 1) (tgt := (.n 5)) (own := [("k", 5)]) (by rfl) sc_law_rows_of.nd rfl rfl (by rfl) (ix_range1 (ax_cons ex_int ax_nil) (by walk_at "sd") (by walk_at "sd") (by rfl) T.m_range) (blkOk_by (by rfl)) rfl (fun s H C cl fp => (pgn_name 5 sc_law_rows_of.nd rfl (by first | exact .inl rfl | exact .inr rfl))) (by rw [rgY_len, sizeLine_eq]; decide)
    (fun i acc L' => ∃ ps, acc = rfs ps ∧ Lop L' ps (List.replicate i []) ∧ (∀ a ∈ ps, L a = none) ∧ Le L L') ⟨[], rfl, Lop.nil, (fun _ h => by cases h), Le.refl L⟩ (fun _ _ _ _ _ => trivial) ?_ ?_)
  · intro i y acc L' hy hI
    obtain ⟨ps, rfl, N, hn, hle⟩ := hI
    obtain ⟨hk, rfl⟩ := rgY_at hy
    refine ⟨_, rfl, fun b L2 => b = true ∧ L2 = L', fun _ _ _ _ _ => mts_nil ⟨rfl, rfl⟩, fun b L2 hb2 => ?_⟩
    obtain ⟨rfl, rfl⟩ := hb2
    refine ⟨fun _ s9 H9 C9 cl9 fp9 => me_lst0 fun p hp => ⟨ps ++ [p], by rw [rfs, rfs, List.map_append]; rfl, ?_, fun a ha => ?_, hle.mut (hle.none hp)⟩, fun z => by cases z⟩
    · rw [List.replicate_succ']
      exact N.snoc hp
    · rcases List.mem_append.mp ha with z | z
      · exact hn a z
      · rw [List.mem_singleton.mp z]; exact hle.none hp
  intro acc L1 hI w1 hw1
  obtain ⟨p1, rfl, N, hn1, hle⟩ := hI
  rw [rgY_len] at N
  refine .inr ?_
  have R1 : Lol (updL L1 w1 (.lst (rfs p1))) w1 p1 ((rowsTo (ts.take 0)).map rowR) := N.close hw1
  have l1 : Le L (updL L1 w1 (.lst (rfs p1))) := hle.mut (hle.none hw1)
  have n1 : ∀ a ∈ w1 :: p1, L a = none := fun a ha => by
    rcases List.mem_cons.mp ha with z | z
    · rw [z]; exact hle.none hw1
    · exact hn1 a z
  generalize updL L1 w1 (.lst (rfs p1)) = L1' at *
  refine mss_cons (ms_for (tgt := (.t [2, 3, 4])) rfl (ix_data (ex_var 0 rfl rfl (.inl rfl))) (pgn_tup rfl (pgn_cons 2 sc_law_rows_of.nd rfl (by first | exact .inl rfl | exact .inr rfl) (pgn_cons 3 sc_law_rows_of.nd rfl (by first | exact .inl rfl | exact .inr rfl) (pgn_cons 4 sc_law_rows_of.nd rfl (by first | exact .inl rfl | exact .inr rfl) pgn_nil)))) (fun i ρ L' => ∃ re pl de, ρ = [some (.dt (.list (ts.map trD))), some (.vl (.ref w1)), re, pl, de, none] ∧ Lol L' w1 p1 ((rowsTo (ts.take i)).map rowR) ∧ Le L L') ⟨none, none, none, rfl, R1, l1⟩ (fun _ _ _ _ _ => trivial) ?_ ?_)
  · intro i y ρ L' hy hI
    obtain ⟨re, pl, de, rfl, R, l⟩ := hI
    rw [List.getElem?_map, List.getElem?_map] at hy
    cases ht : ts[i]? with
    | none => rw [ht] at hy; cases hy
    | some t =>
      rw [ht] at hy
      cases hy
      have ht8 := h8 t (List.mem_of_getElem? ht)
      rw [rows_take ht]
      obtain ⟨r, pl0, d⟩ := t
      have ht8 : r < 8 := ht8
      refine ⟨_, rfl, ?_⟩
      obtain ⟨pa, ra, f1, f2, f3, f4⟩ := R.get (r := (r : Int)) (by omega) (by rw [List.length_map, rowsTo_len]; omega)
      rw [Int.toNat_natCast] at f1 f2
      have hrow : (rowsTo (ts.take i))[r]? = some ((rowsTo (ts.take i)).getD r []) := by rw [List.getD_eq_getElem?_getD, List.getElem?_eq_getElem (by rw [rowsTo_len]; omega)]; rfl
      rw [List.getElem?_map, hrow] at f2
      cases f2
      have hw1 := R.w
      have hz1 : (rowR ((rowsTo (ts.take i)).getD r [])).length < sizeLine := by
        have := row_le (ts.take i) r
        rw [List.length_take] at this
        rw [row_len, sizeLine_eq]
        omega
      refine mss_cons (ms_expr (EX.to (ex_append (ex_ix (ex_var 1 rfl rfl (.inl rfl)) (ex_var 2 rfl rfl (.inl rfl)) (by walk_at "oix") (fun _ _ => rfl)) (by walk_at "lk") (ex_var 4 rfl rfl (.inl rfl)) (by walk_at "lk") (by walk_at "sz")) ?_))
      refine mss_nil ⟨_, _, _, rfl, ?_, l.mut (n1 pa (List.mem_cons_of_mem _ (List.mem_of_getElem? f1)))⟩
      unfold addR
      rw [List.map_set]
      have e : rowR ((rowsTo (ts.take i)).getD r [] ++ [d]) = rowR ((rowsTo (ts.take i)).getD r []) ++ [.dt (deedD d)] := by simp [rowR, dts]
      show Lol _ w1 p1 (((rowsTo (ts.take i)).map rowR).set r (rowR ((rowsTo (ts.take i)).getD r [] ++ [d])))
      rw [e]
      exact R.put f1
  · intro ρ L' hI
    obtain ⟨re, pl, de, rfl, R, l⟩ := hI
    rw [List.length_map, List.length_map, List.take_length] at R
    refine mss_cons (ms_ret (EX.to (ex_var 1 rfl rfl (.inl rfl)) ?_))
    exact k w1 p1 _ l R n1
def sp_deeds (C : Addr) : Fs := fun as L Q _ => ∃ ts, as = [.dt (.list (ts.map trD))] ∧ (∀ t ∈ ts, t.1 < 8) ∧ ts.length ≤ 1000 ∧ ∀ q w ps L', Le L L' → DAt C L' q w ps (rowsTo ts) → w ∉ ps → (∀ a ∈ q :: w :: ps, L a = none) → Q (.vl (.ref q)) L'
theorem ok_deeds {f fI : Addr} {fd fdI : FuncData} (F : Fun K "_law_deeds" "_law_deeds" s_law_deeds f fd) (T : TxD K mg C) (mC : mg "Deeds" = some (.ref C)) (M : L2.Mk K C fI) (FI : FnOk P w K mg base CX0 1 fI fdI P_Deeds_init (lift (sp_init C))) (bI : Binds K fdI P_Deeds_init []) (G_Deeds_add : MtM P w K mg base 1 C "add" P_Deeds_add (sp_add C)) : FnOk P w K mg base CX0 3 f fd P_law_deeds (lift (sp_deeds C)) := by
  refine fnok0 F sc_law_deeds (fun as L Q XC h => by obtain ⟨_, rfl, _⟩ := h; rfl) ?_
  intro cdv A outer s0 H E hr as L Q XC h
  obtain ⟨ts, rfl, h8, hlen, k⟩ := h
  refine mss_cons (ms_set 1 sc_law_deeds.nd rfl (.inl rfl) (me_make0 M FI bI (hr.mono (by decide)) (by rfl) mC (fun q hq => ⟨q, rfl, updL_same, fun w1 ps L1 D1 hw1 hps1 hn1 fr => ⟨rfl, ?_⟩⟩)))
  have l1 : Le L L1 := fun a m h => fr a (ne_led h hq) m (by rw [updL_ne (ne_led h hq)]; exact h)
  have nw1 : L w1 = none := by
    cases e : L w1 with
    | none => rfl
    | some m => rw [updL_ne (ne_led e hq), e] at hw1; cases hw1
  have nps : ∀ a ∈ ps, L a = none := fun a ha => by
    cases e : L a with
    | none => rfl
    | some m => have := hps1 a ha; rw [updL_ne (ne_led e hq), e] at this; cases this
  refine mss_cons (ms_for (tgt := (.t [2, 3, 4])) rfl (ix_data (ex_var 0 rfl rfl (.inl rfl))) (pgn_tup rfl (pgn_cons 2 sc_law_deeds.nd rfl (by first | exact .inl rfl | exact .inr rfl) (pgn_cons 3 sc_law_deeds.nd rfl (by first | exact .inl rfl | exact .inr rfl) (pgn_cons 4 sc_law_deeds.nd rfl (by first | exact .inl rfl | exact .inr rfl) pgn_nil)))) (fun i ρ L' => ∃ re pl de, ρ = [some (.dt (.list (ts.map trD))), some (.vl (.ref q)), re, pl, de] ∧ DAt C L' q w1 ps (rowsTo (ts.take i)) ∧ Le L L') ⟨none, none, none, rfl, D1, l1⟩ (fun _ _ _ _ _ => trivial) ?_ ?_)
  · intro i y ρ L' hy hI
    obtain ⟨re, pl, de, rfl, D, l⟩ := hI
    rw [List.getElem?_map, List.getElem?_map] at hy
    cases ht : ts[i]? with
    | none => rw [ht] at hy; cases hy
    | some t =>
      rw [ht] at hy
      cases hy
      have ht8 := h8 t (List.mem_of_getElem? ht)
      rw [rows_take ht]
      obtain ⟨r, pl0, d⟩ := t
      have ht8 : r < 8 := ht8
      refine ⟨_, rfl, ?_⟩
      obtain ⟨p, row, e1, e2, e3, e4, e5⟩ := D.get (r := (r : Int)) (by omega) (by omega)
      have ho := D.o
      have hz : row.length ≤ 1000 := by
        have := row_le (ts.take i) r
        rw [Int.toNat_natCast] at e4
        rw [e4, List.length_take] at this
        omega
      refine mss_cons (ms_expr (EX.to (ex_meth (ex_var 1 rfl rfl (.inl rfl)) (by walk_at "lk") (by walk_at "nf") T.c_Deeds G_Deeds_add (hr.mono (by decide)) (ax_cons (ex_var 2 rfl rfl (.inl rfl)) (ax_cons (ex_var 4 rfl rfl (.inl rfl)) ax_nil)) ⟨q, w1, ps, _, p, row, (r : Int), d, rfl, D, by omega, by omega, e1, e2, hz, rfl, rfl⟩) ?_))
      rw [Int.toNat_natCast] at e1 e2 e4
      refine mss_nil ⟨_, _, _, rfl, ?_, l.mut (nps p (List.mem_of_getElem? e1))⟩
      unfold addR
      rw [e4]
      exact D.add d e1 e2 (fun z => hn1 (by rw [← z]; exact List.mem_of_getElem? e1))
  · intro ρ L' hI
    obtain ⟨re, pl, de, rfl, D, l⟩ := hI
    rw [List.length_map, List.length_map, List.take_length] at D
    refine mss_cons (ms_ret (EX.to (ex_var 1 rfl rfl (.inl rfl)) ?_))
    refine k q w1 ps _ l D hn1 fun a ha => ?_
    rcases List.mem_cons.mp ha with z | z
    · rw [z]; exact hq
    · rcases List.mem_cons.mp z with z | z
      · rw [z]; exact nw1
      · exact nps a z
end
/-! ### what may be compared -/
theorem ok_mk (n : Nat) (p : Mk) : okD (n + 1) (mkD p) = true := by
  cases n <;> simp [okD]
theorem ok_dd (d : Deed) : okD 3 (deedD d) = true := by
  cases d with
  | back p => simp [okD]
  | change m rm bh n l =>
    cases bh <;> simp [okD]
theorem ok_rows (rows : List (List Deed)) : okD 5 (rowsD rows) = true := by
  show (rows.map rowD).all (okD 4) = true
  rw [List.all_map, List.all_eq_true]
  intro row _
  show (row.map deedD).all (okD 3) = true
  rw [List.all_map, List.all_eq_true]
  exact fun d _ => ok_dd d
theorem ok_cnt (l : List Nat) : okD 5 (.list (l.map fun (n : Nat) => PyData.int (n : Int))) = true := by
  show (l.map fun (n : Nat) => PyData.int (n : Int)).all (okD 4) = true
  rw [List.all_map, List.all_eq_true]
  intro x _
  rfl
theorem ok_fc (row : List Deed) : okD 5 (.list (fcD row)) = true := by
  show (fcD row).all (okD 4) = true
  unfold fcD
  rw [List.all_map, List.all_eq_true]
  intro x _
  rfl
theorem ok_ent (es : List Ent) : okD 5 (.list (es.map entD)) = true := by
  show (es.map entD).all (okD 4) = true
  rw [List.all_map, List.all_eq_true]
  intro x _
  simp [okD]
theorem cntD_eq (rows : List (List Deed)) : cntD rows = (rows.map List.length).map fun (n : Nat) => PyData.int (n : Int) := by unfold cntD; rw [List.map_map]; rfl
theorem DAt.dd {C q w : Addr} {L : Led} {ps : List Addr} {rows : List (List Deed)} (D : DAt C L q w ps rows) : DD L (.vl (.ref w)) (rowsD rows) := by
  refine .lst D.w (.of (paired_of (by rw [List.length_map, List.length_map, D.pl, D.len]) fun i x y e1 e2 => ?_))
  rw [List.getElem?_map] at e1 e2
  cases hp : ps[i]? with
  | none => rw [hp] at e1; cases e1
  | some p =>
    cases hr : rows[i]? with
    | none => rw [hr] at e2; cases e2
    | some row =>
      rw [hp] at e1
      rw [hr] at e2
      cases e1
      cases e2
      exact DD.ofLL (D.at_ i p row hp hr)
section
/-! ### objects apart -/
theorem DAt.nw {C q w : Addr} {L : Led} {ps : List Addr} {rows : List (List Deed)} (D : DAt C L q w ps rows) : w ∉ ps := fun z => by
  obtain ⟨i, hi⟩ := List.mem_iff_getElem?.mp z
  obtain ⟨row, _, h2⟩ := D.row_at hi
  rw [D.w] at h2
  injection h2 with h2
  injection h2 with h2
  have hp := D.pl
  cases ps with
  | nil => cases hp
  | cons p ps =>
    cases row with
    | nil => cases h2
    | cons d row => cases h2
theorem DAt.mem {C q w a : Addr} {L : Led} {ps : List Addr} {rows : List (List Deed)} (D : DAt C L q w ps rows) (h : a ∈ q :: w :: ps) : ∃ m, L a = some m := by
  rcases List.mem_cons.mp h with z | z
  · exact ⟨_, by rw [z]; exact D.o⟩
  · rcases List.mem_cons.mp z with z | z
    · exact ⟨_, by rw [z]; exact D.w⟩
    · obtain ⟨i, hi⟩ := List.mem_iff_getElem?.mp z
      obtain ⟨row, _, h2⟩ := D.row_at hi
      exact ⟨_, h2⟩
theorem DAt.skip {C q w a : Addr} {L : Led} {ps : List Addr} {rows : List (List Deed)} {m : MO} (D : DAt C L q w ps rows) (h : a ∉ q :: w :: ps) : DAt C (updL L a m) q w ps rows :=
  ⟨by rw [updL_ne (fun z => h (by rw [← z]; exact List.mem_cons_self))]; exact D.o, by rw [updL_ne (fun z => h (by rw [← z]; exact List.mem_cons_of_mem _ List.mem_cons_self))]; exact D.w, D.len, D.pl, fun i p row h1 h2 => by
    rw [updL_ne (fun z => h (by rw [← z]; exact List.mem_cons_of_mem _ (List.mem_cons_of_mem _ (List.mem_of_getElem? h1))))]
    exact D.at_ i p row h1 h2, D.nd⟩
theorem rows_du {L : Led} {w1 : Addr} {p1 : List Addr} {rows : List (List Deed)} (h : Lol L w1 p1 (rows.map rowR)) : DU L (fun a => a ∈ w1 :: p1) (.vl (.ref w1)) (rowsD rows) := by
  have e : rows.map rowR = (rows.map fun row => row.map deedD).map fun ds => ds.map Rv.dt := by rw [List.map_map]; rfl
  rw [e] at h
  have := h.du
  rw [List.map_map] at this
  exact this
end
/-! ### rows and an object, told alike -/
theorem wf_put {rows : List (List Deed)} {r : Nat} {d : Deed} (W : Wf rows) (hd : DeedOk d) (hp : ∀ m rm bh n l, d = .change m rm bh n l → (l = [] ∨ ∀ m' rm' bh' n' l', Deed.change m' rm' bh' n' l' ∈ rows.getD r [] → n' + (l'.length : Int) ≤ n) ∧ ∀ b, bh = some b → Has m rows b ∧ b.1 < n) (hl : (rows.getD r []).length < 100) : Wf (addR rows r d) := by
  have mono := inc_add rows r d
  refine ⟨by rw [addR_len]; exact W.len, fun row hrow => ?_, fun j row m rm b n l h hm => ?_⟩
  · obtain ⟨j, hj⟩ := List.mem_iff_getElem?.mp hrow
    unfold addR at hj
    by_cases z : r = j
    · subst z
      have hr : r < rows.length := by
        have := (List.getElem?_eq_some_iff.mp hj).1
        rwa [List.length_set] at this
      rw [List.getElem?_set_self hr] at hj
      cases hj
      obtain ⟨a1, a2, a3⟩ := W.at_ r
      refine ⟨by rw [List.length_append]; show _ + 1 ≤ _; omega, fun x hx => ?_, ?_⟩
      · rcases List.mem_append.mp hx with q | q
        · exact a2 x q
        · rw [List.mem_singleton.mp q]; exact hd
      · rw [List.pairwise_append]
        refine ⟨a3, List.pairwise_singleton _ _, fun x hx y hy => ?_⟩
        rw [List.mem_singleton.mp hy]
        cases d with
        | back p => cases x <;> trivial
        | change m rm bh n l =>
          cases x with
          | back p => trivial
          | change m' rm' bh' n' l' =>
            rcases (hp m rm bh n l rfl).1 with q | q
            · exact .inl q
            · exact .inr (q m' rm' bh' n' l' hx)
    · rw [List.getElem?_set_ne z] at hj
      exact W.ok row (List.mem_of_getElem? hj)
  · have hold : ∀ row0, rows[j]? = some row0 → Deed.change m rm (some b) n l ∈ row0 → Has m (addR rows r d) b ∧ b.1 < n := fun row0 h1 h2 => by
      obtain ⟨a1, a2⟩ := W.cl j row0 m rm b n l h1 h2
      exact ⟨a1.mono mono, a2⟩
    unfold addR at h
    by_cases z : r = j
    · subst z
      have hl : r < rows.length := by
        have := (List.getElem?_eq_some_iff.mp h).1
        rwa [List.length_set] at this
      rw [List.getElem?_set_self hl] at h
      cases h
      rcases List.mem_append.mp hm with q | q
      · refine hold _ ?_ q
        rw [List.getD_eq_getElem?_getD, List.getElem?_eq_getElem hl]
        rfl
      · obtain ⟨a1, a2⟩ := (hp m rm (some b) n l (List.mem_singleton.mp q).symm).2 b rfl
        exact ⟨a1.mono mono, a2⟩
    · rw [List.getElem?_set_ne z] at h
      exact hold _ h hm
theorem bd_put {B B' : Int} {rows : List (List Deed)} {r : Nat} {d : Deed} (hb : Bd B rows) (hB : B ≤ B') (hd : ∀ m rm bh n l, d = .change m rm bh n l → n + (l.length : Int) ≤ B') : Bd B' (addR rows r d) := fun row hrow m rm bh n l hm => by
  obtain ⟨j, hj⟩ := List.mem_iff_getElem?.mp hrow
  unfold addR at hj
  have old : ∀ row0 ∈ rows, Deed.change m rm bh n l ∈ row0 → n + (l.length : Int) ≤ B' := fun row0 h1 h2 => Int.le_trans (hb row0 h1 m rm bh n l h2) hB
  by_cases z : r = j
  · subst z
    have hr : r < rows.length := by
      have := (List.getElem?_eq_some_iff.mp hj).1
      rwa [List.length_set] at this
    rw [List.getElem?_set_self hr] at hj
    cases hj
    rcases List.mem_append.mp hm with q | q
    · refine old _ ?_ q
      rw [List.getD_eq_getElem?_getD, List.getElem?_eq_getElem hr]
      exact List.getElem_mem hr
    · exact hd m rm bh n l (List.mem_singleton.mp q).symm
  · rw [List.getElem?_set_ne z] at hj
    exact old row (List.mem_of_getElem? hj) hm
theorem lol_dd {L : Led} {w1 : Addr} {p1 : List Addr} {rows : List (List Deed)} (h : Lol L w1 p1 (rows.map rowR)) : DD L (.vl (.ref w1)) (rowsD rows) := by
  refine .lst h.w (.of (paired_of (by rw [List.length_map, List.length_map, h.p.pl, List.length_map]) fun i x y e1 e2 => ?_))
  rw [List.getElem?_map] at e1 e2
  cases hp : p1[i]? with
  | none => rw [hp] at e1; cases e1
  | some p =>
    cases hr : rows[i]? with
    | none => rw [hr] at e2; cases e2
    | some row =>
      rw [hp] at e1
      rw [hr] at e2
      cases e1
      cases e2
      exact DD.ofLL (h.p.at_ i p _ hp (by rw [List.getElem?_map, hr]; rfl))
structure S5 (C : Addr) (L L' : Led) (w1 : Addr) (p1 : List Addr) (q w : Addr) (ps : List Addr) (rows : List (List Deed)) : Prop where
  lol : Lol L' w1 p1 (rows.map rowR)
  dat : DAt C L' q w ps rows
  dj : ∀ a ∈ w1 :: p1, a ∉ q :: w :: ps
  n1 : ∀ a ∈ w1 :: p1, L a = none
  n2 : ∀ a ∈ q :: w :: ps, L a = none
  le : Le L L'
section
variable {C : Addr} {L L' L2 : Led} {w1 q w : Addr} {p1 ps : List Addr} {rows : List (List Deed)}
theorem S5.up (S : S5 C L L' w1 p1 q w ps rows) (l : Le L' L2) : S5 C L L2 w1 p1 q w ps rows := ⟨S.lol.le l, S.dat.le l, S.dj, S.n1, S.n2, S.le.trans l⟩
/-- where a deed of the replica goes -/
theorem S5.at_ (S : S5 C L L' w1 p1 q w ps rows) {r : Nat} (hr : r < 8) : ∃ pa pb, p1[r]? = some pa ∧ ps[r]? = some pb ∧ rows[r]? = some (rows.getD r []) ∧ L' pa = some (.lst (rowR (rows.getD r []))) ∧ L' pb = some (.lst (rowR (rows.getD r []))) ∧ atI (rfs p1) (r : Int) = some (.vl (.ref pa)) ∧ pa ≠ pb ∧ pa ∉ q :: w :: ps ∧ pb ∉ w1 :: p1 ∧ pb ≠ w := by
  have hl := S.dat.len
  have hrow : rows[r]? = some (rows.getD r []) := by rw [List.getD_eq_getElem?_getD, List.getElem?_eq_getElem (by omega)]; rfl
  obtain ⟨pa, ra, f1, f2, f3, f4⟩ := S.lol.get (r := (r : Int)) (by omega) (by rw [List.length_map]; omega)
  rw [Int.toNat_natCast] at f1 f2
  rw [List.getElem?_map, hrow] at f2
  cases f2
  obtain ⟨pb, hpb⟩ : ∃ pb, ps[r]? = some pb := ⟨_, List.getElem?_eq_getElem (by rw [S.dat.pl]; exact hr)⟩
  have hm1 : pa ∈ w1 :: p1 := List.mem_cons_of_mem _ (List.mem_of_getElem? f1)
  have hm2 : pb ∈ ps := List.mem_of_getElem? hpb
  exact ⟨pa, pb, f1, hpb, hrow, f3, S.dat.at_ r _ _ hpb hrow, f4, fun z => S.dj pa hm1 (by rw [z]; exact List.mem_cons_of_mem _ (List.mem_cons_of_mem _ hm2)), S.dj pa hm1, fun z => S.dj _ z (List.mem_cons_of_mem _ (List.mem_cons_of_mem _ hm2)), fun z => S.dat.nw (by rw [← z]; exact hm2)⟩
theorem S5.add (S : S5 C L L' w1 p1 q w ps rows) {r : Nat} {pa pb : Addr} (hr : r < 8) (hpa : p1[r]? = some pa) (hpb : ps[r]? = some pb) (d : Deed) : S5 C L (updL (updL L' pa (.lst (rowR (rows.getD r []) ++ [.dt (deedD d)]))) pb (.lst (rowR (rows.getD r [] ++ [d])))) w1 p1 q w ps (addR rows r d) := by
  have hl := S.dat.len
  have hrow : rows[r]? = some (rows.getD r []) := by rw [List.getD_eq_getElem?_getD, List.getElem?_eq_getElem (by omega)]; rfl
  have hm1 : pa ∈ w1 :: p1 := List.mem_cons_of_mem _ (List.mem_of_getElem? hpa)
  have hm2 : pb ∈ ps := List.mem_of_getElem? hpb
  have hm3 : pb ∈ q :: w :: ps := List.mem_cons_of_mem _ (List.mem_cons_of_mem _ hm2)
  refine ⟨?_, ?_, S.dj, S.n1, S.n2, (S.le.mut (S.n1 pa hm1)).mut (S.n2 pb hm3)⟩
  · refine Lol.skip ?_ fun z => S.dj pb z hm3
    unfold addR
    rw [List.map_set]
    have e : rowR (rows.getD r [] ++ [d]) = rowR (rows.getD r []) ++ [.dt (deedD d)] := by simp [rowR, dts]
    show Lol _ w1 p1 ((rows.map rowR).set r (rowR (rows.getD r [] ++ [d])))
    rw [e]
    exact S.lol.put hpa
  · have D2 := S.dat.skip (m := .lst (rowR (rows.getD r []) ++ [.dt (deedD d)])) (S.dj pa hm1)
    exact D2.add d hpb hrow (fun z => S.dat.nw (by rw [← z]; exact hm2))
end
end K05

set_option Elab.async false
set_option linter.all false
set_option maxRecDepth 100000
set_option maxHeartbeats 4000000
namespace K05
open PySem PySem.Spec PyProof.Rows L2 Cw
/-! ### small closers, each at its own key -/
local macro_rules | `(tactic| walk_at "oadd") => `(tactic| first | exact o_add | exact o_addS (by walk_at "sz") | exact o_cat (by walk_at "ll") (by walk_at "ll") (by walk_at "sz"))
local macro_rules | `(tactic| walk_at "osub") => `(tactic| exact o_sub)
local macro_rules | `(tactic| walk_at "omul") => `(tactic| first | exact o_mul (by walk_at "sd") | exact o_rep (by walk_at "ll") (by walk_at "sd") (by walk_at "sd") (by walk_at "sz"))
local macro_rules | `(tactic| walk_at "odiv") => `(tactic| first | exact o_div (by walk_at "sd") | exact o_divW (by walk_at "sd"))
local macro_rules | `(tactic| walk_at "olt") => `(tactic| exact o_lt)
local macro_rules | `(tactic| walk_at "ole") => `(tactic| exact o_le)
local macro_rules | `(tactic| walk_at "ogt") => `(tactic| exact o_gt)
local macro_rules | `(tactic| walk_at "oge") => `(tactic| exact o_ge)
local macro_rules | `(tactic| walk_at "oeq") => `(tactic| first | exact o_eqI | exact o_eqNI | exact o_eqS | exact o_eqB | exact o_eqR (Room.units (by assumption)) (by walk_at "dr") (by walk_at "dr") (by walk_at "sh") (by walk_at "sh"))
local macro_rules | `(tactic| walk_at "one") => `(tactic| first | exact o_neI | exact o_neS | exact o_neB | exact o_neR (Room.units (by assumption)) (by walk_at "dr") (by walk_at "dr") (by walk_at "sh") (by walk_at "sh"))
local macro_rules | `(tactic| walk_at "ois") => `(tactic| exact o_isN)
local macro_rules | `(tactic| walk_at "oisn") => `(tactic| exact o_notN)
local macro_rules | `(tactic| walk_at "iadd") => `(tactic| exact o_iadd)
local macro_rules | `(tactic| walk_at "isub") => `(tactic| exact o_isub)
local macro_rules | `(tactic| walk_at "lk") => `(tactic| first | assumption | exact updL_same | (refine Eq.trans (updL_ne (by first | assumption | (apply Ne.symm; assumption))) ?_; walk_at "lk"))
local macro_rules | `(tactic| walk_at "ll") => `(tactic| first | exact LL.dt | assumption | exact LL.h (by walk_at "lk"))
local macro_rules | `(tactic| walk_at "lr") => `(tactic| first | exact LL.dt | assumption | exact LR.h (by walk_at "lk"))
local macro_rules | `(tactic| walk_at "dr") => `(tactic| first | exact DD.dt | assumption | exact DD.ofLL (by walk_at "lk"))
local macro_rules | `(tactic| walk_at "sd") => `(tactic| first | omega | assumption | decide)
local macro_rules | `(tactic| walk_at "rg") => `(tactic| first | omega | assumption | decide)
local macro_rules | `(tactic| walk_at "sz") => `(tactic| first | assumption | (rw [sizeLine_eq]; first | omega | (simp; omega)))
local macro_rules | `(tactic| walk_at "osl") => `(tactic| first | exact s_str (by walk_at "sz") | exact s_lst (by walk_at "ll"))
local macro_rules | `(tactic| walk_at "c_len") => `(tactic| first | exact c_lenT | exact c_lenS (by walk_at "sz") | exact c_lenL (by walk_at "ll") | exact c_lenR (by walk_at "lr") | exact c_lenF (by assumption))
local macro_rules | `(tactic| walk_at "c_int") => `(tactic| first | exact c_int | exact c_intB)
local macro_rules | `(tactic| walk_at "c_min") => `(tactic| exact c_min rfl)
local macro_rules | `(tactic| walk_at "c_max") => `(tactic| exact c_max rfl)
local macro_rules | `(tactic| walk_at "c_ord") => `(tactic| exact c_ord (by walk_at "sz"))
local macro_rules | `(tactic| walk_at "c_list") => `(tactic| first | exact c_listT | exact c_list (by walk_at "ll") | exact c_listF (by assumption))
local macro_rules | `(tactic| walk_at "c_tuple") => `(tactic| first | exact c_tupleT | exact c_tuple (by walk_at "ll"))
local macro_rules | `(tactic| walk_at "c_isinstance") => `(tactic| exact c_isi (by walk_at "dr") (by decide))
local macro_rules | `(tactic| walk_at "few") => `(tactic| first | decide | exact Nat.le_of_ble_eq_true rfl | (rw [sizeLine_eq]; exact Nat.le_of_ble_eq_true rfl) | assumption)
local macro_rules | `(tactic| walk_at "fl") => `(tactic| first | assumption | rfl)
local macro_rules | `(tactic| walk_at "nf") => `(tactic| first | rfl | decide +kernel)
local macro_rules | `(tactic| walk_at "at") => `(tactic| first | assumption | rfl | exact atI_nat (by assumption))
local macro_rules | `(tactic| walk_at "oix") => `(tactic| first | exact i_tup (by walk_at "at") | exact i_lst (by walk_at "ll") (by walk_at "at") | exact i_lstR (by walk_at "lr") (by walk_at "at") | exact i_str (by walk_at "sz") (by walk_at "at") | exact i_lstF (by assumption) (by walk_at "at"))
local macro_rules | `(tactic| walk_at "ixn") => `(tactic| first | assumption | rfl)
local macro_rules | `(tactic| walk_at "okd") => `(tactic| first | rfl | assumption)
local macro_rules | `(tactic| walk_at "wr") => `(tactic| first | assumption | omega)
local macro_rules | `(tactic| walk_at "shn") => `(tactic| first | exact fun z => absurd z (by assumption) | exact fun z => absurd rfl z | exact fun _ => ⟨rfl, rfl⟩)
local macro_rules | `(tactic| walk_at "onin") => `(tactic| exact o_notIn2S)
local macro_rules | `(tactic| walk_at "okp") => `(tactic| first | assumption | exact nxt_p (by walk_at "okp"))
local macro_rules | `(tactic| walk_at "c_all") => `(tactic| exact c_all rfl (by walk_at "ll"))
local macro_rules | `(tactic| walk_at "c_sum") => `(tactic| exact c_sum rfl (by walk_at "ll"))
local macro_rules | `(tactic| walk_at "c_sorted") => `(tactic| exact c_sortedS (by walk_at "ll") (by walk_at "sz"))

/-! ### deeds that fit -/
def Ask : Deed → Prop
  | .back _ => True
  | .change m rm _ _ _ => m.length ≤ 1000 ∧ rm.length ≤ 100
def endOk (n : Int) : Deed → Bool
  | .back _ => true
  | .change _ _ _ n' l' => decide (n' + (l'.length : Int) ≤ n)
def named (rm : List Mk) (bh : Option Mk) : List Mk := rm ++ bh.toList
def marksL (m : Str) (rows : List (List Deed)) : List Mk := (found m rows).map (·.1)
def fitM (m : Str) (rows : List (List Deed)) (n : Int) (p : Mk) : Bool := decide (p ∈ marksL m rows) && decide (p.1 < n)
def fitsL (rows : List (List Deed)) (r : Nat) : Deed → Bool
  | .back p => decide (1 ≤ p) && decide (p ≤ ((rows.getD r []).length : Int))
  | .change m rm bh n l => decide (1 ≤ n) && (decide (1 ≤ (m.length : Int)) && decide ((m.length : Int) ≤ 40)) && (rows.getD r []).all (endOk n) && (named rm bh).all (fitM m rows n)
theorem fits_ch (rows : List (List Deed)) (r : Nat) (m : Str) (rm : List Mk) (bh : Option Mk) (n : Int) (l : List Nat) : fitsL rows r (.change m rm bh n l) = (decide (1 ≤ n) && (decide (1 ≤ (m.length : Int)) && decide ((m.length : Int) ≤ 40)) && (rows.getD r []).all (endOk n) && (named rm bh).all (fitM m rows n)) := rfl
theorem fits_bk (rows : List (List Deed)) (r : Nat) (p : Int) : fitsL rows r (.back p) = (decide (1 ≤ p) && decide (p ≤ ((rows.getD r []).length : Int))) := rfl
theorem end_ch (n : Int) (m' : Str) (rm' : List Mk) (bh' : Option Mk) (n' : Int) (l' : List Nat) : endOk n (.change m' rm' bh' n' l') = decide (n' + (l'.length : Int) ≤ n) := rfl
theorem fits_no {rows : List (List Deed)} {r : Nat} {m : Str} {rm : List Mk} {bh : Option Mk} {n : Int} {l : List Nat} (h : decide (1 ≤ n) = false ∨ (decide (1 ≤ (m.length : Int)) && decide ((m.length : Int) ≤ 40)) = false ∨ (rows.getD r []).all (endOk n) = false ∨ (named rm bh).all (fitM m rows n) = false) : fitsL rows r (.change m rm bh n l) = false := by
  rw [fits_ch]
  rcases h with h | h | h | h <;> rw [h] <;> simp
theorem all_false {α : Type} {p : α → Bool} {xs : List α} {i : Nat} {x : α} (h : xs[i]? = some x) (e : p x = false) : xs.all p = false := by
  cases q : xs.all p with
  | false => rfl
  | true =>
    have := List.all_eq_true.mp q x (List.mem_of_getElem? h)
    rw [e] at this
    cases this
theorem take_all {α : Type} {p : α → Bool} {xs : List α} {i : Nat} {x : α} (h : xs[i]? = some x) : (xs.take (i + 1)).all p = ((xs.take i).all p && p x) := by rw [take_snoc h, List.all_append]; simp
theorem getk_any (kvs : List (List Key × Rv)) (rm : List Mk) (p : Mk) : (getG (mergeG kvs (ofKeys tru (rm.map keyM))) (keyM p)).isSome = ((getG kvs (keyM p)).isSome || decide (p ∈ rm)) := merge_keys kvs tru rm p
/-- the key of an inserted one -/
def gi : Yd → List Key := fun y => match y with
  | .r (.dt (.tuple [.tuple [.int a, .int b], _, _])) => [.inl a, .inl b]
  | _ => []
theorem gi_map (l : List (Mk × Option Mk × Nat)) : ((l.map insD).map fun d => Yd.r (.dt d)).map gi = (l.map (·.1)).map keyM := by
  rw [List.map_map, List.map_map, List.map_map]
  rfl
theorem its_marks {r : Nat} {m' : Str} {rm : List Mk} {bh : Option Mk} {n : Int} {l : List Nat} {fb : Bool} : (itsOf (r, Deed.change m' rm bh n l, fb)).map (·.1) = (insL (r : Int) n bh l).map (·.1) := by
  show (((insL (r : Int) n bh l).map fun y => (y.1, y.2.1, y.2.2, fb)).map (·.1)) = _
  rw [List.map_map]
  rfl
theorem ins_nodup {r n : Int} {bh : Option Mk} {l : List Nat} : ((insL r n bh l).map (·.1)).Nodup := by
  rw [List.Nodup, List.pairwise_map]
  unfold insL
  rw [List.pairwise_iff_getElem]
  intro i j hi hj hij
  rw [List.getElem_mapIdx, List.getElem_mapIdx]
  intro e
  have := congrArg Prod.fst e
  have this : n + (i : Int) = n + (j : Int) := this
  omega
section
variable {P : Program} {w : World} {K : PySem.W.Frag} {mg : Str → Option Value} {base : Heap} {C : Addr}
local macro_rules | `(tactic| walk_at "fl") => `(tactic| exact rows_lk _)
def sp_after : Fs := fun as L Q _ => ∃ m rm bh n l, as = [.dt (deedD (.change m rm bh n l))] ∧ l.length ≤ 1000 ∧ Q (.dt (.int (n + (l.length : Int)))) L
theorem ok_after {f : Addr} {fd : FuncData} (F : Fun K "after" "after" s_after f fd) (T : TxD K mg C) : FnOk P w K mg base CX0 1 f fd P_after (lift sp_after) := by
  refine fnok0 F sc_after (fun as L Q XC h => by obtain ⟨_, _, _, _, _, rfl, _⟩ := h; rfl) ?_
  intro cdv A outer s0 H E hr as L Q XC h
  obtain ⟨m, rm, bh, n, l, rfl, hl, k⟩ := h
  have hz : (tx l).length ≤ sizeLine := by rw [tx_len, sizeLine_eq]; omega
  refine mss_cons (ms_ret (EX.to (ex_bin (ex_ix (ex_var 0 rfl rfl (.inl rfl)) ex_int (by walk_at "oix") (fun _ _ => rfl)) (ex_callB (ax_cons (ex_ix (ex_var 0 rfl rfl (.inl rfl)) ex_int (by walk_at "oix") (fun _ _ => rfl)) ax_nil) (by walk_at "c_len") (by rfl) T.m_len PySem.boot_len) (by walk_at "oadd")) ?_))
  rw [tx_len]
  exact k
theorem ch_r {m : Str} {rows : List (List Deed)} {x : Nat × Deed × Bool} (h : x ∈ changes m rows) : x.1 < 8 := (mem_changes.mp h).1
def sp_fits (C : Addr) : Fs := fun as L Q _ => ∃ (q w : Addr) (ps : List Addr) (rows : List (List Deed)) (r : Int) (d : Deed), as = [.vl (.ref q), .dt (.int r), .dt (deedD d)] ∧ DAt C L q w ps rows ∧ Wf rows ∧ 0 ≤ r ∧ r < 8 ∧ Ask d ∧ ∀ L', Le L L' → Q (.dt (.bool (fitsL rows r.toNat d))) L'
theorem ok_fits {f : Addr} {fd : FuncData} (F : Fun K "fits" "Deeds.fits" s_Deeds_fits f fd) (T : TxD K mg C) (G_after : FnM P w K mg base 1 "after" P_after sp_after) (G_Deeds_changes' : MtM P w K mg base 2 C "changes" P_Deeds_changes (sp_changes C)) (G_inserted' : FnM P w K mg base 1 "inserted" P_inserted sp_ins) : FnOk P w K mg base CX0 3 f fd P_Deeds_fits (lift (sp_fits C)) := by
  have G_Deeds_changes := G_Deeds_changes'.forget
  have G_inserted := G_inserted'.forget
  refine fnok0 F sc_Deeds_fits (fun as L Q XC h => by obtain ⟨_, _, _, _, _, _, rfl, _⟩ := h; rfl) ?_
  intro cdv A outer s0 H E hr as L Q XC h
  obtain ⟨q, w', ps, rows, r, d, rfl, D, W, h0, h8, ha, k⟩ := h
  obtain ⟨p, row, hp, hrow, hlp, eg, hat⟩ := D.get h0 h8
  have ho := D.o
  have hw := D.w
  have hRow := W.at_ r.toNat
  rw [eg] at hRow
  have hu1 : (y0 P w K mg base N_Deeds_fits "Deeds.fits" (defScope s_Deeds_fits) f cdv A outer s0 H E).X.A.units + 1 < cLine := by
    have := hr.un
    show (A.deeper _).units + 1 < cLine
    omega
  have hu2 : (y0 P w K mg base N_Deeds_fits "Deeds.fits" (defScope s_Deeds_fits) f cdv A outer s0 H E).X.A.units + 2 < cLine := by
    have := hr.un
    show (A.deeper _).units + 2 < cLine
    omega
  refine mss_cons (ms_set 3 sc_Deeds_fits.nd rfl (by first | exact .inl rfl | exact .inr rfl) (EX.to (ex_ix (ex_fld (ex_var 0 rfl rfl (.inl rfl)) (by walk_at "lk") (by walk_at "fl") T.c_Deeds T.n_Deeds_rows) (ex_var 1 rfl rfl (.inl rfl)) (by walk_at "oix") (fun _ _ => rfl)) ?_))
  cases d with
  | back pl =>
    refine mss_cons (ms_ifx (tx_cmp (ex_ix (ex_var 2 rfl rfl (by first | exact .inl rfl | exact .inr (.inl rfl) | exact .inr (.inr rfl))) ex_int (by walk_at "oix") (fun _ _ => rfl)) ex_str (by walk_at "oeq") (nomark _)) (fun hT => ?_) (fun hF => ?_))
    · refine mss_cons (ms_ret (EX.to (ex_chain ex_int (ex_ix (ex_var 2 rfl rfl (by first | exact .inl rfl | exact .inr (.inl rfl) | exact .inr (.inr rfl))) ex_int (by walk_at "oix") (fun _ _ => rfl)) (fun _ => (ex_callB (ax_cons (ex_var 3 rfl rfl (.inl rfl)) ax_nil) (by walk_at "c_len") (by rfl) T.m_len PySem.boot_len)) (by walk_at "ole") (fun _ => by walk_at "ole") ⟨_, op_le⟩) ?_))
      have := k L (Le.refl L)
      rw [fits_bk, eg] at this
      simp only [List.length_map]
      exact this
    · exact absurd hF (by decide +kernel)
  | change m rm bh n l =>
    have hzm : m.length ≤ sizeLine := by rw [sizeLine_eq]; have := ha.1; omega
    refine mss_cons (ms_ifx (tx_cmp (ex_ix (ex_var 2 rfl rfl (by first | exact .inl rfl | exact .inr (.inl rfl) | exact .inr (.inr rfl))) ex_int (by walk_at "oix") (fun _ _ => rfl)) ex_str (by walk_at "oeq") (nomark _)) (fun hT => ?_) (fun hF => ?_))
    · exact absurd hT (by decide +kernel)
    have no : ∀ L', Le L L' → (decide (1 ≤ n) = false ∨ (decide (1 ≤ (m.length : Int)) && decide ((m.length : Int) ≤ 40)) = false ∨ row.all (endOk n) = false ∨ (named rm bh).all (fitM m rows n) = false) → Q (.dt (.bool false)) L' := fun L' l h => by
      have := k L' l
      rw [fits_no (by rw [eg]; exact h)] at this
      exact this
    refine mss_nil (mss_cons (ms_ifx (tx_w (wx_or (tx_cmp (ex_ix (ex_var 2 rfl rfl (by first | exact .inl rfl | exact .inr (.inl rfl) | exact .inr (.inr rfl))) ex_int (by walk_at "oix") (fun _ _ => rfl)) ex_int (by walk_at "olt") (nomark _)) (fun _ => (wx_or1 (tx_not (tx_chain ex_int (ex_callB (ax_cons (ex_ix (ex_var 2 rfl rfl (by first | exact .inl rfl | exact .inr (.inl rfl) | exact .inr (.inr rfl))) ex_int (by walk_at "oix") (fun _ _ => rfl)) ax_nil) (by walk_at "c_len") (by rfl) T.m_len PySem.boot_len) (fun _ => (ex_gint (by rfl) T.g_LONGEST_NAME.choose_spec ⟨_, rfl⟩)) (by walk_at "ole") (fun _ => by walk_at "ole") ⟨_, op_le⟩)))))) (fun hT => ?_) (fun hF => ?_)))
    · refine mss_cons (ms_ret (EX.to ex_bl ?_))
      refine no L (Le.refl L) ?_
      rw [Bool.or_eq_true, decide_eq_true_iff, Bool.not_eq_true'] at hT
      rcases hT with z | z
      · exact .inl (decide_eq_false (by omega))
      · exact .inr (.inl z)
    rw [Bool.or_eq_false_iff, decide_eq_false_iff_not, Bool.not_eq_false'] at hF
    obtain ⟨hn1, hml⟩ := hF
    have hlr : LR L (.vl (.ref p)) (rowR row) := LR.h hlp
    refine mss_nil (mss_cons (ms_for (tgt := (.n 4)) rfl (ix_lr (ex_var 3 rfl rfl (.inl rfl)) hlr) (pgn_name 4 sc_Deeds_fits.nd rfl (by first | exact .inl rfl | exact .inr rfl)) (fun i ρ L' => ∃ ea, ρ = [some (.vl (.ref q)), some (.dt (.int r)), some (.dt (deedD (.change m rm bh n l))), some (.vl (.ref p)), ea, none, none, none, none, none, none] ∧ L' = L ∧ (row.take i).all (endOk n) = true) ⟨none, rfl, rfl, rfl⟩ (fun _ _ _ _ ⟨_, _, e, _⟩ => by rw [e]; exact hlr) ?_ ?_))
    · intro i y ρ L' hy hI
      obtain ⟨ea, rfl, eL, hall⟩ := hI
      subst eL
      rw [List.getElem?_map, List.getElem?_map, List.getElem?_map] at hy
      cases hd : row[i]? with
      | none => rw [hd] at hy; cases hy
      | some dd =>
        rw [hd] at hy
        cases hy
        have hdo := hRow.2.1 dd (List.mem_of_getElem? hd)
        refine ⟨_, rfl, ?_⟩
        cases dd with
        | back x =>
          refine mss_cons (ms_ifx (tx_w (wx_andF (TX.eq (tx_cmp (ex_ix (ex_var 4 rfl rfl (.inl rfl)) ex_int (by walk_at "oix") (fun _ _ => rfl)) ex_str (by walk_at "oeq") (nomark _)) (by decide +kernel)))) (fun hT => ?_) (fun hF => ?_))
          · cases hT
          · exact mss_nil (mss_nil ⟨_, rfl, rfl, by rw [take_all hd, hall]; rfl⟩)
        | change m' rm' bh' n' l' =>
          refine mss_cons (ms_ifx (tx_w (wx_and (tx_cmp (ex_ix (ex_var 4 rfl rfl (.inl rfl)) ex_int (by walk_at "oix") (fun _ _ => rfl)) ex_str (by walk_at "oeq") (nomark _)) (fun _ => (wx_and1 (tx_cmp (ex_ix (ex_var 2 rfl rfl (by first | exact .inl rfl | exact .inr (.inl rfl) | exact .inr (.inr rfl))) ex_int (by walk_at "oix") (fun _ _ => rfl)) (ex_call G_after (hr.mono (by decide)) (by rfl) (ax_cons (ex_var 4 rfl rfl (.inl rfl)) ax_nil) ⟨m', rm', bh', n', l', rfl, by have := hdo.2.1; omega, rfl, rfl⟩) (by walk_at "olt") (nomark _)))))) (fun hT => ?_) (fun hF => ?_))
          · refine mss_cons (ms_ret (EX.to ex_bl ?_))
            simp only [Bool.and_eq_true, decide_eq_true_iff] at hT
            refine no L' (Le.refl _) (.inr (.inr (.inl (all_false hd ?_))))
            rw [end_ch]
            exact decide_eq_false (by omega)
          · refine mss_nil (mss_nil ⟨_, rfl, rfl, ?_⟩)
            rw [take_all hd, hall]
            rw [end_ch, Bool.true_and, decide_eq_true_iff]
            have e : decide (("change" : Str) = "change") = true := by decide +kernel
            rw [e, Bool.true_and, decide_eq_false_iff_not] at hF
            omega
    · intro ρ L' hI
      obtain ⟨ea, rfl, eL, hall⟩ := hI
      subst eL
      rw [List.length_map, row_len, List.take_length] at hall
      refine mss_cons (ms_set 5 sc_Deeds_fits.nd rfl (.inr rfl) (me_dnewT fun t ht => ?_))
      have lU : ∀ kvs, Le L' (updL L' t (.dT kvs)) := fun kvs => le_upd ht
      have hcl := changes_len (m := m) W
      have hoU := (D.le (lU [])).o
      refine mss_cons (ms_for (tgt := (.t [6, 7, 8])) rfl (ix_data (ex_meth (ex_var 0 rfl rfl (.inl rfl)) (by walk_at "lk") (by walk_at "nf") T.c_Deeds G_Deeds_changes (hr.mono (by decide)) (ax_cons (ex_ix (ex_var 2 rfl rfl (by first | exact .inl rfl | exact .inr (.inl rfl) | exact .inr (.inr rfl))) ex_int (by walk_at "oix") (fun _ _ => rfl)) ax_nil) ⟨q, w', ps, rows, m, rfl, D.le (lU []), W, fun L' l => ⟨_, l, rfl, rfl⟩⟩)) (pgn_tup rfl (pgn_cons 6 sc_Deeds_fits.nd rfl (by first | exact .inl rfl | exact .inr rfl) (pgn_cons 7 sc_Deeds_fits.nd rfl (by first | exact .inl rfl | exact .inr rfl) (pgn_cons 8 sc_Deeds_fits.nd rfl (by first | exact .inl rfl | exact .inr rfl) pgn_nil)))) (fun i ρ L2 => ∃ kvs ot ch un, ρ = [some (.vl (.ref q)), some (.dt (.int r)), some (.dt (deedD (.change m rm bh n l))), some (.vl (.ref p)), ea, some (.vl (.ref t)), ot, ch, un, none, none] ∧ L2 = updL L' t (.dT kvs) ∧ (∀ p : Mk, (getG kvs (keyM p)).isSome = decide (p ∈ (fdTo m rows i).map (·.1))) ∧ kvs.length ≤ 1000 * i) ⟨[], none, none, none, rfl, rfl, fun p => by simp [getG, fdTo], Nat.zero_le _⟩ (fun _ _ _ _ _ => trivial) ?_ ?_)
      · intro i y ρ L2 hy hI
        obtain ⟨kvs, ot, ch, un, rfl, rfl, hkv, hkl⟩ := hI
        rw [List.getElem?_map, List.getElem?_map] at hy
        cases hx : (changes m rows)[i]? with
        | none => rw [hx] at hy; cases hy
        | some x =>
          rw [hx] at hy
          cases hy
          have hil := (List.getElem?_eq_some_iff.mp hx).1
          have hxm := List.mem_of_getElem? hx
          obtain ⟨m', rm', bh', n', l', ed, hl30, hrm10, hrmok⟩ := ch_is W hxm
          have hxok := ch_mem W hxm
          have hx8 := ch_r hxm
          obtain ⟨r', d', fb⟩ := x
          have ed : d' = .change m' rm' bh' n' l' := ed
          subst ed
          refine ⟨_, rfl, ?_⟩
          have hl1000 : l'.length ≤ 1000 := by omega
          have hts : updL L' t (.dT kvs) t = some (.dT kvs) := updL_same
          refine mss_cons (ms_expr (me_updT (d := t) hu2 (ex_var 5 rfl rfl (by first | exact .inl rfl | exact .inr (.inl rfl) | exact .inr (.inr rfl))) hts (me_dcT (tgt := (.t [10, 8, 8])) (own := [("mark", 10), ("_", 8), ("_", 8)]) gi hu1 (by rfl) sc_Deeds_fits.nd (ix_data (ex_call G_inserted (hr.mono (by decide)) (by rfl) (ax_cons (ex_var 6 rfl rfl (.inl rfl)) (ax_cons (ex_var 7 rfl rfl (.inl rfl)) ax_nil)) ⟨(r' : Int), m', rm', bh', n', l', rfl, hl1000, fun L' l => ⟨_, l, rfl, rfl⟩⟩)) trivial (blkOk_by (by rfl)) rfl (fun s H C cl fp => (pgn_tup rfl (pgn_cons 10 sc_Deeds_fits.nd rfl (by first | exact .inl rfl | exact .inr rfl) (pgn_cons 8 sc_Deeds_fits.nd rfl (by first | exact .inl rfl | exact .inr rfl) (pgn_cons 8 sc_Deeds_fits.nd rfl (by first | exact .inl rfl | exact .inr rfl) pgn_nil))))) (by rw [List.length_map, List.length_map, insL_len, sizeLine_eq]; omega) (fun j y hy => ?_) (fun b hb => ?_))))
          · rw [List.getElem?_map, List.getElem?_map] at hy
            cases hz : (insL (r' : Int) n' bh' l')[j]? with
            | none => rw [hz] at hy; cases hy
            | some z =>
              rw [hz] at hy
              cases hy
              exact ⟨_, rfl, fun s H C cl fp => (ex_var 10 rfl rfl (by first | exact .inl rfl | exact .inr (.inl rfl) | exact .inr (.inr rfl))), fun s H C cl fp => ex_bl⟩
          · rw [gi_map]
            have nbt : t ≠ b := ne_led hts hb
            have hkl2 := ofKeys_len tru (((insL (r' : Int) n' bh' l').map (·.1)).map keyM)
            rw [List.length_map, List.length_map, insL_len] at hkl2
            refine ⟨b, kvs, ofKeys tru (((insL (r' : Int) n' bh' l').map (·.1)).map keyM), rfl, by rw [updL_ne nbt]; exact hts, updL_same, nbt, by rw [sizeLine_eq]; omega, ofKeys_nodup _ _, fun kk hk => ?_, ?_⟩
            · obtain ⟨p, hp, rfl⟩ := List.mem_map.mp (ofKeys_mem hk)
              obtain ⟨z, hz, rfl⟩ := List.mem_map.mp hp
              refine pairK_of ?_
              obtain ⟨j, hj⟩ := List.mem_iff_getElem?.mp hz
              have hjl := (List.getElem?_eq_some_iff.mp hj).1
              rw [insL_len] at hjl
              rw [insL_at (List.getElem?_eq_getElem hjl)] at hj
              cases hj
              obtain ⟨a1, a2, a3, a4, a5, a6, a7⟩ := hxok
              refine ⟨?_, ?_, ?_, ?_⟩
              · show 0 ≤ n' + (j : Int); omega
              · show n' + (j : Int) < 36028797018963968; omega
              · show (0 : Int) ≤ (r' : Int); omega
              · show (r' : Int) < 8
                have hx8 : r' < 8 := hx8
                omega
            · have hbL : L' b = none := by rw [updL_ne nbt.symm] at hb; exact hb
              have el : updL (updL (updL L' t (.dT kvs)) b (.dT (ofKeys tru (((insL (r' : Int) n' bh' l').map (·.1)).map keyM)))) t (.dT (mergeG kvs (ofKeys tru (((insL (r' : Int) n' bh' l').map (·.1)).map keyM)))) = updL (updL L' t (.dT (mergeG kvs (ofKeys tru (((insL (r' : Int) n' bh' l').map (·.1)).map keyM))))) b (.dT (ofKeys tru (((insL (r' : Int) n' bh' l').map (·.1)).map keyM))) := by
                rw [updL_comm nbt.symm, updL_updL]
              rw [el]
              refine MSs.le (ρ' := _) ?_ (le_upd (by rw [updL_ne nbt.symm]; exact hbL)) ⟨rfl, fun _ _ e => e⟩
              have hml := merge_len (ofKeys tru (((insL (r' : Int) n' bh' l').map (·.1)).map keyM)) kvs
              refine mss_nil ⟨_, _, _, _, rfl, rfl, fun p => ?_, by omega⟩
              rw [merge_keys, hkv p, fdTo_succ hx, List.map_append, its_marks, Bool.eq_iff_iff, Bool.or_eq_true, decide_eq_true_iff, decide_eq_true_iff, decide_eq_true_iff, List.mem_append]
      · intro ρ L2 hI
        obtain ⟨kvs, ot, ch, un, rfl, rfl, hkv, hkl⟩ := hI
        rw [List.length_map, List.length_map] at hkv hkl
        have ef : fdTo m rows (changes m rows).length = found m rows := by unfold fdTo found; rw [List.take_length]
        rw [ef] at hkv
        have hkv' : ∀ p : Mk, (getG kvs (keyM p)).isSome = decide (p ∈ marksL m rows) := hkv
        refine mss_cons (ms_set 9 sc_Deeds_fits.nd rfl (.inl rfl) (me_listTH (ex_ix (ex_var 2 rfl rfl (by first | exact .inl rfl | exact .inr (.inl rfl) | exact .inr (.inr rfl))) ex_int (by walk_at "oix") (fun _ _ => rfl)) (fun o hot => ?_) (by rfl) T.m_list (by decide +kernel)))
        have nto : t ≠ o := ne_led (updL_same (L := L') (m := .dT kvs)) hot
        have hoL : L' o = none := by rw [updL_ne nto.symm] at hot; exact hot
        -- the end
        have fin : ∀ nm : List Mk, nm = named rm bh → MSs (y0 P w K mg base N_Deeds_fits "Deeds.fits" (defScope s_Deeds_fits) f cdv A outer s0 H E) ((defBody s_Deeds_fits).drop 8) (fun x L' => Q (.dt .none) L') { rt := Q }
            [some (.vl (.ref q)), some (.dt (.int r)), some (.dt (deedD (.change m rm bh n l))), some (.vl (.ref p)), ea, some (.vl (.ref t)), ot, ch, un, some (.vl (.ref o)), none] (updL (updL L' t (.dT kvs)) o (.lst (dts (nm.map mkD)))) := by
          intro nm hnm
          have hos : updL (updL L' t (.dT kvs)) o (.lst (dts (nm.map mkD))) o = some (.lst (dts (nm.map mkD))) := updL_same
          have hts2 : updL (updL L' t (.dT kvs)) o (.lst (dts (nm.map mkD))) t = some (.dT kvs) := by rw [updL_ne nto]; exact updL_same
          have lfin : Le L' (updL (updL L' t (.dT kvs)) o (.lst (dts (nm.map mkD)))) := (lU kvs).trans (le_upd hot)
          generalize updL (updL L' t (.dT kvs)) o (.lst (dts (nm.map mkD))) = L3 at *
          have eb : (((dts (nm.map mkD)).map Yd.r).map fun y => match y with | .r (.dt (.tuple [.int a, .int b])) => PyData.bool (fitM m rows n (a, b)) | _ => .none) = (nm.map (fitM m rows n)).map PyData.bool := by
            simp only [dts, List.map_map]
            rfl
          have hnl : nm.length ≤ 101 := by
            rw [hnm]
            unfold named
            rw [List.length_append]
            have := ha.2
            cases bh <;> simp <;> omega
          refine mss_cons (ms_ret (EX.to (ex_callB (ax_cons (EX.eq (ex_lcp (tgt := (.n 10)) (own := [("mark", 10)]) (fun y => match y with | .r (.dt (.tuple [.int a, .int b])) => PyData.bool (fitM m rows n (a, b)) | _ => .none) (by rfl) sc_Deeds_fits.nd (ix_lr (ex_var 9 rfl rfl (.inl rfl)) (LR.h hos)) (LR.h hos) (blkOk_by (by rfl)) rfl (fun s H C cl fp => (pgn_name 10 sc_Deeds_fits.nd rfl (by first | exact .inl rfl | exact .inr rfl))) (by rw [List.length_map, List.length_map, List.length_map, sizeLine_eq]; omega) (fun j y hy => ?_)) (congrArg (fun z => Rv.dt (.list z)) eb)) ax_nil) (c_all rfl LL.dt) (by rfl) T.m_all (by decide +kernel)) ?_))
          · rw [List.getElem?_map, List.getElem?_map, List.getElem?_map] at hy
            cases hz : nm[j]? with
            | none => rw [hz] at hy; cases hy
            | some z =>
              rw [hz] at hy
              cases hy
              refine ⟨_, rfl, fun s H C cl fp => ?_⟩
              show EX _ _ _ _ (.dt (.bool (decide (z ∈ marksL m rows) && decide (z.1 < n)))) _
              rw [← hkv' z]
              exact ex_and (ex_din hu1 (ex_var 10 rfl rfl (by first | exact .inl rfl | exact .inr (.inl rfl) | exact .inr (.inr rfl))) (ex_var 5 rfl rfl (by first | exact .inl rfl | exact .inr (.inl rfl) | exact .inr (.inr rfl))) (.inr ⟨kvs, keyM z, hts2, rfl, rfl⟩)) (fun _ => ex_one (ex_cmp (ex_ix (ex_var 10 rfl rfl (by first | exact .inl rfl | exact .inr (.inl rfl) | exact .inr (.inr rfl))) ex_int (by walk_at "oix") (fun _ _ => rfl)) (ex_ix (ex_var 2 rfl rfl (by first | exact .inl rfl | exact .inr (.inl rfl) | exact .inr (.inr rfl))) ex_int (by walk_at "oix") (fun _ _ => rfl)) (by walk_at "olt") (nomark _)))
          · have := k _ lfin
            rw [fits_ch, eg, decide_eq_true (show 1 ≤ n by omega), hml, hall, Bool.true_and, Bool.true_and, Bool.true_and, ← hnm] at this
            rw [List.all_map]
            exact this
        cases bh with
        | none =>
          refine mss_cons (ms_ifx (tx_cmp (ex_ix (ex_var 2 rfl rfl (by first | exact .inl rfl | exact .inr (.inl rfl) | exact .inr (.inr rfl))) ex_int (by walk_at "oix") (fun _ _ => rfl)) ex_non (by walk_at "oisn") (nomark _)) (fun hT => ?_) (fun hF => ?_))
          · exact absurd hT (by simp [isNone])
          · exact mss_nil (fin rm (by simp [named]))
        | some b =>
          have hos : updL (updL L' t (.dT kvs)) o (.lst (dts (rm.map mkD))) o = some (.lst (dts (rm.map mkD))) := updL_same
          have hz1 : (dts (rm.map mkD)).length < sizeLine := by rw [List.length_map, List.length_map, sizeLine_eq]; have := ha.2; omega
          refine mss_cons (ms_ifx (tx_cmp (ex_ix (ex_var 2 rfl rfl (by first | exact .inl rfl | exact .inr (.inl rfl) | exact .inr (.inr rfl))) ex_int (by walk_at "oix") (fun _ _ => rfl)) ex_non (by walk_at "oisn") (nomark _)) (fun hT => ?_) (fun hF => ?_))
          · refine mss_cons (ms_expr (EX.to (ex_append (ex_var 9 rfl rfl (.inl rfl)) (by walk_at "lk") (ex_ix (ex_var 2 rfl rfl (by first | exact .inl rfl | exact .inr (.inl rfl) | exact .inr (.inr rfl))) ex_int (by walk_at "oix") (fun _ _ => rfl)) (by walk_at "lk") (by walk_at "sz")) ?_))
            rw [updL_updL]
            have e : dts (rm.map mkD) ++ [.dt (mkD b)] = dts ((rm ++ [b]).map mkD) := by simp [dts]
            rw [e]
            exact mss_nil (fin (rm ++ [b]) (by simp [named]))
          · exact absurd hF (by simp [isNone])
end
end K05

set_option Elab.async false
set_option linter.all false
set_option maxRecDepth 100000
set_option maxHeartbeats 4000000
namespace K05
open PySem PySem.Spec PyProof.Rows L2 Cw
/-! ### small closers, each at its own key -/
local macro_rules | `(tactic| walk_at "oadd") => `(tactic| first | exact o_add | exact o_addS (by walk_at "sz") | exact o_cat (by walk_at "ll") (by walk_at "ll") (by walk_at "sz"))
local macro_rules | `(tactic| walk_at "osub") => `(tactic| exact o_sub)
local macro_rules | `(tactic| walk_at "omul") => `(tactic| first | exact o_mul (by walk_at "sd") | exact o_rep (by walk_at "ll") (by walk_at "sd") (by walk_at "sd") (by walk_at "sz"))
local macro_rules | `(tactic| walk_at "odiv") => `(tactic| first | exact o_div (by walk_at "sd") | exact o_divW (by walk_at "sd"))
local macro_rules | `(tactic| walk_at "olt") => `(tactic| exact o_lt)
local macro_rules | `(tactic| walk_at "ole") => `(tactic| exact o_le)
local macro_rules | `(tactic| walk_at "ogt") => `(tactic| exact o_gt)
local macro_rules | `(tactic| walk_at "oge") => `(tactic| exact o_ge)
local macro_rules | `(tactic| walk_at "oeq") => `(tactic| first | exact o_eqI | exact o_eqNI | exact o_eqS | exact o_eqB | exact o_eqR (Room.units (by assumption)) (by walk_at "dr") (by walk_at "dr") (by walk_at "sh") (by walk_at "sh"))
local macro_rules | `(tactic| walk_at "one") => `(tactic| first | exact o_neI | exact o_neS | exact o_neB | exact o_neR (Room.units (by assumption)) (by walk_at "dr") (by walk_at "dr") (by walk_at "sh") (by walk_at "sh"))
local macro_rules | `(tactic| walk_at "ois") => `(tactic| exact o_isN)
local macro_rules | `(tactic| walk_at "oisn") => `(tactic| exact o_notN)
local macro_rules | `(tactic| walk_at "iadd") => `(tactic| exact o_iadd)
local macro_rules | `(tactic| walk_at "isub") => `(tactic| exact o_isub)
local macro_rules | `(tactic| walk_at "lk") => `(tactic| first | assumption | exact updL_same | (refine Eq.trans (updL_ne (by first | assumption | (apply Ne.symm; assumption))) ?_; walk_at "lk"))
local macro_rules | `(tactic| walk_at "ll") => `(tactic| first | exact LL.dt | assumption | exact LL.h (by walk_at "lk"))
local macro_rules | `(tactic| walk_at "lr") => `(tactic| first | exact LL.dt | assumption | exact LR.h (by walk_at "lk"))
local macro_rules | `(tactic| walk_at "dr") => `(tactic| first | exact DD.dt | assumption | exact DD.ofLL (by walk_at "lk"))
local macro_rules | `(tactic| walk_at "sd") => `(tactic| first | omega | assumption | decide)
local macro_rules | `(tactic| walk_at "rg") => `(tactic| first | omega | assumption | decide)
local macro_rules | `(tactic| walk_at "sz") => `(tactic| first | assumption | (rw [sizeLine_eq]; first | omega | (simp; omega)))
local macro_rules | `(tactic| walk_at "osl") => `(tactic| first | exact s_str (by walk_at "sz") | exact s_lst (by walk_at "ll"))
local macro_rules | `(tactic| walk_at "c_len") => `(tactic| first | exact c_lenT | exact c_lenS (by walk_at "sz") | exact c_lenL (by walk_at "ll") | exact c_lenR (by walk_at "lr") | exact c_lenF (by assumption))
local macro_rules | `(tactic| walk_at "c_int") => `(tactic| first | exact c_int | exact c_intB)
local macro_rules | `(tactic| walk_at "c_min") => `(tactic| exact c_min rfl)
local macro_rules | `(tactic| walk_at "c_max") => `(tactic| exact c_max rfl)
local macro_rules | `(tactic| walk_at "c_ord") => `(tactic| exact c_ord (by walk_at "sz"))
local macro_rules | `(tactic| walk_at "c_list") => `(tactic| first | exact c_listT | exact c_list (by walk_at "ll") | exact c_listF (by assumption))
local macro_rules | `(tactic| walk_at "c_tuple") => `(tactic| first | exact c_tupleT | exact c_tuple (by walk_at "ll"))
local macro_rules | `(tactic| walk_at "c_isinstance") => `(tactic| exact c_isi (by walk_at "dr") (by decide))
local macro_rules | `(tactic| walk_at "few") => `(tactic| first | decide | exact Nat.le_of_ble_eq_true rfl | (rw [sizeLine_eq]; exact Nat.le_of_ble_eq_true rfl) | assumption)
local macro_rules | `(tactic| walk_at "fl") => `(tactic| first | assumption | rfl)
local macro_rules | `(tactic| walk_at "nf") => `(tactic| first | rfl | decide +kernel)
local macro_rules | `(tactic| walk_at "at") => `(tactic| first | assumption | rfl | exact atI_nat (by assumption))
local macro_rules | `(tactic| walk_at "oix") => `(tactic| first | exact i_tup (by walk_at "at") | exact i_lst (by walk_at "ll") (by walk_at "at") | exact i_lstR (by walk_at "lr") (by walk_at "at") | exact i_str (by walk_at "sz") (by walk_at "at") | exact i_lstF (by assumption) (by walk_at "at"))
local macro_rules | `(tactic| walk_at "ixn") => `(tactic| first | assumption | rfl)
local macro_rules | `(tactic| walk_at "okd") => `(tactic| first | rfl | assumption)
local macro_rules | `(tactic| walk_at "wr") => `(tactic| first | assumption | omega)
local macro_rules | `(tactic| walk_at "shn") => `(tactic| first | exact fun z => absurd z (by assumption) | exact fun z => absurd rfl z | exact fun _ => ⟨rfl, rfl⟩)
local macro_rules | `(tactic| walk_at "onin") => `(tactic| exact o_notIn2S)
local macro_rules | `(tactic| walk_at "okp") => `(tactic| first | assumption | exact nxt_p (by walk_at "okp"))
local macro_rules | `(tactic| walk_at "c_all") => `(tactic| exact c_all rfl (by walk_at "ll"))
local macro_rules | `(tactic| walk_at "c_sum") => `(tactic| exact c_sum rfl (by walk_at "ll"))
local macro_rules | `(tactic| walk_at "c_sorted") => `(tactic| exact c_sortedS (by walk_at "ll") (by walk_at "sz"))

section
variable {P : Program} {w : World} {K : PySem.W.Frag} {mg : Str → Option Value} {base : Heap} {C : Addr}
def sp_lfits : Fs := fun as L Q _ => ∃ (r0 : Rv) (rows : List (List Deed)) (r : Int) (d : Deed), as = [r0, .dt (.int r), .dt (deedD d)] ∧ RowsAt L r0 rows ∧ Wf rows ∧ 0 ≤ r ∧ r < 8 ∧ Ask d ∧ ∀ L', Le L L' → Q (.dt (.bool (fitsL rows r.toNat d))) L'
theorem fst_ins (l : List (Mk × Option Mk × Nat)) : ((l.map insD).map fun d => Yd.r (.dt d)).map fst0 = (l.map (·.1)).map mkD := by
  rw [List.map_map, List.map_map, List.map_map]
  rfl
theorem named_obs (rm : List Mk) (bh : Option Mk) (p : Mk → Bool) : (named rm bh).all p = (rm.map some ++ [bh]).all (fun o => match o with | none => true | some x => p x) := by
  unfold named
  rw [List.all_append, List.all_append, List.all_map]
  cases bh <;> simp [Function.comp_def]
theorem ok_lfits {f : Addr} {fd : FuncData} (F : Fun K "_law_fits" "_law_fits" s_law_fits f fd) (T : TxD K mg C) (G_law_changes' : FnM P w K mg base 2 "_law_changes" P_law_changes sp_lchanges) (G_law_inserted' : FnM P w K mg base 1 "_law_inserted" P_law_inserted sp_ins) : FnOk P w K mg base CX0 3 f fd P_law_fits (lift sp_lfits) := by
  have G_law_changes := G_law_changes'.forget
  have G_law_inserted := G_law_inserted'.forget
  refine fnok0 F sc_law_fits (fun as L Q XC h => by obtain ⟨_, _, _, _, rfl, _⟩ := h; rfl) ?_
  intro cdv A outer s0 H E hr as L Q XC h
  obtain ⟨r0, rows, r, d, rfl, hR, W, h0, h8, ha, k⟩ := h
  obtain ⟨rs, hrs, hlen, hat0⟩ := hR.at_
  obtain ⟨x, hx1, hx2⟩ := hat0 r.toNat (by rw [W.len]; omega)
  have hat : atI rs r = some x := atI_int h0 hx1
  have hRow := W.at_ r.toNat
  have hu65 : (y0 P w K mg base N_law_fits "_law_fits" (defScope s_law_fits) f cdv A outer s0 H E).X.A.units + 65 < cLine := by
    have := hr.un
    show (A.deeper _).units + 65 < cLine
    omega
  generalize hrow : rows.getD r.toNat [] = row at hx2 hRow
  cases d with
  | back pl =>
    refine mss_cons (ms_ifx (tx_cmp (ex_ix (ex_var 2 rfl rfl (.inl rfl)) ex_int (by walk_at "oix") (fun _ _ => rfl)) ex_str (by walk_at "oeq") (nomark _)) (fun hT => ?_) (fun hF => ?_))
    · refine mss_cons (ms_ret (EX.to (ex_and (ex_cmp ex_int (ex_ix (ex_var 2 rfl rfl (.inl rfl)) ex_int (by walk_at "oix") (fun _ _ => rfl)) (by walk_at "ole") (nomark _)) (fun _ => (ex_one (ex_cmp (ex_ix (ex_var 2 rfl rfl (.inl rfl)) ex_int (by walk_at "oix") (fun _ _ => rfl)) (ex_callB (ax_cons (ex_ix (ex_var 0 rfl rfl (.inl rfl)) (ex_var 1 rfl rfl (.inl rfl)) (by walk_at "oix") (fun _ _ => rfl)) ax_nil) (by walk_at "c_len") (by rfl) T.m_len PySem.boot_len) (by walk_at "ole") (nomark _))))) ?_))
      have := k L (Le.refl L)
      rw [fits_bk, hrow] at this
      simp only [List.length_map]
      exact this
    · exact absurd hF (by decide +kernel)
  | change m rm bh n l =>
    have hzm : m.length ≤ sizeLine := by rw [sizeLine_eq]; have := ha.1; omega
    have hmle := ha.1
    have hrm := ha.2
    refine mss_cons (ms_ifx (tx_cmp (ex_ix (ex_var 2 rfl rfl (.inl rfl)) ex_int (by walk_at "oix") (fun _ _ => rfl)) ex_str (by walk_at "oeq") (nomark _)) (fun hT => ?_) (fun hF => ?_))
    · exact absurd hT (by decide +kernel)
    have no : ∀ L', Le L L' → (decide (1 ≤ n) = false ∨ (decide (1 ≤ (m.length : Int)) && decide ((m.length : Int) ≤ 40)) = false ∨ row.all (endOk n) = false ∨ (named rm bh).all (fitM m rows n) = false) → Q (.dt (.bool false)) L' := fun L' l h => by
      have := k L' l
      rw [fits_no (by rw [hrow]; exact h)] at this
      exact this
    refine mss_nil (mss_cons (ms_ifx (tx_w (wx_or (tx_cmp (ex_ix (ex_var 2 rfl rfl (.inl rfl)) ex_int (by walk_at "oix") (fun _ _ => rfl)) ex_int (by walk_at "olt") (nomark _)) (fun _ => (wx_or (tx_cmp (ex_callB (ax_cons (ex_ix (ex_var 2 rfl rfl (.inl rfl)) ex_int (by walk_at "oix") (fun _ _ => rfl)) ax_nil) (by walk_at "c_len") (by rfl) T.m_len PySem.boot_len) ex_int (by walk_at "olt") (nomark _)) (fun _ => (wx_or1 (tx_cmp (ex_callB (ax_cons (ex_ix (ex_var 2 rfl rfl (.inl rfl)) ex_int (by walk_at "oix") (fun _ _ => rfl)) ax_nil) (by walk_at "c_len") (by rfl) T.m_len PySem.boot_len) ex_int (by walk_at "ogt") (nomark _)))))))) (fun hT => ?_) (fun hF => ?_)))
    · refine mss_cons (ms_ret (EX.to ex_bl ?_))
      refine no L (Le.refl L) ?_
      rw [Bool.or_eq_true, Bool.or_eq_true, decide_eq_true_iff, decide_eq_true_iff, decide_eq_true_iff] at hT
      by_cases z : n < 1
      · exact .inl (decide_eq_false (by omega))
      · refine .inr (.inl ?_)
        rw [Bool.and_eq_false_iff, decide_eq_false_iff_not, decide_eq_false_iff_not]
        omega
    rw [Bool.or_eq_false_iff, Bool.or_eq_false_iff, decide_eq_false_iff_not, decide_eq_false_iff_not, decide_eq_false_iff_not] at hF
    obtain ⟨hn1, hm1, hm40⟩ := hF
    have hml : (decide (1 ≤ (m.length : Int)) && decide ((m.length : Int) ≤ 40)) = true := by
      rw [Bool.and_eq_true, decide_eq_true_iff, decide_eq_true_iff]
      omega
    refine mss_nil (mss_cons (ms_for (tgt := (.n 3)) rfl (ix_lr (ex_ix (ex_var 0 rfl rfl (.inl rfl)) (ex_var 1 rfl rfl (.inl rfl)) (by walk_at "oix") (fun _ _ => rfl)) hx2) (pgn_name 3 sc_law_fits.nd rfl (by first | exact .inl rfl | exact .inr rfl)) (fun i ρ L' => ∃ ea, ρ = [some r0, some (.dt (.int r)), some (.dt (deedD (.change m rm bh n l))), ea, none, none, none, none, none, none] ∧ L' = L ∧ (row.take i).all (endOk n) = true) ⟨none, rfl, rfl, rfl⟩ (fun _ _ _ _ ⟨_, _, e, _⟩ => by rw [e]; exact hx2) ?_ ?_))
    · intro i y ρ L' hy hI
      obtain ⟨ea, rfl, eL, hall⟩ := hI
      subst eL
      rw [List.getElem?_map, List.getElem?_map, List.getElem?_map] at hy
      cases hd : row[i]? with
      | none => rw [hd] at hy; cases hy
      | some dd =>
        rw [hd] at hy
        cases hy
        have hdo := hRow.2.1 dd (List.mem_of_getElem? hd)
        refine ⟨_, rfl, ?_⟩
        cases dd with
        | back x =>
          refine mss_cons (ms_ifx (tx_w (wx_andF (TX.eq (tx_cmp (ex_ix (ex_var 3 rfl rfl (.inl rfl)) ex_int (by walk_at "oix") (fun _ _ => rfl)) ex_str (by walk_at "oeq") (nomark _)) (by decide +kernel)))) (fun hT => ?_) (fun hF => ?_))
          · cases hT
          · exact mss_nil (mss_nil ⟨_, rfl, rfl, by rw [take_all hd, hall]; rfl⟩)
        | change m' rm' bh' n' l' =>
          have hz : (tx l').length ≤ sizeLine := by rw [tx_len, sizeLine_eq]; have := hdo.2.1; omega
          refine mss_cons (ms_ifx (tx_w (wx_and (tx_cmp (ex_ix (ex_var 3 rfl rfl (.inl rfl)) ex_int (by walk_at "oix") (fun _ _ => rfl)) ex_str (by walk_at "oeq") (nomark _)) (fun _ => (wx_and1 (tx_cmp (ex_ix (ex_var 2 rfl rfl (.inl rfl)) ex_int (by walk_at "oix") (fun _ _ => rfl)) (ex_bin (ex_ix (ex_var 3 rfl rfl (.inl rfl)) ex_int (by walk_at "oix") (fun _ _ => rfl)) (ex_callB (ax_cons (ex_ix (ex_var 3 rfl rfl (.inl rfl)) ex_int (by walk_at "oix") (fun _ _ => rfl)) ax_nil) (by walk_at "c_len") (by rfl) T.m_len PySem.boot_len) (by walk_at "oadd")) (by walk_at "olt") (nomark _)))))) (fun hT => ?_) (fun hF => ?_))
          · refine mss_cons (ms_ret (EX.to ex_bl ?_))
            simp only [Bool.and_eq_true, decide_eq_true_iff] at hT
            rw [tx_len] at hT
            refine no L' (Le.refl _) (.inr (.inr (.inl (all_false hd ?_))))
            rw [end_ch]
            exact decide_eq_false (by omega)
          · refine mss_nil (mss_nil ⟨_, rfl, rfl, ?_⟩)
            rw [take_all hd, hall]
            rw [end_ch, Bool.true_and, decide_eq_true_iff]
            have e : decide (("change" : Str) = "change") = true := by decide +kernel
            rw [e, Bool.true_and, decide_eq_false_iff_not, tx_len] at hF
            omega
    · intro ρ L' hI
      obtain ⟨ea, rfl, eL, hall⟩ := hI
      subst eL
      rw [List.length_map, List.length_map, List.length_map, List.take_length] at hall
      refine mss_cons (ms_set 4 sc_law_fits.nd rfl (by first | exact .inl rfl | exact .inr rfl) (EX.to (ex_lst ad_nil (by walk_at "few")) ?_))
      have hcl := changes_len (m := m) W
      refine mss_cons (ms_for (tgt := (.t [5, 6, 7])) rfl (ix_data (ex_call G_law_changes (hr.mono (by decide)) (by rfl) (ax_cons (ex_var 0 rfl rfl (.inl rfl)) (ax_cons (ex_ix (ex_var 2 rfl rfl (.inl rfl)) ex_int (by walk_at "oix") (fun _ _ => rfl)) ax_nil)) ⟨r0, rows, m, rfl, hR, W, fun L' l => ⟨_, l, rfl, rfl⟩⟩)) (pgn_tup rfl (pgn_cons 5 sc_law_fits.nd rfl (by first | exact .inl rfl | exact .inr rfl) (pgn_cons 6 sc_law_fits.nd rfl (by first | exact .inl rfl | exact .inr rfl) (pgn_cons 7 sc_law_fits.nd rfl (by first | exact .inl rfl | exact .inr rfl) pgn_nil)))) (fun i ρ L2 => ∃ ot ch fo, ρ = [some r0, some (.dt (.int r)), some (.dt (deedD (.change m rm bh n l))), ea, some (.dt (.list (((fdTo m rows i).map (·.1)).map mkD))), ot, ch, fo, none, none] ∧ L2 = L') ⟨none, none, none, rfl, rfl⟩ (fun _ _ _ _ _ => trivial) ?_ ?_)
      · intro i y ρ L2 hy hI
        obtain ⟨ot, ch, fo, rfl, rfl⟩ := hI
        rw [List.getElem?_map, List.getElem?_map] at hy
        cases hx : (changes m rows)[i]? with
        | none => rw [hx] at hy; cases hy
        | some x =>
          rw [hx] at hy
          cases hy
          have hxm := List.mem_of_getElem? hx
          obtain ⟨m', rm', bh', n', l', ed, hl30, hrm10, hrmok⟩ := ch_is W hxm
          obtain ⟨r', d', fb⟩ := x
          have ed : d' = .change m' rm' bh' n' l' := ed
          subst ed
          refine ⟨_, rfl, ?_⟩
          have hl1000 : l'.length ≤ 1000 := by omega
          have hfl := fdTo_len (m := m) W i
          refine mss_cons (ms_set 4 sc_law_fits.nd rfl (.inl rfl) (EX.to (ex_bin (ex_var 4 rfl rfl (.inl rfl)) (EX.eq (ex_lcp (tgt := (.n 9)) (own := [("each", 9)]) fst0 (by rfl) sc_law_fits.nd (ix_data (ex_call G_law_inserted (hr.mono (by decide)) (by rfl) (ax_cons (ex_var 5 rfl rfl (.inl rfl)) (ax_cons (ex_var 6 rfl rfl (.inl rfl)) ax_nil)) ⟨(r' : Int), m', rm', bh', n', l', rfl, hl1000, fun L' l => ⟨_, l, rfl, rfl⟩⟩)) trivial (blkOk_by (by rfl)) rfl (fun s H C cl fp => (pgn_name 9 sc_law_fits.nd rfl (by first | exact .inl rfl | exact .inr rfl))) (by rw [List.length_map, List.length_map, insL_len, sizeLine_eq]; omega) (fun j y hy => ?_)) (congrArg (fun z => Rv.dt (.list z)) (fst_ins _))) (o_cat LL.dt LL.dt (by rw [List.length_map, List.length_map, List.length_map, List.length_map, insL_len, sizeLine_eq]; omega))) ?_))
          · rw [List.getElem?_map, List.getElem?_map] at hy
            cases hz : (insL (r' : Int) n' bh' l')[j]? with
            | none => rw [hz] at hy; cases hy
            | some z =>
              rw [hz] at hy
              cases hy
              exact ⟨_, rfl, fun s H C cl fp => (ex_ix (ex_var 9 rfl rfl (by first | exact .inl rfl | exact .inr (.inl rfl) | exact .inr (.inr rfl))) ex_int (by walk_at "oix") (fun _ _ => rfl))⟩
          · refine mss_nil ⟨some (.dt (.int (r' : Int))), some (.dt (deedD (.change m' rm' bh' n' l'))), some (.dt (.bool fb)), ?_, rfl⟩
            rw [fdTo_succ hx, List.map_append, its_marks, List.map_append]
            rfl
      · intro ρ L2 hI
        obtain ⟨ot, ch, fo, rfl, rfl⟩ := hI
        rw [List.length_map, List.length_map]
        have ef : fdTo m rows (changes m rows).length = found m rows := by unfold fdTo found; rw [List.take_length]
        rw [ef]
        have efm : (found m rows).map (·.1) = marksL m rows := rfl
        rw [efm]
        have eobs : rm.map mkD ++ [obD bh] = (rm.map some ++ [bh]).map obD := by simp [Function.comp_def]
        have hsh3 : SeqAt.shaped (.list ((marksL m rows).map mkD)) = true := (sh_list (n := 1) fun d hd => by obtain ⟨e, _, rfl⟩ := List.mem_map.mp hd; exact sh_mk _).ok (by decide)
        have hok := named_obs rm bh (fitM m rows n)
        refine mss_cons (ms_for (tgt := (.n 8)) rfl (ix_data (ex_bin (ex_callTy (ax_cons (ex_ix (ex_var 2 rfl rfl (.inl rfl)) ex_int (by walk_at "oix") (fun _ _ => rfl)) ax_nil) (by walk_at "c_list") (by rfl) T.m_list (by decide +kernel)) (ex_lst (ad_cons (ex_ix (ex_var 2 rfl rfl (.inl rfl)) ex_int (by walk_at "oix") (fun _ _ => rfl)) ad_nil) (by walk_at "few")) (by walk_at "oadd"))) (pgn_name 8 sc_law_fits.nd rfl (by first | exact .inl rfl | exact .inr rfl)) (fun j ρ L' => ∃ ma, ρ = [some r0, some (.dt (.int r)), some (.dt (deedD (.change m rm bh n l))), ea, some (.dt (.list ((marksL m rows).map mkD))), ot, ch, fo, ma, none] ∧ L' = L2 ∧ ((rm.map some ++ [bh]).take j).all (fun o => match o with | none => true | some x => fitM m rows n x) = true) ⟨none, rfl, rfl, rfl⟩ (fun _ _ _ _ _ => trivial) ?_ ?_)
        · intro j y ρ L' hy hI
          obtain ⟨ma, rfl, eL, hpre⟩ := hI
          subst eL
          rw [eobs, List.getElem?_map, List.getElem?_map] at hy
          cases ho : (rm.map some ++ [bh])[j]? with
          | none => rw [ho] at hy; cases hy
          | some ob =>
            rw [ho] at hy
            cases hy
            refine ⟨_, rfl, ?_⟩
            cases ob with
            | none =>
              refine mss_cons (ms_ifx (tx_w (wx_andF (TX.eq (tx_cmp (ex_var 8 rfl rfl (.inl rfl)) ex_non (by walk_at "oisn") (nomark _)) (by decide)))) (fun hT => ?_) (fun hF => ?_))
              · cases hT
              · exact mss_nil (mss_nil ⟨_, rfl, rfl, by rw [take_all ho, hpre]; rfl⟩)
            | some p =>
              have hsh2 : SeqAt.shaped (mkD p) = true := (sh_mk p).ok (by decide)
              refine mss_cons (ms_ifx (tx_w (wx_and (tx_cmp (ex_var 8 rfl rfl (.inl rfl)) ex_non (by walk_at "oisn") (nomark _)) (fun _ => wx_and1 (tx_w (wx_or (tx_cmp (ex_var 8 rfl rfl (.inl rfl)) (ex_var 4 rfl rfl (.inl rfl)) (o_notInR hu65 DD.dt DD.dt hsh2 hsh3) rfl) (fun _ => wx_or1 (tx_cmp (ex_ix (ex_var 8 rfl rfl (.inl rfl)) ex_int (by walk_at "oix") (fun _ _ => rfl)) (ex_ix (ex_var 2 rfl rfl (.inl rfl)) ex_int (by walk_at "oix") (fun _ _ => rfl)) (by walk_at "oge") (nomark _)))))))) (fun hT => ?_) (fun hF => ?_))
              · refine mss_cons (ms_ret (EX.to ex_bl ?_))
                refine no L' (Le.refl _) (.inr (.inr (.inr ?_)))
                rw [hok]
                refine all_false ho ?_
                rw [any_mk] at hT
                have e0 : (!isNone (.dt (obD (some p)))) = true := rfl
                rw [e0, Bool.true_and, Bool.or_eq_true, Bool.not_eq_true', decide_eq_false_iff_not, decide_eq_true_iff] at hT
                show fitM m rows n p = false
                unfold fitM
                rw [Bool.and_eq_false_iff, decide_eq_false_iff_not, decide_eq_false_iff_not]
                rcases hT with z | z
                · exact .inl z
                · exact .inr (by omega)
              · refine mss_nil (mss_nil ⟨_, rfl, rfl, ?_⟩)
                rw [take_all ho, hpre]
                rw [any_mk] at hF
                show (true && fitM m rows n p) = true
                unfold fitM
                rw [Bool.true_and, Bool.and_eq_true, decide_eq_true_iff, decide_eq_true_iff]
                have e : (!isNone (.dt (obD (some p)))) = true := rfl
                rw [e, Bool.true_and, Bool.or_eq_false_iff, Bool.not_eq_false', decide_eq_true_iff, decide_eq_false_iff_not] at hF
                exact ⟨hF.1, by omega⟩
        · intro ρ L' hI
          obtain ⟨ma, rfl, eL, hpre⟩ := hI
          subst eL
          rw [eobs, List.length_map, List.length_map, List.take_length, ← hok] at hpre
          refine mss_cons (ms_ret (EX.to ex_bl ?_))
          have := k L' (Le.refl _)
          rw [fits_ch, hrow, decide_eq_true (show 1 ≤ n by omega), hml, hall, hpre] at this
          exact this
end
end K05

set_option Elab.async false
set_option linter.all false
set_option maxRecDepth 100000
set_option maxHeartbeats 4000000
namespace K05
open PySem PySem.Spec PyProof.Rows L2 Cw
/-! ### small closers, each at its own key -/
local macro_rules | `(tactic| walk_at "oadd") => `(tactic| first | exact o_add | exact o_addS (by walk_at "sz") | exact o_cat (by walk_at "ll") (by walk_at "ll") (by walk_at "sz"))
local macro_rules | `(tactic| walk_at "osub") => `(tactic| exact o_sub)
local macro_rules | `(tactic| walk_at "omul") => `(tactic| first | exact o_mul (by walk_at "sd") | exact o_rep (by walk_at "ll") (by walk_at "sd") (by walk_at "sd") (by walk_at "sz"))
local macro_rules | `(tactic| walk_at "odiv") => `(tactic| first | exact o_div (by walk_at "sd") | exact o_divW (by walk_at "sd"))
local macro_rules | `(tactic| walk_at "olt") => `(tactic| exact o_lt)
local macro_rules | `(tactic| walk_at "ole") => `(tactic| exact o_le)
local macro_rules | `(tactic| walk_at "ogt") => `(tactic| exact o_gt)
local macro_rules | `(tactic| walk_at "oge") => `(tactic| exact o_ge)
local macro_rules | `(tactic| walk_at "oeq") => `(tactic| first | exact o_eqI | exact o_eqNI | exact o_eqS | exact o_eqB | exact o_eqR (Room.units (by assumption)) (by walk_at "dr") (by walk_at "dr") (by walk_at "sh") (by walk_at "sh"))
local macro_rules | `(tactic| walk_at "one") => `(tactic| first | exact o_neI | exact o_neS | exact o_neB | exact o_neR (Room.units (by assumption)) (by walk_at "dr") (by walk_at "dr") (by walk_at "sh") (by walk_at "sh"))
local macro_rules | `(tactic| walk_at "ois") => `(tactic| exact o_isN)
local macro_rules | `(tactic| walk_at "oisn") => `(tactic| exact o_notN)
local macro_rules | `(tactic| walk_at "iadd") => `(tactic| exact o_iadd)
local macro_rules | `(tactic| walk_at "isub") => `(tactic| exact o_isub)
local macro_rules | `(tactic| walk_at "lk") => `(tactic| first | assumption | exact updL_same | (refine Eq.trans (updL_ne (by first | assumption | (apply Ne.symm; assumption))) ?_; walk_at "lk"))
local macro_rules | `(tactic| walk_at "ll") => `(tactic| first | exact LL.dt | assumption | exact LL.h (by walk_at "lk"))
local macro_rules | `(tactic| walk_at "lr") => `(tactic| first | exact LL.dt | assumption | exact LR.h (by walk_at "lk"))
local macro_rules | `(tactic| walk_at "dr") => `(tactic| first | exact DD.dt | assumption | exact DD.ofLL (by walk_at "lk"))
local macro_rules | `(tactic| walk_at "sd") => `(tactic| first | omega | assumption | decide)
local macro_rules | `(tactic| walk_at "rg") => `(tactic| first | omega | assumption | decide)
local macro_rules | `(tactic| walk_at "sz") => `(tactic| first | assumption | (rw [sizeLine_eq]; first | omega | (simp; omega)))
local macro_rules | `(tactic| walk_at "osl") => `(tactic| first | exact s_str (by walk_at "sz") | exact s_lst (by walk_at "ll"))
local macro_rules | `(tactic| walk_at "c_len") => `(tactic| first | exact c_lenT | exact c_lenS (by walk_at "sz") | exact c_lenL (by walk_at "ll") | exact c_lenR (by walk_at "lr") | exact c_lenF (by assumption))
local macro_rules | `(tactic| walk_at "c_int") => `(tactic| first | exact c_int | exact c_intB)
local macro_rules | `(tactic| walk_at "c_min") => `(tactic| exact c_min rfl)
local macro_rules | `(tactic| walk_at "c_max") => `(tactic| exact c_max rfl)
local macro_rules | `(tactic| walk_at "c_ord") => `(tactic| exact c_ord (by walk_at "sz"))
local macro_rules | `(tactic| walk_at "c_list") => `(tactic| first | exact c_listT | exact c_list (by walk_at "ll") | exact c_listF (by assumption))
local macro_rules | `(tactic| walk_at "c_tuple") => `(tactic| first | exact c_tupleT | exact c_tuple (by walk_at "ll"))
local macro_rules | `(tactic| walk_at "c_isinstance") => `(tactic| exact c_isi (by walk_at "dr") (by decide))
local macro_rules | `(tactic| walk_at "few") => `(tactic| first | decide | exact Nat.le_of_ble_eq_true rfl | (rw [sizeLine_eq]; exact Nat.le_of_ble_eq_true rfl) | assumption)
local macro_rules | `(tactic| walk_at "fl") => `(tactic| first | assumption | rfl)
local macro_rules | `(tactic| walk_at "nf") => `(tactic| first | rfl | decide +kernel)
local macro_rules | `(tactic| walk_at "at") => `(tactic| first | assumption | rfl | exact atI_nat (by assumption))
local macro_rules | `(tactic| walk_at "oix") => `(tactic| first | exact i_tup (by walk_at "at") | exact i_lst (by walk_at "ll") (by walk_at "at") | exact i_lstR (by walk_at "lr") (by walk_at "at") | exact i_str (by walk_at "sz") (by walk_at "at") | exact i_lstF (by assumption) (by walk_at "at"))
local macro_rules | `(tactic| walk_at "ixn") => `(tactic| first | assumption | rfl)
local macro_rules | `(tactic| walk_at "okd") => `(tactic| first | rfl | assumption)
local macro_rules | `(tactic| walk_at "wr") => `(tactic| first | assumption | omega)
local macro_rules | `(tactic| walk_at "shn") => `(tactic| first | exact fun z => absurd z (by assumption) | exact fun z => absurd rfl z | exact fun _ => ⟨rfl, rfl⟩)
local macro_rules | `(tactic| walk_at "onin") => `(tactic| exact o_notIn2S)
local macro_rules | `(tactic| walk_at "okp") => `(tactic| first | assumption | exact nxt_p (by walk_at "okp"))
local macro_rules | `(tactic| walk_at "c_all") => `(tactic| exact c_all rfl (by walk_at "ll"))
local macro_rules | `(tactic| walk_at "c_sum") => `(tactic| exact c_sum rfl (by walk_at "ll"))
local macro_rules | `(tactic| walk_at "c_sorted") => `(tactic| exact c_sortedS (by walk_at "ll") (by walk_at "sz"))

local macro_rules | `(tactic| walk_at "mulok") => `(tactic| exact mulOk_of 1 512 (by decide +kernel) (by decide) (by decide) (by decide) (by decide))
local macro_rules | `(tactic| walk_at "oadd") => `(tactic| exact o_catTA (by walk_at "sz"))
theorem wf_fit {rows : List (List Deed)} {r : Nat} {d : Deed} (W : Wf rows) (hd : DeedOk d) (hf : fitsL rows r d = true) (hl : (rows.getD r []).length < 100) : Wf (addR rows r d) := by
  refine wf_put W hd (fun m rm bh n l e => ?_) hl
  subst e
  rw [fits_ch, Bool.and_eq_true, Bool.and_eq_true, Bool.and_eq_true] at hf
  obtain ⟨⟨_, h2⟩, h3⟩ := hf
  refine ⟨.inr fun m' rm' bh' n' l' hm => ?_, fun b hb => ?_⟩
  · have := List.all_eq_true.mp h2 _ hm
    rw [end_ch, decide_eq_true_iff] at this
    exact this
  · have := List.all_eq_true.mp h3 b (by unfold named; rw [hb]; simp)
    unfold fitM at this
    rw [Bool.and_eq_true, decide_eq_true_iff, decide_eq_true_iff] at this
    obtain ⟨y, hy, rfl⟩ := List.mem_map.mp this.1
    exact ⟨(found_has W hy).1, this.2⟩
theorem pick_at {α : Type} {ds : List α} (n : Nat) (hn : ds.length = n) (h : 0 < n) (z : Int) : ∃ d, d ∈ ds ∧ atI ds (z % (n : Int)) = some d := by
  have h0 : 0 ≤ z % (n : Int) := Int.emod_nonneg _ (by omega)
  have h1 : z % (n : Int) < n := Int.emod_lt_of_pos _ (by omega)
  have h2 : (z % (n : Int)).toNat < ds.length := by omega
  exact ⟨_, List.getElem_mem h2, atI_int h0 (by rw [List.getElem?_eq_getElem h2])⟩
section
variable {P : Program} {w : World} {K : PySem.W.Frag} {mg : Str → Option Value} {base : Heap} {C : Addr}
def sp_pick : Fs := fun as L Q _ => ∃ (ms : List Mk) (z : Int), as = [.dt (.list (ms.map mkD)), .dt (.int z)] ∧ 0 < ms.length ∧ ∀ p ∈ ms, Q (.dt (mkD p)) L
theorem ok_pick {f : Addr} {fd : FuncData} (F : Fun K "_law_pick" "_law_pick" s_law_pick f fd) (T : TxD K mg C) : FnOk P w K mg base CX0 1 f fd P_law_pick (lift sp_pick) := by
  refine fnok0 F sc_law_pick (fun as L Q XC h => by obtain ⟨_, _, rfl, _⟩ := h; rfl) ?_
  intro cdv A outer s0 H E hr as L Q XC h
  obtain ⟨ms, z, rfl, h0, k⟩ := h
  have hpos : 0 < ((ms.map mkD).length : Int) := by rw [List.length_map]; omega
  obtain ⟨p, hp, hatp⟩ := pick h0 z
  refine mss_cons (ms_ifx (tx_cmp (ex_callB (ax_cons (ex_var 0 rfl rfl (.inl rfl)) ax_nil) (by walk_at "c_len") (by rfl) T.m_len PySem.boot_len) ex_int (by walk_at "oeq") (nomark _)) (fun hT => ?_) (fun hF => ?_))
  · exact absurd (of_decide_eq_true hT) (by omega)
  · refine mss_nil (mss_cons (ms_ret (EX.to (ex_ix (ex_var 0 rfl rfl (.inl rfl)) (ex_bin (ex_callTy (ax_cons (ex_var 1 rfl rfl (.inl rfl)) ax_nil) (by walk_at "c_int") (by rfl) T.m_int (by decide +kernel)) (ex_callB (ax_cons (ex_var 0 rfl rfl (.inl rfl)) ax_nil) (by walk_at "c_len") (by rfl) T.m_len PySem.boot_len) (o_mod (by walk_at "sd"))) (by walk_at "oix") (fun _ _ => rfl)) ?_)))
    exact k p hp
section
variable {Y : Cm} {ρ : Rho} {L : Led} {st : Stmt} {N : Rho → Led → Prop} {D : Nd}
theorem ms_inv (I : Rho → Led → Prop) (h : MS Y st I D ρ L) (k : ∀ ρ L, I ρ L → N ρ L) : MS Y st N D ρ L := h.imp k
end
def sp_turned (Tb : Addr) (tq : Str) : Fs := fun as L Q _ => ∃ (ds : List Int) (i : Int) (r0 : Rv) (rows : List (List Deed)) (r : Int) (m : Str) (rm : List Mk) (bh : Option Mk) (n : Int) (l : List Nat), as = [.dt (.list (ds.map PyData.int)), .dt (.int i), r0, .dt (.int r), .dt (deedD (.change m rm bh n l))] ∧ 0 ≤ i ∧ RowsAt L r0 rows ∧ Wf rows ∧ 0 ≤ r ∧ r < 8 ∧ L Tb = some (.tab tq) ∧ m.length ≤ 1000 ∧ rm.length ≤ 10 ∧ ∀ d, Ask d → ∀ L', Le L L' → Q (.dt (deedD d)) L'
abbrev tuR (a b c d e pk mks sg mk : Rv) (n : Int) (rm : List Mk) (bh : Option Mk) : Rho := [some a, some b, some c, some d, some e, some pk, some mks, some sg, some mk, some (.dt (.int n)), some (.dt (.tuple (rm.map mkD))), some (.dt (obD bh)), none, none]
def tuI (a b c d e pk mks sg mk : Rv) (L : Led) (t : Nat) : Rho → Led → Prop := fun ρ L2 => L2 = L ∧ ∃ n rm bh, ρ = tuR a b c d e pk mks sg mk n rm bh ∧ rm.length ≤ t
theorem tu_in {a b c d e pk mks sg mk : Rv} {L : Led} {t : Nat} {n : Int} {rm : List Mk} {bh : Option Mk} (h : rm.length ≤ t) : tuI a b c d e pk mks sg mk L t (tuR a b c d e pk mks sg mk n rm bh) L := ⟨rfl, n, rm, bh, rfl, h⟩
def mk3 : Yd → PyData := fun y => match y with | .r (.dt (.tuple [a, _, _])) => a | _ => .none
theorem ok_turned {f : Addr} {fd : FuncData} {Tb : Addr} {tq : Str} (F : Fun K "_law_turned" "_law_turned" s_law_turned f fd) (T : TxD K mg C) (G_law_at : FnM P w K mg base 2 "_law_at" P_law_at sp_at) (G_law_modules : FnM P w K mg base 1 "_law_modules" P_law_modules sp_modules) (G_law_row' : FnM P w K mg base 3 "_law_row" P_law_row (sp_lrow Tb tq)) (G_law_pick : FnM P w K mg base 1 "_law_pick" P_law_pick sp_pick) : FnOk P w K mg base CX0 4 f fd P_law_turned (lift (sp_turned Tb tq)) := by
  have G_law_row := G_law_row'.forget
  refine fnok0 F sc_law_turned (fun as L Q XC h => by obtain ⟨_, _, _, _, _, _, _, _, _, _, rfl, _⟩ := h; rfl) ?_
  intro cdv A outer s0 H E hr as L Q XC h
  obtain ⟨ds, i, r0, rows, r, m, rm0, bh0, n0, l, rfl, hi0, hR, W, h0, h8, hTb, hml, hrl, k⟩ := h
  obtain ⟨rs, hrs, hlen, hat0⟩ := hR.at_
  obtain ⟨x, hx1, hx2⟩ := hat0 r.toNat (by rw [W.len]; omega)
  have hat : atI rs r = some x := atI_int h0 hx1
  generalize rows.getD r.toNat [] = row at hx2
  refine mss_cons (ms_set 5 sc_law_turned.nd rfl (by first | exact .inl rfl | exact .inr rfl) (EX.to (ex_bin (ex_call G_law_at (hr.mono (by decide)) (by rfl) (ax_cons (ex_var 0 rfl rfl (.inl rfl)) (ax_cons (ex_var 1 rfl rfl (.inl rfl)) ax_nil)) ⟨_, _, rfl, by walk_at "sd", rfl, rfl⟩) ex_int (o_mod (by decide))) ?_))
  have hm4 : (mods.length : Int) = 4 := by decide +kernel
  obtain ⟨mo, hmo, hatm⟩ : ∃ mo, mo ∈ mods ∧ atI (mods.map PyData.str) (lawAt ds (i + 1) % 4) = some (.str mo) := mods_at (by omega) (by omega)
  refine mss_cons (ms_setlcp (i := 6) (tgt := (.t [8, 12, 13])) (own := [("mark", 8), ("char", 12), ("seen", 13)]) mk3 (by rfl) sc_law_turned.nd rfl rfl (by rfl) (ix_data (ex_call G_law_row (hr.mono (by decide)) (by rfl) (ax_cons (ex_var 2 rfl rfl (.inl rfl)) (ax_cons (ex_ix (ex_call0 G_law_modules (hr.mono (by decide)) (by rfl) ⟨rfl, rfl, rfl⟩) (ex_bin (ex_call G_law_at (hr.mono (by decide)) (by rfl) (ax_cons (ex_var 0 rfl rfl (.inl rfl)) (ax_cons (ex_bin (ex_var 1 rfl rfl (.inl rfl)) ex_int (by walk_at "oadd")) ax_nil)) ⟨_, _, rfl, by walk_at "sd", rfl, rfl⟩) ex_int (o_mod (by decide))) (by walk_at "oix") (fun _ _ => rfl)) ax_nil)) ⟨r0, rows, mo, rfl, hR, W, hTb, fun L' l => ⟨_, l, rfl, rfl⟩⟩)) trivial (blkOk_by (by rfl)) rfl (fun s H C cl fp => (pgn_tup rfl (pgn_cons 8 sc_law_turned.nd rfl (by first | exact .inl rfl | exact .inr rfl) (pgn_cons 12 sc_law_turned.nd rfl (by first | exact .inl rfl | exact .inr rfl) (pgn_cons 13 sc_law_turned.nd rfl (by first | exact .inl rfl | exact .inr rfl) pgn_nil))))) (by rw [List.length_map, List.length_map, sizeLine_eq]; have := rowL_len (m := mo) W; omega) (fun j y hy => ?_) ?_)
  · rw [List.getElem?_map, List.getElem?_map] at hy
    cases he : (rowL mo rows)[j]? with
    | none => rw [he] at hy; cases hy
    | some e =>
      rw [he] at hy
      cases hy
      exact ⟨_, rfl, fun s H C cl fp => (ex_var 8 rfl rfl (by first | exact .inl rfl | exact .inr (.inl rfl) | exact .inr (.inr rfl)))⟩
  have emk : (((rowL mo rows).map entD).map fun d => Yd.r (.dt d)).map mk3 = ((rowL mo rows).map (·.1)).map mkD := by
    simp only [List.map_map]
    rfl
  rw [emk]
  have hmkl : ((rowL mo rows).map (·.1)).length ≤ 24000 := by rw [List.length_map]; exact rowL_len W
  generalize (rowL mo rows).map (·.1) = marks at hmkl
  clear emk
  obtain ⟨s2, hs2, hats⟩ : ∃ s2, s2 ∈ [PyData.int r, .int (lawAt ds (i + 4) % 8)] ∧ atI [PyData.int r, .int (lawAt ds (i + 4) % 8)] (lawAt ds (i + 4) / 8 % 2) = some s2 := pick_at 2 rfl (by decide) _
  obtain ⟨sz, rfl⟩ : ∃ z : Int, s2 = .int z := by
    simp only [List.mem_cons, List.not_mem_nil, or_false] at hs2
    rcases hs2 with rfl | rfl <;> exact ⟨_, rfl⟩
  refine mss_cons (ms_set 7 sc_law_turned.nd rfl (.inl rfl) (EX.to (ex_tup (ad_cons (ex_bin ex_int (ex_bin (ex_call G_law_at (hr.mono (by decide)) (by rfl) (ax_cons (ex_var 0 rfl rfl (.inl rfl)) (ax_cons (ex_bin (ex_var 1 rfl rfl (.inl rfl)) ex_int (by walk_at "oadd")) ax_nil)) ⟨_, _, rfl, by walk_at "sd", rfl, rfl⟩) ex_int (o_mod (by decide))) o_add) (ad_cons (ex_ix (ex_lst (ad_cons (ex_var 3 rfl rfl (.inl rfl)) (ad_cons (ex_bin (ex_call G_law_at (hr.mono (by decide)) (by rfl) (ax_cons (ex_var 0 rfl rfl (.inl rfl)) (ax_cons (ex_bin (ex_var 1 rfl rfl (.inl rfl)) ex_int (by walk_at "oadd")) ax_nil)) ⟨_, _, rfl, by walk_at "sd", rfl, rfl⟩) ex_int (o_mod (by decide))) ad_nil)) (by walk_at "few")) (ex_bin (ex_bin (ex_call G_law_at (hr.mono (by decide)) (by rfl) (ax_cons (ex_var 0 rfl rfl (.inl rfl)) (ax_cons (ex_bin (ex_var 1 rfl rfl (.inl rfl)) ex_int (by walk_at "oadd")) ax_nil)) ⟨_, _, rfl, by walk_at "sd", rfl, rfl⟩) ex_int (o_div ⟨by decide, by decide⟩)) ex_int (o_mod (by decide))) (by walk_at "oix") (fun _ _ => rfl)) ad_nil)) (by walk_at "few")) ?_))
  generalize hst : 1 + lawAt ds (i + 2) % 40 = st0
  have emks : marks.map mkD ++ [.tuple [.int st0, .int sz]] = (marks ++ [(st0, sz)]).map mkD := by simp
  refine mss_cons (ms_set 8 sc_law_turned.nd rfl (.inl rfl) (me_call G_law_pick (hr.mono (by decide)) (by rfl) (ma_ax (ax_cons (ex_bin (ex_var 6 rfl rfl (.inl rfl)) (ex_lst (ad_cons (ex_var 7 rfl rfl (.inl rfl)) ad_nil) (by walk_at "few")) (o_cat LL.dt LL.dt (by rw [List.length_map, sizeLine_eq]; show _ + 1 ≤ _; omega))) (ax_cons (ex_call G_law_at (hr.mono (by decide)) (by rfl) (ax_cons (ex_var 0 rfl rfl (.inl rfl)) (ax_cons (ex_bin (ex_var 1 rfl rfl (.inl rfl)) ex_int (by walk_at "oadd")) ax_nil)) ⟨_, _, rfl, by walk_at "sd", rfl, rfl⟩) ax_nil)) ⟨marks ++ [(st0, sz)], _, by rw [emks], by rw [List.length_append]; show 0 < _ + 1; omega, fun mk _ => ?_⟩)))
  refine mss_cons (ms_set 9 sc_law_turned.nd rfl (by first | exact .inl rfl | exact .inr rfl) (EX.to (ex_ix (ex_var 4 rfl rfl (.inl rfl)) ex_int (by walk_at "oix") (fun _ _ => rfl)) ?_))
  refine mss_cons (ms_set 10 sc_law_turned.nd rfl (by first | exact .inl rfl | exact .inr rfl) (EX.to (ex_ix (ex_var 4 rfl rfl (.inl rfl)) ex_int (by walk_at "oix") (fun _ _ => rfl)) ?_))
  refine mss_cons (ms_set 11 sc_law_turned.nd rfl (by first | exact .inl rfl | exact .inr rfl) (EX.to (ex_ix (ex_var 4 rfl rfl (.inl rfl)) ex_int (by walk_at "oix") (fun _ _ => rfl)) ?_))
  generalize hpk : lawAt ds i % 9 = pk
  -- the states between
  refine mss_cons (ms_inv (tuI (.dt (.list (ds.map PyData.int))) (.dt (.int i)) r0 (.dt (.int r)) (.dt (deedD (.change m rm0 bh0 n0 l))) (.dt (.int pk)) (.dt (.list (marks.map mkD))) (.dt (.tuple [.int st0, .int sz])) (.dt (mkD mk)) L 10) ?_ fun ρ L2 hI => ?_)
  · refine (ms_ifx (tx_cmp (ex_var 5 rfl rfl (.inl rfl)) ex_int (by walk_at "oeq") (nomark _)) (fun hT => ?_) (fun hF => ?_))
    · refine mss_cons (ms_set 9 sc_law_turned.nd rfl (by first | exact .inl rfl | exact .inr rfl) (EX.to (ex_bin (ex_call G_law_at (hr.mono (by decide)) (by rfl) (ax_cons (ex_var 0 rfl rfl (.inl rfl)) (ax_cons (ex_bin (ex_var 1 rfl rfl (.inl rfl)) ex_int (by walk_at "oadd")) ax_nil)) ⟨_, _, rfl, by walk_at "sd", rfl, rfl⟩) ex_int (o_mod (by decide))) ?_))
      exact mss_nil (tu_in hrl)
    · exact mss_nil (tu_in hrl)
  obtain ⟨eL, n1, rm1, bh1, rfl, hb⟩ := hI
  rw [eL]
  refine mss_cons (ms_inv (tuI (.dt (.list (ds.map PyData.int))) (.dt (.int i)) r0 (.dt (.int r)) (.dt (deedD (.change m rm0 bh0 n0 l))) (.dt (.int pk)) (.dt (.list (marks.map mkD))) (.dt (.tuple [.int st0, .int sz])) (.dt (mkD mk)) L 10) ?_ fun ρ L2 hI => ?_)
  · refine (ms_ifx (tx_cmp (ex_var 5 rfl rfl (.inl rfl)) ex_int (by walk_at "oeq") (nomark _)) (fun hT => ?_) (fun hF => ?_))
    · refine mss_cons (ms_set 9 sc_law_turned.nd rfl (by first | exact .inl rfl | exact .inr rfl) (EX.to (ex_callB (ax_cons ex_int (ax_cons (ex_bin (ex_bin (ex_var 9 rfl rfl (.inl rfl)) ex_int (by walk_at "osub")) (ex_bin (ex_call G_law_at (hr.mono (by decide)) (by rfl) (ax_cons (ex_var 0 rfl rfl (.inl rfl)) (ax_cons (ex_bin (ex_var 1 rfl rfl (.inl rfl)) ex_int (by walk_at "oadd")) ax_nil)) ⟨_, _, rfl, by walk_at "sd", rfl, rfl⟩) ex_int (o_mod (by decide))) (by walk_at "osub")) ax_nil)) (by walk_at "c_max") (by rfl) T.m_max (by decide +kernel)) ?_))
      exact mss_nil (tu_in hb)
    · exact mss_nil (tu_in hb)
  clear hb eL
  obtain ⟨eL, n1, rm1, bh1, rfl, hb⟩ := hI
  rw [eL]
  refine mss_cons (ms_inv (tuI (.dt (.list (ds.map PyData.int))) (.dt (.int i)) r0 (.dt (.int r)) (.dt (deedD (.change m rm0 bh0 n0 l))) (.dt (.int pk)) (.dt (.list (marks.map mkD))) (.dt (.tuple [.int st0, .int sz])) (.dt (mkD mk)) L 11) ?_ fun ρ L2 hI => ?_)
  · refine (ms_ifx (tx_cmp (ex_var 5 rfl rfl (.inl rfl)) ex_int (by walk_at "oeq") (nomark _)) (fun hT => ?_) (fun hF => ?_))
    · have hz1 : (rm1.map mkD).length + [mkD mk].length ≤ sizeLine := by rw [List.length_map, sizeLine_eq]; show _ + 1 ≤ _; omega
      refine mss_cons (ms_set 10 sc_law_turned.nd rfl (by first | exact .inl rfl | exact .inr rfl) (EX.to (ex_bin (ex_var 10 rfl rfl (.inl rfl)) (ex_tup (ad_cons (ex_var 8 rfl rfl (.inl rfl)) ad_nil) (by walk_at "few")) (by walk_at "oadd")) ?_))
      have e : rm1.map mkD ++ [mkD mk] = (rm1 ++ [mk]).map mkD := by simp
      rw [e]
      exact mss_nil (tu_in (rm := rm1 ++ [mk]) (by rw [List.length_append]; show _ + 1 ≤ _; omega))
    · exact mss_nil (tu_in (by omega))
  clear hb eL
  obtain ⟨eL, n1, rm1, bh1, rfl, hb⟩ := hI
  rw [eL]
  refine mss_cons (ms_inv (tuI (.dt (.list (ds.map PyData.int))) (.dt (.int i)) r0 (.dt (.int r)) (.dt (deedD (.change m rm0 bh0 n0 l))) (.dt (.int pk)) (.dt (.list (marks.map mkD))) (.dt (.tuple [.int st0, .int sz])) (.dt (mkD mk)) L 12) ?_ fun ρ L2 hI => ?_)
  · refine (ms_ifx (tx_cmp (ex_var 5 rfl rfl (.inl rfl)) ex_int (by walk_at "oeq") (nomark _)) (fun hT => ?_) (fun hF => ?_))
    · have hz1 : [mkD mk].length + (rm1.map mkD).length ≤ sizeLine := by rw [List.length_map, sizeLine_eq]; show 1 + _ ≤ _; omega
      refine mss_cons (ms_set 10 sc_law_turned.nd rfl (by first | exact .inl rfl | exact .inr rfl) (EX.to (ex_bin (ex_tup (ad_cons (ex_var 8 rfl rfl (.inl rfl)) ad_nil) (by walk_at "few")) (ex_var 10 rfl rfl (.inl rfl)) (by walk_at "oadd")) ?_))
      have e : [mkD mk] ++ rm1.map mkD = ([mk] ++ rm1).map mkD := by simp
      rw [e]
      exact mss_nil (tu_in (rm := [mk] ++ rm1) (by rw [List.length_append]; show 1 + _ ≤ _; omega))
    · exact mss_nil (tu_in (by omega))
  clear hb eL
  obtain ⟨eL, n1, rm1, bh1, rfl, hb⟩ := hI
  rw [eL]
  refine mss_cons (ms_inv (tuI (.dt (.list (ds.map PyData.int))) (.dt (.int i)) r0 (.dt (.int r)) (.dt (deedD (.change m rm0 bh0 n0 l))) (.dt (.int pk)) (.dt (.list (marks.map mkD))) (.dt (.tuple [.int st0, .int sz])) (.dt (mkD mk)) L 12) ?_ fun ρ L2 hI => ?_)
  · refine (ms_ifx (tx_cmp (ex_var 5 rfl rfl (.inl rfl)) ex_int (by walk_at "oeq") (nomark _)) (fun hT => ?_) (fun hF => ?_))
    · refine mss_cons (ms_set 11 sc_law_turned.nd rfl (by first | exact .inl rfl | exact .inr rfl) (EX.to (ex_var 8 rfl rfl (.inl rfl)) ?_))
      exact mss_nil (tu_in (bh := some mk) hb)
    · exact mss_nil (tu_in hb)
  clear hb eL
  obtain ⟨eL, n1, rm1, bh1, rfl, hb⟩ := hI
  rw [eL]
  refine mss_cons (ms_inv (tuI (.dt (.list (ds.map PyData.int))) (.dt (.int i)) r0 (.dt (.int r)) (.dt (deedD (.change m rm0 bh0 n0 l))) (.dt (.int pk)) (.dt (.list (marks.map mkD))) (.dt (.tuple [.int st0, .int sz])) (.dt (mkD mk)) L 12) ?_ fun ρ L2 hI => ?_)
  · refine (ms_ifx (tx_w (wx_and (tx_cmp (ex_var 5 rfl rfl (.inl rfl)) ex_int (by walk_at "oeq") (nomark _)) (fun _ => (wx_and1 (tx_cmp (ex_var 11 rfl rfl (.inl rfl)) ex_non (by walk_at "oisn") (nomark _)))))) (fun hT => ?_) (fun hF => ?_))
    · rw [Bool.and_eq_true] at hT
      cases bh1 with
      | none => exact absurd hT.2 (by decide)
      | some b =>
        refine mss_cons (ms_set 9 sc_law_turned.nd rfl (by first | exact .inl rfl | exact .inr rfl) (EX.to (ex_ix (ex_var 11 rfl rfl (.inl rfl)) ex_int (by walk_at "oix") (fun _ _ => rfl)) ?_))
        exact mss_nil (tu_in (bh := some b) hb)
    · exact mss_nil (tu_in hb)
  clear hb eL
  obtain ⟨eL, n1, rm1, bh1, rfl, hb⟩ := hI
  rw [eL]
  have hpos : 0 < ((row.map deedD).length : Int) + 12 := by have := Int.natCast_nonneg (row.map deedD).length; omega
  refine mss_cons (ms_ifx (tx_cmp (ex_var 5 rfl rfl (.inl rfl)) ex_int (by walk_at "oeq") (nomark _)) (fun hT => ?_) (fun hF => ?_))
  · refine mss_cons (ms_ret (EX.to (ex_tup (ad_cons ex_str (ad_cons (ex_bin (ex_call G_law_at (hr.mono (by decide)) (by rfl) (ax_cons (ex_var 0 rfl rfl (.inl rfl)) (ax_cons (ex_bin (ex_var 1 rfl rfl (.inl rfl)) ex_int (by walk_at "oadd")) ax_nil)) ⟨_, _, rfl, by walk_at "sd", rfl, rfl⟩) (ex_bin (ex_callB (ax_cons (ex_ix (ex_var 2 rfl rfl (.inl rfl)) (ex_var 3 rfl rfl (.inl rfl)) (by walk_at "oix") (fun _ _ => rfl)) ax_nil) (by walk_at "c_len") (by rfl) T.m_len PySem.boot_len) ex_int (by walk_at "oadd")) (o_mod (by walk_at "sd"))) ad_nil)) (by walk_at "few")) ?_))
    exact k (.back _) trivial _ (Le.refl L)
  obtain ⟨s3, hs3, hat3⟩ : ∃ s3, s3 ∈ [PyData.int 100, .int ((10 : Int) ^ (6 : Int).toNat), .int ((10 : Int) ^ (15 : Int).toNat)] ∧ atI [PyData.int 100, .int ((10 : Int) ^ (6 : Int).toNat), .int ((10 : Int) ^ (15 : Int).toNat)] (lawAt ds (i + 2) % 3) = some s3 := pick_at 3 rfl (by decide) _
  obtain ⟨z3, rfl⟩ : ∃ z : Int, s3 = .int z := by
    simp only [List.mem_cons, List.not_mem_nil, or_false] at hs3
    rcases hs3 with rfl | rfl | rfl <;> exact ⟨_, rfl⟩
  refine mss_nil (mss_cons (ms_inv (tuI (.dt (.list (ds.map PyData.int))) (.dt (.int i)) r0 (.dt (.int r)) (.dt (deedD (.change m rm0 bh0 n0 l))) (.dt (.int pk)) (.dt (.list (marks.map mkD))) (.dt (.tuple [.int st0, .int sz])) (.dt (mkD mk)) L 12) ?_ fun ρ L2 hI => ?_))
  · refine (ms_ifx (tx_cmp (ex_var 5 rfl rfl (.inl rfl)) ex_int (by walk_at "oeq") (nomark _)) (fun hT => ?_) (fun hF => ?_))
    · refine mss_cons (ms_set 9 sc_law_turned.nd rfl (.inl rfl) (EX.to (ex_bin (ex_var 9 rfl rfl (.inl rfl)) (ex_ix (ex_lst (ad_cons ex_int (ad_cons (ex_bin ex_int ex_int (o_pow ⟨by decide, by decide, by decide⟩)) (ad_cons (ex_bin ex_int ex_int (o_pow ⟨by decide, by decide, by decide⟩)) ad_nil))) (by walk_at "few")) (ex_bin (ex_call G_law_at (hr.mono (by decide)) (by rfl) (ax_cons (ex_var 0 rfl rfl (.inl rfl)) (ax_cons (ex_bin (ex_var 1 rfl rfl (.inl rfl)) ex_int (by walk_at "oadd")) ax_nil)) ⟨_, _, rfl, by walk_at "sd", rfl, rfl⟩) ex_int (o_mod (by decide))) (by walk_at "oix") (fun _ _ => rfl)) o_add) ?_))
      exact mss_nil (tu_in hb)
    · exact mss_nil (tu_in hb)
  clear hb eL
  obtain ⟨eL, n1, rm1, bh1, rfl, hb⟩ := hI
  rw [eL]
  obtain ⟨s4, hs4, hat4⟩ : ∃ s4, s4 ∈ [PyData.str "", .str (Txt.mul "y" 40), .str (Txt.mul "y" 41), .str "y", .str (Txt.mul "y" 80), .str (Txt.mul "y" 300)] ∧ atI [PyData.str "", .str (Txt.mul "y" 40), .str (Txt.mul "y" 41), .str "y", .str (Txt.mul "y" 80), .str (Txt.mul "y" 300)] (lawAt ds (i + 2) % 6) = some s4 := pick_at 6 rfl (by decide) _
  obtain ⟨m4, rfl, hm4l⟩ : ∃ m4 : Str, s4 = .str m4 ∧ m4.length ≤ 1000 := by
    simp only [List.mem_cons, List.not_mem_nil, or_false] at hs4
    rcases hs4 with rfl | rfl | rfl | rfl | rfl | rfl <;> exact ⟨_, rfl, by decide +kernel⟩
  refine mss_cons (ms_ifx (tx_cmp (ex_var 5 rfl rfl (.inl rfl)) ex_int (by walk_at "oeq") (nomark _)) (fun hT => ?_) (fun hF => ?_))
  · refine mss_cons (ms_ret (EX.to (ex_tup (ad_cons ex_str (ad_cons (ex_ix (ex_lst (ad_cons ex_str (ad_cons (ex_bin ex_str ex_int (o_repS (by walk_at "mulok"))) (ad_cons (ex_bin ex_str ex_int (o_repS (by walk_at "mulok"))) (ad_cons ex_str (ad_cons (ex_bin ex_str ex_int (o_repS (by walk_at "mulok"))) (ad_cons (ex_bin ex_str ex_int (o_repS (by walk_at "mulok"))) ad_nil)))))) (by walk_at "few")) (ex_bin (ex_call G_law_at (hr.mono (by decide)) (by rfl) (ax_cons (ex_var 0 rfl rfl (.inl rfl)) (ax_cons (ex_bin (ex_var 1 rfl rfl (.inl rfl)) ex_int (by walk_at "oadd")) ax_nil)) ⟨_, _, rfl, by walk_at "sd", rfl, rfl⟩) ex_int (o_mod (by decide))) (by walk_at "oix") (fun _ _ => rfl)) (ad_cons (ex_tup ad_nil (by walk_at "few")) (ad_cons ex_non (ad_cons (ex_var 9 rfl rfl (.inl rfl)) (ad_cons (ex_ix (ex_var 4 rfl rfl (.inl rfl)) ex_int (by walk_at "oix") (fun _ _ => rfl)) ad_nil)))))) (by walk_at "few")) ?_))
    exact k (.change m4 [] none n1 l) ⟨hm4l, by decide⟩ _ (Le.refl L)
  refine mss_nil (mss_cons (ms_ret (EX.to (ex_tup (ad_cons ex_str (ad_cons (ex_ix (ex_var 4 rfl rfl (.inl rfl)) ex_int (by walk_at "oix") (fun _ _ => rfl)) (ad_cons (ex_var 10 rfl rfl (.inl rfl)) (ad_cons (ex_var 11 rfl rfl (.inl rfl)) (ad_cons (ex_var 9 rfl rfl (.inl rfl)) (ad_cons (ex_ix (ex_var 4 rfl rfl (.inl rfl)) ex_int (by walk_at "oix") (fun _ _ => rfl)) ad_nil)))))) (by walk_at "few")) ?_)))
  exact k (.change m rm1 bh1 n1 l) ⟨hml, by omega⟩ _ (Le.refl L)
end
end K05

set_option Elab.async false
set_option linter.all false
set_option maxRecDepth 100000
set_option maxHeartbeats 4000000
namespace K05
open PySem PySem.Spec PyProof.Rows L2 Cw
/-! ### small closers, each at its own key -/
local macro_rules | `(tactic| walk_at "oadd") => `(tactic| first | exact o_add | exact o_addS (by walk_at "sz") | exact o_cat (by walk_at "ll") (by walk_at "ll") (by walk_at "sz"))
local macro_rules | `(tactic| walk_at "osub") => `(tactic| exact o_sub)
local macro_rules | `(tactic| walk_at "omul") => `(tactic| first | exact o_mul (by walk_at "sd") | exact o_rep (by walk_at "ll") (by walk_at "sd") (by walk_at "sd") (by walk_at "sz"))
local macro_rules | `(tactic| walk_at "odiv") => `(tactic| first | exact o_div (by walk_at "sd") | exact o_divW (by walk_at "sd"))
local macro_rules | `(tactic| walk_at "olt") => `(tactic| exact o_lt)
local macro_rules | `(tactic| walk_at "ole") => `(tactic| exact o_le)
local macro_rules | `(tactic| walk_at "ogt") => `(tactic| exact o_gt)
local macro_rules | `(tactic| walk_at "oge") => `(tactic| exact o_ge)
local macro_rules | `(tactic| walk_at "oeq") => `(tactic| first | exact o_eqI | exact o_eqNI | exact o_eqS | exact o_eqB | exact o_eqR (Room.units (by assumption)) (by walk_at "dr") (by walk_at "dr") (by walk_at "sh") (by walk_at "sh"))
local macro_rules | `(tactic| walk_at "one") => `(tactic| first | exact o_neI | exact o_neS | exact o_neB | exact o_neR (Room.units (by assumption)) (by walk_at "dr") (by walk_at "dr") (by walk_at "sh") (by walk_at "sh"))
local macro_rules | `(tactic| walk_at "ois") => `(tactic| exact o_isN)
local macro_rules | `(tactic| walk_at "oisn") => `(tactic| exact o_notN)
local macro_rules | `(tactic| walk_at "iadd") => `(tactic| exact o_iadd)
local macro_rules | `(tactic| walk_at "isub") => `(tactic| exact o_isub)
local macro_rules | `(tactic| walk_at "lk") => `(tactic| first | assumption | exact updL_same | (refine Eq.trans (updL_ne (by first | assumption | (apply Ne.symm; assumption))) ?_; walk_at "lk"))
local macro_rules | `(tactic| walk_at "ll") => `(tactic| first | exact LL.dt | assumption | exact LL.h (by walk_at "lk"))
local macro_rules | `(tactic| walk_at "lr") => `(tactic| first | exact LL.dt | assumption | exact LR.h (by walk_at "lk"))
local macro_rules | `(tactic| walk_at "dr") => `(tactic| first | exact DD.dt | assumption | exact DD.ofLL (by walk_at "lk"))
local macro_rules | `(tactic| walk_at "sd") => `(tactic| first | omega | assumption | decide)
local macro_rules | `(tactic| walk_at "rg") => `(tactic| first | omega | assumption | decide)
local macro_rules | `(tactic| walk_at "sz") => `(tactic| first | assumption | (rw [sizeLine_eq]; first | omega | (simp; omega)))
local macro_rules | `(tactic| walk_at "osl") => `(tactic| first | exact s_str (by walk_at "sz") | exact s_lst (by walk_at "ll"))
local macro_rules | `(tactic| walk_at "c_len") => `(tactic| first | exact c_lenT | exact c_lenS (by walk_at "sz") | exact c_lenL (by walk_at "ll") | exact c_lenR (by walk_at "lr") | exact c_lenF (by assumption))
local macro_rules | `(tactic| walk_at "c_int") => `(tactic| first | exact c_int | exact c_intB)
local macro_rules | `(tactic| walk_at "c_min") => `(tactic| exact c_min rfl)
local macro_rules | `(tactic| walk_at "c_max") => `(tactic| exact c_max rfl)
local macro_rules | `(tactic| walk_at "c_ord") => `(tactic| exact c_ord (by walk_at "sz"))
local macro_rules | `(tactic| walk_at "c_list") => `(tactic| first | exact c_listT | exact c_list (by walk_at "ll") | exact c_listF (by assumption))
local macro_rules | `(tactic| walk_at "c_tuple") => `(tactic| first | exact c_tupleT | exact c_tuple (by walk_at "ll"))
local macro_rules | `(tactic| walk_at "c_isinstance") => `(tactic| exact c_isi (by walk_at "dr") (by decide))
local macro_rules | `(tactic| walk_at "few") => `(tactic| first | decide | exact Nat.le_of_ble_eq_true rfl | (rw [sizeLine_eq]; exact Nat.le_of_ble_eq_true rfl) | assumption)
local macro_rules | `(tactic| walk_at "fl") => `(tactic| first | assumption | rfl)
local macro_rules | `(tactic| walk_at "nf") => `(tactic| first | rfl | decide +kernel)
local macro_rules | `(tactic| walk_at "at") => `(tactic| first | assumption | rfl | exact atI_nat (by assumption))
local macro_rules | `(tactic| walk_at "oix") => `(tactic| first | exact i_tup (by walk_at "at") | exact i_lst (by walk_at "ll") (by walk_at "at") | exact i_lstR (by walk_at "lr") (by walk_at "at") | exact i_str (by walk_at "sz") (by walk_at "at") | exact i_lstF (by assumption) (by walk_at "at"))
local macro_rules | `(tactic| walk_at "ixn") => `(tactic| first | assumption | rfl)
local macro_rules | `(tactic| walk_at "okd") => `(tactic| first | rfl | assumption)
local macro_rules | `(tactic| walk_at "wr") => `(tactic| first | assumption | omega)
local macro_rules | `(tactic| walk_at "shn") => `(tactic| first | exact fun z => absurd z (by assumption) | exact fun z => absurd rfl z | exact fun _ => ⟨rfl, rfl⟩)
local macro_rules | `(tactic| walk_at "onin") => `(tactic| exact o_notIn2S)
local macro_rules | `(tactic| walk_at "okp") => `(tactic| first | assumption | exact nxt_p (by walk_at "okp"))
local macro_rules | `(tactic| walk_at "c_all") => `(tactic| exact c_all rfl (by walk_at "ll"))
local macro_rules | `(tactic| walk_at "c_sum") => `(tactic| exact c_sum rfl (by walk_at "ll"))
local macro_rules | `(tactic| walk_at "c_sorted") => `(tactic| exact c_sortedS (by walk_at "ll") (by walk_at "sz"))

local macro_rules | `(tactic| walk_at "fl") => `(tactic| exact rows_lk _)
@[reducible] def askD (x : Nat × Deed) : PyData := .tuple [.int (x.1 : Int), deedD x.2]
theorem mods_len : ∀ m ∈ mods, m.length ≤ 1000 := by decide +kernel
def endLe (B : Int) (d : Deed) : Prop := ∀ m rm bh n l, d = .change m rm bh n l → n + (l.length : Int) ≤ B
theorem new_ask {V : List (List Deed)} {r : Nat} {B : Int} {d : Deed} (h : NewDeed V r B d) : Ask d := by
  cases d with
  | back p => trivial
  | change m rm bh n l => exact ⟨mods_len m h.1, by have := h.2.1; omega⟩
theorem new_end {V : List (List Deed)} {r : Nat} {B : Int} {d : Deed} (h : NewDeed V r B d) : endLe (B + 30) d := fun m rm bh n l e => by
  subst e
  have h1 := h.2.2.2.2.2.2.1
  have h2 := h.2.2.2.2.2.2.2.1
  have e6 : stepMax = 6 := rfl
  omega
section
variable {P : Program} {w : World} {K : PySem.W.Frag} {mg : Str → Option Value} {base : Heap} {C : Addr}
structure Asked (as : List (Nat × Deed)) : Prop where
  all : ∀ x ∈ as, x.1 < 8 ∧ Ask x.2
  one : ∀ x, as[0]? = some x → DeedOk x.2 ∧ endLe 1030 x.2
theorem Asked.snoc {as : List (Nat × Deed)} (A : Asked as) (h : as ≠ []) {x : Nat × Deed} (h1 : x.1 < 8) (h2 : Ask x.2) : Asked (as ++ [x]) := by
  refine ⟨fun y hy => ?_, fun y hy => A.one y ?_⟩
  · rcases List.mem_append.mp hy with z | z
    · exact A.all y z
    · rw [List.mem_singleton.mp z]; exact ⟨h1, h2⟩
  · rw [List.getElem?_append_left (List.length_pos_iff.mpr h)] at hy
    exact hy
def sp_law (K : PySem.W.Frag) (T1 T2 : Addr) : Fs := fun as L Q _ => ∃ a ns, as = [.vl (.ref a)] ∧ Scr K L a ns ∧ ns.length ≤ 63 ∧ L T1 = some (.tab "Deeds.row.<locals>.<lambda>") ∧ L T2 = some (.tab "_law_row.<locals>.<lambda>") ∧ ∀ L', Q (.dt (.bool true)) L'
theorem ok_law {f : Addr} {fd : FuncData} {T1 T2 : Addr} (F : Fun K "law" "law" s_law f fd) (T : TxD K mg C)
    (G_law_draws : FnM P w K mg base 2 "_law_draws" P_law_draws (sp_draws K)) (G_law_at : FnM P w K mg base 2 "_law_at" P_law_at sp_at) (G_law_same : FnM P w K mg base 7 "_law_same" P_law_same (sp_same 5))
    (G_law_triples : FnM P w K mg base 5 "_law_triples" P_law_triples (sp_triples T2 "_law_row.<locals>.<lambda>")) (G_law_rows_of : FnM P w K mg base 1 "_law_rows_of" P_law_rows_of sp_rowsof) (G_law_deeds : FnM P w K mg base 3 "_law_deeds" P_law_deeds (sp_deeds C))
    (G_law_deed' : FnM P w K mg base 4 "_law_deed" P_law_deed (sp_deed T2 "_law_row.<locals>.<lambda>")) (G_law_turned' : FnM P w K mg base 4 "_law_turned" P_law_turned (sp_turned T2 "_law_row.<locals>.<lambda>")) (G_Deeds_fits' : MtM P w K mg base 3 C "fits" P_Deeds_fits (sp_fits C)) (G_law_fits' : FnM P w K mg base 3 "_law_fits" P_law_fits sp_lfits) (G_Deeds_add : MtM P w K mg base 1 C "add" P_Deeds_add (sp_add C)) :
    FnOk P w K mg base CX0 8 f fd P_law (lift (sp_law K T1 T2)) := by
  have G_law_deed := G_law_deed'.forget
  have G_law_turned := G_law_turned'.forget
  have G_Deeds_fits := G_Deeds_fits'.forget
  have G_law_fits := G_law_fits'.forget
  refine fnok0 F sc_law (fun as L Q XC h => by obtain ⟨_, _, rfl, _⟩ := h; rfl) ?_
  intro cdv A outer s0 H E hr as L Q XC h
  obtain ⟨a, ns, rfl, scr, hlen, hT1, hT2, k⟩ := h
  refine mss_cons (ms_set 1 sc_law.nd rfl (by first | exact .inl rfl | exact .inr rfl) (EX.to (ex_call G_law_draws (hr.mono (by decide)) (by rfl) (ax_cons (ex_var 0 rfl rfl (.inl rfl)) ax_nil) ⟨_, _, rfl, scr, hlen, rfl, rfl⟩) ?_))
  generalize draws ns = d
  obtain ⟨cn, hc1, hc2⟩ : ∃ cn : Nat, lawAt d 0 % 17 = (cn : Int) ∧ cn ≤ 16 := by
    have h0 : 0 ≤ lawAt d 0 % 17 := Int.emod_nonneg _ (by decide)
    have h1 : lawAt d 0 % 17 < 17 := Int.emod_lt_of_pos _ (by decide)
    exact ⟨(lawAt d 0 % 17).toNat, by omega, by omega⟩
  obtain ⟨mo, hm1, hm2, hm3⟩ : ∃ mo : Nat, 1 + lawAt d 1 % 5 = (mo : Int) ∧ 1 ≤ mo ∧ mo ≤ 8 := by
    have h0 : 0 ≤ lawAt d 1 % 5 := Int.emod_nonneg _ (by decide)
    have h1 : lawAt d 1 % 5 < 5 := Int.emod_lt_of_pos _ (by decide)
    exact ⟨(1 + lawAt d 1 % 5).toNat, by omega, by omega, by omega⟩
  refine mss_cons (ms_set 2 sc_law.nd rfl (.inl rfl) (me_call G_law_triples (hr.mono (by decide)) (by rfl) (ma_ax (ax_cons (ex_var 1 rfl rfl (.inl rfl)) (ax_cons ex_int (ax_cons (ex_bin (ex_call G_law_at (hr.mono (by decide)) (by rfl) (ax_cons (ex_var 1 rfl rfl (.inl rfl)) (ax_cons ex_int ax_nil)) ⟨_, _, rfl, by walk_at "sd", rfl, rfl⟩) ex_int (o_mod (by decide))) (ax_cons (ex_bin ex_int (ex_bin (ex_call G_law_at (hr.mono (by decide)) (by rfl) (ax_cons (ex_var 1 rfl rfl (.inl rfl)) (ax_cons ex_int ax_nil)) ⟨_, _, rfl, by walk_at "sd", rfl, rfl⟩) ex_int (o_mod (by decide))) (by walk_at "oadd")) ax_nil)))) ⟨d, 20, cn, mo, by rw [hm1, hc1], by decide, by omega, hm2, hm3, hT2, fun ts htl G hwho L1 l1 => ?_⟩)))
  have h8 : ∀ t ∈ ts, t.1 < 8 := fun t ht => by have := hwho t ht; omega
  have W0 := G.all
  refine mss_cons (ms_set 3 sc_law.nd rfl (.inl rfl) (me_call G_law_rows_of (hr.mono (by decide)) (by rfl) (ma_ax (ax_cons (ex_var 2 rfl rfl (.inl rfl)) ax_nil) ⟨ts, rfl, h8, by omega, fun w1 p1 L2 l2 R fresh => ?_⟩)))
  refine mss_cons (ms_set 4 sc_law.nd rfl (.inl rfl) (me_call G_law_deeds (hr.mono (by decide)) (by rfl) (ma_ax (ax_cons (ex_var 2 rfl rfl (.inl rfl)) ax_nil) ⟨ts, rfl, h8, by omega, fun q wq ps L3 l3 D1 hnw1 fresh2 => ?_⟩)))
  have hrl : ∀ r, ((rowsTo ts).getD r []).length ≤ 16 := fun r => by have := row_le ts r; omega
  have hBd : Bd 900 (rowsTo ts) := fun row hrow m rm bh n l hm => by
    have h1 := G.bd row hrow m rm bh n l hm
    have e : (stepMax + 24) * (ts.length : Int) ≤ (stepMax + 24) * 16 := Int.mul_le_mul_of_nonneg_left (by omega) (by decide)
    have e2 : 1 + (stepMax + 24) * 16 ≤ 900 := by decide
    omega
  have l12 := l1.trans l2
  have S0 : S5 C L L3 w1 p1 q wq ps (rowsTo ts) := ⟨R.le l3, D1, (fun x hx hy => by
    obtain ⟨rs, e⟩ := R.mem hx
    rw [fresh2 x hy] at e
    cases e), fun x hx => l1.none (fresh x hx), fun x hx => l12.none (fresh2 x hx), l12.trans l3⟩
  generalize rowsTo ts = rows0 at *
  -- behind the first deeds
  have rest : ∀ (rows : List (List Deed)) (re : Option Rv) (L' : Led), S5 C L L' w1 p1 q wq ps rows → Wf rows → Bd 1000 rows → (∀ r, (rows.getD r []).length ≤ 20) → MSs (y0 P w K mg base N_law "law" (defScope s_law) f cdv A outer s0 H E) ((defBody s_law).drop 5) (fun x L' => Q (.dt .none) L') { rt := Q }
      [some (.vl (.ref a)), some (.dt (.list (d.map PyData.int))), some (.dt (.list (ts.map trD))), some (.vl (.ref w1)), some (.vl (.ref q)), re, none, none, none, none, none] L' := by
    intro rows re L' S W hB hlen20
    refine mss_cons (ms_set 6 sc_law.nd rfl (.inl rfl) (me_lst0 fun o hot => ?_))
    refine mss_cons (ms_for (tgt := (.n 7)) rfl (ix_range1 (ax_cons ex_int ax_nil) (by walk_at "sd") (by walk_at "sd") (by rfl) T.m_range) (pgn_name 7 sc_law.nd rfl (by first | exact .inl rfl | exact .inr rfl)) (fun i ρ L2 => ∃ as re kk ba de, ρ = [some (.vl (.ref a)), some (.dt (.list (d.map PyData.int))), some (.dt (.list (ts.map trD))), some (.vl (.ref w1)), some (.vl (.ref q)), re, some (.vl (.ref o)), kk, ba, de, none] ∧ L2 = updL L' o (.lst (dts (as.map askD))) ∧ Asked as ∧ (0 < i → as ≠ []) ∧ as.length ≤ 3 * i) ⟨[], re, none, none, none, rfl, rfl, ⟨(fun _ h => by cases h), fun x h => by cases h⟩, fun h => absurd h (by decide), Nat.le_refl _⟩ (fun _ _ _ _ _ => trivial) ?_ ?_)
    · intro i y ρ L2 hy hI
      obtain ⟨as, re', kk, ba, de, rfl, rfl, AS, hne, hal⟩ := hI
      obtain ⟨hi, rfl⟩ := rgY_at hy
      have hi12 : i < 12 := hi
      refine ⟨_, rfl, ?_⟩
      refine mss_cons (ms_set 8 sc_law.nd rfl (by first | exact .inl rfl | exact .inr rfl) (EX.to (ex_bin ex_int (ex_bin ex_int (ex_var 7 rfl rfl (.inl rfl)) (o_mul (.inl (by decide)))) (by walk_at "oadd")) ?_))
      generalize hba : 400 + 24 * (0 + (i : Int)) = base'
      have hba0 : 0 ≤ base' := by omega
      refine mss_cons (ms_set 5 sc_law.nd rfl (by first | exact .inl rfl | exact .inr rfl) (EX.to (ex_bin (ex_call G_law_at (hr.mono (by decide)) (by rfl) (ax_cons (ex_var 1 rfl rfl (.inl rfl)) (ax_cons (ex_var 8 rfl rfl (.inl rfl)) ax_nil)) ⟨_, _, rfl, by walk_at "sd", rfl, rfl⟩) ex_int (o_mod (by decide))) ?_))
      obtain ⟨r, hr1, hr2⟩ : ∃ r : Nat, lawAt d base' % 8 = (r : Int) ∧ r < 8 := by
        have h0 : 0 ≤ lawAt d base' % 8 := Int.emod_nonneg _ (by decide)
        have h1 : lawAt d base' % 8 < 8 := Int.emod_lt_of_pos _ (by decide)
        exact ⟨(lawAt d base' % 8).toNat, by omega, by omega⟩
      rw [hr1]
      have So : ∀ m, S5 C L (updL L' o m) w1 p1 q wq ps rows := fun m => S.up (le_upd hot)
      refine mss_cons (ms_set 9 sc_law.nd rfl (.inl rfl) (me_call G_law_deed (hr.mono (by decide)) (by rfl) (ma_ax (ax_cons (ex_var 1 rfl rfl (.inl rfl)) (ax_cons (ex_bin (ex_var 8 rfl rfl (.inl rfl)) ex_int (by walk_at "oadd")) (ax_cons (ex_var 3 rfl rfl (.inl rfl)) (ax_cons (ex_var 5 rfl rfl (.inl rfl)) ax_nil)))) ⟨d, base' + 1, _, rows, (r : Int), 1000, rfl, by omega, rows_lol (So _).lol, W, hB, by decide, by omega, by omega, (So _).le _ _ hT2, fun deed hn L2 l2 => ⟨_, l2, ?_⟩⟩)))
      rw [Int.toNat_natCast] at hn
      have hask := new_ask hn
      have hdok := new_ok W hn (by decide)
      have hend := new_end hn
      have hz1 : (dts (as.map askD)).length < sizeLine := by rw [List.length_map, List.length_map, sizeLine_eq]; omega
      have hok1 : updL L' o (.lst (dts (as.map askD))) o = some (.lst (dts (as.map askD))) := updL_same
      refine mss_cons (ms_expr (EX.to (ex_append (ex_var 6 rfl rfl (.inl rfl)) (by walk_at "lk") (ex_tup (ad_cons (ex_var 5 rfl rfl (.inl rfl)) (ad_cons (ex_var 9 rfl rfl (.inl rfl)) ad_nil)) (by walk_at "few")) (by walk_at "lk") (by walk_at "sz")) ?_))
      rw [updL_updL]
      have e1 : dts (as.map askD) ++ [.dt (.tuple [.int (r : Int), deedD deed])] = dts ((as ++ [(r, deed)]).map askD) := by simp [dts]
      rw [e1]
      have AS1 : Asked (as ++ [(r, deed)]) := by
        by_cases hz : as = []
        · subst hz
          refine ⟨fun x hx => ?_, fun x hx => ?_⟩
          · rw [List.mem_singleton.mp hx]; exact ⟨hr2, hask⟩
          · cases hx; exact ⟨hdok, hend⟩
        · exact AS.snoc hz hr2 hask
      have hl1 : (as ++ [(r, deed)]).length = as.length + 1 := by rw [List.length_append]; rfl
      have hne1 : as ++ [(r, deed)] ≠ [] := by simp
      generalize as ++ [(r, deed)] = as1 at *
      -- behind the turned one
      have rest6 : ∀ as2 : List (Nat × Deed), Asked as2 → as2 ≠ [] → as2.length ≤ 3 * i + 2 → MSs (y0 P w K mg base N_law "law" (defScope s_law) f cdv A outer s0 H E) ((forBody ((defBody s_law).getD 6 (.Pass ⟨0, 0, 0, 0⟩))).drop 5)
          (fun ρ L2 => ∃ as re kk ba de, ρ = [some (.vl (.ref a)), some (.dt (.list (d.map PyData.int))), some (.dt (.list (ts.map trD))), some (.vl (.ref w1)), some (.vl (.ref q)), re, some (.vl (.ref o)), kk, ba, de, none] ∧ L2 = updL L' o (.lst (dts (as.map askD))) ∧ Asked as ∧ (0 < i + 1 → as ≠ []) ∧ as.length ≤ 3 * (i + 1))
          { rt := Q, bk := fun ρ L => MSs (y0 P w K mg base N_law "law" (defScope s_law) f cdv A outer s0 H E) ((defBody s_law).drop 7) (fun x L' => Q (.dt .none) L') { rt := Q } ρ L, ct := fun ρ L2 => ∃ as re kk ba de, ρ = [some (.vl (.ref a)), some (.dt (.list (d.map PyData.int))), some (.dt (.list (ts.map trD))), some (.vl (.ref w1)), some (.vl (.ref q)), re, some (.vl (.ref o)), kk, ba, de, none] ∧ L2 = updL L' o (.lst (dts (as.map askD))) ∧ Asked as ∧ (0 < i + 1 → as ≠ []) ∧ as.length ≤ 3 * (i + 1) }
          [some (.vl (.ref a)), some (.dt (.list (d.map PyData.int))), some (.dt (.list (ts.map trD))), some (.vl (.ref w1)), some (.vl (.ref q)), some (.dt (.int (r : Int))), some (.vl (.ref o)), some (.dt (.int (0 + (i : Int)))), some (.dt (.int base')), some (.dt (deedD deed)), none] (updL L' o (.lst (dts (as2.map askD)))) := by
        intro as2 AS2 hne2 hl2
        obtain ⟨pa, pb, f1, f2, f3, f4, f5, f6, _, _, _, _⟩ := (So (.lst (dts (as2.map askD)))).at_ hr2
        have hw1 := (So (.lst (dts (as2.map askD)))).lol.w
        have hz1 : (dts (as2.map askD)).length < sizeLine := by rw [List.length_map, List.length_map, sizeLine_eq]; omega
        have hok1 : updL L' o (.lst (dts (as2.map askD))) o = some (.lst (dts (as2.map askD))) := updL_same
        refine mss_cons (ms_expr (EX.to (ex_append (ex_var 6 rfl rfl (.inl rfl)) (by walk_at "lk") (ex_tup (ad_cons (ex_var 5 rfl rfl (.inl rfl)) (ad_cons (ex_tup (ad_cons ex_str (ad_cons (ex_bin (ex_callB (ax_cons (ex_ix (ex_var 3 rfl rfl (.inl rfl)) (ex_var 5 rfl rfl (.inl rfl)) (by walk_at "oix") (fun _ _ => rfl)) ax_nil) (by walk_at "c_len") (by rfl) T.m_len PySem.boot_len) ex_int (by walk_at "oadd")) ad_nil)) (by walk_at "few")) ad_nil)) (by walk_at "few")) (by walk_at "lk") (by walk_at "sz")) ?_))
        rw [updL_updL]
        have e1 : ∀ z : Int, dts (as2.map askD) ++ [.dt (.tuple [.int (r : Int), .tuple [.str "back", .int z]])] = dts ((as2 ++ [(r, Deed.back z)]).map askD) := fun z => by simp [dts]
        rw [e1]
        refine mss_nil ⟨_, _, _, _, _, rfl, rfl, AS2.snoc hne2 hr2 trivial, fun _ => by simp, ?_⟩
        rw [List.length_append]
        show as2.length + 1 ≤ _
        omega
      cases deed with
      | back z =>
        refine mss_cons (ms_ifx (tx_cmp (ex_ix (ex_var 9 rfl rfl (.inl rfl)) ex_int (by walk_at "oix") (fun _ _ => rfl)) ex_str (by walk_at "oeq") (nomark _)) (fun hT => ?_) (fun hF => ?_))
        · exact absurd hT (by decide +kernel)
        · exact mss_nil (rest6 as1 AS1 hne1 (by omega))
      | change m rm bh n l =>
        refine mss_cons (ms_ifx (tx_cmp (ex_ix (ex_var 9 rfl rfl (.inl rfl)) ex_int (by walk_at "oix") (fun _ _ => rfl)) ex_str (by walk_at "oeq") (nomark _)) (fun hT => ?_) (fun hF => ?_))
        · have hok2 : updL L' o (.lst (dts (as1.map askD))) o = some (.lst (dts (as1.map askD))) := updL_same
          refine mss_cons (ms_expr (me_append (ex_var 6 rfl rfl (.inl rfl)) hok2 (me_tup (ds := []) (ma_ex (ex_var 5 rfl rfl (.inl rfl)) (ma_last (me_call G_law_turned (hr.mono (by decide)) (by rfl) (ma_ax (ax_cons (ex_var 1 rfl rfl (.inl rfl)) (ax_cons (ex_bin (ex_var 8 rfl rfl (.inl rfl)) ex_int (by walk_at "oadd")) (ax_cons (ex_var 3 rfl rfl (.inl rfl)) (ax_cons (ex_var 5 rfl rfl (.inl rfl)) (ax_cons (ex_var 9 rfl rfl (.inl rfl)) ax_nil))))) ⟨d, base' + 14, _, rows, (r : Int), m, rm, bh, n, l, rfl, by omega, rows_lol (So _).lol, W, by omega, by omega, (So _).le _ _ hT2, hask.1, by have := hn.2.1; omega, fun d2 hd2 L2 l2 => ⟨_, l2, [.int (r : Int), deedD d2], rfl, by rw [sizeLine_eq]; exact (by decide : 2 ≤ 16777216), _, hok2, ?_, ?_⟩⟩)))))))
          · rw [List.length_map, List.length_map, sizeLine_eq]; omega
          · rw [updL_updL]
            have e2 : dts (as1.map askD) ++ [.dt (.tuple [.int (r : Int), deedD d2])] = dts ((as1 ++ [(r, d2)]).map askD) := by simp [dts]
            rw [e2]
            refine mss_nil (rest6 (as1 ++ [(r, d2)]) (AS1.snoc hne1 hr2 hd2) (by simp) ?_)
            rw [List.length_append]
            show as1.length + 1 ≤ _
            omega
        · exact absurd hF (by decide +kernel)
    · intro ρ L2 hI
      obtain ⟨as, re', kk, ba, de, rfl, rfl, AS, hne, hal⟩ := hI
      rw [rgY_len] at hne hal
      have hal36 : as.length ≤ 36 := hal
      refine MSs.settle 6 rfl updL_same ?_
      have S1 : S5 C L (delL (updL L' o (.lst (dts (as.map askD)))) o) w1 p1 q wq ps rows := S.up (le_del hot (Le.refl L'))
      generalize delL (updL L' o (.lst (dts (as.map askD)))) o = L4 at *
      obtain ⟨x0, hx0⟩ : ∃ x0, as[0]? = some x0 := ⟨_, List.getElem?_eq_getElem (List.length_pos_iff.mpr (hne (by decide)))⟩
      have hx8 := (AS.all x0 (List.mem_of_getElem? hx0))
      have hx1 := AS.one x0 hx0
      have hat0 : atI (as.map askD) 0 = some (askD x0) := atI_nat (j := 0) (by rw [List.getElem?_map, hx0]; rfl)
      refine mss_cons (ms_for (tgt := (.n 10)) rfl (ix_range1 (ax_cons ex_int ax_nil) (by walk_at "sd") (by walk_at "sd") (by rfl) T.m_range) (pgn_name 10 sc_law.nd rfl (by first | exact .inl rfl | exact .inr rfl)) (fun i ρ L2 => ∃ rows re de tu, ρ = [some (.vl (.ref a)), some (.dt (.list (d.map PyData.int))), some (.dt (.list (ts.map trD))), some (.vl (.ref w1)), some (.vl (.ref q)), re, some (.dt (.list (as.map askD))), kk, ba, de, tu] ∧ S5 C L L2 w1 p1 q wq ps rows ∧ Wf rows ∧ Bd (1000 + 30 * (i : Int)) rows ∧ ∀ r, (rows.getD r []).length ≤ 20 + i) ⟨rows, _, _, none, rfl, S1, W, by simpa using hB, hlen20⟩ (fun _ _ _ _ _ => trivial) ?_ ?_)
      · intro i y ρ L2 hy hI
        obtain ⟨rows, re, de, tu, rfl, S, W, hB, hlen⟩ := hI
        obtain ⟨hi, rfl⟩ := rgY_at hy
        have hi3 : i < 3 := hi
        refine ⟨_, rfl, ?_⟩
        have ho := S.dat.o
        have hw1 := S.lol.w
        refine mss_cons (ms_for (tgt := (.t [5, 9])) rfl (ix_data (ex_var 6 rfl rfl (.inl rfl))) (pgn_tup rfl (pgn_cons 5 sc_law.nd rfl (by first | exact .inl rfl | exact .inr rfl) (pgn_cons 9 sc_law.nd rfl (by first | exact .inl rfl | exact .inr rfl) pgn_nil))) (fun j ρ L3 => ∃ re de, ρ = [some (.vl (.ref a)), some (.dt (.list (d.map PyData.int))), some (.dt (.list (ts.map trD))), some (.vl (.ref w1)), some (.vl (.ref q)), re, some (.dt (.list (as.map askD))), kk, ba, de, some (.dt (.int (0 + (i : Int))))] ∧ L3 = L2) ⟨re, de, rfl, rfl⟩ (fun _ _ _ _ _ => trivial) ?_ ?_)
        · intro j y ρ L3 hy hI
          obtain ⟨re, de, rfl, eL⟩ := hI
          subst eL
          rw [List.getElem?_map, List.getElem?_map] at hy
          cases hx : as[j]? with
          | none => rw [hx] at hy; cases hy
          | some x =>
            rw [hx] at hy
            cases hy
            obtain ⟨hx8, hxa⟩ := AS.all x (List.mem_of_getElem? hx)
            obtain ⟨r, dd⟩ := x
            have hx8 : r < 8 := hx8
            refine ⟨_, rfl, ?_⟩
            refine mss_cons (ms_ifx (tx_not (tx_val (ex_call G_law_same (hr.mono (by decide)) (by rfl) (ax_cons (ex_meth (ex_var 4 rfl rfl (.inl rfl)) (by walk_at "lk") (by walk_at "nf") T.c_Deeds G_Deeds_fits (hr.mono (by decide)) (ax_cons (ex_var 5 rfl rfl (.inl rfl)) (ax_cons (ex_var 9 rfl rfl (.inl rfl)) ax_nil)) ⟨q, wq, ps, rows, (r : Int), dd, rfl, S.dat, W, by omega, by omega, hxa, fun L' l => ⟨_, l, rfl, rfl⟩⟩) (ax_cons (ex_call G_law_fits (hr.mono (by decide)) (by rfl) (ax_cons (ex_var 3 rfl rfl (.inl rfl)) (ax_cons (ex_var 5 rfl rfl (.inl rfl)) (ax_cons (ex_var 9 rfl rfl (.inl rfl)) ax_nil))) ⟨_, rows, (r : Int), dd, rfl, rows_lol S.lol, W, by omega, by omega, hxa, fun L' l => ⟨_, l, rfl, rfl⟩⟩) ax_nil)) ⟨_, _, _, rfl, by walk_at "dr", by walk_at "dr", by walk_at "okd", rfl, rfl⟩))) (fun hT => ?_) (fun hF => ?_))
            · cases hT
            · exact mss_nil (mss_nil ⟨_, _, rfl, rfl⟩)
        · intro ρ L3 hI
          obtain ⟨re, de, rfl, eL⟩ := hI
          subst eL
          have hdd1 := S.dat.dd
          have hdd2 := lol_dd S.lol
          have hokr := ok_rows rows
          refine mss_cons (ms_ifx (tx_not (tx_val (ex_call G_law_same (hr.mono (by decide)) (by rfl) (ax_cons (ex_fld (ex_var 4 rfl rfl (.inl rfl)) (by walk_at "lk") (by walk_at "fl") T.c_Deeds T.n_Deeds_rows) (ax_cons (ex_var 3 rfl rfl (.inl rfl)) ax_nil)) ⟨_, _, _, rfl, by walk_at "dr", by walk_at "dr", by walk_at "okd", rfl, rfl⟩))) (fun hT => ?_) (fun hF => ?_))
          · cases hT
          refine mss_nil (mss_cons (ms_set 5 sc_law.nd rfl (by first | exact .inl rfl | exact .inr rfl) (EX.to (ex_bin (ex_call G_law_at (hr.mono (by decide)) (by rfl) (ax_cons (ex_var 1 rfl rfl (.inl rfl)) (ax_cons (ex_bin ex_int (ex_bin ex_int (ex_var 10 rfl rfl (.inl rfl)) (o_mul (.inl (by decide)))) (by walk_at "oadd")) ax_nil)) ⟨_, _, rfl, by walk_at "sd", rfl, rfl⟩) ex_int (o_mod (by decide))) ?_)))
          obtain ⟨r, hr1, hr2⟩ : ∃ r : Nat, lawAt d (700 + 20 * (0 + (i : Int))) % 8 = (r : Int) ∧ r < 8 := by
            have h0 : 0 ≤ lawAt d (700 + 20 * (0 + (i : Int))) % 8 := Int.emod_nonneg _ (by decide)
            have h1 : lawAt d (700 + 20 * (0 + (i : Int))) % 8 < 8 := Int.emod_lt_of_pos _ (by decide)
            exact ⟨(lawAt d (700 + 20 * (0 + (i : Int))) % 8).toNat, by omega, by omega⟩
          rw [hr1]
          refine mss_cons (ms_set 9 sc_law.nd rfl (.inl rfl) (me_call G_law_deed (hr.mono (by decide)) (by rfl) (ma_ax (ax_cons (ex_var 1 rfl rfl (.inl rfl)) (ax_cons (ex_bin ex_int (ex_bin ex_int (ex_var 10 rfl rfl (.inl rfl)) (o_mul (.inl (by decide)))) (by walk_at "oadd")) (ax_cons (ex_var 3 rfl rfl (.inl rfl)) (ax_cons (ex_var 5 rfl rfl (.inl rfl)) ax_nil)))) ⟨d, 701 + 20 * (0 + (i : Int)), _, rows, (r : Int), 1000 + 30 * (i : Int), rfl, by omega, rows_lol S.lol, W, hB, by omega, by omega, by omega, S.le _ _ hT2, fun deed hn L2 l2 => ⟨_, l2, ?_⟩⟩)))
          rw [Int.toNat_natCast] at hn
          -- the deed that may be added
          have rest7 : ∀ (r : Nat) (deed : Deed), r < 8 → DeedOk deed → Ask deed → endLe (1000 + 30 * ((i + 1 : Nat) : Int)) deed → MSs (y0 P w K mg base N_law "law" (defScope s_law) f cdv A outer s0 H E) ((forBody ((defBody s_law).getD 7 (.Pass ⟨0, 0, 0, 0⟩))).drop 5)
              (fun ρ L2 => ∃ rows re de tu, ρ = [some (.vl (.ref a)), some (.dt (.list (d.map PyData.int))), some (.dt (.list (ts.map trD))), some (.vl (.ref w1)), some (.vl (.ref q)), re, some (.dt (.list (as.map askD))), kk, ba, de, tu] ∧ S5 C L L2 w1 p1 q wq ps rows ∧ Wf rows ∧ Bd (1000 + 30 * ((i + 1 : Nat) : Int)) rows ∧ ∀ r, (rows.getD r []).length ≤ 20 + (i + 1))
              { rt := Q, bk := fun ρ L => MSs (y0 P w K mg base N_law "law" (defScope s_law) f cdv A outer s0 H E) ((defBody s_law).drop 8) (fun x L' => Q (.dt .none) L') { rt := Q } ρ L, ct := fun ρ L2 => ∃ rows re de tu, ρ = [some (.vl (.ref a)), some (.dt (.list (d.map PyData.int))), some (.dt (.list (ts.map trD))), some (.vl (.ref w1)), some (.vl (.ref q)), re, some (.dt (.list (as.map askD))), kk, ba, de, tu] ∧ S5 C L L2 w1 p1 q wq ps rows ∧ Wf rows ∧ Bd (1000 + 30 * ((i + 1 : Nat) : Int)) rows ∧ ∀ r, (rows.getD r []).length ≤ 20 + (i + 1) }
              [some (.vl (.ref a)), some (.dt (.list (d.map PyData.int))), some (.dt (.list (ts.map trD))), some (.vl (.ref w1)), some (.vl (.ref q)), some (.dt (.int (r : Int))), some (.dt (.list (as.map askD))), kk, ba, some (.dt (deedD deed)), some (.dt (.int (0 + (i : Int))))] L3 := by
            intro r deed hr2 hdok hask hend
            refine mss_cons (ms_ifx (tx_val (ex_call G_law_fits (hr.mono (by decide)) (by rfl) (ax_cons (ex_var 3 rfl rfl (.inl rfl)) (ax_cons (ex_var 5 rfl rfl (.inl rfl)) (ax_cons (ex_var 9 rfl rfl (.inl rfl)) ax_nil))) ⟨_, rows, (r : Int), deed, rfl, rows_lol S.lol, W, by omega, by omega, hask, fun L' l => ⟨_, l, rfl, rfl⟩⟩)) (fun hT => ?_) (fun hF => ?_))
            · rw [Int.toNat_natCast] at hT
              obtain ⟨pa, pb, f1, f2, f3, f4, f5, f6, f7, f8, f9, f10⟩ := S.at_ hr2
              have hS := S.add hr2 f1 f2 deed
              have hrl := hlen r
              have hz1 : (rowR (rows.getD r [])).length < sizeLine := by rw [row_len, sizeLine_eq]; omega
              refine mss_cons (ms_expr (EX.to (ex_append (ex_ix (ex_var 3 rfl rfl (.inl rfl)) (ex_var 5 rfl rfl (.inl rfl)) (by walk_at "oix") (fun _ _ => rfl)) (by walk_at "lk") (ex_var 9 rfl rfl (.inl rfl)) (by walk_at "lk") (by walk_at "sz")) ?_))
              have D2 := S.dat.skip (m := .lst (rowR (rows.getD r []) ++ [.dt (deedD deed)])) f8
              have ho2 := D2.o
              refine mss_cons (ms_expr (EX.to (ex_meth (ex_var 4 rfl rfl (.inl rfl)) (by walk_at "lk") (by walk_at "nf") T.c_Deeds G_Deeds_add (hr.mono (by decide)) (ax_cons (ex_var 5 rfl rfl (.inl rfl)) (ax_cons (ex_var 9 rfl rfl (.inl rfl)) ax_nil)) ⟨q, wq, ps, rows, pb, rows.getD r [], (r : Int), deed, rfl, D2, by omega, by omega, by rw [Int.toNat_natCast]; exact f2, by rw [Int.toNat_natCast]; exact f3, by omega, rfl, rfl⟩) ?_))
              refine mss_nil (mss_nil ⟨_, _, _, _, rfl, hS, wf_fit W hdok hT (by omega), bd_put hB (by omega) hend, fun j => ?_⟩)
              have hl8 : r < rows.length := by rw [W.len]; exact hr2
              rw [addR_get _ _ _ _ hl8]
              split
              · rw [List.length_append]; show _ + 1 ≤ _; omega
              · have := hlen j; omega
            · exact mss_nil (mss_nil ⟨rows, _, _, _, rfl, S, W, fun row hrow m rm bh n l hm => by have := hB row hrow m rm bh n l hm; omega, fun j => by have := hlen j; omega⟩)
          obtain ⟨r0, d0⟩ := x0
          have hx80 : r0 < 8 := hx8.1
          have go1 := rest7 r deed hr2 (new_ok W hn (by have e6 : stepMax = 6 := rfl; omega)) (new_ask hn) (fun m rm bh n l e => by have := new_end hn m rm bh n l e; omega)
          have go2 := rest7 r0 d0 hx80 hx1.1 hx8.2 (fun m rm bh n l e => by have := hx1.2 m rm bh n l e; omega)
          cases d0 with
          | back z =>
            refine mss_cons (ms_ifx (tx_w (wx_and (tx_cmp (ex_var 10 rfl rfl (.inl rfl)) ex_int (by walk_at "oeq") (nomark _)) (fun _ => (wx_and1 (tx_cmp (ex_ix (ex_ix (ex_ix (ex_var 6 rfl rfl (.inl rfl)) ex_int (by walk_at "oix") (fun _ _ => rfl)) ex_int (by walk_at "oix") (fun _ _ => rfl)) ex_int (by walk_at "oix") (fun _ _ => rfl)) ex_str (by walk_at "oeq") (nomark _)))))) (fun hT => ?_) (fun hF => ?_))
            · rw [Bool.and_eq_true] at hT
              exact absurd hT.2 (by decide +kernel)
            · exact mss_nil go1
          | change m rm bh n l =>
            refine mss_cons (ms_ifx (tx_w (wx_and (tx_cmp (ex_var 10 rfl rfl (.inl rfl)) ex_int (by walk_at "oeq") (nomark _)) (fun _ => (wx_and1 (tx_cmp (ex_ix (ex_ix (ex_ix (ex_var 6 rfl rfl (.inl rfl)) ex_int (by walk_at "oix") (fun _ _ => rfl)) ex_int (by walk_at "oix") (fun _ _ => rfl)) ex_int (by walk_at "oix") (fun _ _ => rfl)) ex_str (by walk_at "oeq") (nomark _)))))) (fun hT => ?_) (fun hF => ?_))
            · refine mss_cons (ms_tup (pgn_tup rfl (pgn_cons 5 sc_law.nd rfl (by first | exact .inl rfl | exact .inr rfl) (pgn_cons 9 sc_law.nd rfl (by first | exact .inl rfl | exact .inr rfl) pgn_nil))) (EX.to (ex_ix (ex_var 6 rfl rfl (.inl rfl)) ex_int (by walk_at "oix") (fun _ _ => rfl)) ⟨_, rfl, ?_⟩))
              exact mss_nil go2
            · exact mss_nil go1
      · intro ρ L2 hI
        obtain ⟨rows, re, de, tu, rfl, S, W, hB, hlen⟩ := hI
        refine mss_cons (ms_ret (EX.to ex_bl ?_))
        exact k _
  refine mss_cons (ms_ifx (tx_cmp (ex_bin (ex_call G_law_at (hr.mono (by decide)) (by rfl) (ax_cons (ex_var 1 rfl rfl (.inl rfl)) (ax_cons ex_int ax_nil)) ⟨_, _, rfl, by walk_at "sd", rfl, rfl⟩) ex_int (o_mod (by decide))) ex_int (by walk_at "oeq") (nomark _)) (fun hT => ?_) (fun hF => ?_))
  · refine mss_cons (ms_set 5 sc_law.nd rfl (by first | exact .inl rfl | exact .inr rfl) (EX.to (ex_bin (ex_call G_law_at (hr.mono (by decide)) (by rfl) (ax_cons (ex_var 1 rfl rfl (.inl rfl)) (ax_cons ex_int ax_nil)) ⟨_, _, rfl, by walk_at "sd", rfl, rfl⟩) ex_int (o_mod (by decide))) ?_))
    obtain ⟨r, hr1, hr2⟩ : ∃ r : Nat, lawAt d 3 % 8 = (r : Int) ∧ r < 8 := by
      have h0 : 0 ≤ lawAt d 3 % 8 := Int.emod_nonneg _ (by decide)
      have h1 : lawAt d 3 % 8 < 8 := Int.emod_lt_of_pos _ (by decide)
      exact ⟨(lawAt d 3 % 8).toNat, by omega, by omega⟩
    rw [hr1]
    obtain ⟨pa, pb, f1, f2, f3, f4, f5, f6, f7, f8, f9, f10⟩ := S0.at_ hr2
    have hS := S0.add hr2 f1 f2 (.change "a" [] none 1 [])
    have hw1 := S0.lol.w
    have hrlr := hrl r
    have hz1 : (rowR (rows0.getD r [])).length < sizeLine := by rw [row_len, sizeLine_eq]; omega
    refine mss_cons (ms_expr (EX.to (ex_append (ex_ix (ex_var 3 rfl rfl (.inl rfl)) (ex_var 5 rfl rfl (.inl rfl)) (by walk_at "oix") (fun _ _ => rfl)) (by walk_at "lk") (ex_tup (ad_cons ex_str (ad_cons ex_str (ad_cons (ex_tup ad_nil (by walk_at "few")) (ad_cons ex_non (ad_cons ex_int (ad_cons ex_str ad_nil)))))) (by walk_at "few")) (by walk_at "lk") (by walk_at "sz")) ?_))
    have D2 := S0.dat.skip (m := .lst (rowR (rows0.getD r []) ++ [.dt (deedD (.change "a" [] none 1 []))])) f8
    have ho2 := D2.o
    refine mss_cons (ms_expr (EX.to (ex_meth (ex_var 4 rfl rfl (.inl rfl)) (by walk_at "lk") (by walk_at "nf") T.c_Deeds G_Deeds_add (hr.mono (by decide)) (ax_cons (ex_var 5 rfl rfl (.inl rfl)) (ax_cons (ex_tup (ad_cons ex_str (ad_cons ex_str (ad_cons (ex_tup ad_nil (by walk_at "few")) (ad_cons ex_non (ad_cons ex_int (ad_cons ex_str ad_nil)))))) (by walk_at "few")) ax_nil)) ⟨q, wq, ps, rows0, pb, rows0.getD r [], (r : Int), .change "a" [] none 1 [], rfl, D2, by omega, by omega, by rw [Int.toNat_natCast]; exact f2, by rw [Int.toNat_natCast]; exact f3, by omega, rfl, rfl⟩) ?_))
    refine mss_nil (rest _ _ _ hS (wf_put W0 ⟨by decide, by decide, by decide, (fun _ h => by cases h), by decide, (fun _ h => by cases h), by decide +kernel⟩ (fun m rm bh n l e => ?_) (by omega)) (bd_put hBd (by decide) fun m rm bh n l e => ?_) fun j => ?_)
    · cases e
      exact ⟨.inl rfl, fun b hb => by cases hb⟩
    · cases e
      decide
    · have hl8 : r < rows0.length := by rw [W0.len]; exact hr2
      rw [addR_get _ _ _ _ hl8]
      split
      · rw [List.length_append]; show _ + 1 ≤ _; omega
      · have := hrl j; omega
  · exact mss_nil (rest rows0 none L3 S0 W0 (fun row hrow m rm bh n l hm => by have := hBd row hrow m rm bh n l hm; omega) fun j => by have := hrl j; omega)
end
end K05

set_option Elab.async false
set_option linter.all false
set_option maxRecDepth 100000
set_option maxHeartbeats 4000000

namespace K05
open PySem PySem.Spec PyProof.Rows L2 Cw
theorem all_mk {l : PySem.W.OpenLaw} {w : World} {K : PySem.W.Frag} {h : Heap} {mg : Str → Option Value} {fa : Addr} (X : K.In h) (G : h.Ns mainGlobals mg) (hfa : mg "law" = some (.ref fa))
    {tR tL : _} (aR : PySem.W.nsIn K mainGlobals "REPLICAS" = some (some (.int 8 tR))) (aL : PySem.W.nsIn K mainGlobals "LONGEST_NAME" = some (some (.int 40 tL)))
    {C_Deeds f_law_mix f_law_draws f_law_at f_law_is_integer f_law_same f_law_inserted f_law_forces f_law_changes f_law_row f_law_last f_law_modules f_law_letters f_law_deed f_law_visible f_law_triples f_law_rows_of f_law_deeds f_law_pick f_law_fits f_law_turned f_law f_inserted f_after f_Deeds_init f_Deeds_add f_Deeds_forces f_Deeds_changes f_Deeds_row f_Deeds_fits : Addr} {od_law_mix an_law_mix od_law_draws an_law_draws od_law_at an_law_at od_law_is_integer an_law_is_integer od_law_same an_law_same od_law_inserted an_law_inserted od_law_forces an_law_forces od_law_changes an_law_changes od_law_row an_law_row od_law_last an_law_last od_law_modules an_law_modules od_law_letters an_law_letters od_law_deed an_law_deed od_law_visible an_law_visible od_law_triples an_law_triples od_law_rows_of an_law_rows_of od_law_deeds an_law_deeds od_law_pick an_law_pick od_law_fits an_law_fits od_law_turned an_law_turned od_law an_law od_inserted an_inserted od_after an_after od_Deeds_init an_Deeds_init od_Deeds_add an_Deeds_add od_Deeds_forces an_Deeds_forces od_Deeds_changes an_Deeds_changes od_Deeds_row an_Deeds_row od_Deeds_fits an_Deeds_fits : Option Addr} {sl_law_mix sl_law_draws sl_law_at sl_law_is_integer sl_law_same sl_law_inserted sl_law_forces sl_law_changes sl_law_row sl_law_last sl_law_modules sl_law_letters sl_law_deed sl_law_visible sl_law_triples sl_law_rows_of sl_law_deeds sl_law_pick sl_law_fits sl_law_turned sl_law sl_inserted sl_after sl_Deeds_init sl_Deeds_add sl_Deeds_forces sl_Deeds_changes sl_Deeds_row sl_Deeds_fits : Array (Option Value)} {oc_law_mix kV_law_mix dc_law_mix pm_law_mix cd_law_mix ct_law_mix oc_law_draws kV_law_draws dc_law_draws pm_law_draws cd_law_draws ct_law_draws oc_law_at kV_law_at dc_law_at pm_law_at cd_law_at ct_law_at oc_law_is_integer kV_law_is_integer dc_law_is_integer pm_law_is_integer cd_law_is_integer ct_law_is_integer oc_law_same kV_law_same dc_law_same pm_law_same cd_law_same ct_law_same oc_law_inserted kV_law_inserted dc_law_inserted pm_law_inserted cd_law_inserted ct_law_inserted oc_law_forces kV_law_forces dc_law_forces pm_law_forces cd_law_forces ct_law_forces oc_law_changes kV_law_changes dc_law_changes pm_law_changes cd_law_changes ct_law_changes oc_law_row kV_law_row dc_law_row pm_law_row cd_law_row ct_law_row oc_law_last kV_law_last dc_law_last pm_law_last cd_law_last ct_law_last oc_law_modules kV_law_modules dc_law_modules pm_law_modules cd_law_modules ct_law_modules oc_law_letters kV_law_letters dc_law_letters pm_law_letters cd_law_letters ct_law_letters oc_law_deed kV_law_deed dc_law_deed pm_law_deed cd_law_deed ct_law_deed oc_law_visible kV_law_visible dc_law_visible pm_law_visible cd_law_visible ct_law_visible oc_law_triples kV_law_triples dc_law_triples pm_law_triples cd_law_triples ct_law_triples oc_law_rows_of kV_law_rows_of dc_law_rows_of pm_law_rows_of cd_law_rows_of ct_law_rows_of oc_law_deeds kV_law_deeds dc_law_deeds pm_law_deeds cd_law_deeds ct_law_deeds oc_law_pick kV_law_pick dc_law_pick pm_law_pick cd_law_pick ct_law_pick oc_law_fits kV_law_fits dc_law_fits pm_law_fits cd_law_fits ct_law_fits oc_law_turned kV_law_turned dc_law_turned pm_law_turned cd_law_turned ct_law_turned oc_law kV_law dc_law pm_law cd_law ct_law oc_inserted kV_inserted dc_inserted pm_inserted cd_inserted ct_inserted oc_after kV_after dc_after pm_after cd_after ct_after oc_Deeds_init kV_Deeds_init dc_Deeds_init pm_Deeds_init cd_Deeds_init ct_Deeds_init oc_Deeds_add kV_Deeds_add dc_Deeds_add pm_Deeds_add cd_Deeds_add ct_Deeds_add oc_Deeds_forces kV_Deeds_forces dc_Deeds_forces pm_Deeds_forces cd_Deeds_forces ct_Deeds_forces oc_Deeds_changes kV_Deeds_changes dc_Deeds_changes pm_Deeds_changes cd_Deeds_changes ct_Deeds_changes oc_Deeds_row kV_Deeds_row dc_Deeds_row pm_Deeds_row cd_Deeds_row ct_Deeds_row oc_Deeds_fits kV_Deeds_fits dc_Deeds_fits pm_Deeds_fits cd_Deeds_fits ct_Deeds_fits : Value}
    (aC_Deeds : PySem.W.nsIn K mainGlobals "Deeds" = some (some (.ref C_Deeds)))
    (a_law_mix : PySem.W.nsIn K mainGlobals "_law_mix" = some (some (.ref f_law_mix)))
    (l_law_mix : K.lookup f_law_mix = some ⟨oc_law_mix, od_law_mix, .func (PySem.W.fnOf "_law_mix" "_law_mix" (defArgs s_law_mix) (defBody s_law_mix) (defScope s_law_mix) .none kV_law_mix dc_law_mix pm_law_mix an_law_mix cd_law_mix ct_law_mix), sl_law_mix⟩) (c_law_mix : PySem.W.codeIn K cd_law_mix "_law_mix" = true) (k_law_mix : PySem.W.keepIn K (.ref f_law_mix) = true)
    (a_law_draws : PySem.W.nsIn K mainGlobals "_law_draws" = some (some (.ref f_law_draws)))
    (l_law_draws : K.lookup f_law_draws = some ⟨oc_law_draws, od_law_draws, .func (PySem.W.fnOf "_law_draws" "_law_draws" (defArgs s_law_draws) (defBody s_law_draws) (defScope s_law_draws) .none kV_law_draws dc_law_draws pm_law_draws an_law_draws cd_law_draws ct_law_draws), sl_law_draws⟩) (c_law_draws : PySem.W.codeIn K cd_law_draws "_law_draws" = true) (k_law_draws : PySem.W.keepIn K (.ref f_law_draws) = true)
    (a_law_at : PySem.W.nsIn K mainGlobals "_law_at" = some (some (.ref f_law_at)))
    (l_law_at : K.lookup f_law_at = some ⟨oc_law_at, od_law_at, .func (PySem.W.fnOf "_law_at" "_law_at" (defArgs s_law_at) (defBody s_law_at) (defScope s_law_at) .none kV_law_at dc_law_at pm_law_at an_law_at cd_law_at ct_law_at), sl_law_at⟩) (c_law_at : PySem.W.codeIn K cd_law_at "_law_at" = true) (k_law_at : PySem.W.keepIn K (.ref f_law_at) = true)
    (a_law_is_integer : PySem.W.nsIn K mainGlobals "_law_is_integer" = some (some (.ref f_law_is_integer)))
    (l_law_is_integer : K.lookup f_law_is_integer = some ⟨oc_law_is_integer, od_law_is_integer, .func (PySem.W.fnOf "_law_is_integer" "_law_is_integer" (defArgs s_law_is_integer) (defBody s_law_is_integer) (defScope s_law_is_integer) .none kV_law_is_integer dc_law_is_integer pm_law_is_integer an_law_is_integer cd_law_is_integer ct_law_is_integer), sl_law_is_integer⟩) (c_law_is_integer : PySem.W.codeIn K cd_law_is_integer "_law_is_integer" = true) (k_law_is_integer : PySem.W.keepIn K (.ref f_law_is_integer) = true)
    (a_law_same : PySem.W.nsIn K mainGlobals "_law_same" = some (some (.ref f_law_same)))
    (l_law_same : K.lookup f_law_same = some ⟨oc_law_same, od_law_same, .func (PySem.W.fnOf "_law_same" "_law_same" (defArgs s_law_same) (defBody s_law_same) (defScope s_law_same) .none kV_law_same dc_law_same pm_law_same an_law_same cd_law_same ct_law_same), sl_law_same⟩) (c_law_same : PySem.W.codeIn K cd_law_same "_law_same" = true) (k_law_same : PySem.W.keepIn K (.ref f_law_same) = true)
    (a_law_inserted : PySem.W.nsIn K mainGlobals "_law_inserted" = some (some (.ref f_law_inserted)))
    (l_law_inserted : K.lookup f_law_inserted = some ⟨oc_law_inserted, od_law_inserted, .func (PySem.W.fnOf "_law_inserted" "_law_inserted" (defArgs s_law_inserted) (defBody s_law_inserted) (defScope s_law_inserted) .none kV_law_inserted dc_law_inserted pm_law_inserted an_law_inserted cd_law_inserted ct_law_inserted), sl_law_inserted⟩) (c_law_inserted : PySem.W.codeIn K cd_law_inserted "_law_inserted" = true) (k_law_inserted : PySem.W.keepIn K (.ref f_law_inserted) = true)
    (a_law_forces : PySem.W.nsIn K mainGlobals "_law_forces" = some (some (.ref f_law_forces)))
    (l_law_forces : K.lookup f_law_forces = some ⟨oc_law_forces, od_law_forces, .func (PySem.W.fnOf "_law_forces" "_law_forces" (defArgs s_law_forces) (defBody s_law_forces) (defScope s_law_forces) .none kV_law_forces dc_law_forces pm_law_forces an_law_forces cd_law_forces ct_law_forces), sl_law_forces⟩) (c_law_forces : PySem.W.codeIn K cd_law_forces "_law_forces" = true) (k_law_forces : PySem.W.keepIn K (.ref f_law_forces) = true)
    (a_law_changes : PySem.W.nsIn K mainGlobals "_law_changes" = some (some (.ref f_law_changes)))
    (l_law_changes : K.lookup f_law_changes = some ⟨oc_law_changes, od_law_changes, .func (PySem.W.fnOf "_law_changes" "_law_changes" (defArgs s_law_changes) (defBody s_law_changes) (defScope s_law_changes) .none kV_law_changes dc_law_changes pm_law_changes an_law_changes cd_law_changes ct_law_changes), sl_law_changes⟩) (c_law_changes : PySem.W.codeIn K cd_law_changes "_law_changes" = true) (k_law_changes : PySem.W.keepIn K (.ref f_law_changes) = true)
    (a_law_row : PySem.W.nsIn K mainGlobals "_law_row" = some (some (.ref f_law_row)))
    (l_law_row : K.lookup f_law_row = some ⟨oc_law_row, od_law_row, .func (PySem.W.fnOf "_law_row" "_law_row" (defArgs s_law_row) (defBody s_law_row) (defScope s_law_row) .none kV_law_row dc_law_row pm_law_row an_law_row cd_law_row ct_law_row), sl_law_row⟩) (c_law_row : PySem.W.codeIn K cd_law_row "_law_row" = true) (k_law_row : PySem.W.keepIn K (.ref f_law_row) = true)
    (a_law_last : PySem.W.nsIn K mainGlobals "_law_last" = some (some (.ref f_law_last)))
    (l_law_last : K.lookup f_law_last = some ⟨oc_law_last, od_law_last, .func (PySem.W.fnOf "_law_last" "_law_last" (defArgs s_law_last) (defBody s_law_last) (defScope s_law_last) .none kV_law_last dc_law_last pm_law_last an_law_last cd_law_last ct_law_last), sl_law_last⟩) (c_law_last : PySem.W.codeIn K cd_law_last "_law_last" = true) (k_law_last : PySem.W.keepIn K (.ref f_law_last) = true)
    (a_law_modules : PySem.W.nsIn K mainGlobals "_law_modules" = some (some (.ref f_law_modules)))
    (l_law_modules : K.lookup f_law_modules = some ⟨oc_law_modules, od_law_modules, .func (PySem.W.fnOf "_law_modules" "_law_modules" (defArgs s_law_modules) (defBody s_law_modules) (defScope s_law_modules) .none kV_law_modules dc_law_modules pm_law_modules an_law_modules cd_law_modules ct_law_modules), sl_law_modules⟩) (c_law_modules : PySem.W.codeIn K cd_law_modules "_law_modules" = true) (k_law_modules : PySem.W.keepIn K (.ref f_law_modules) = true)
    (a_law_letters : PySem.W.nsIn K mainGlobals "_law_letters" = some (some (.ref f_law_letters)))
    (l_law_letters : K.lookup f_law_letters = some ⟨oc_law_letters, od_law_letters, .func (PySem.W.fnOf "_law_letters" "_law_letters" (defArgs s_law_letters) (defBody s_law_letters) (defScope s_law_letters) .none kV_law_letters dc_law_letters pm_law_letters an_law_letters cd_law_letters ct_law_letters), sl_law_letters⟩) (c_law_letters : PySem.W.codeIn K cd_law_letters "_law_letters" = true) (k_law_letters : PySem.W.keepIn K (.ref f_law_letters) = true)
    (a_law_deed : PySem.W.nsIn K mainGlobals "_law_deed" = some (some (.ref f_law_deed)))
    (l_law_deed : K.lookup f_law_deed = some ⟨oc_law_deed, od_law_deed, .func (PySem.W.fnOf "_law_deed" "_law_deed" (defArgs s_law_deed) (defBody s_law_deed) (defScope s_law_deed) .none kV_law_deed dc_law_deed pm_law_deed an_law_deed cd_law_deed ct_law_deed), sl_law_deed⟩) (c_law_deed : PySem.W.codeIn K cd_law_deed "_law_deed" = true) (k_law_deed : PySem.W.keepIn K (.ref f_law_deed) = true)
    (a_law_visible : PySem.W.nsIn K mainGlobals "_law_visible" = some (some (.ref f_law_visible)))
    (l_law_visible : K.lookup f_law_visible = some ⟨oc_law_visible, od_law_visible, .func (PySem.W.fnOf "_law_visible" "_law_visible" (defArgs s_law_visible) (defBody s_law_visible) (defScope s_law_visible) .none kV_law_visible dc_law_visible pm_law_visible an_law_visible cd_law_visible ct_law_visible), sl_law_visible⟩) (c_law_visible : PySem.W.codeIn K cd_law_visible "_law_visible" = true) (k_law_visible : PySem.W.keepIn K (.ref f_law_visible) = true)
    (a_law_triples : PySem.W.nsIn K mainGlobals "_law_triples" = some (some (.ref f_law_triples)))
    (l_law_triples : K.lookup f_law_triples = some ⟨oc_law_triples, od_law_triples, .func (PySem.W.fnOf "_law_triples" "_law_triples" (defArgs s_law_triples) (defBody s_law_triples) (defScope s_law_triples) .none kV_law_triples dc_law_triples pm_law_triples an_law_triples cd_law_triples ct_law_triples), sl_law_triples⟩) (c_law_triples : PySem.W.codeIn K cd_law_triples "_law_triples" = true) (k_law_triples : PySem.W.keepIn K (.ref f_law_triples) = true)
    (a_law_rows_of : PySem.W.nsIn K mainGlobals "_law_rows_of" = some (some (.ref f_law_rows_of)))
    (l_law_rows_of : K.lookup f_law_rows_of = some ⟨oc_law_rows_of, od_law_rows_of, .func (PySem.W.fnOf "_law_rows_of" "_law_rows_of" (defArgs s_law_rows_of) (defBody s_law_rows_of) (defScope s_law_rows_of) .none kV_law_rows_of dc_law_rows_of pm_law_rows_of an_law_rows_of cd_law_rows_of ct_law_rows_of), sl_law_rows_of⟩) (c_law_rows_of : PySem.W.codeIn K cd_law_rows_of "_law_rows_of" = true) (k_law_rows_of : PySem.W.keepIn K (.ref f_law_rows_of) = true)
    (a_law_deeds : PySem.W.nsIn K mainGlobals "_law_deeds" = some (some (.ref f_law_deeds)))
    (l_law_deeds : K.lookup f_law_deeds = some ⟨oc_law_deeds, od_law_deeds, .func (PySem.W.fnOf "_law_deeds" "_law_deeds" (defArgs s_law_deeds) (defBody s_law_deeds) (defScope s_law_deeds) .none kV_law_deeds dc_law_deeds pm_law_deeds an_law_deeds cd_law_deeds ct_law_deeds), sl_law_deeds⟩) (c_law_deeds : PySem.W.codeIn K cd_law_deeds "_law_deeds" = true) (k_law_deeds : PySem.W.keepIn K (.ref f_law_deeds) = true)
    (a_law_pick : PySem.W.nsIn K mainGlobals "_law_pick" = some (some (.ref f_law_pick)))
    (l_law_pick : K.lookup f_law_pick = some ⟨oc_law_pick, od_law_pick, .func (PySem.W.fnOf "_law_pick" "_law_pick" (defArgs s_law_pick) (defBody s_law_pick) (defScope s_law_pick) .none kV_law_pick dc_law_pick pm_law_pick an_law_pick cd_law_pick ct_law_pick), sl_law_pick⟩) (c_law_pick : PySem.W.codeIn K cd_law_pick "_law_pick" = true) (k_law_pick : PySem.W.keepIn K (.ref f_law_pick) = true)
    (a_law_fits : PySem.W.nsIn K mainGlobals "_law_fits" = some (some (.ref f_law_fits)))
    (l_law_fits : K.lookup f_law_fits = some ⟨oc_law_fits, od_law_fits, .func (PySem.W.fnOf "_law_fits" "_law_fits" (defArgs s_law_fits) (defBody s_law_fits) (defScope s_law_fits) .none kV_law_fits dc_law_fits pm_law_fits an_law_fits cd_law_fits ct_law_fits), sl_law_fits⟩) (c_law_fits : PySem.W.codeIn K cd_law_fits "_law_fits" = true) (k_law_fits : PySem.W.keepIn K (.ref f_law_fits) = true)
    (a_law_turned : PySem.W.nsIn K mainGlobals "_law_turned" = some (some (.ref f_law_turned)))
    (l_law_turned : K.lookup f_law_turned = some ⟨oc_law_turned, od_law_turned, .func (PySem.W.fnOf "_law_turned" "_law_turned" (defArgs s_law_turned) (defBody s_law_turned) (defScope s_law_turned) .none kV_law_turned dc_law_turned pm_law_turned an_law_turned cd_law_turned ct_law_turned), sl_law_turned⟩) (c_law_turned : PySem.W.codeIn K cd_law_turned "_law_turned" = true) (k_law_turned : PySem.W.keepIn K (.ref f_law_turned) = true)
    (a_law : PySem.W.nsIn K mainGlobals "law" = some (some (.ref f_law)))
    (l_law : K.lookup f_law = some ⟨oc_law, od_law, .func (PySem.W.fnOf "law" "law" (defArgs s_law) (defBody s_law) (defScope s_law) .none kV_law dc_law pm_law an_law cd_law ct_law), sl_law⟩) (c_law : PySem.W.codeIn K cd_law "law" = true) (k_law : PySem.W.keepIn K (.ref f_law) = true)
    (a_inserted : PySem.W.nsIn K mainGlobals "inserted" = some (some (.ref f_inserted)))
    (l_inserted : K.lookup f_inserted = some ⟨oc_inserted, od_inserted, .func (PySem.W.fnOf "inserted" "inserted" (defArgs s_inserted) (defBody s_inserted) (defScope s_inserted) .none kV_inserted dc_inserted pm_inserted an_inserted cd_inserted ct_inserted), sl_inserted⟩) (c_inserted : PySem.W.codeIn K cd_inserted "inserted" = true) (k_inserted : PySem.W.keepIn K (.ref f_inserted) = true)
    (a_after : PySem.W.nsIn K mainGlobals "after" = some (some (.ref f_after)))
    (l_after : K.lookup f_after = some ⟨oc_after, od_after, .func (PySem.W.fnOf "after" "after" (defArgs s_after) (defBody s_after) (defScope s_after) .none kV_after dc_after pm_after an_after cd_after ct_after), sl_after⟩) (c_after : PySem.W.codeIn K cd_after "after" = true) (k_after : PySem.W.keepIn K (.ref f_after) = true)
    (a_Deeds_init : PySem.W.findIn K (.ref C_Deeds) "__init__" = some (some (.ref f_Deeds_init))) (i_Deeds_init : PySem.W.isFn K (.ref f_Deeds_init) = true)
    (l_Deeds_init : K.lookup f_Deeds_init = some ⟨oc_Deeds_init, od_Deeds_init, .func (PySem.W.fnOf "__init__" "Deeds.__init__" (defArgs s_Deeds_init) (defBody s_Deeds_init) (defScope s_Deeds_init) .none kV_Deeds_init dc_Deeds_init pm_Deeds_init an_Deeds_init cd_Deeds_init ct_Deeds_init), sl_Deeds_init⟩) (c_Deeds_init : PySem.W.codeIn K cd_Deeds_init "Deeds.__init__" = true) (k_Deeds_init : PySem.W.keepIn K (.ref f_Deeds_init) = true)
    (a_Deeds_add : PySem.W.findIn K (.ref C_Deeds) "add" = some (some (.ref f_Deeds_add))) (i_Deeds_add : PySem.W.isFn K (.ref f_Deeds_add) = true)
    (l_Deeds_add : K.lookup f_Deeds_add = some ⟨oc_Deeds_add, od_Deeds_add, .func (PySem.W.fnOf "add" "Deeds.add" (defArgs s_Deeds_add) (defBody s_Deeds_add) (defScope s_Deeds_add) .none kV_Deeds_add dc_Deeds_add pm_Deeds_add an_Deeds_add cd_Deeds_add ct_Deeds_add), sl_Deeds_add⟩) (c_Deeds_add : PySem.W.codeIn K cd_Deeds_add "Deeds.add" = true) (k_Deeds_add : PySem.W.keepIn K (.ref f_Deeds_add) = true)
    (a_Deeds_forces : PySem.W.findIn K (.ref C_Deeds) "forces" = some (some (.ref f_Deeds_forces))) (i_Deeds_forces : PySem.W.isFn K (.ref f_Deeds_forces) = true)
    (l_Deeds_forces : K.lookup f_Deeds_forces = some ⟨oc_Deeds_forces, od_Deeds_forces, .func (PySem.W.fnOf "forces" "Deeds.forces" (defArgs s_Deeds_forces) (defBody s_Deeds_forces) (defScope s_Deeds_forces) .none kV_Deeds_forces dc_Deeds_forces pm_Deeds_forces an_Deeds_forces cd_Deeds_forces ct_Deeds_forces), sl_Deeds_forces⟩) (c_Deeds_forces : PySem.W.codeIn K cd_Deeds_forces "Deeds.forces" = true) (k_Deeds_forces : PySem.W.keepIn K (.ref f_Deeds_forces) = true)
    (a_Deeds_changes : PySem.W.findIn K (.ref C_Deeds) "changes" = some (some (.ref f_Deeds_changes))) (i_Deeds_changes : PySem.W.isFn K (.ref f_Deeds_changes) = true)
    (l_Deeds_changes : K.lookup f_Deeds_changes = some ⟨oc_Deeds_changes, od_Deeds_changes, .func (PySem.W.fnOf "changes" "Deeds.changes" (defArgs s_Deeds_changes) (defBody s_Deeds_changes) (defScope s_Deeds_changes) .none kV_Deeds_changes dc_Deeds_changes pm_Deeds_changes an_Deeds_changes cd_Deeds_changes ct_Deeds_changes), sl_Deeds_changes⟩) (c_Deeds_changes : PySem.W.codeIn K cd_Deeds_changes "Deeds.changes" = true) (k_Deeds_changes : PySem.W.keepIn K (.ref f_Deeds_changes) = true)
    (a_Deeds_row : PySem.W.findIn K (.ref C_Deeds) "row" = some (some (.ref f_Deeds_row))) (i_Deeds_row : PySem.W.isFn K (.ref f_Deeds_row) = true)
    (l_Deeds_row : K.lookup f_Deeds_row = some ⟨oc_Deeds_row, od_Deeds_row, .func (PySem.W.fnOf "row" "Deeds.row" (defArgs s_Deeds_row) (defBody s_Deeds_row) (defScope s_Deeds_row) .none kV_Deeds_row dc_Deeds_row pm_Deeds_row an_Deeds_row cd_Deeds_row ct_Deeds_row), sl_Deeds_row⟩) (c_Deeds_row : PySem.W.codeIn K cd_Deeds_row "Deeds.row" = true) (k_Deeds_row : PySem.W.keepIn K (.ref f_Deeds_row) = true)
    (a_Deeds_fits : PySem.W.findIn K (.ref C_Deeds) "fits" = some (some (.ref f_Deeds_fits))) (i_Deeds_fits : PySem.W.isFn K (.ref f_Deeds_fits) = true)
    (l_Deeds_fits : K.lookup f_Deeds_fits = some ⟨oc_Deeds_fits, od_Deeds_fits, .func (PySem.W.fnOf "fits" "Deeds.fits" (defArgs s_Deeds_fits) (defBody s_Deeds_fits) (defScope s_Deeds_fits) .none kV_Deeds_fits dc_Deeds_fits pm_Deeds_fits an_Deeds_fits cd_Deeds_fits ct_Deeds_fits), sl_Deeds_fits⟩) (c_Deeds_fits : PySem.W.codeIn K cd_Deeds_fits "Deeds.fits" = true) (k_Deeds_fits : PySem.W.keepIn K (.ref f_Deeds_fits) = true)
    (pg_Deeds : PySem.W.plainGet K C_Deeds Str.empty = true) (hd_Deeds : PySem.W.hasDictIn K C_Deeds = true) (po_Deeds : PySem.W.plainOver K C_Deeds = true) (sa_Deeds : PySem.W.findIn K (.ref C_Deeds) "__setattr__" = some (some (.builtin "object.__setattr__"))) (mk_Deeds : PySem.W.makesIn K C_Deeds = true) (kc_Deeds : PySem.W.keepIn K (.ref C_Deeds) = true)
    (n_Deeds_rows : PySem.W.findIn K (.ref C_Deeds) "rows" = some none)
    (z_isinstance : PySem.W.nsIn K mainGlobals "isinstance" = some none)
    (z_bool : PySem.W.nsIn K mainGlobals "bool" = some none)
    (z_str : PySem.W.nsIn K mainGlobals "str" = some none)
    (z_list : PySem.W.nsIn K mainGlobals "list" = some none)
    (z_tuple : PySem.W.nsIn K mainGlobals "tuple" = some none)
    (z_int : PySem.W.nsIn K mainGlobals "int" = some none)
    (z_len : PySem.W.nsIn K mainGlobals "len" = some none)
    (z_min : PySem.W.nsIn K mainGlobals "min" = some none)
    (z_range : PySem.W.nsIn K mainGlobals "range" = some none)
    (z_max : PySem.W.nsIn K mainGlobals "max" = some none)
    (z_sorted : PySem.W.nsIn K mainGlobals "sorted" = some none)
    (z_enumerate : PySem.W.nsIn K mainGlobals "enumerate" = some none)
    (z_zip : PySem.W.nsIn K mainGlobals "zip" = some none)
    (z_all : PySem.W.nsIn K mainGlobals "all" = some none)
    (z_sum : PySem.W.nsIn K mainGlobals "sum" = some none)
    {c1 c2 T1 T2 : Addr} {ty1 ty2 : Value} {di1 di2 : Option Addr} {vs1 vs2 : Array Value} {sv1 sv2 : Array (Option Value)}
    (cd1 : cd_Deeds_row = .ref c1) (cd2 : cd_law_row = .ref c2) (x1 : K.lookup c1 = some ⟨ty1, di1, .fields vs1, sv1⟩) (x2 : K.lookup c2 = some ⟨ty2, di2, .fields vs2, sv2⟩) (y1 : (vs1[11]? : Option Value) = some (.ref T1)) (y2 : (vs2[11]? : Option Value) = some (.ref T2))
    (hd1 : PySem.W.codeHdIn K c1 T1 = true) (hd2 : PySem.W.codeHdIn K c2 T2 = true) (n1 : K.lookup T1 = none) (n2 : K.lookup T2 = none) (g1 : h.get? T1 = some { cls := .none, data := .fields #[] }) (g2 : h.get? T2 = some { cls := .none, data := .fields #[] }) (h12 : T1 ≠ T2) :
    LamX.LawAtS l w K CX0 8 63 "script" mg fa h := by
  have e := hfa.symm.trans (PySem.W.mg_of X G a_law)
  cases e
  have F_law_mix := fun_mk (st := s_law_mix) l_law_mix c_law_mix k_law_mix
  have b_law_mix := F_law_mix.binds (ps := P_law_mix) fun _ _ _ _ _ _ us hl => match us, hl with | [_, _], _ => rfl
  have m_law_mix := PySem.W.mg_of X G a_law_mix
  have F_law_draws := fun_mk (st := s_law_draws) l_law_draws c_law_draws k_law_draws
  have b_law_draws := F_law_draws.binds (ps := P_law_draws) fun _ _ _ _ _ _ us hl => match us, hl with | [_], _ => rfl
  have m_law_draws := PySem.W.mg_of X G a_law_draws
  have F_law_at := fun_mk (st := s_law_at) l_law_at c_law_at k_law_at
  have b_law_at := F_law_at.binds (ps := P_law_at) fun _ _ _ _ _ _ us hl => match us, hl with | [_, _], _ => rfl
  have m_law_at := PySem.W.mg_of X G a_law_at
  have F_law_is_integer := fun_mk (st := s_law_is_integer) l_law_is_integer c_law_is_integer k_law_is_integer
  have b_law_is_integer := F_law_is_integer.binds (ps := P_law_is_integer) fun _ _ _ _ _ _ us hl => match us, hl with | [_], _ => rfl
  have m_law_is_integer := PySem.W.mg_of X G a_law_is_integer
  have F_law_same := fun_mk (st := s_law_same) l_law_same c_law_same k_law_same
  have b_law_same := F_law_same.binds (ps := P_law_same) fun _ _ _ _ _ _ us hl => match us, hl with | [_, _], _ => rfl
  have m_law_same := PySem.W.mg_of X G a_law_same
  have F_law_inserted := fun_mk (st := s_law_inserted) l_law_inserted c_law_inserted k_law_inserted
  have b_law_inserted := F_law_inserted.binds (ps := P_law_inserted) fun _ _ _ _ _ _ us hl => match us, hl with | [_, _], _ => rfl
  have m_law_inserted := PySem.W.mg_of X G a_law_inserted
  have F_law_forces := fun_mk (st := s_law_forces) l_law_forces c_law_forces k_law_forces
  have b_law_forces := F_law_forces.binds (ps := P_law_forces) fun _ _ _ _ _ _ us hl => match us, hl with | [_], _ => rfl
  have m_law_forces := PySem.W.mg_of X G a_law_forces
  have F_law_changes := fun_mk (st := s_law_changes) l_law_changes c_law_changes k_law_changes
  have b_law_changes := F_law_changes.binds (ps := P_law_changes) fun _ _ _ _ _ _ us hl => match us, hl with | [_, _], _ => rfl
  have m_law_changes := PySem.W.mg_of X G a_law_changes
  have F_law_row := fun_mk (st := s_law_row) l_law_row c_law_row k_law_row
  have b_law_row := F_law_row.binds (ps := P_law_row) fun _ _ _ _ _ _ us hl => match us, hl with | [_, _], _ => rfl
  have m_law_row := PySem.W.mg_of X G a_law_row
  have F_law_last := fun_mk (st := s_law_last) l_law_last c_law_last k_law_last
  have b_law_last := F_law_last.binds (ps := P_law_last) fun _ _ _ _ _ _ us hl => match us, hl with | [_], _ => rfl
  have m_law_last := PySem.W.mg_of X G a_law_last
  have F_law_modules := fun_mk (st := s_law_modules) l_law_modules c_law_modules k_law_modules
  have b_law_modules := F_law_modules.binds (ps := P_law_modules) fun _ _ _ _ _ _ us hl => match us, hl with | [], _ => rfl
  have m_law_modules := PySem.W.mg_of X G a_law_modules
  have F_law_letters := fun_mk (st := s_law_letters) l_law_letters c_law_letters k_law_letters
  have b_law_letters := F_law_letters.binds (ps := P_law_letters) fun _ _ _ _ _ _ us hl => match us, hl with | [_, _], _ => rfl
  have m_law_letters := PySem.W.mg_of X G a_law_letters
  have F_law_deed := fun_mk (st := s_law_deed) l_law_deed c_law_deed k_law_deed
  have b_law_deed := F_law_deed.binds (ps := P_law_deed) fun _ _ _ _ _ _ us hl => match us, hl with | [_, _, _, _], _ => rfl
  have m_law_deed := PySem.W.mg_of X G a_law_deed
  have F_law_visible := fun_mk (st := s_law_visible) l_law_visible c_law_visible k_law_visible
  have b_law_visible := F_law_visible.binds (ps := P_law_visible) fun _ _ _ _ _ _ us hl => match us, hl with | [_, _], _ => rfl
  have m_law_visible := PySem.W.mg_of X G a_law_visible
  have F_law_triples := fun_mk (st := s_law_triples) l_law_triples c_law_triples k_law_triples
  have b_law_triples := F_law_triples.binds (ps := P_law_triples) fun _ _ _ _ _ _ us hl => match us, hl with | [_, _, _, _], _ => rfl
  have m_law_triples := PySem.W.mg_of X G a_law_triples
  have F_law_rows_of := fun_mk (st := s_law_rows_of) l_law_rows_of c_law_rows_of k_law_rows_of
  have b_law_rows_of := F_law_rows_of.binds (ps := P_law_rows_of) fun _ _ _ _ _ _ us hl => match us, hl with | [_], _ => rfl
  have m_law_rows_of := PySem.W.mg_of X G a_law_rows_of
  have F_law_deeds := fun_mk (st := s_law_deeds) l_law_deeds c_law_deeds k_law_deeds
  have b_law_deeds := F_law_deeds.binds (ps := P_law_deeds) fun _ _ _ _ _ _ us hl => match us, hl with | [_], _ => rfl
  have m_law_deeds := PySem.W.mg_of X G a_law_deeds
  have F_law_pick := fun_mk (st := s_law_pick) l_law_pick c_law_pick k_law_pick
  have b_law_pick := F_law_pick.binds (ps := P_law_pick) fun _ _ _ _ _ _ us hl => match us, hl with | [_, _], _ => rfl
  have m_law_pick := PySem.W.mg_of X G a_law_pick
  have F_law_fits := fun_mk (st := s_law_fits) l_law_fits c_law_fits k_law_fits
  have b_law_fits := F_law_fits.binds (ps := P_law_fits) fun _ _ _ _ _ _ us hl => match us, hl with | [_, _, _], _ => rfl
  have m_law_fits := PySem.W.mg_of X G a_law_fits
  have F_law_turned := fun_mk (st := s_law_turned) l_law_turned c_law_turned k_law_turned
  have b_law_turned := F_law_turned.binds (ps := P_law_turned) fun _ _ _ _ _ _ us hl => match us, hl with | [_, _, _, _, _], _ => rfl
  have m_law_turned := PySem.W.mg_of X G a_law_turned
  have F_law := fun_mk (st := s_law) l_law c_law k_law
  have b_law := F_law.binds (ps := P_law) fun _ _ _ _ _ _ us hl => match us, hl with | [_], _ => rfl
  have m_law := PySem.W.mg_of X G a_law
  have F_inserted := fun_mk (st := s_inserted) l_inserted c_inserted k_inserted
  have b_inserted := F_inserted.binds (ps := P_inserted) fun _ _ _ _ _ _ us hl => match us, hl with | [_, _], _ => rfl
  have m_inserted := PySem.W.mg_of X G a_inserted
  have F_after := fun_mk (st := s_after) l_after c_after k_after
  have b_after := F_after.binds (ps := P_after) fun _ _ _ _ _ _ us hl => match us, hl with | [_], _ => rfl
  have m_after := PySem.W.mg_of X G a_after
  have F_Deeds_init := fun_mk (st := s_Deeds_init) l_Deeds_init c_Deeds_init k_Deeds_init
  have b_Deeds_init := F_Deeds_init.binds (ps := P_Deeds_init) fun _ _ _ _ _ _ us hl => match us, hl with | [_], _ => rfl
  have F_Deeds_add := fun_mk (st := s_Deeds_add) l_Deeds_add c_Deeds_add k_Deeds_add
  have b_Deeds_add := F_Deeds_add.binds (ps := P_Deeds_add) fun _ _ _ _ _ _ us hl => match us, hl with | [_, _, _], _ => rfl
  have F_Deeds_forces := fun_mk (st := s_Deeds_forces) l_Deeds_forces c_Deeds_forces k_Deeds_forces
  have b_Deeds_forces := F_Deeds_forces.binds (ps := P_Deeds_forces) fun _ _ _ _ _ _ us hl => match us, hl with | [_, _], _ => rfl
  have F_Deeds_changes := fun_mk (st := s_Deeds_changes) l_Deeds_changes c_Deeds_changes k_Deeds_changes
  have b_Deeds_changes := F_Deeds_changes.binds (ps := P_Deeds_changes) fun _ _ _ _ _ _ us hl => match us, hl with | [_, _], _ => rfl
  have F_Deeds_row := fun_mk (st := s_Deeds_row) l_Deeds_row c_Deeds_row k_Deeds_row
  have b_Deeds_row := F_Deeds_row.binds (ps := P_Deeds_row) fun _ _ _ _ _ _ us hl => match us, hl with | [_, _], _ => rfl
  have F_Deeds_fits := fun_mk (st := s_Deeds_fits) l_Deeds_fits c_Deeds_fits k_Deeds_fits
  have b_Deeds_fits := F_Deeds_fits.binds (ps := P_Deeds_fits) fun _ _ _ _ _ _ us hl => match us, hl with | [_, _, _], _ => rfl
  have T_c_Deeds : Cls K C_Deeds := ⟨pg_Deeds, hd_Deeds, po_Deeds, sa_Deeds⟩
  have T : TxD K mg C_Deeds := ⟨⟨PySem.W.mg_none_of X G z_isinstance, PySem.W.mg_none_of X G z_bool, PySem.W.mg_none_of X G z_str, PySem.W.mg_none_of X G z_list, PySem.W.mg_none_of X G z_tuple, PySem.W.mg_none_of X G z_int, PySem.W.mg_none_of X G z_len, PySem.W.mg_none_of X G z_min, PySem.W.mg_none_of X G z_range, PySem.W.mg_none_of X G z_max, PySem.W.mg_none_of X G z_sorted, PySem.W.mg_none_of X G z_enumerate, PySem.W.mg_none_of X G z_zip, PySem.W.mg_none_of X G z_all, PySem.W.mg_none_of X G z_sum⟩, T_c_Deeds, n_Deeds_rows, ⟨_, PySem.W.mg_of X G aR⟩, ⟨_, PySem.W.mg_of X G aL⟩⟩
  have two : ∀ {Pp : Addr × Addr → Prop}, Pp (c1, T1) → Pp (c2, T2) → ∀ p ∈ [(c1, T1), (c2, T2)], Pp p := fun {Pp} a b p hp => by
    rcases List.mem_cons.mp hp with z | z
    · rw [z]; exact a
    · rw [List.mem_singleton.mp z]; exact b
  refine ⟨PySem.W.fnOf "law" "law" (defArgs s_law) (defBody s_law) (defScope s_law) .none kV_law dc_law pm_law an_law cd_law ct_law, [(c1, T1), (c2, T2)], lift (sp_law K T1 T2), two g1 g2, two n1 n2, two (PySem.W.codeHd_of_K X hd1) (PySem.W.codeHd_of_K X hd2), fun s v => .of_eq rfl, fun H a ns hl _ hH hS => lift_lawT (hH (c1, T1) List.mem_cons_self) (hH (c2, T2) (List.mem_cons_of_mem _ List.mem_cons_self)) h12 hS fun L sc t1 t2 => ⟨a, ns, rfl, sc, hl, t1, t2, fun _ => rfl⟩, fun base _ _ TB => ?_⟩
  have TB1 := TB (c1, T1) List.mem_cons_self
  have TB2 := TB (c2, T2) (List.mem_cons_of_mem _ List.mem_cons_self)
  have mC := PySem.W.mg_of X G aC_Deeds
  have G1 : FnM l.prog w K mg base 1 "_law_mix" P_law_mix sp_mix := ⟨_, _, m_law_mix, F_law_mix.kp, b_law_mix, ok_mix F_law_mix T.toTxt⟩
  have G2 : FnM l.prog w K mg base 2 "_law_draws" P_law_draws (sp_draws K) := ⟨_, _, m_law_draws, F_law_draws.kp, b_law_draws, ok_draws F_law_draws T.toTxt G1⟩
  have G3 : FnM l.prog w K mg base 2 "_law_at" P_law_at sp_at := ⟨_, _, m_law_at, F_law_at.kp, b_law_at, ok_at F_law_at T.toTxt G1⟩
  have G4 : FnM l.prog w K mg base 1 "_law_is_integer" P_law_is_integer sp_isint := ⟨_, _, m_law_is_integer, F_law_is_integer.kp, b_law_is_integer, ok_isint F_law_is_integer T.toTxt⟩
  have G5 : ∀ n, FnM l.prog w K mg base (n + 2) "_law_same" P_law_same (sp_same n) := fun n => ⟨_, _, m_law_same, F_law_same.kp, b_law_same, ok_same n F_law_same T.toTxt m_law_same b_law_same G4⟩
  have I1 : FnM l.prog w K mg base 1 "inserted" P_inserted sp_ins := ⟨_, _, m_inserted, F_inserted.kp, b_inserted, ok_ins F_inserted T⟩
  have I2 : FnM l.prog w K mg base 1 "_law_inserted" P_law_inserted sp_ins := ⟨_, _, m_law_inserted, F_law_inserted.kp, b_law_inserted, ok_lins F_law_inserted T⟩
  have D2 : MtM l.prog w K mg base 1 C_Deeds "add" P_Deeds_add (sp_add C_Deeds) := ⟨_, _, ⟨a_Deeds_add, i_Deeds_add, k_Deeds_add⟩, b_Deeds_add, ok_add F_Deeds_add T⟩
  have D3 : MtM l.prog w K mg base 1 C_Deeds "forces" P_Deeds_forces (sp_forces C_Deeds) := ⟨_, _, ⟨a_Deeds_forces, i_Deeds_forces, k_Deeds_forces⟩, b_Deeds_forces, ok_forces F_Deeds_forces T⟩
  have D5 : MtM l.prog w K mg base 2 C_Deeds "changes" P_Deeds_changes (sp_changes C_Deeds) := ⟨_, _, ⟨a_Deeds_changes, i_Deeds_changes, k_Deeds_changes⟩, b_Deeds_changes, ok_changes F_Deeds_changes T D3⟩
  have oI := ok_init (P := l.prog) (w := w) (base := base) (mg := mg) F_Deeds_init T
  have L1 : FnM l.prog w K mg base 1 "_law_forces" P_law_forces sp_lforces := ⟨_, _, m_law_forces, F_law_forces.kp, b_law_forces, ok_lforces F_law_forces T⟩
  have L2 : FnM l.prog w K mg base 2 "_law_changes" P_law_changes sp_lchanges := ⟨_, _, m_law_changes, F_law_changes.kp, b_law_changes, ok_lchanges F_law_changes T L1⟩
  have L3 : FnM l.prog w K mg base 3 "_law_row" P_law_row (sp_lrow T2 "_law_row.<locals>.<lambda>") := ⟨_, _, m_law_row, F_law_row.kp, b_law_row, ok_lrow F_law_row T TB2 cd2 L2 I2⟩
  have L4 : FnM l.prog w K mg base 1 "_law_last" P_law_last sp_last := ⟨_, _, m_law_last, F_law_last.kp, b_law_last, ok_last F_law_last T⟩
  have L5 : FnM l.prog w K mg base 1 "_law_modules" P_law_modules sp_modules := ⟨_, _, m_law_modules, F_law_modules.kp, b_law_modules, ok_lmodules F_law_modules T⟩
  have L6 : FnM l.prog w K mg base 3 "_law_letters" P_law_letters sp_letters := ⟨_, _, m_law_letters, F_law_letters.kp, b_law_letters, ok_letters F_law_letters T G3⟩
  have L7 : FnM l.prog w K mg base 4 "_law_deed" P_law_deed (sp_deed T2 "_law_row.<locals>.<lambda>") := ⟨_, _, m_law_deed, F_law_deed.kp, b_law_deed, ok_deed F_law_deed T G3 L5 L3 L4 L6⟩
  have L8 : FnM l.prog w K mg base 1 "_law_visible" P_law_visible sp_visible := ⟨_, _, m_law_visible, F_law_visible.kp, b_law_visible, ok_visible F_law_visible T⟩
  have L9 : FnM l.prog w K mg base 5 "_law_triples" P_law_triples (sp_triples T2 "_law_row.<locals>.<lambda>") := ⟨_, _, m_law_triples, F_law_triples.kp, b_law_triples, ok_triples F_law_triples T G3 L7 L8⟩
  have LA : FnM l.prog w K mg base 1 "_law_rows_of" P_law_rows_of sp_rowsof := ⟨_, _, m_law_rows_of, F_law_rows_of.kp, b_law_rows_of, ok_rowsof F_law_rows_of T⟩
  have LB : FnM l.prog w K mg base 3 "_law_deeds" P_law_deeds (sp_deeds C_Deeds) := ⟨_, _, m_law_deeds, F_law_deeds.kp, b_law_deeds, ok_deeds F_law_deeds T mC ⟨mk_Deeds, a_Deeds_init, i_Deeds_init, kc_Deeds⟩ oI b_Deeds_init D2⟩
  have A1 : FnM l.prog w K mg base 1 "after" P_after sp_after := ⟨_, _, m_after, F_after.kp, b_after, ok_after F_after T⟩
  have D8 : MtM l.prog w K mg base 3 C_Deeds "fits" P_Deeds_fits (sp_fits C_Deeds) := ⟨_, _, ⟨a_Deeds_fits, i_Deeds_fits, k_Deeds_fits⟩, b_Deeds_fits, ok_fits F_Deeds_fits T A1 D5 I1⟩
  have LD : FnM l.prog w K mg base 3 "_law_fits" P_law_fits sp_lfits := ⟨_, _, m_law_fits, F_law_fits.kp, b_law_fits, ok_lfits F_law_fits T L2 I2⟩
  have LE : FnM l.prog w K mg base 1 "_law_pick" P_law_pick sp_pick := ⟨_, _, m_law_pick, F_law_pick.kp, b_law_pick, ok_pick F_law_pick T⟩
  have LF : FnM l.prog w K mg base 4 "_law_turned" P_law_turned (sp_turned T2 "_law_row.<locals>.<lambda>") := ⟨_, _, m_law_turned, F_law_turned.kp, b_law_turned, ok_turned F_law_turned T G3 L5 L3 LE⟩
  exact ok_law F_law T G2 G3 (G5 5) L9 LA LB L7 LF D8 LD D2
end K05
open PySem PySem.W PyProof.Rows in
set_option maxRecDepth 100000 in
set_option maxHeartbeats 0 in
theorem PySem.Challenge.cw_cardwhole_k05_deeds_that_fit_holds : PySem.Challenge.rw_cardwhole_k05_deeds_that_fit.Holds := by
  w_on; o_law; k_head; (case hw => w_witness2)
  k_fill
  refine LamX.walk_ofTs (l := PySem.Challenge.rw_cardwhole_k05_deeds_that_fit) (n := 63) (k := 8) (x := "script") (CX := fun _ => L2.CX0) rfl (by decide) rfl ⟨rfl, by decide, by decide⟩ (fun w h Y => PySem.W.km_in_of Y) ?F fun _ _ _ _ _ z => z
  case F =>
    intro w mg fa h Y KX G hmg
    have hT8 := PySem.W.km_tabs_of Y
    refine' K05.all_mk KX G hmg ?aR ?aL ?aC_Deeds ?a_law_mix ?l_law_mix ?c_law_mix ?k_law_mix ?a_law_draws ?l_law_draws ?c_law_draws ?k_law_draws ?a_law_at ?l_law_at ?c_law_at ?k_law_at ?a_law_is_integer ?l_law_is_integer ?c_law_is_integer ?k_law_is_integer ?a_law_same ?l_law_same ?c_law_same ?k_law_same ?a_law_inserted ?l_law_inserted ?c_law_inserted ?k_law_inserted ?a_law_forces ?l_law_forces ?c_law_forces ?k_law_forces ?a_law_changes ?l_law_changes ?c_law_changes ?k_law_changes ?a_law_row ?l_law_row ?c_law_row ?k_law_row ?a_law_last ?l_law_last ?c_law_last ?k_law_last ?a_law_modules ?l_law_modules ?c_law_modules ?k_law_modules ?a_law_letters ?l_law_letters ?c_law_letters ?k_law_letters ?a_law_deed ?l_law_deed ?c_law_deed ?k_law_deed ?a_law_visible ?l_law_visible ?c_law_visible ?k_law_visible ?a_law_triples ?l_law_triples ?c_law_triples ?k_law_triples ?a_law_rows_of ?l_law_rows_of ?c_law_rows_of ?k_law_rows_of ?a_law_deeds ?l_law_deeds ?c_law_deeds ?k_law_deeds ?a_law_pick ?l_law_pick ?c_law_pick ?k_law_pick ?a_law_fits ?l_law_fits ?c_law_fits ?k_law_fits ?a_law_turned ?l_law_turned ?c_law_turned ?k_law_turned ?a_law ?l_law ?c_law ?k_law ?a_inserted ?l_inserted ?c_inserted ?k_inserted ?a_after ?l_after ?c_after ?k_after ?a_Deeds_init ?i_Deeds_init ?l_Deeds_init ?c_Deeds_init ?k_Deeds_init ?a_Deeds_add ?i_Deeds_add ?l_Deeds_add ?c_Deeds_add ?k_Deeds_add ?a_Deeds_forces ?i_Deeds_forces ?l_Deeds_forces ?c_Deeds_forces ?k_Deeds_forces ?a_Deeds_changes ?i_Deeds_changes ?l_Deeds_changes ?c_Deeds_changes ?k_Deeds_changes ?a_Deeds_row ?i_Deeds_row ?l_Deeds_row ?c_Deeds_row ?k_Deeds_row ?a_Deeds_fits ?i_Deeds_fits ?l_Deeds_fits ?c_Deeds_fits ?k_Deeds_fits ?pg_Deeds ?hd_Deeds ?po_Deeds ?sa_Deeds ?mk_Deeds ?kc_Deeds ?n_Deeds_rows ?z_isinstance ?z_bool ?z_str ?z_list ?z_tuple ?z_int ?z_len ?z_min ?z_range ?z_max ?z_sorted ?z_enumerate ?z_zip ?z_all ?z_sum ?cd1 ?cd2 ?x1 ?x2 ?y1 ?y2 ?hd1 ?hd2 ?n1 ?n2 ?g1 ?g2 ?h12
    (case aR => k_is)
    (case aL => k_is)
    (case aC_Deeds => k_is)
    (case a_law_mix => k_is)
    (case l_law_mix => k_is)
    (case c_law_mix => k_is)
    (case k_law_mix => k_is)
    (case a_law_draws => k_is)
    (case l_law_draws => k_is)
    (case c_law_draws => k_is)
    (case k_law_draws => k_is)
    (case a_law_at => k_is)
    (case l_law_at => k_is)
    (case c_law_at => k_is)
    (case k_law_at => k_is)
    (case a_law_is_integer => k_is)
    (case l_law_is_integer => k_is)
    (case c_law_is_integer => k_is)
    (case k_law_is_integer => k_is)
    (case a_law_same => k_is)
    (case l_law_same => k_is)
    (case c_law_same => k_is)
    (case k_law_same => k_is)
    (case a_law_inserted => k_is)
    (case l_law_inserted => k_is)
    (case c_law_inserted => k_is)
    (case k_law_inserted => k_is)
    (case a_law_forces => k_is)
    (case l_law_forces => k_is)
    (case c_law_forces => k_is)
    (case k_law_forces => k_is)
    (case a_law_changes => k_is)
    (case l_law_changes => k_is)
    (case c_law_changes => k_is)
    (case k_law_changes => k_is)
    (case a_law_row => k_is)
    (case l_law_row => k_is)
    (case c_law_row => k_is)
    (case k_law_row => k_is)
    (case a_law_last => k_is)
    (case l_law_last => k_is)
    (case c_law_last => k_is)
    (case k_law_last => k_is)
    (case a_law_modules => k_is)
    (case l_law_modules => k_is)
    (case c_law_modules => k_is)
    (case k_law_modules => k_is)
    (case a_law_letters => k_is)
    (case l_law_letters => k_is)
    (case c_law_letters => k_is)
    (case k_law_letters => k_is)
    (case a_law_deed => k_is)
    (case l_law_deed => k_is)
    (case c_law_deed => k_is)
    (case k_law_deed => k_is)
    (case a_law_visible => k_is)
    (case l_law_visible => k_is)
    (case c_law_visible => k_is)
    (case k_law_visible => k_is)
    (case a_law_triples => k_is)
    (case l_law_triples => k_is)
    (case c_law_triples => k_is)
    (case k_law_triples => k_is)
    (case a_law_rows_of => k_is)
    (case l_law_rows_of => k_is)
    (case c_law_rows_of => k_is)
    (case k_law_rows_of => k_is)
    (case a_law_deeds => k_is)
    (case l_law_deeds => k_is)
    (case c_law_deeds => k_is)
    (case k_law_deeds => k_is)
    (case a_law_pick => k_is)
    (case l_law_pick => k_is)
    (case c_law_pick => k_is)
    (case k_law_pick => k_is)
    (case a_law_fits => k_is)
    (case l_law_fits => k_is)
    (case c_law_fits => k_is)
    (case k_law_fits => k_is)
    (case a_law_turned => k_is)
    (case l_law_turned => k_is)
    (case c_law_turned => k_is)
    (case k_law_turned => k_is)
    (case a_law => k_is)
    (case l_law => k_is)
    (case c_law => k_is)
    (case k_law => k_is)
    (case a_inserted => k_is)
    (case l_inserted => k_is)
    (case c_inserted => k_is)
    (case k_inserted => k_is)
    (case a_after => k_is)
    (case l_after => k_is)
    (case c_after => k_is)
    (case k_after => k_is)
    (case a_Deeds_init => k_is)
    (case i_Deeds_init => k_is)
    (case l_Deeds_init => k_is)
    (case c_Deeds_init => k_is)
    (case k_Deeds_init => k_is)
    (case a_Deeds_add => k_is)
    (case i_Deeds_add => k_is)
    (case l_Deeds_add => k_is)
    (case c_Deeds_add => k_is)
    (case k_Deeds_add => k_is)
    (case a_Deeds_forces => k_is)
    (case i_Deeds_forces => k_is)
    (case l_Deeds_forces => k_is)
    (case c_Deeds_forces => k_is)
    (case k_Deeds_forces => k_is)
    (case a_Deeds_changes => k_is)
    (case i_Deeds_changes => k_is)
    (case l_Deeds_changes => k_is)
    (case c_Deeds_changes => k_is)
    (case k_Deeds_changes => k_is)
    (case a_Deeds_row => k_is)
    (case i_Deeds_row => k_is)
    (case l_Deeds_row => k_is)
    (case c_Deeds_row => k_is)
    (case k_Deeds_row => k_is)
    (case a_Deeds_fits => k_is)
    (case i_Deeds_fits => k_is)
    (case l_Deeds_fits => k_is)
    (case c_Deeds_fits => k_is)
    (case k_Deeds_fits => k_is)
    (case pg_Deeds => k_is)
    (case hd_Deeds => k_is)
    (case po_Deeds => k_is)
    (case sa_Deeds => k_is)
    (case mk_Deeds => k_is)
    (case kc_Deeds => k_is)
    (case n_Deeds_rows => k_is)
    (case z_isinstance => k_is)
    (case z_bool => k_is)
    (case z_str => k_is)
    (case z_list => k_is)
    (case z_tuple => k_is)
    (case z_int => k_is)
    (case z_len => k_is)
    (case z_min => k_is)
    (case z_range => k_is)
    (case z_max => k_is)
    (case z_sorted => k_is)
    (case z_enumerate => k_is)
    (case z_zip => k_is)
    (case z_all => k_is)
    (case z_sum => k_is)
    (case cd1 => rfl)
    (case cd2 => rfl)
    (case x1 => k_is)
    (case x2 => k_is)
    (case y1 => rfl)
    (case y2 => rfl)
    (case hd1 => kernel_rfl)
    (case hd2 => kernel_rfl)
    (case n1 => kernel_rfl)
    (case n2 => kernel_rfl)
    (case g1 => exact hT8 _ (by decide))
    (case g2 => exact hT8 _ (by decide))
    (case h12 => decide)
#print axioms PySem.Challenge.cw_cardwhole_k05_deeds_that_fit_holds

